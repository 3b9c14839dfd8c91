import PyProof.Rows.All
import Wide.All
import OpenK.AllK
import Wide.FinOn
import HandS.Base
import HandS.Call
import HandS.List
import HandS.Comp
import HandS.Ends
import HandS.Dict
import HandS.Iter
import HandS.Text
import HandS.Words
import HandS.Exc
import HandS.TryOnly
import HandS.ExcOwn
import HandS.WordsExc
import HandS.Deep
import HandS.Style
import HandS.TupAny
import HandS.StrMore
import HandS.Flow
import HandS.Defaults
import HandS.CallLocal
import HandS.IsInst
import HandS.Property
import HandS.MakeKwOnly
import HandS.ExcInit
import HandS.HeadHook1
import HandS.HeadWalk
import HandS.More
import HandS.RaiseMore
import HandS.Walk
import HandS.Zip
import HandS.Small
import HandS.ExcField
import KE.KExcIs
import HandS.HeadHook2
import HandS.HeadEnd
import HandS.Codes
import HandS.HeadHook3
import KE.KStateDown
import HandS.Head0
import HandS.Head1
import HandS.Head2
import PySem.Challenge.RW_turnpike_k71_texts_that_are_no_trees
set_option Elab.async false
set_option linter.all false
set_option autoImplicit false
set_option maxRecDepth 100000
set_option maxHeartbeats 0
/-! Mp0: a small language (MP) for the rows' Python: values, cells, a heap, expressions, statements, and what they mean.
    Pure: no library. Names of fields, methods, functions, classes are numbers. -/
namespace MP

/-- a value: a tuple and a list that nobody changes are data; a thing that changes is a ref to a cell; arr: a list that is read alone; fn: a def -/
inductive Val where
  | non | bl (b : Bool) | int (i : Int) | str (s : List Nat) | tup (xs : List Val) | lst (xs : List Val) | arr (xs : List Val) | ref (r : Nat) | fn (k : Nat)
  deriving Inhabited

/-- an exception: its class, its fields -/
structure Exc where
  c : Nat
  f : List (Nat × Val)

/-- what stands in the heap: a list, a dict (locked while a loop walks it), an instance -/
inductive Cell where
  | lst (xs : List Val)
  | dic (kvs : List (Val × Val)) (locked : Bool)
  | ins (c : Nat) (fs : List (Nat × Val))

structure Heap where
  n : Nat
  c : Nat → Option Cell

namespace Heap
def push (h : Heap) (x : Cell) : Heap := ⟨h.n + 1, fun r => if r = h.n then some x else h.c r⟩
def set (h : Heap) (q : Nat) (x : Cell) : Heap := ⟨h.n, fun r => if r = q then some x else h.c r⟩
def empty : Heap := ⟨0, fun _ => none⟩
end Heap

/-- the end of an expression -/
inductive Out (α : Type) where
  | ok (a : α) (h : Heap)
  | exc (x : Exc) (h : Heap)
  | bad

namespace Out
variable {α β : Type}
def bind (o : Out α) (f : α → Heap → Out β) : Out β := match o with
  | ok a h => f a h
  | exc x h => exc x h
  | bad => bad
def ofOpt (o : Option α) (h : Heap) : Out α := match o with
  | some a => ok a h
  | none => bad
@[simp] theorem bind_ok (a : α) (h : Heap) (f : α → Heap → Out β) : bind (ok a h) f = f a h := rfl
@[simp] theorem bind_exc (x : Exc) (h : Heap) (f : α → Heap → Out β) : bind (exc x h) f = exc x h := rfl
@[simp] theorem bind_bad (f : α → Heap → Out β) : bind bad f = bad := rfl
@[simp] theorem ofOpt_some (a : α) (h : Heap) : ofOpt (some a) h = ok a h := rfl
@[simp] theorem ofOpt_none (h : Heap) : ofOpt (none : Option α) h = bad := rfl
end Out

/-- the names' values, by slots -/
abbrev Env := List (Option Val)

/-- the end of a statement -/
inductive SO where
  | nx (ρ : Env) (h : Heap)
  | rt (v : Val) (h : Heap)
  | bk (ρ : Env) (h : Heap)
  | ct (ρ : Env) (h : Heap)
  | exc (x : Exc) (ρ : Env) (h : Heap)
  | bad

namespace SO
def next (o : SO) (f : Env → Heap → SO) : SO := match o with
  | nx ρ h => f ρ h
  | o => o
@[simp] theorem next_nx (ρ : Env) (h : Heap) (f : Env → Heap → SO) : next (nx ρ h) f = f ρ h := rfl
@[simp] theorem next_rt (v : Val) (h : Heap) (f : Env → Heap → SO) : next (rt v h) f = rt v h := rfl
@[simp] theorem next_bk (ρ : Env) (h : Heap) (f : Env → Heap → SO) : next (bk ρ h) f = bk ρ h := rfl
@[simp] theorem next_ct (ρ : Env) (h : Heap) (f : Env → Heap → SO) : next (ct ρ h) f = ct ρ h := rfl
@[simp] theorem next_exc (x : Exc) (ρ : Env) (h : Heap) (f : Env → Heap → SO) : next (exc x ρ h) f = exc x ρ h := rfl
@[simp] theorem next_bad (f : Env → Heap → SO) : next bad f = bad := rfl
end SO

/-- behind an expression in a statement -/
def Out.stm {α : Type} (o : Out α) (ρ : Env) (f : α → Heap → SO) : SO := match o with
  | .ok a h => f a h
  | .exc x h => .exc x ρ h
  | .bad => .bad
@[simp] theorem Out.stm_ok {α : Type} (a : α) (h : Heap) (ρ : Env) (f : α → Heap → SO) : Out.stm (.ok a h) ρ f = f a h := rfl
@[simp] theorem Out.stm_exc {α : Type} (x : Exc) (h : Heap) (ρ : Env) (f : α → Heap → SO) : Out.stm (.exc x h) ρ f = .exc x ρ h := rfl
@[simp] theorem Out.stm_bad {α : Type} (ρ : Env) (f : α → Heap → SO) : Out.stm (.bad : Out α) ρ f = .bad := rfl

/-! ### the syntax -/
/-- operators and comparisons of two values -/
inductive Op where
  | add | sub | mul | fdiv | mod | pow | eq | ne | lt | le | gt | ge | is | isnot | isin | notin
  deriving DecidableEq
/-- built-in functions and types that are called -/
inductive Bf where
  | len | max | min | sum | all | any | int | str | list | tuple | sorted
  deriving DecidableEq
/-- built-in methods -/
inductive Bm where
  | append | extend | pop | get | join | removeprefix | startswith | find
  deriving DecidableEq
/-- what isinstance asks -/
inductive Ty where
  | int | bool | str | tuple | cls (c : Nat)
  deriving DecidableEq
/-- a target: a name's slot, or names -/
inductive Tg where
  | name (i : Nat)
  | tup (is : List Nat)
  deriving DecidableEq
/-- how an argument comes: the i-th of the evaluated ones, or a default -/
inductive Bd where
  | pos (i : Nat)
  | dfl (v : Val)

inductive E where
  | var (i : Nat)
  | cst (v : Val)
  | tup (es : List E)
  /-- a list display; new: as a cell -/
  | lst (new : Bool) (es : List E)
  | dic
  /-- a dict display: key, value, key, value .. -/
  | dicI (es : List E)
  /-- len(set(a)), a whole numbers -/
  | lenset (a : E)
  | op (o : Op) (a b : E)
  | chain (o o' : Op) (a b c : E)
  | neg (a : E)
  | not (a : E)
  | and (a b : E)
  | or (a b : E)
  | ite (c a b : E)
  | attr (a : E) (f : Nat)
  | sub (a i : E)
  /-- a[lo:hi]; a part that lacks: [] -/
  | slice (new : Bool) (a : E) (lo hi : List E)
  | call (k : Nat) (es : List E)
  | callK (k : Nat) (es : List E) (g : List Bd)
  | make (c : Nat) (es : List E)
  | makeK (c : Nat) (es : List E) (g : List Bd)
  /-- a call of a name that holds a def -/
  | callV (i : Nat) (es : List E)
  | meth (a : E) (m : Nat) (es : List E)
  | bm (a : E) (m : Bm) (es : List E)
  | bf (f : Bf) (new : Bool) (es : List E)
  | dict (a : E)
  | isi (a : E) (t : Ty)
  /-- [elt for tg in it if c]; vs: the slots of the comprehension's own names; w: what is walked, its kind, then its expressions -/
  | comp (new : Bool) (elt : E) (tg : Tg) (w : Nat) (it : List E) (ifs : List E) (vs : List Nat)
  /-- never reached -/
  | stop
  deriving Inhabited

/-- what is asked of a caught exception -/
inductive HX where
  | isE (c : Nat)
  | lineNe (i : Nat)
  | not (a : HX)
  | or (a b : HX)
/-- what an except clause returns -/
inductive HR where
  | val (v : Val)
  | line

inductive S where
  | asg (tg : Tg) (e : E)
  | setA (o : E) (f : Nat) (e : E)
  | setI (o i e : E)
  | augN (i : Nat) (o : Op) (e : E)
  | augA (a : E) (f : Nat) (o : Op) (e : E)
  | expr (e : E)
  | ret (e : E)
  | retN
  | ife (c : E) (a b : List S)
  | loop (tg : Tg) (w : Nat) (it : List E) (body : List S)
  | whl (c : E) (body : List S)
  | raise (c : Nat) (es : List E)
  | try_ (body : List S) (c : Nat) (suite : List S)
  /-- try .. except C as e: tests of e, each with what is returned; then what is returned -/
  | tryAs (body : List S) (c i : Nat) (ts : List (HX × HR)) (last : HR)
  | del (a i : E)
  | pass
  | brk
  | cont
  /-- never reached -/
  | stop

/-! ### data at any depth -/
inductive D where
  | non | bl (b : Bool) | int (i : Int) | str (s : List Nat) | lst (xs : List D) | tup (xs : List D)
  deriving Inhabited

mutual
def D.eqv : D → D → Bool
  | .non, .non => true
  | .bl a, .bl b => a == b
  | .bl a, .int j => (if a then 1 else 0) == j
  | .int i, .bl b => i == (if b then 1 else 0)
  | .int i, .int j => i == j
  | .str x, .str y => x == y
  | .lst xs, .lst ys => D.eqvs xs ys
  | .tup xs, .tup ys => D.eqvs xs ys
  | _, _ => false
def D.eqvs : List D → List D → Bool
  | [], [] => true
  | x :: xs, y :: ys => D.eqv x y && D.eqvs xs ys
  | _, _ => false
end

def mapO {α β : Type} (f : α → Option β) : List α → Option (List β)
  | [] => some []
  | a :: as => match f a, mapO f as with
    | some b, some bs => some (b :: bs)
    | _, _ => none

/-- a value as data, at most n - 1 deep -/
def toD (h : Heap) : Nat → Val → Option D
  | 0, _ => none
  | _ + 1, .non => some .non
  | _ + 1, .bl b => some (.bl b)
  | _ + 1, .int i => some (.int i)
  | _ + 1, .str s => if s.all (fun c => decide (c < 1114112)) then some (.str s) else none
  | n + 1, .tup xs => (mapO (toD h n) xs).map .tup
  | n + 1, .lst xs => (mapO (toD h n) xs).map .lst
  | n + 1, .ref r => match h.c r with
    | some (.lst xs) => (mapO (toD h n) xs).map .lst
    | _ => none
  | _ + 1, _ => none

/-! ### values -/
/-- the items of a sequence -/
def seqOf (h : Heap) : Val → Option (List Val)
  | .tup xs => some xs
  | .lst xs => some xs
  | .arr xs => some xs
  | .ref r => match h.c r with
    | some (.lst xs) => some xs
    | _ => none
  | _ => none
def truthy (h : Heap) : Val → Option Bool
  | .non => some false
  | .bl b => some b
  | .int i => some (i != 0)
  | .tup xs => some (!xs.isEmpty)
  | .lst xs => some (!xs.isEmpty)
  | .ref r => match h.c r with
    | some (.lst xs) => some (!xs.isEmpty)
    | _ => none
  | _ => none
/-- a place from the front or the end -/
def place (n : Nat) (i : Int) : Option Nat := if 0 ≤ i then (if i < n then some i.toNat else none) else if -(n : Int) ≤ i then some (i + n).toNat else none
def at_ {α : Type} (xs : List α) (i : Int) : Option α := (place xs.length i).bind fun j => xs[j]?
/-- a dict's key: an int or a text -/
def keyEq : Val → Val → Bool
  | .int i, .int j => i == j
  | .str x, .str y => x == y
  | _, _ => false
def isKey : Val → Bool
  | .int _ => true
  | .str _ => true
  | _ => false
def dGet (kvs : List (Val × Val)) (k : Val) : Option Val := match kvs with
  | [] => none
  | p :: r => if keyEq p.1 k then some p.2 else dGet r k
def dHas (kvs : List (Val × Val)) (k : Val) : Bool := kvs.any fun p => keyEq p.1 k
def dPut (kvs : List (Val × Val)) (k v : Val) : List (Val × Val) := if dHas kvs k = true then kvs.map (fun p => if keyEq p.1 k = true then (p.1, v) else p) else kvs ++ [(k, v)]
/-- a display's pairs: different keys -/
def pairsV : List Val → Option (List (Val × Val))
  | [] => some []
  | k :: v :: r => match pairsV r with
    | some kvs => if isKey k = true ∧ dHas kvs k = false then some ((k, v) :: kvs) else none
    | none => none
  | [_] => none
def dDrop (kvs : List (Val × Val)) (k : Val) : List (Val × Val) := kvs.filter fun p => !keyEq p.1 k

/-- the digits of a number, the first one ahead -/
def digits (n : Nat) : List Nat := (Nat.toDigits 10 n).map Char.toNat
def intText (i : Int) : List Nat := if i < 0 then 45 :: digits i.natAbs else digits i.natAbs
def digVal (s : List Nat) : Nat := s.foldl (fun a c => a * 10 + (c - 48)) 0
def allDig (s : List Nat) : Bool := !s.isEmpty && s.all fun c => decide (48 ≤ c) && decide (c ≤ 57)

/-- the size of a number that may be multiplied -/
def small64 (i : Int) : Prop := -(2 ^ 64) < i ∧ i < 2 ^ 64
instance (i : Int) : Decidable (small64 i) := inferInstanceAs (Decidable (_ ∧ _))
def bound30 : Nat := 1073741824
def line : Nat := 16777216

def eqVal (h : Heap) (a b : Val) : Option Bool := match toD h 64 a, toD h 64 b with
  | some x, some y => some (x.eqv y)
  | _, _ => none
/-- x in y -/
def inVal (h : Heap) (x y : Val) : Option Bool := match y with
  | .str s => match x with
    | .str [c] => some (s.contains c)
    | _ => none
  | .ref r => match h.c r with
    | some (.dic kvs _) => if isKey x then some (dGet kvs x).isSome else none
    | some (.lst ys) => match toD h 64 x, mapO (toD h 63) ys with
      | some d, some ds => some (ds.any fun z => z.eqv d)
      | _, _ => none
    | _ => none
  | .tup ys => match toD h 64 x, mapO (toD h 63) ys with
    | some d, some ds => some (ds.any fun z => z.eqv d)
    | _, _ => none
  | .lst ys => match toD h 64 x, mapO (toD h 63) ys with
    | some d, some ds => some (ds.any fun z => z.eqv d)
    | _, _ => none
  | _ => none
/-- x is y: of None, of two truth values -/
def isVal (x y : Val) : Option Bool := match y with
  | .non => match x with
    | .non => some true
    | _ => some false
  | .bl b => match x with
    | .bl a => some (a == b)
    | .non => some false
    | .int _ => some false
    | .str _ => some false
    | _ => none
  | _ => none

def opV (h : Heap) (o : Op) (x y : Val) : Option Val := match o with
  | .eq => (eqVal h x y).map .bl
  | .ne => (eqVal h x y).map fun b => .bl (!b)
  | .isin => (inVal h x y).map .bl
  | .notin => (inVal h x y).map fun b => .bl (!b)
  | .is => (isVal x y).map .bl
  | .isnot => (isVal x y).map fun b => .bl (!b)
  | .add => match x, y with
    | .int i, .int j => some (.int (i + j))
    | .str s, .str t => if s.length + t.length ≤ line then some (.str (s ++ t)) else none
    | .tup xs, .tup ys => if xs.length + ys.length ≤ line then some (.tup (xs ++ ys)) else none
    | .lst xs, .lst ys => if xs.length + ys.length ≤ line then some (.lst (xs ++ ys)) else none
    | .lst xs, .ref r => match h.c r with
      | some (.lst ys) => if xs.length + ys.length ≤ line then some (.lst (xs ++ ys)) else none
      | _ => none
    | .ref r, .lst ys => match h.c r with
      | some (.lst xs) => if xs.length + ys.length ≤ line then some (.lst (xs ++ ys)) else none
      | _ => none
    | _, _ => none
  | .sub => match x, y with
    | .int i, .int j => some (.int (i - j))
    | _, _ => none
  | .mul => match x, y with
    | .int i, .int j => if small64 i ∨ small64 j then some (.int (i * j)) else none
    | .str [c], .int j => if 0 ≤ j ∧ j ≤ 1000 then some (.str (List.replicate j.toNat c)) else none
    | _, _ => none
  | .fdiv => match x, y with
    | .int i, .int j => if j ≠ 0 ∧ j.natAbs < bound30 then some (.int (i.fdiv j)) else none
    | _, _ => none
  | .mod => match x, y with
    | .int i, .int j => if j ≠ 0 then some (.int (i.fmod j)) else none
    | _, _ => none
  | .pow => match x, y with
    | .int i, .int j => if 0 ≤ j ∧ j ≤ 1000000 ∧ i.natAbs < 2 ^ 64 then some (.int (i ^ j.toNat)) else none
    | _, _ => none
  | .lt => match x, y with
    | .int i, .int j => some (.bl (decide (i < j)))
    | _, _ => none
  | .le => match x, y with
    | .int i, .int j => some (.bl (decide (i ≤ j)))
    | _, _ => none
  | .gt => match x, y with
    | .int i, .int j => some (.bl (decide (j < i)))
    | _, _ => none
  | .ge => match x, y with
    | .int i, .int j => some (.bl (decide (j ≤ i)))
    | _, _ => none

/-- x op= y -/
def augV (o : Op) (x y : Val) : Option Val := match o with
  | .add => match x, y with
    | .int i, .int j => some (.int (i + j))
    | _, _ => none
  | .sub => match x, y with
    | .int i, .int j => some (.int (i - j))
    | _, _ => none
  | _ => none
/-- x[y] -/
def subV (h : Heap) (x y : Val) : Option Val := match x with
  | .str s => match y with
    | .int i => if s.length ≤ line then (at_ s i).map fun c => .str [c] else none
    | _ => none
  | .ref r => match h.c r with
    | some (.dic kvs _) => if isKey y then dGet kvs y else none
    | some (.lst xs) => match y with
      | .int i => at_ xs i
      | _ => none
    | _ => none
  | _ => match y with
    | .int i => (seqOf h x).bind fun xs => at_ xs i
    | _ => none

/-- a slice's ends -/
def clip (n d : Nat) : Option Int → Nat
  | none => d
  | some i => if i < 0 then (i + n).toNat else min i.toNat n
def cut {α : Type} (xs : List α) (lo hi : Option Int) : List α := (xs.drop (clip xs.length 0 lo)).take (clip xs.length xs.length hi - clip xs.length 0 lo)
def sliceV (h : Heap) (x : Val) (lo hi : Option Int) : Option Val := match x with
  | .str s => if s.length ≤ line then some (.str (cut s lo hi)) else none
  | .tup xs => some (.tup (cut xs lo hi))
  | _ => (seqOf h x).map fun xs => .lst (cut xs lo hi)

def intsV : List Val → Option (List Int)
  | [] => some []
  | .int i :: r => (intsV r).map (i :: ·)
  | _ :: _ => none
def boolsV : List Val → Option (List Bool)
  | [] => some []
  | .bl b :: r => (boolsV r).map (b :: ·)
  | _ :: _ => none
def textsV : List Val → Option (List (List Nat))
  | [] => some []
  | .str s :: r => (textsV r).map (s :: ·)
  | _ :: _ => none
def maxI : List Int → Option Int
  | [] => none
  | [i] => some i
  | i :: r => (maxI r).map fun m => max i m
def minI : List Int → Option Int
  | [] => none
  | [i] => some i
  | i :: r => (minI r).map fun m => min i m
def joinT (sep : List Nat) : List (List Nat) → List Nat
  | [] => []
  | [x] => x
  | x :: r => x ++ sep ++ joinT sep r
def sumLen : List (List Nat) → Nat
  | [] => 0
  | x :: r => x.length + sumLen r

/-- a built-in's call: a value; list(..), sorted(..): a list's items -/
def bfV (h : Heap) (f : Bf) (vs : List Val) : Option Val := match f, vs with
  | .len, [.str s] => if s.length ≤ line then some (.int s.length) else none
  | .len, [.ref r] => match h.c r with
    | some (.lst xs) => some (.int xs.length)
    | some (.dic kvs _) => some (.int kvs.length)
    | _ => none
  | .len, [v] => (seqOf h v).map fun xs => .int xs.length
  | .max, [.int i, .int j] => some (.int (if j > i then j else i))
  | .min, [.int i, .int j] => some (.int (if j < i then j else i))
  | .max, [.lst xs] => ((intsV xs).bind maxI).map .int
  | .min, [.lst xs] => ((intsV xs).bind minI).map .int
  | .sum, [.lst xs] => (intsV xs).map fun is => .int is.sum
  | .all, [.lst xs] => (boolsV xs).map fun bs => .bl (bs.all id)
  | .any, [.lst xs] => (boolsV xs).map fun bs => .bl (bs.any id)
  | .int, [.int i] => some (.int i)
  | .int, [.bl b] => some (.int (if b then 1 else 0))
  | .int, [.str s] => if allDig s ∧ s.length ≤ 640 then some (.int (digVal s)) else none
  | .str, [.int i] => if i.natAbs.log2 < 1920 then some (.str (intText i)) else none
  | .str, [.str s] => some (.str s)
  | .tuple, [.tup xs] => some (.tup xs)
  | .tuple, [v] => (seqOf h v).map .tup
  | .list, [v] => (seqOf h v).map .lst
  | _, _ => none

/-- what a built-in method is asked of: 0 a list, 1 a dict, 2 a text -/
def kindV (h : Heap) : Val → Option Nat
  | .str _ => some 2
  | .ref r => match h.c r with
    | some (.lst _) => some 0
    | some (.dic _ _) => some 1
    | _ => none
  | _ => none
def bmHas : Bm → Nat → Bool
  | .append, t => t == 0
  | .extend, t => t == 0
  | .pop, t => t == 0 || t == 1
  | .get, t => t == 1
  | _, t => t == 2
def bmK (h : Heap) (m : Bm) (x : Val) : Option Nat := match kindV h x with
  | some t => if bmHas m t then some t else none
  | none => none
/-- a built-in method -/
def bmV (h : Heap) (m : Bm) (x : Val) (vs : List Val) : Out Val := match m, x with
  | .append, .ref r => match h.c r, vs with
    | some (.lst xs), [y] => if xs.length < line then .ok .non (h.set r (.lst (xs ++ [y]))) else .bad
    | _, _ => .bad
  | .extend, .ref r => match h.c r, vs with
    | some (.lst xs), [.lst ys] => if xs.length + ys.length ≤ line then .ok .non (h.set r (.lst (xs ++ ys))) else .bad
    | some (.lst xs), [.ref q] => match h.c q with
      | some (.lst ys) => if xs.length + ys.length ≤ line then .ok .non (h.set r (.lst (xs ++ ys))) else .bad
      | _ => .bad
    | _, _ => .bad
  | .pop, .ref r => match h.c r, vs with
    | some (.lst xs), [] => match xs.getLast? with
      | some y => .ok y (h.set r (.lst xs.dropLast))
      | none => .bad
    | some (.lst xs), [.int i] => match place xs.length i with
      | some j => match xs[j]? with
        | some y => .ok y (h.set r (.lst (xs.eraseIdx j)))
        | none => .bad
      | none => .bad
    | some (.dic kvs false), [k] => if isKey k then match dGet kvs k with
        | some v => .ok v (h.set r (.dic (dDrop kvs k) false))
        | none => .bad
      else .bad
    | _, _ => .bad
  | .get, .ref r => match h.c r, vs with
    | some (.dic kvs _), [k] => if isKey k then .ok ((dGet kvs k).getD .non) h else .bad
    | some (.dic kvs _), [k, v] => if isKey k then .ok ((dGet kvs k).getD v) h else .bad
    | _, _ => .bad
  | .join, .str s => match vs with
    | [.lst xs] => match textsV xs with
      | some ts => if sumLen ts + s.length * ts.length ≤ line then .ok (.str (joinT s ts)) h else .bad
      | none => .bad
    | _ => .bad
  | .removeprefix, .str s => match vs with
    | [.str t] => if s.length ≤ line then .ok (.str (if t.isPrefixOf s then s.drop t.length else s)) h else .bad
    | _ => .bad
  | .startswith, .str s => match vs with
    | [.str t] => .ok (.bl (t.isPrefixOf s)) h
    | _ => .bad
  | .find, .str s => match vs with
    | [.str [c]] => .ok (.int (match s.findIdx? (· == c) with
      | some i => (i : Int)
      | none => -1)) h
    | _ => .bad
  | _, _ => .bad

/-! ### the tables -/
/-- a def: its parameters' number, its slots' number, its body -/
structure FD where
  np : Nat
  ns : Nat
  body : List S
structure Tb where
  fns : Nat → Option FD
  meth : Nat → Nat → Option Nat
  prop : Nat → Nat → Option Nat
  init : Nat → Option Nat
  /-- a class whose instances are cells; which fields its instances may have -/
  isC : Nat → Bool
  /-- a def that may be called as a value -/
  val : Nat → Bool
  fo : Nat → Nat → Bool
  /-- the exception class at the left is under the one at the right -/
  sub : Nat → Nat → Option Bool
  /-- exception classes: false: without an own __init__; true: it keeps its one argument as line -/
  exn : Nat → Option Bool
  /-- caught exceptions are looked at -/
  xi : Bool
  /-- what such a def lays is let go at its end -/
  fz : Nat → Bool
abbrev Fns := Nat → List Val → Heap → Out Val

def isiV (T : Tb) (h : Heap) (v : Val) : Ty → Option Bool
  | .int => match v with
    | .int _ => some true
    | .bl _ => some true
    | .fn _ => none
    | .ref _ => none
    | _ => some false
  | .bool => match v with
    | .bl _ => some true
    | .fn _ => none
    | .ref _ => none
    | _ => some false
  | .str => match v with
    | .str _ => some true
    | .fn _ => none
    | .ref _ => none
    | _ => some false
  | .tuple => match v with
    | .tup _ => some true
    | .fn _ => none
    | .ref _ => none
    | _ => some false
  | .cls _ => none

def lookF (fs : List (Nat × Val)) (f : Nat) : Option Val := match fs with
  | [] => none
  | p :: r => if f == p.1 then some p.2 else lookF r f
def putF (fs : List (Nat × Val)) (f : Nat) (v : Val) : List (Nat × Val) := match fs with
  | [] => [(f, v)]
  | p :: r => if p.1 == f then (p.1, v) :: r else p :: putF r f v

/-- o.f: a field, or a property -/
def attrV (T : Tb) (F : Fns) (v : Val) (f : Nat) (h : Heap) : Out Val := match v with
  | .ref r => match h.c r with
    | some (.ins c fs) => match lookF fs f with
      | some x => .ok x h
      | none => match T.prop c f with
        | some k => match F k [.ref r] h with
          | .ok x h' => .ok x h'
          | _ => .bad
        | none => .bad
    | _ => .bad
  | _ => .bad

def bindBd (vs : List Val) : List Bd → Option (List Val)
  | [] => some []
  | .pos i :: g => match vs[i]?, bindBd vs g with
    | some v, some r => some (v :: r)
    | _, _ => none
  | .dfl v :: g => (bindBd vs g).map (v :: ·)

/-- C(..) -/
def makeV (T : Tb) (F : Fns) (c : Nat) (vs : List Val) (h : Heap) : Out Val := match T.isC c, T.init c with
  | true, some k => (F k (.ref h.n :: vs) (h.push (.ins c []))).bind fun v h' => match v with
    | .non => .ok (.ref h.n) h'
    | _ => .bad
  | _, _ => .bad

/-- a new list: as a cell, or as data -/
def newL (new : Bool) (xs : List Val) (h : Heap) : Out Val := if xs.length ≤ line then (if new then .ok (.ref h.n) (h.push (.lst xs)) else .ok (.lst xs) h) else .bad

/-- stores -/
def setSlots (ρ : Env) : List Nat → List Val → Option Env
  | [], [] => some ρ
  | i :: is, v :: vs => if i < ρ.length then setSlots (ρ.set i (some v)) is vs else none
  | _, _ => none
def bindTg (ρ : Env) (tg : Tg) (v : Val) : Option Env := match tg with
  | .name i => setSlots ρ [i] [v]
  | .tup is => match v with
    | .tup vs => setSlots ρ is vs
    | _ => none
def wipeS (ρ : Env) : List Nat → Env
  | [] => ρ
  | i :: is => (wipeS ρ is).set i none

/-- 0, 1, .. -/
def upto (lo : Int) : Nat → List Val
  | 0 => []
  | n + 1 => .int lo :: upto (lo + 1) n
def rngOk (i : Int) : Prop := -(2 ^ 62) ≤ i ∧ i < 2 ^ 62
instance (i : Int) : Decidable (rngOk i) := inferInstanceAs (Decidable (_ ∧ _))
def enumFrom (i : Int) : List Val → List Val
  | [] => []
  | v :: r => .tup [.int i, v] :: enumFrom (i + 1) r
def zipV : List Val → List Val → List Val
  | a :: as, b :: bs => .tup [a, b] :: zipV as bs
  | _, _ => []
/-- what a walk gives, turn by turn; w: 0 a sequence, 1 a dict's keys (elsewhere), 2 range(b), 3 range(a, b), 4 enumerate, 5 zip -/
def walkV (h : Heap) (w : Nat) (vs : List Val) : Option (List Val) := match w, vs with
  | 0, [.str s] => some (s.map fun c => .str [c])
  | 0, [v] => seqOf h v
  | 2, [.int n] => if rngOk n then some (upto 0 n.toNat) else none
  | 3, [.int a, .int b] => if rngOk a ∧ rngOk b then some (upto a (b - a).toNat) else none
  | 4, [v] => (seqOf h v).map (enumFrom 0)
  | 5, [v, u] => match seqOf h v, seqOf h u with
    | some xs, some ys => some (zipV xs ys)
    | _, _ => none
  | _, _ => none
/-- the walked cells stand as they stood -/
def stays (h h' : Heap) : List Val → Prop
  | [] => True
  | .ref r :: t => h'.c r = h.c r ∧ stays h h' t
  | _ :: t => stays h h' t

/-! ### the meaning -/
noncomputable section
open Classical

/-- a comprehension's turns -/
def compL (G : Heap → Prop) (step : Val → Heap → Out (List Val)) : List Val → Heap → Out (List Val)
  | [], h => .ok [] h
  | v :: r, h => match step v h with
    | .ok ys h1 => if G h1 then match compL G step r h1 with
        | .ok zs h2 => .ok (ys ++ zs) h2
        | _ => .bad
      else .bad
    | _ => .bad

/-- a for's turns -/
def forL (G : Heap → Prop) (body : Val → Env → Heap → SO) : List Val → Env → Heap → SO
  | [], ρ, h => .nx ρ h
  | v :: r, ρ, h => match body v ρ h with
    | .nx ρ' h' => if G h' then forL G body r ρ' h' else .bad
    | .ct ρ' h' => if G h' then forL G body r ρ' h' else .bad
    | .bk ρ' h' => .nx ρ' h'
    | .rt v h' => .rt v h'
    | .exc x ρ' h' => .exc x ρ' h'
    | .bad => .bad

/-- one turn of a while -/
inductive WS where
  | again (ρ : Env) (h : Heap)
  | done (o : SO)
def wIter (step : Env → Heap → WS) : Nat → Env → Heap → Option SO
  | 0, _, _ => none
  | n + 1, ρ, h => match step ρ h with
    | .again ρ' h' => wIter step n ρ' h'
    | .done o => some o
def whileL (step : Env → Heap → WS) (ρ : Env) (h : Heap) : SO :=
  if q : ∃ (o : SO) (n : Nat), wIter step n ρ h = some o then q.choose else .bad

/-- the lock on a dict is taken off -/
def unlock (r : Nat) (kvs : List (Val × Val)) : SO → SO
  | .nx ρ h => if h.c r = some (.dic kvs true) then .nx ρ (h.set r (.dic kvs false)) else .bad
  | .rt v h => if h.c r = some (.dic kvs true) then .rt v (h.set r (.dic kvs false)) else .bad
  | _ => .bad
def unlockO {α : Type} (r : Nat) (kvs : List (Val × Val)) : Out α → Out α
  | .ok v h => if h.c r = some (.dic kvs true) then .ok v (h.set r (.dic kvs false)) else .bad
  | _ => .bad
/-- a dict is walked by its keys, under a lock; e: what gives the dict, wherever it is asked -/
def dictWalk (e : Heap → Out Val) (h : Heap) : Option (Nat × List (Val × Val)) := match e h with
  | .ok (.ref r) h1 => match h1.c r with
    | some (.dic kvs false) => if h1 = h ∧ e (h.set r (.dic kvs true)) = .ok (.ref r) (h.set r (.dic kvs true)) then some (r, kvs) else none
    | _ => none
  | _ => none

section
variable (T : Tb) (F : Fns)
mutual
def evE : E → Env → Heap → Out Val
  | .var i, ρ, h => match ρ[i]? with
    | some (some v) => .ok v h
    | _ => .bad
  | .cst v, _, h => .ok v h
  | .tup es, ρ, h => (evEs es ρ h).bind fun vs h => if vs.length ≤ line then .ok (.tup vs) h else .bad
  | .lst new es, ρ, h => (evEs es ρ h).bind (newL new)
  | .dic, _, h => .ok (.ref h.n) (h.push (.dic [] false))
  | .dicI es, ρ, h => (evEs es ρ h).bind fun vs h => match pairsV vs with
    | some kvs => if kvs.length ≤ 15 then .ok (.ref h.n) (h.push (.dic kvs false)) else .bad
    | none => .bad
  | .lenset a, ρ, h => (evE a ρ h).bind fun x h => match (seqOf h x).bind intsV with
    | some is => .ok (.int is.eraseDups.length) h
    | none => .bad
  | .op o a b, ρ, h => (evE a ρ h).bind fun x h => (evE b ρ h).bind fun y h => .ofOpt (opV h o x y) h
  | .chain o o' a b c, ρ, h => (evE a ρ h).bind fun x h => (evE b ρ h).bind fun y h => match opV h o x y with
    | some (.bl true) => (evE c ρ h).bind fun z h => .ofOpt (opV h o' y z) h
    | some (.bl false) => .ok (.bl false) h
    | _ => .bad
  | .neg a, ρ, h => (evE a ρ h).bind fun x h => match x with
    | .int i => .ok (.int (-i)) h
    | _ => .bad
  | .not a, ρ, h => (evE a ρ h).bind fun x h => .ofOpt ((truthy h x).map fun b => .bl (!b)) h
  | .and a b, ρ, h => (evE a ρ h).bind fun x h => match truthy h x with
    | some true => evE b ρ h
    | some false => .ok x h
    | none => .bad
  | .or a b, ρ, h => (evE a ρ h).bind fun x h => match truthy h x with
    | some true => .ok x h
    | some false => evE b ρ h
    | none => .bad
  | .ite c a b, ρ, h => (evE c ρ h).bind fun x h => match truthy h x with
    | some true => evE a ρ h
    | some false => evE b ρ h
    | none => .bad
  | .attr a f, ρ, h => (evE a ρ h).bind fun x h => attrV T F x f h
  | .sub a i, ρ, h => (evE a ρ h).bind fun x h => (evE i ρ h).bind fun y h => .ofOpt (subV h x y) h
  | .slice new a lo hi, ρ, h => (evE a ρ h).bind fun x h => (evEs lo ρ h).bind fun l h => match intsV l with
    | some l => (evEs hi ρ h).bind fun u h => match intsV u with
      | some u => match sliceV h x l.head? u.head? with
        | some (.lst xs) => newL new xs h
        | some v => .ok v h
        | none => .bad
      | none => .bad
    | none => .bad
  | .call k es, ρ, h => (evEs es ρ h).bind fun vs h => F k vs h
  | .callK k es g, ρ, h => (evEs es ρ h).bind fun vs h => match bindBd vs g with
    | some us => F k us h
    | none => .bad
  | .make c es, ρ, h => (evEs es ρ h).bind fun vs h => makeV T F c vs h
  | .makeK c es g, ρ, h => (evEs es ρ h).bind fun vs h => match bindBd vs g with
    | some us => makeV T F c us h
    | none => .bad
  | .callV i es, ρ, h => match ρ[i]? with
    | some (some (.fn k)) => if T.val k = true then (evEs es ρ h).bind fun vs h => F k vs h else .bad
    | _ => .bad
  | .meth a m es, ρ, h => (evE a ρ h).bind fun x h => match x with
    | .ref r => match h.c r with
      | some (.ins c fs) => match lookF fs m, T.meth c m with
        | none, some k => (evEs es ρ h).bind fun vs h => F k (.ref r :: vs) h
        | _, _ => .bad
      | _ => .bad
    | _ => .bad
  | .bm a m es, ρ, h => (evE a ρ h).bind fun x h => match bmK h m x with
    | some t => (evEs es ρ h).bind fun vs h => if bmK h m x = some t then bmV h m x vs else .bad
    | none => .bad
  | .bf f new es, ρ, h => (evEs es ρ h).bind fun vs h => match bfV h f vs with
    | some (.lst xs) => newL new xs h
    | some v => .ok v h
    | none => .bad
  | .dict a, ρ, h => (evE a ρ h).bind fun x h => match x with
    | .ref r => match h.c r with
      | some (.dic kvs _) => .ok (.ref h.n) (h.push (.dic kvs false))
      | _ => .bad
    | _ => .bad
  | .isi a t, ρ, h => (evE a ρ h).bind fun x h => .ofOpt ((isiV T h x t).map .bl) h
  | .comp new elt tg w it ifs vs, ρ, h =>
    let step := fun v h => match bindTg (wipeS ρ vs) tg v with
      | some ρ' => (evEs ifs ρ' h).bind fun bs h => match bs with
        | [] => (evE elt ρ' h).bind fun y h => .ok [y] h
        | [b] => match truthy h b with
          | some true => (evE elt ρ' h).bind fun y h => .ok [y] h
          | some false => .ok [] h
          | none => .bad
        | _ => .bad
      | none => .bad
    match w with
    | 1 => match dictWalk (fun h => (evEs it ρ h).bind fun ds h => match ds with
          | [d] => .ok d h
          | _ => .bad) h with
      | some (r, kvs) => (unlockO r kvs (compL (fun h' => h'.c r = some (.dic kvs true)) step (kvs.map (·.1)) (h.set r (.dic kvs true)))).bind (newL new)
      | none => .bad
    | _ => (evEs it ρ h).bind fun ws h => match walkV h w ws with
      | some items => match compL (fun h' => stays h h' ws) step items h with
        | .ok ys h2 => newL new ys h2
        | _ => .bad
      | none => .bad
  | .stop, _, _ => .bad
def evEs : List E → Env → Heap → Out (List Val)
  | [], _, h => .ok [] h
  | e :: es, ρ, h => (evE e ρ h).bind fun v h => (evEs es ρ h).bind fun vs h => .ok (v :: vs) h
end

theorem evEs_nil (ρ : Env) (h : Heap) : evEs T F [] ρ h = .ok [] h := by
  unfold evEs
  rfl
theorem evEs_cons (e : E) (es : List E) (ρ : Env) (h : Heap) : evEs T F (e :: es) ρ h = (evE T F e ρ h).bind fun v h => (evEs T F es ρ h).bind fun vs h => .ok (v :: vs) h := by
  conv => lhs; unfold evEs

/-- o.f = v; o[i] = v; del o[i] -/
def setAttr (T : Tb) (o : Val) (f : Nat) (v : Val) (h : Heap) : Option Heap := match o with
  | .ref r => match h.c r with
    | some (.ins c fs) => if fs.length < 1000 ∧ T.fo c f = true then some (h.set r (.ins c (putF fs f v))) else none
    | _ => none
  | _ => none
def setItem (o i v : Val) (h : Heap) : Option Heap := match o with
  | .ref r => match h.c r with
    | some (.lst xs) => match i with
      | .int k => match place xs.length k with
        | some j => some (h.set r (.lst (xs.set j v)))
        | none => none
      | _ => none
    | some (.dic kvs false) => if isKey i ∧ kvs.length < line then some (h.set r (.dic (dPut kvs i v) false)) else none
    | _ => none
  | _ => none
def delItem (o i : Val) (h : Heap) : Option Heap := match o with
  | .ref r => match h.c r with
    | some (.lst xs) => match i with
      | .int k => match place xs.length k with
        | some j => some (h.set r (.lst (xs.eraseIdx j)))
        | none => none
      | _ => none
    | _ => none
  | _ => none

/-- a test of a caught exception -/
def hxV (T : Tb) (x : Exc) (ρ : Env) : HX → Option Bool
  | .isE c => match T.exn x.c with
    | some _ => T.sub x.c c
    | none => none
  | .lineNe i => match T.exn x.c, x.f, ρ[i]? with
    | some true, [(0, .int a)], some (some (.int b)) => some (a != b)
    | _, _, _ => none
  | .not a => (hxV T x ρ a).map (!·)
  | .or a b => match hxV T x ρ a with
    | some true => some true
    | some false => hxV T x ρ b
    | none => none
def hrV (T : Tb) (x : Exc) : HR → Option Val
  | .val v => some v
  | .line => match T.exn x.c, x.f with
    | some true, [(0, .int a)] => some (.int a)
    | _, _ => none
def hxEnd (T : Tb) (x : Exc) (ρ : Env) : List (HX × HR) → HR → Option Val
  | [], r => hrV T x r
  | (t, v) :: ts, r => match hxV T x ρ t with
    | some true => hrV T x v
    | some false => hxEnd T x ρ ts r
    | none => none

mutual
def exS : S → Env → Heap → SO
  | .asg tg e, ρ, h => (evE T F e ρ h).stm ρ fun v h => match bindTg ρ tg v with
    | some ρ' => .nx ρ' h
    | none => .bad
  | .setA o f e, ρ, h => (evE T F e ρ h).stm ρ fun v h => (evE T F o ρ h).stm ρ fun x h => match setAttr T x f v h with
    | some h => .nx ρ h
    | none => .bad
  | .setI o i e, ρ, h => (evE T F e ρ h).stm ρ fun v h => (evE T F o ρ h).stm ρ fun x h => (evE T F i ρ h).stm ρ fun y h => match setItem x y v h with
    | some h => .nx ρ h
    | none => .bad
  | .augN i o e, ρ, h => match ρ[i]? with
    | some (some x) => (evE T F e ρ h).stm ρ fun y h => match augV o x y with
      | some z => .nx (ρ.set i (some z)) h
      | none => .bad
    | _ => .bad
  | .augA a f o e, ρ, h => (evE T F a ρ h).stm ρ fun x h => match x with
    | .ref r => match h.c r with
      | some (.ins _ fs) => match lookF fs f with
        | some v => (evE T F e ρ h).stm ρ fun y h => match augV o v y with
          | some z => match setAttr T (.ref r) f z h with
            | some h => .nx ρ h
            | none => .bad
          | none => .bad
        | none => .bad
      | _ => .bad
    | _ => .bad
  | .expr e, ρ, h => (evE T F e ρ h).stm ρ fun _ h => .nx ρ h
  | .ret e, ρ, h => (evE T F e ρ h).stm ρ fun v h => .rt v h
  | .retN, _, h => .rt .non h
  | .ife c a b, ρ, h => (evE T F c ρ h).stm ρ fun x h => match truthy h x with
    | some true => exB a ρ h
    | some false => exB b ρ h
    | none => .bad
  | .loop tg w it body, ρ, h =>
    let turn := fun v ρ h => match bindTg ρ tg v with
      | some ρ' => exB body ρ' h
      | none => .bad
    match w with
    | 1 => match dictWalk (fun h => (evEs T F it ρ h).bind fun ds h => match ds with
          | [d] => .ok d h
          | _ => .bad) h with
      | some (r, kvs) => unlock r kvs (forL (fun h' => h'.c r = some (.dic kvs true)) turn (kvs.map (·.1)) ρ (h.set r (.dic kvs true)))
      | none => .bad
    | _ => (evEs T F it ρ h).stm ρ fun ws h => match walkV h w ws with
      | some items => forL (fun h' => stays h h' ws) turn items ρ h
      | none => .bad
  | .whl c body, ρ, h => whileL (fun ρ h => match evE T F c ρ h with
      | .ok x h => match truthy h x with
        | some true => match exB body ρ h with
          | .nx ρ h => .again ρ h
          | .ct ρ h => .again ρ h
          | .bk ρ h => .done (.nx ρ h)
          | o => .done o
        | some false => .done (.nx ρ h)
        | none => .done .bad
      | .exc x h => .done (.exc x ρ h)
      | .bad => .done .bad) ρ h
  | .raise c es, ρ, h => (evEs T F es ρ h).stm ρ fun vs h => match T.exn c, vs with
    | some false, [] => .exc ⟨c, []⟩ ρ h
    | some false, [_] => .exc ⟨c, []⟩ ρ h
    | some true, [.int i] => .exc ⟨c, [(0, .int i)]⟩ ρ h
    | _, _ => .bad
  | .try_ body c suite, ρ, h => match exB body ρ h with
    | .exc x ρ' h' => match T.sub x.c c with
      | some true => match exB suite ρ' h' with
        | .exc _ _ _ => .bad
        | o => o
      | some false => .exc x ρ' h'
      | none => .bad
    | o => o
  | .tryAs body c i ts last, ρ, h => match exB body ρ h with
    | .exc x ρ' h' => match T.sub x.c c with
      | some true => if i < ρ'.length then match hxEnd T x (ρ'.set i none) ts last with
        | some v => .rt v h'
        | none => .bad
        else .bad
      | some false => .exc x ρ' h'
      | none => .bad
    | o => o
  | .del a i, ρ, h => (evE T F a ρ h).stm ρ fun x h => (evE T F i ρ h).stm ρ fun y h => match delItem x y h with
    | some h => .nx ρ h
    | none => .bad
  | .pass, ρ, h => .nx ρ h
  | .brk, ρ, h => .bk ρ h
  | .cont, ρ, h => .ct ρ h
  | .stop, _, _ => .bad
def exB : List S → Env → Heap → SO
  | [], ρ, h => .nx ρ h
  | s :: r, ρ, h => (exS s ρ h).next fun ρ h => exB r ρ h
end
end

/-- what a def's body gives its caller -/
def retO : SO → Out Val
  | .nx _ h => .ok .non h
  | .rt v h => .ok v h
  | .exc x _ h => .exc x h
  | _ => .bad
/-- a value without what was laid since h: new lists become data -/
def frzV (h h' : Heap) : Nat → Val → Option Val
  | 0, _ => none
  | n + 1, .tup xs => (mapO (frzV h h' n) xs).map .tup
  | n + 1, .lst xs => (mapO (frzV h h' n) xs).map .lst
  | n + 1, .arr xs => (mapO (frzV h h' n) xs).map .arr
  | n + 1, .ref r => if r < h.n then (match h.c r with
      | some _ => some (.ref r)
      | none => none) else match h'.c r with
    | some (.lst xs) => (mapO (frzV h h' n) xs).map .lst
    | _ => none
  | _ + 1, v => some v
/-- nothing that stood has changed -/
def same (h h' : Heap) : Prop := ∀ r, r < h.n → h'.c r = h.c r
/-- what was laid since h is let go -/
noncomputable def fold (h : Heap) (o : Out Val) : Out Val := match o with
  | .ok v h' => open Classical in if same h h' then (match frzV h h' 64 v with
      | some w => .ok w h
      | none => .bad) else .bad
  | .exc x h' => open Classical in if same h h' then .exc x h else .bad
  | .bad => .bad
/-- a call, at most d deep -/
noncomputable def callF (T : Tb) : Nat → Fns
  | 0 => fun _ _ _ => .bad
  | d + 1 => fun k vs h => match T.fns k with
    | some fd => if vs.length = fd.np then
        (if T.fz k = true then fold h else id) (retO (exB T (callF T d) fd.body (vs.map some ++ List.replicate (fd.ns - fd.np) none) h)) else .bad
    | none => .bad
theorem callF_succ (T : Tb) (d k : Nat) (vs : List Val) (h : Heap) (fd : FD) (e : T.fns k = some fd) (l : vs.length = fd.np) :
    callF T (d + 1) k vs h = (if T.fz k = true then fold h else id) (retO (exB T (callF T d) fd.body (vs.map some ++ List.replicate (fd.ns - fd.np) none) h)) := by
  simp only [callF, e, l, if_true]
theorem callF_n (T : Tb) (d k : Nat) (vs : List Val) (h : Heap) (fd : FD) (e : T.fns k = some fd) (z : T.fz k = false) (l : vs.length = fd.np) :
    callF T (d + 1) k vs h = retO (exB T (callF T d) fd.body (vs.map some ++ List.replicate (fd.ns - fd.np) none) h) := by
  rw [callF_succ T d k vs h fd e l, z]
  rfl
theorem callF_z (T : Tb) (d k : Nat) (vs : List Val) (h : Heap) (fd : FD) (e : T.fns k = some fd) (z : T.fz k = true) (l : vs.length = fd.np) :
    callF T (d + 1) k vs h = fold h (retO (exB T (callF T d) fd.body (vs.map some ++ List.replicate (fd.ns - fd.np) none) h)) := by
  rw [callF_succ T d k vs h fd e l, z]
  rfl
end

/-! ### a while, turn by turn -/
theorem wIter_mono {step : Env → Heap → WS} : ∀ {n : Nat} {ρ : Env} {h : Heap} {o : SO}, wIter step n ρ h = some o → ∀ m, n ≤ m → wIter step m ρ h = some o
  | 0, _, _, _, e, _, _ => by cases e
  | n + 1, ρ, h, o, e, m, l => by
    obtain ⟨m', rfl⟩ : ∃ m', m = m' + 1 := ⟨m - 1, by omega⟩
    unfold wIter at e ⊢
    split at e
    · exact wIter_mono e m' (by omega)
    · exact e
theorem whileL_of {step : Env → Heap → WS} {n : Nat} {ρ : Env} {h : Heap} {o : SO} (e : wIter step n ρ h = some o) : whileL step ρ h = o := by
  have q : ∃ (o : SO) (n : Nat), wIter step n ρ h = some o := ⟨o, n, e⟩
  unfold whileL
  rw [dif_pos q]
  obtain ⟨m, e2⟩ := q.choose_spec
  have a := wIter_mono e (max n m) (Nat.le_max_left _ _)
  have b := wIter_mono e2 (max n m) (Nat.le_max_right _ _)
  rw [a] at b
  exact (Option.some.inj b).symm
theorem whileL_eq (step : Env → Heap → WS) (ρ : Env) (h : Heap) : whileL step ρ h = match step ρ h with
    | .again ρ' h' => whileL step ρ' h'
    | .done o => o := by
  cases e : step ρ h with
  | done o => exact whileL_of (n := 1) (by simp only [wIter, e])
  | again ρ' h' =>
    by_cases q : ∃ (o : SO) (n : Nat), wIter step n ρ' h' = some o
    · obtain ⟨o, n, w⟩ := q
      show whileL step ρ h = whileL step ρ' h'
      rw [whileL_of w]
      exact whileL_of (n := n + 1) (by simp only [wIter, e, w])
    · have q' : ¬ ∃ (o : SO) (n : Nat), wIter step n ρ h = some o := fun ⟨o, n, w⟩ => by
        cases n with
        | zero => cases w
        | succ n =>
          simp only [wIter, e] at w
          exact q ⟨o, n, w⟩
      show whileL step ρ h = whileL step ρ' h'
      unfold whileL
      rw [dif_neg q, dif_neg q']
/-- what a while that ends well has run -/
theorem whileL_runs {step : Env → Heap → WS} {ρ : Env} {h : Heap} (e : whileL step ρ h ≠ .bad) : ∃ n, wIter step n ρ h = some (whileL step ρ h) := by
  by_cases q : ∃ (o : SO) (n : Nat), wIter step n ρ h = some o
  · obtain ⟨o, n, w⟩ := q
    exact ⟨n, by rw [whileL_of w]; exact w⟩
  · exfalso
    apply e
    unfold whileL
    rw [dif_neg q]

end MP

/-! Mp1a: how MP's values, cells, heaps lie in the hand layer's abstract heap -/
namespace MP
open PySem PySem.Spec PyProof.Rows L2

/-- the link: the written part, the addresses of defs and classes, the names of fields -/
structure Lk where
  K : PySem.W.Frag
  fa : Nat → Addr
  ca : Nat → Addr
  nm : Nat → PySem.Str
  T : Tb
  /-- lists that are being made: no value lies there -/
  pv : Addr → Prop
/-- the same link with other lists in the making -/
@[reducible] def Lk.pvs (L : Lk) (pv : Addr → Prop) : Lk := { L with pv := pv }
abbrev Bt := Nat → Option Addr

/-- no cell, no list in the making -/
def Un (L : Lk) (β : Bt) (a : Addr) : Prop := ¬ L.pv a ∧ ∀ r, β r ≠ some a
/-- a list that is read alone -/
def ArrAt (L : Lk) (β : Bt) (H : Hp) (a : Addr) (vs : List V) : Prop :=
  (H a = some (.lst vs) ∧ Un L β a) ∨ (∃ o, H a = some (.frz o (.lst vs))) ∨
    ∃ (o : Obj) (its : Array Value) (n : Nat), L.K.lookup a = some o ∧ o.cls = .type "list" ∧ o.dict = none ∧ o.data = .seq its n ∧ its.size ≤ sizeLine ∧ Vals vs its.toList
theorem ArrAt.sql {L : Lk} {β : Bt} {H : Hp} {a : Addr} {vs : List V} (h : ArrAt L β H a vs) : SqL L.K H a vs := by
  rcases h with ⟨h, _⟩ | h | h
  · exact .inl (.inl h)
  · exact .inl (.inr h)
  · exact .inr h

mutual
inductive VR (L : Lk) (β : Bt) (H : Hp) : V → Val → Prop where
  | non : VR L β H .non .non
  | bl (b : Bool) : VR L β H (.bl b) (.bl b)
  | int (i : Int) : VR L β H (.int i) (.int i)
  | str (s : List Nat) : VR L β H (.str ⟨s.toArray⟩) (.str s)
  | tup {a : Addr} {vs : List V} {xs : List Val} : SqT L.K H a vs → VRs L β H vs xs → VR L β H (.ref a) (.tup xs)
  | lst {a : Addr} {vs : List V} {xs : List Val} : H a = some (.lst vs) → Un L β a → VRs L β H vs xs → VR L β H (.ref a) (.lst xs)
  | arr {a : Addr} {vs : List V} {xs : List Val} : ArrAt L β H a vs → VRs L β H vs xs → VR L β H (.ref a) (.arr xs)
  | ref {a : Addr} {r : Nat} : β r = some a → VR L β H (.ref a) (.ref r)
  | fn (k : Nat) : VR L β H (.ref (L.fa k)) (.fn k)
inductive VRs (L : Lk) (β : Bt) (H : Hp) : List V → List Val → Prop where
  | nil : VRs L β H [] []
  | cons {v : V} {x : Val} {vs : List V} {xs : List Val} : VR L β H v x → VRs L β H vs xs → VRs L β H (v :: vs) (x :: xs)
end

/-- a key -/
def kOf : Val → Option Key
  | .int i => some (.inl i)
  | .str s => some (.inr ⟨s.toArray⟩)
  | _ => none

/-- pairs by pairs -/
inductive KR (L : Lk) (β : Bt) (H : Hp) : List (Key × V) → List (Val × Val) → Prop where
  | nil : KR L β H [] []
  | cons {k : Key} {v : V} {a x : Val} {ps : List (Key × V)} {qs : List (Val × Val)} : kOf a = some k → VR L β H v x → KR L β H ps qs → KR L β H ((k, v) :: ps) ((a, x) :: qs)
inductive FR (L : Lk) (β : Bt) (H : Hp) : List (PySem.Str × V) → List (Nat × Val) → Prop where
  | nil : FR L β H [] []
  | cons {f : Nat} {v : V} {x : Val} {ps : List (PySem.Str × V)} {qs : List (Nat × Val)} : VR L β H v x → FR L β H ps qs → FR L β H ((L.nm f, v) :: ps) ((f, x) :: qs)

/-- a cell at an address -/
def CR (L : Lk) (β : Bt) (H : Hp) (a : Addr) : Cell → Prop
  | .lst xs => ∃ vs, H a = some (.lst vs) ∧ VRs L β H vs xs
  | .dic kvs false => ∃ ps, H a = some (.dK ps) ∧ KR L β H ps kvs
  | .dic kvs true => ∃ ps o, H a = some (.frz o (.dK ps)) ∧ KR L β H ps kvs
  | .ins c fs => L.T.isC c = true ∧ (∀ p ∈ fs, L.T.fo c p.1 = true) ∧ ∃ dx ps, H a = some (.ins (L.ca c) dx ps) ∧ FR L β H ps fs

structure Sim (L : Lk) (β : Bt) (H : Hp) (h : Heap) : Prop where
  fwd : ∀ r c, h.c r = some c → ∃ a, β r = some a
  bwd : ∀ r a, β r = some a → r < h.n ∧ ∃ c, h.c r = some c ∧ CR L β H a c
  inj : ∀ r q a, β r = some a → β q = some a → r = q
  priv : ∀ a, L.pv a → H a ≠ none ∧ ∀ r, β r ≠ some a

/-- from a state to a later one -/
structure Ext (β : Bt) (H : Hp) (β' : Bt) (H' : Hp) : Prop where
  keep : ∀ r a, β r = some a → β' r = some a
  rest : ∀ a o, H a = some o → (∀ r, β r ≠ some a) → H' a = some o
  new : ∀ r a, β' r = some a → β r = some a ∨ H a = none
  there : ∀ a, H a ≠ none → H' a ≠ none

section
variable {L : Lk} {β β' β2 : Bt} {H H' H2 : Hp}
theorem Ext.refl : Ext β H β H := ⟨fun _ _ e => e, fun _ _ e _ => e, fun _ _ e => .inl e, fun _ e => e⟩
theorem Ext.out (x : Ext β H β' H') {a : Addr} (ha : H a ≠ none) (n : ∀ r, β r ≠ some a) : ∀ r, β' r ≠ some a := fun r e => by
  rcases x.new r a e with q | q
  · exact n r q
  · exact ha q
theorem Ext.trans (x : Ext β H β' H') (y : Ext β' H' β2 H2) : Ext β H β2 H2 where
  keep := fun r a e => y.keep r a (x.keep r a e)
  rest := fun a o e n => y.rest a o (x.rest a o e n) (x.out (by rw [e]; simp) n)
  new := fun r a e => by
    rcases y.new r a e with q | q
    · exact x.new r a q
    · refine .inr ?_
      cases hz : H a with
      | none => rfl
      | some o => exact absurd q (x.there a (by rw [hz]; simp))
  there := fun a e => y.there a (x.there a e)
theorem CR.ne {a : Addr} {c : Cell} (x : CR L β H a c) : (∃ vs, H a = some (.lst vs)) ∨ (∃ ps, H a = some (.dK ps)) ∨ (∃ ps o, H a = some (.frz o (.dK ps))) ∨ ∃ C dx ps, H a = some (.ins C dx ps) := by
  cases c with
  | lst xs => obtain ⟨vs, e, _⟩ := x; exact .inl ⟨vs, e⟩
  | dic kvs b =>
    cases b with
    | false => obtain ⟨ps, e, _⟩ := x; exact .inr (.inl ⟨ps, e⟩)
    | true => obtain ⟨ps, o, e, _⟩ := x; exact .inr (.inr (.inl ⟨ps, o, e⟩))
  | ins c fs => obtain ⟨_, _, dx, ps, e, _⟩ := x; exact .inr (.inr (.inr ⟨_, dx, ps, e⟩))
theorem Sim.notup {h : Heap} (S : Sim L β H h) {a : Addr} {vs : List V} (e : H a = some (.tup vs) ∨ ∃ o, H a = some (.frz o (.tup vs))) : ∀ r, β r ≠ some a := fun r q => by
  obtain ⟨_, c, _, x⟩ := S.bwd r a q
  rcases x.ne with ⟨_, z⟩ | ⟨_, z⟩ | ⟨_, _, z⟩ | ⟨_, _, _, z⟩ <;> (rcases e with e | ⟨_, e⟩ <;> (rw [z] at e; cases e))
theorem Sim.noown {h : Heap} (S : Sim L β H h) {a b : Addr} (e : H a = some (.own b)) : ∀ r, β r ≠ some a := fun r q => by
  obtain ⟨_, c, _, x⟩ := S.bwd r a q
  rcases x.ne with ⟨_, z⟩ | ⟨_, z⟩ | ⟨_, _, z⟩ | ⟨_, _, _, z⟩ <;> (rw [z] at e; cases e)
theorem Sim.free {h : Heap} (S : Sim L β H h) {a : Addr} (e : H a = none) : ∀ r, β r ≠ some a := fun r q => by
  obtain ⟨_, c, _, x⟩ := S.bwd r a q
  rcases x.ne with ⟨_, z⟩ | ⟨_, z⟩ | ⟨_, _, z⟩ | ⟨_, _, _, z⟩ <;> (rw [z] at e; cases e)
theorem Sim.un {h : Heap} (S : Sim L β H h) {a : Addr} (e : H a = none) : Un L β a := ⟨fun q => (S.priv a q).1 e, S.free e⟩
theorem Sim.fresh {h : Heap} (S : Sim L β H h) : β h.n = none := by
  cases e : β h.n with
  | none => rfl
  | some a => exact absurd (S.bwd _ _ e).1 (Nat.lt_irrefl _)
theorem Ext.sqt {h : Heap} (S : Sim L β H h) (x : Ext β H β' H') {a : Addr} {vs : List V} (e : SqT L.K H a vs) : SqT L.K H' a vs := by
  rcases e with (e | ⟨o, e⟩) | e
  · exact .inl (.inl (x.rest a _ e (S.notup (.inl e))))
  · exact .inl (.inr ⟨o, x.rest a _ e (S.notup (.inr ⟨o, e⟩))⟩)
  · exact .inr e
theorem Sim.nofrz {h : Heap} (S : Sim L β H h) {a : Addr} {vs : List V} {o : Obj} (e : H a = some (.frz o (.lst vs))) : ∀ r, β r ≠ some a := fun r q => by
  obtain ⟨_, c, _, x⟩ := S.bwd r a q
  rcases x.ne with ⟨_, z⟩ | ⟨_, z⟩ | ⟨_, _, z⟩ | ⟨_, _, _, z⟩ <;> (rw [z] at e; cases e)
theorem Ext.arr {h : Heap} (S : Sim L β H h) (x : Ext β H β' H') {a : Addr} {vs : List V} (e : ArrAt L β H a vs) : ArrAt L β' H' a vs := by
  rcases e with ⟨e, n⟩ | ⟨o, e⟩ | e
  · exact .inl ⟨x.rest a _ e n.2, n.1, x.out (by rw [e]; simp) n.2⟩
  · exact .inr (.inl ⟨o, x.rest a _ e (S.nofrz e)⟩)
  · exact .inr (.inr e)
end

mutual
theorem VR.mono {L : Lk} {β β' : Bt} {H H' : Hp} {h : Heap} (S : Sim L β H h) (x : Ext β H β' H') : ∀ {v : V} {a : Val}, VR L β H v a → VR L β' H' v a
  | _, _, .non => .non
  | _, _, .bl b => .bl b
  | _, _, .int i => .int i
  | _, _, .str s => .str s
  | _, _, .tup e r => .tup (x.sqt S e) (VRs.mono S x r)
  | _, _, .lst e n r => .lst (x.rest _ _ e n.2) ⟨n.1, x.out (by rw [e]; simp) n.2⟩ (VRs.mono S x r)
  | _, _, .arr e r => .arr (x.arr S e) (VRs.mono S x r)
  | _, _, .ref e => .ref (x.keep _ _ e)
  | _, _, .fn k => .fn k
theorem VRs.mono {L : Lk} {β β' : Bt} {H H' : Hp} {h : Heap} (S : Sim L β H h) (x : Ext β H β' H') : ∀ {vs : List V} {as : List Val}, VRs L β H vs as → VRs L β' H' vs as
  | _, _, .nil => .nil
  | _, _, .cons r t => .cons (VR.mono S x r) (VRs.mono S x t)
end
section
variable {L : Lk} {β β' β2 : Bt} {H H' H2 : Hp} {h : Heap}
theorem KR.mono (S : Sim L β H h) (x : Ext β H β' H') : ∀ {ps : List (Key × V)} {qs : List (Val × Val)}, KR L β H ps qs → KR L β' H' ps qs
  | _, _, .nil => .nil
  | _, _, .cons e r t => .cons e (r.mono S x) (KR.mono S x t)
theorem FR.mono (S : Sim L β H h) (x : Ext β H β' H') : ∀ {ps : List (PySem.Str × V)} {qs : List (Nat × Val)}, FR L β H ps qs → FR L β' H' ps qs
  | _, _, .nil => .nil
  | _, _, .cons r t => .cons (r.mono S x) (FR.mono S x t)
theorem VRs.length : ∀ {vs : List V} {xs : List Val}, VRs L β H vs xs → vs.length = xs.length
  | _, _, .nil => rfl
  | _, _, .cons _ t => congrArg Nat.succ (VRs.length t)
theorem VRs.get : ∀ {vs : List V} {xs : List Val} {i : Nat} {x : Val}, VRs L β H vs xs → xs[i]? = some x → ∃ v, vs[i]? = some v ∧ VR L β H v x
  | _, _, _, _, .nil, e => by simp at e
  | _, _, 0, _, .cons r _, e => by simp at e; subst e; exact ⟨_, rfl, r⟩
  | _, _, i + 1, x, .cons _ t, e => by
    obtain ⟨v, h1, h2⟩ := VRs.get (i := i) (x := x) t (by simpa using e)
    exact ⟨v, by simpa using h1, h2⟩
theorem VRs.append : ∀ {vs ws : List V} {xs ys : List Val}, VRs L β H vs xs → VRs L β H ws ys → VRs L β H (vs ++ ws) (xs ++ ys)
  | _, _, _, _, .nil, s => s
  | _, _, _, _, .cons r t, s => .cons r (VRs.append t s)
theorem VRs.set {v : V} {x : Val} (r : VR L β H v x) : ∀ {vs : List V} {xs : List Val} (i : Nat), VRs L β H vs xs → VRs L β H (vs.set i v) (xs.set i x)
  | _, _, _, .nil => .nil
  | _, _, 0, .cons _ t => .cons r t
  | _, _, i + 1, .cons q t => .cons q (VRs.set r i t)
theorem VRs.erase : ∀ {vs : List V} {xs : List Val} (i : Nat), VRs L β H vs xs → VRs L β H (vs.eraseIdx i) (xs.eraseIdx i)
  | _, _, _, .nil => .nil
  | _, _, 0, .cons _ t => t
  | _, _, i + 1, .cons q t => .cons q (VRs.erase i t)
theorem VRs.take : ∀ {vs : List V} {xs : List Val} (n : Nat), VRs L β H vs xs → VRs L β H (vs.take n) (xs.take n)
  | _, _, 0, _ => by simpa using VRs.nil
  | _, _, n + 1, .nil => .nil
  | _, _, n + 1, .cons q t => .cons q (VRs.take n t)
theorem VRs.drop : ∀ {vs : List V} {xs : List Val} (n : Nat), VRs L β H vs xs → VRs L β H (vs.drop n) (xs.drop n)
  | _, _, 0, r => r
  | _, _, n + 1, .nil => .nil
  | _, _, n + 1, .cons _ t => VRs.drop n t
theorem VRs.dropLast : ∀ {vs : List V} {xs : List Val}, VRs L β H vs xs → VRs L β H vs.dropLast xs.dropLast
  | _, _, .nil => .nil
  | _, _, .cons r .nil => .nil
  | _, _, .cons r (.cons q t) => .cons r (VRs.dropLast (.cons q t))
theorem VRs.split : ∀ {vs : List V} {xs ys : List Val}, VRs L β H vs (xs ++ ys) → ∃ us ws, vs = us ++ ws ∧ VRs L β H us xs ∧ VRs L β H ws ys
  | vs, [], _, r => ⟨[], vs, rfl, .nil, r⟩
  | _, x :: xs, ys, .cons r t => by
    obtain ⟨us, ws, e, r1, r2⟩ := VRs.split t
    exact ⟨_ :: us, ws, by rw [e]; rfl, .cons r r1, r2⟩

/-! ### new cells, changed cells -/
def bnd (β : Bt) (r : Nat) (a : Addr) : Bt := fun q => if q = r then some a else β q
theorem bnd_same {r : Nat} {a : Addr} : bnd β r a r = some a := if_pos rfl
theorem bnd_ne {r q : Nat} {a : Addr} (e : q ≠ r) : bnd β r a q = β q := if_neg e
theorem Ext.laid (S : Sim L β H h) {p : Addr} {o : HO} (e : H p = none) : Ext β H β (upd H p o) :=
  ⟨fun _ _ q => q, fun a u q _ => by rw [upd_ne (ne_of_none q e)]; exact q, fun _ _ q => .inl q, fun a q => by
    by_cases z : a = p
    · subst z; exact absurd e q
    · rw [upd_ne z]; exact q⟩
theorem Ext.bound (S : Sim L β H h) {p : Addr} {o : HO} (e : H p = none) : Ext β H (bnd β h.n p) (upd H p o) where
  keep := fun r a q => by rw [bnd_ne (fun z => by subst z; rw [S.fresh] at q; cases q)]; exact q
  rest := fun a u q _ => by rw [upd_ne (ne_of_none q e)]; exact q
  new := fun r a q => by
    by_cases z : r = h.n
    · subst z; rw [bnd_same] at q; cases q; exact .inr e
    · rw [bnd_ne z] at q; exact .inl q
  there := fun a q => by
    by_cases z : a = p
    · subst z; exact absurd e q
    · rw [upd_ne z]; exact q
theorem CR.mono (S : Sim L β H h) (x : Ext β H β' H') {a : Addr} {c : Cell} (e : H' a = H a) (r : CR L β H a c) : CR L β' H' a c := by
  cases c with
  | lst xs => obtain ⟨vs, q, t⟩ := r; exact ⟨vs, e.trans q, t.mono S x⟩
  | dic kvs b =>
    cases b with
    | false => obtain ⟨ps, q, t⟩ := r; exact ⟨ps, e.trans q, t.mono S x⟩
    | true => obtain ⟨ps, o, q, t⟩ := r; exact ⟨ps, o, e.trans q, t.mono S x⟩
  | ins c fs => obtain ⟨w1, w2, dx, ps, q, t⟩ := r; exact ⟨w1, w2, dx, ps, e.trans q, t.mono S x⟩
/-- a thing is laid that is no cell -/
theorem Sim.laid (S : Sim L β H h) {p : Addr} {o : HO} (e : H p = none) : Sim L β (upd H p o) h where
  fwd := S.fwd
  bwd := fun r a q => by
    obtain ⟨l, c, hc, x⟩ := S.bwd r a q
    exact ⟨l, c, hc, x.mono S (Ext.laid S e) (upd_ne fun z => S.free e r (by rw [q, z]))⟩
  inj := S.inj
  priv := fun a q => ⟨(Ext.laid S e).there a (S.priv a q).1, (S.priv a q).2⟩
/-- a new cell -/
theorem Sim.push (S : Sim L β H h) {p : Addr} {o : HO} {c : Cell} (e : H p = none) (x : CR L (bnd β h.n p) (upd H p o) p c) : Sim L (bnd β h.n p) (upd H p o) (h.push c) where
  fwd := fun r d q => by
    by_cases z : r = h.n
    · subst z; exact ⟨p, bnd_same⟩
    · have q' : h.c r = some d := by
        have : (if r = h.n then some c else h.c r) = some d := q
        rwa [if_neg z] at this
      obtain ⟨a, y⟩ := S.fwd r d q'
      exact ⟨a, by rw [bnd_ne z]; exact y⟩
  bwd := fun r a q => by
    by_cases z : r = h.n
    · subst z
      rw [bnd_same] at q; cases q
      exact ⟨Nat.lt_succ_self _, c, if_pos rfl, x⟩
    · rw [bnd_ne z] at q
      obtain ⟨l, d, hd, y⟩ := S.bwd r a q
      exact ⟨Nat.lt_succ_of_lt l, d, by show (if r = h.n then some c else h.c r) = some d; rw [if_neg z]; exact hd,
        y.mono S (Ext.bound S e) (upd_ne fun w => S.free e r (by rw [q, w]))⟩
  inj := fun r q a h1 h2 => by
    by_cases z : r = h.n
    · by_cases w : q = h.n
      · rw [z, w]
      · subst z
        rw [bnd_same] at h1; cases h1
        rw [bnd_ne w] at h2
        exact absurd h2 (S.free e q)
    · rw [bnd_ne z] at h1
      by_cases w : q = h.n
      · subst w
        rw [bnd_same] at h2; cases h2
        exact absurd h1 (S.free e r)
      · rw [bnd_ne w] at h2
        exact S.inj r q a h1 h2
  priv := fun a q => ⟨(Ext.laid S e).there a (S.priv a q).1, fun r w => by
    by_cases z : r = h.n
    · subst z
      rw [bnd_same] at w
      cases w
      exact (S.priv _ q).1 e
    · rw [bnd_ne z] at w
      exact (S.priv a q).2 r w⟩
/-- a cell is changed -/
theorem Ext.change {r : Nat} {a : Addr} {o : HO} (e : β r = some a) : Ext β H β (upd H a o) :=
  ⟨fun _ _ q => q, fun b u q n => by rw [upd_ne (fun z => n r (by rw [e, z]))]; exact q, fun _ _ q => .inl q, fun b q => by
    by_cases z : b = a
    · subst z; rw [upd_same]; simp
    · rw [upd_ne z]; exact q⟩
theorem Sim.change (S : Sim L β H h) {r : Nat} {a : Addr} {o : HO} {c : Cell} (e : β r = some a) (x : CR L β (upd H a o) a c) : Sim L β (upd H a o) (h.set r c) where
  fwd := fun q d z => by
    by_cases w : q = r
    · subst w; exact ⟨a, e⟩
    · exact S.fwd q d (by have : (if q = r then some c else h.c q) = some d := z; rwa [if_neg w] at this)
  bwd := fun q b z => by
    obtain ⟨l, d, hd, y⟩ := S.bwd q b z
    by_cases w : q = r
    · subst w
      rw [e] at z; cases z
      exact ⟨l, c, if_pos rfl, x⟩
    · refine ⟨l, d, by show (if q = r then some c else h.c q) = some d; rw [if_neg w]; exact hd, y.mono S (Ext.change e) (upd_ne fun u => w (S.inj q r a (by rw [z, u]) e))⟩
  inj := S.inj
  priv := fun b q => ⟨(Ext.change e).there b (S.priv b q).1, (S.priv b q).2⟩
theorem Sim.at (S : Sim L β H h) {r : Nat} {c : Cell} (e : h.c r = some c) : ∃ a, β r = some a ∧ CR L β H a c := by
  obtain ⟨a, q⟩ := S.fwd r c e
  obtain ⟨_, d, hd, x⟩ := S.bwd r a q
  rw [e] at hd; cases hd
  exact ⟨a, q, x⟩
end

/-! ### slots -/
structure ER (L : Lk) (β : Bt) (H : Hp) (σ : L2.St) (ρ : Env) : Prop where
  len : σ.length = ρ.length
  get : ∀ (i : Nat) (x : Val), ρ[i]? = some (some x) → ∃ v, σ[i]? = some (some v) ∧ VR L β H v x
section
variable {L : Lk} {β β' β2 : Bt} {H H' H2 : Hp} {h : Heap} {σ : L2.St} {ρ : Env}
theorem ER.mono (S : Sim L β H h) (x : Ext β H β' H') (R : ER L β H σ ρ) : ER L β' H' σ ρ :=
  ⟨R.len, fun i v e => by obtain ⟨u, a, b⟩ := R.get i v e; exact ⟨u, a, b.mono S x⟩⟩
theorem ER.set (R : ER L β H σ ρ) {v : V} {x : Val} (r : VR L β H v x) (i : Nat) : ER L β H (σ.set i (some v)) (ρ.set i (some x)) :=
  ⟨by rw [List.length_set, List.length_set]; exact R.len, fun j y e => by
    by_cases z : i = j
    · subst z
      have hl : i < ρ.length := by
        have := (List.getElem?_eq_some_iff.mp e).1
        rwa [List.length_set] at this
      rw [List.getElem?_set_self hl] at e
      cases e
      exact ⟨v, List.getElem?_set_self (by rw [R.len]; exact hl), r⟩
    · rw [List.getElem?_set_ne z] at e
      rw [List.getElem?_set_ne z]
      exact R.get j y e⟩
theorem ER.gone (R : ER L β H σ ρ) (i : Nat) : ER L β H (σ.set i none) (ρ.set i none) :=
  ⟨by rw [List.length_set, List.length_set]; exact R.len, fun j y e => by
    by_cases z : i = j
    · subst z
      have hl : i < ρ.length := by
        have := (List.getElem?_eq_some_iff.mp e).1
        rwa [List.length_set] at this
      rw [List.getElem?_set_self hl] at e
      cases e
    · rw [List.getElem?_set_ne z] at e
      rw [List.getElem?_set_ne z]
      exact R.get j y e⟩
theorem ER.wipe (R : ER L β H σ ρ) : ∀ (vs : List Nat), ER L β H (L2.wipe σ vs) (wipeS ρ vs)
  | [] => R
  | i :: vs => ER.gone (ER.wipe R vs) i
end

/-! ### what is wanted of an end -/
/-- an exception as it lies -/
def ExR (L : Lk) (H : Hp) (cls : Value) (d : Option Addr) (x : Exc) : Prop :=
  cls = .ref (L.ca x.c) ∧ ((x.f = [] ∧ d = none) ∨ ∃ (v : Val) (dd : Addr) (i : Int), x.f = [(0, v)] ∧ v = .int i ∧ d = some dd ∧ H dd = some (.xd [("line", .int i)]))
def Pst (L : Lk) (β : Bt) (H : Hp) (o : Out Val) (Q : VK) (E : XK) : Prop := match o with
  | .ok v h' => ∀ u β' H', Ext β H β' H' → Sim L β' H' h' → VR L β' H' u v → Q u H'
  | .exc x h' => ∀ cls d β' H', Ext β H β' H' → Sim L β' H' h' → ExR L H' cls d x → E cls d H'
  | .bad => False
def Psts (L : Lk) (β : Bt) (H : Hp) (o : Out (List Val)) (Q : List V → Hp → Prop) (E : XK) : Prop := match o with
  | .ok vs h' => ∀ us β' H', Ext β H β' H' → Sim L β' H' h' → VRs L β' H' us vs → Q us H'
  | .exc x h' => ∀ cls d β' H', Ext β H β' H' → Sim L β' H' h' → ExR L H' cls d x → E cls d H'
  | .bad => False
section
variable {L : Lk} {β β' β2 : Bt} {H H' H2 : Hp} {Q Q' : VK} {E : XK} {o : Out Val}
theorem Pst.mono (x : Ext β H β' H') (p : Pst L β H o Q E) : Pst L β' H' o Q E := by
  cases o with
  | ok v h' => exact fun u β2 H2 y s r => p u β2 H2 (x.trans y) s r
  | exc x' h' => exact fun c d β2 H2 y s r => p c d β2 H2 (x.trans y) s r
  | bad => exact p
theorem Psts.mono {o : Out (List Val)} {Q : List V → Hp → Prop} (x : Ext β H β' H') (p : Psts L β H o Q E) : Psts L β' H' o Q E := by
  cases o with
  | ok v h' => exact fun u β2 H2 y s r => p u β2 H2 (x.trans y) s r
  | exc x' h' => exact fun c d β2 H2 y s r => p c d β2 H2 (x.trans y) s r
  | bad => exact p
/-- from a whole to its first part -/
theorem Pst.first {f : Val → Heap → Out Val} (p : Pst L β H (o.bind f) Q E)
    (k : ∀ v h1 u β1 H1, o = .ok v h1 → Ext β H β1 H1 → Sim L β1 H1 h1 → VR L β1 H1 u v → Pst L β1 H1 (f v h1) Q E → Q' u H1) : Pst L β H o Q' E := by
  cases o with
  | ok v h' => exact fun u β1 H1 x s r => k v h' u β1 H1 rfl x s r (Pst.mono x p)
  | exc x h' => exact p
  | bad => exact p
theorem Psts.first {f : Val → Heap → Out (List Val)} {Q : List V → Hp → Prop} (p : Psts L β H (o.bind f) Q E)
    (k : ∀ v h1 u β1 H1, o = .ok v h1 → Ext β H β1 H1 → Sim L β1 H1 h1 → VR L β1 H1 u v → Psts L β1 H1 (f v h1) Q E → Q' u H1) : Pst L β H o Q' E := by
  cases o with
  | ok v h' => exact fun u β1 H1 x s r => k v h' u β1 H1 rfl x s r (Psts.mono x p)
  | exc x h' => exact p
  | bad => exact p
theorem Pst.firsts {o : Out (List Val)} {f : List Val → Heap → Out Val} {Q' : List V → Hp → Prop} (p : Pst L β H (o.bind f) Q E)
    (k : ∀ v h1 u β1 H1, o = .ok v h1 → Ext β H β1 H1 → Sim L β1 H1 h1 → VRs L β1 H1 u v → Pst L β1 H1 (f v h1) Q E → Q' u H1) : Psts L β H o Q' E := by
  cases o with
  | ok v h' => exact fun u β1 H1 x s r => k v h' u β1 H1 rfl x s r (Pst.mono x p)
  | exc x h' => exact p
  | bad => exact p
theorem Psts.firsts {o : Out (List Val)} {f : List Val → Heap → Out (List Val)} {Q Q' : List V → Hp → Prop} (p : Psts L β H (o.bind f) Q E)
    (k : ∀ v h1 u β1 H1, o = .ok v h1 → Ext β H β1 H1 → Sim L β1 H1 h1 → VRs L β1 H1 u v → Psts L β1 H1 (f v h1) Q E → Q' u H1) : Psts L β H o Q' E := by
  cases o with
  | ok v h' => exact fun u β1 H1 x s r => k v h' u β1 H1 rfl x s r (Psts.mono x p)
  | exc x h' => exact p
  | bad => exact p
end

/-! ### the readings that MP gives -/
def tI (L : Lk) (F : Fns) (W : WX) (e : E) : TE := fun σ H Q => ∃ (β : Bt) (h : Heap) (ρ : Env), Sim L β H h ∧ ER L β H σ ρ ∧ Pst L β H (evE L.T F e ρ h) Q fun c d H' => W c d σ H'
def tIs (L : Lk) (F : Fns) (W : WX) (es : List E) : TA := fun σ H Q => ∃ (β : Bt) (h : Heap) (ρ : Env), Sim L β H h ∧ ER L β H σ ρ ∧ Psts L β H (evEs L.T F es ρ h) Q fun c d H' => W c d σ H'
/-- the same as a test -/
def tT (L : Lk) (F : Fns) (W : WX) (e : E) : TT := fun σ H Q => ∃ (β : Bt) (h : Heap) (ρ : Env), Sim L β H h ∧ ER L β H σ ρ ∧
  match evE L.T F e ρ h with
  | .ok v h' => ∃ b, truthy h' v = some b ∧ ∀ β' H', Ext β H β' H' → Sim L β' H' h' → Q b H'
  | .exc x h' => ∀ cls d β' H', Ext β H β' H' → Sim L β' H' h' → ExR L H' cls d x → W cls d σ H'
  | .bad => False

/-- the rule is chosen where it is asked -/
theorem pwE {X : Cx} {e : Expr} {t : TE} (k : ∀ pins s σ H Q, Inv X pins σ H s → t σ H Q → ∃ t', PE X e t' ∧ t' σ H Q) : PE X e t :=
  ⟨fun pins s σ H Q I q => by obtain ⟨t', p, q'⟩ := k pins s σ H Q I q; exact p.run pins s σ H Q I q'⟩
theorem pwT {X : Cx} {e : Expr} {t : TT} (k : ∀ pins s σ H Q, Inv X pins σ H s → t σ H Q → ∃ t', PT X e t' ∧ t' σ H Q) : PT X e t :=
  ⟨fun pins s σ H Q I q => by obtain ⟨t', p, q'⟩ := k pins s σ H Q I q; exact p.run pins s σ H Q I q'⟩
theorem pwA {X : Cx} {es : List Expr} {t : TA} (k : ∀ pins s σ H Q, Inv X pins σ H s → t σ H Q → ∃ t', PA X es t' ∧ t' σ H Q) : PA X es t :=
  ⟨fun pos pins s σ H Q I q => by obtain ⟨t', p, q'⟩ := k pins s σ H Q I q; exact p.run pos pins s σ H Q I q'⟩
theorem pwS {X : Cx} {st : Stmt} {t : TS} (k : ∀ pins s σ H D, Inv X pins σ H s → t D σ H → ∃ t', PS X st t' ∧ t' D σ H) : PS X st t :=
  ⟨fun pins s σ H D I q => by obtain ⟨t', p, q'⟩ := k pins s σ H D I q; exact p.run pins s σ H D I q'⟩
theorem pwSs {X : Cx} {st : List Stmt} {t : TS} (k : ∀ pins s σ H D, Inv X pins σ H s → t D σ H → ∃ t', PSs X st t' ∧ t' D σ H) : PSs X st t :=
  ⟨fun pins s σ H D I q => by obtain ⟨t', p, q'⟩ := k pins s σ H D I q; exact p.run pins s σ H D I q'⟩
theorem pwO {X : Cx} {f : Value → Value → Sem Value} {r : R2} (k : ∀ pins s σ H x y Q, Inv X pins σ H s → r x y H Q → ∃ r', OpR X f r' ∧ r' x y H Q) : OpR X f r := by
  intro pins s σ H x y v u Q I rx ry q
  obtain ⟨r', p, q'⟩ := k pins s σ H x y Q I q
  exact p pins s σ H x y v u Q I rx ry q'

section
variable {L : Lk} {F : Fns} {W : WX} {β : Bt} {H : Hp} {h : Heap} {σ : L2.St} {ρ : Env}
theorem tI_of {e : E} {Q : VK} (S : Sim L β H h) (R : ER L β H σ ρ) (p : Pst L β H (evE L.T F e ρ h) Q fun c d H' => W c d σ H') : tI L F W e σ H Q := ⟨β, h, ρ, S, R, p⟩
theorem tIs_of {es : List E} {Q : List V → Hp → Prop} (S : Sim L β H h) (R : ER L β H σ ρ) (p : Psts L β H (evEs L.T F es ρ h) Q fun c d H' => W c d σ H') : tIs L F W es σ H Q := ⟨β, h, ρ, S, R, p⟩
end
end MP

/-! Mp1b: operators and comparisons by values -/
namespace MP
open PySem PySem.Spec PyProof.Rows L2

mutual
def toP : D → PyData
  | .non => .none
  | .bl b => .bool b
  | .int i => .int i
  | .str s => .str ⟨s.toArray⟩
  | .lst xs => .list (toPs xs)
  | .tup xs => .tuple (toPs xs)
def toPs : List D → List PyData
  | [] => []
  | x :: xs => toP x :: toPs xs
end
theorem str_beq (x y : List Nat) : ((⟨x.toArray⟩ : PySem.Str) == ⟨y.toArray⟩) = (x == y) := by
  by_cases e : x = y
  · subst e; simp
  · have : (⟨x.toArray⟩ : PySem.Str) ≠ ⟨y.toArray⟩ := fun q => e (by simpa using q)
    rw [beq_eq_false_iff_ne.mpr this, beq_eq_false_iff_ne.mpr e]
mutual
theorem eqv_toP : ∀ d e : D, PyData.eqv (toP d) (toP e) = D.eqv d e
  | .non, e => by cases e <;> simp [toP, PyData.eqv, D.eqv]
  | .bl a, e => by cases e <;> simp [toP, PyData.eqv, D.eqv]
  | .int a, e => by cases e <;> simp [toP, PyData.eqv, D.eqv]
  | .str a, e => by
    cases e with
    | str b => simp only [toP, PyData.eqv, D.eqv]; exact str_beq a b
    | _ => simp [toP, PyData.eqv, D.eqv]
  | .lst xs, e => by
    cases e with
    | lst ys => simp only [toP, PyData.eqv, D.eqv]; exact eqvs_toPs xs ys
    | _ => simp [toP, PyData.eqv, D.eqv]
  | .tup xs, e => by
    cases e with
    | tup ys => simp only [toP, PyData.eqv, D.eqv]; exact eqvs_toPs xs ys
    | _ => simp [toP, PyData.eqv, D.eqv]
theorem eqvs_toPs : ∀ xs ys : List D, PyData.eqvAll (toPs xs) (toPs ys) = D.eqvs xs ys
  | [], ys => by cases ys <;> simp [toPs, PyData.eqvAll, D.eqvs]
  | x :: xs, ys => by
    cases ys with
    | nil => simp [toPs, PyData.eqvAll, D.eqvs]
    | cons y ys => simp only [toPs, PyData.eqvAll, D.eqvs]; rw [eqv_toP x y, eqvs_toPs xs ys]
end
theorem any_toPs (d : D) : ∀ xs : List D, ((toPs xs).any fun z => PyData.eqv z (toP d)) = xs.any fun z => z.eqv d
  | [] => rfl
  | x :: xs => by simp only [toPs, List.any_cons, eqv_toP, any_toPs d xs]

section
variable {L : Lk} {β : Bt} {H : Hp} {h : Heap}
theorem mapO_toD (n : Nat) (ih : ∀ v a d, toD h n a = some d → VR L β H v a → Dp L.K H v (toP d) ∧ PyData.canLay0 (toP d) = true ∧ PyData.depth (toP d) ≤ n) :
    ∀ (as : List Val) (vs : List V) (ds : List D), mapO (toD h n) as = some ds → VRs L β H vs as → DpAll L.K H vs (toPs ds) ∧ PyData.canLayAll0 (toPs ds) = true ∧ PyData.depthAll (toPs ds) ≤ n
  | [], _, ds, e, .nil => by
    simp only [mapO] at e
    cases e
    exact ⟨.nil, by simp [toPs, PyData.canLayAll0], by simp [toPs, PyData.depthAll]⟩
  | a :: as, _, ds, e, .cons r t => by
    simp only [mapO] at e
    split at e
    · rename_i b bs e1 e2
      cases e
      obtain ⟨h1, h2, h3⟩ := ih _ _ _ e1 r
      obtain ⟨k1, k2, k3⟩ := mapO_toD n ih as _ _ e2 t
      refine ⟨.cons h1 k1, by simp [toPs, PyData.canLayAll0, h2, k2], ?_⟩
      simp only [toPs, PyData.depthAll]
      omega
    · cases e
theorem toD_ok (S : Sim L β H h) : ∀ (n : Nat) (v : V) (a : Val) (d : D), toD h n a = some d → VR L β H v a → Dp L.K H v (toP d) ∧ PyData.canLay0 (toP d) = true ∧ PyData.depth (toP d) ≤ n
  | 0, _, _, _, e, _ => by simp [toD] at e
  | n + 1, v, a, d, e, r => by
    have lists : ∀ (as : List Val) (vs : List V) (ds : List D), mapO (toD h n) as = some ds → VRs L β H vs as → DpAll L.K H vs (toPs ds) ∧ PyData.canLayAll0 (toPs ds) = true ∧ PyData.depthAll (toPs ds) ≤ n := fun as vs ds q t => mapO_toD n (toD_ok S n) as vs ds q t
    cases r with
    | non => simp only [toD] at e; cases e; exact ⟨.non, by simp [toP, PyData.canLay0], by simp [toP, PyData.depth]⟩
    | bl b => simp only [toD] at e; cases e; exact ⟨.bl b, by simp [toP, PyData.canLay0], by simp [toP, PyData.depth]⟩
    | int i => simp only [toD] at e; cases e; exact ⟨.int i, by simp [toP, PyData.canLay0], by simp [toP, PyData.depth]⟩
    | str s =>
      simp only [toD] at e
      split at e
      · rename_i q
        cases e
        refine ⟨.str _, ?_, by simp [toP, PyData.depth]⟩
        simp only [toP, PyData.canLay0]
        show (s.toArray.all fun c => decide (c < 0x110000)) = true
        rw [List.all_toArray]
        exact q
      · cases e
    | tup hs rs =>
      rename_i xs
      simp only [toD] at e
      cases q : mapO (toD h n) xs with
      | none => rw [q] at e; cases e
      | some ds =>
        rw [q] at e
        cases e
        obtain ⟨a1, a2, a3⟩ := lists _ _ _ q rs
        exact ⟨by simp only [toP]; exact .tup hs a1, by simp only [toP, PyData.canLay0]; exact a2, by simp only [toP, PyData.depth]; omega⟩
    | @lst a1 vs1 xs hs hn1 rs =>
      simp only [toD] at e
      cases q : mapO (toD h n) xs with
      | none => rw [q] at e; cases e
      | some ds =>
        rw [q] at e
        cases e
        obtain ⟨a1, a2, a3⟩ := lists _ _ _ q rs
        exact ⟨by simp only [toP]; exact .lst (SqL.of hs) a1, by simp only [toP, PyData.canLay0]; exact a2, by simp only [toP, PyData.depth]; omega⟩
    | arr _ _ => simp [toD] at e
    | ref hb =>
      rename_i r
      simp only [toD] at e
      cases q : h.c r with
      | none => rw [q] at e; cases e
      | some c =>
        rw [q] at e
        cases c with
        | lst xs =>
          obtain ⟨a', hb', vs, ha, rs⟩ := S.at q
          rw [hb] at hb'; cases hb'
          have e : (mapO (toD h n) xs).map D.lst = some d := e
          cases q2 : mapO (toD h n) xs with
          | none => rw [q2] at e; cases e
          | some ds =>
            rw [q2] at e
            cases e
            obtain ⟨a1, a2, a3⟩ := lists _ _ _ q2 rs
            exact ⟨by simp only [toP]; exact .lst (SqL.of ha) a1, by simp only [toP, PyData.canLay0]; exact a2, by simp only [toP, PyData.depth]; omega⟩
        | dic _ _ => cases e
        | ins _ _ => cases e
    | fn k => simp [toD] at e
theorem toD_shaped (S : Sim L β H h) {v : V} {a : Val} {d : D} (e : toD h 64 a = some d) (r : VR L β H v a) : Dp L.K H v (toP d) ∧ SeqAt.shaped (toP d) = true := by
  obtain ⟨a1, a2, a3⟩ := toD_ok S 64 v a d e r
  refine ⟨a1, ?_⟩
  show (PyData.canLay0 (toP d) && decide (PyData.depth (toP d) ≤ 64)) = true
  rw [a2, Bool.true_and]
  exact decide_eq_true (by omega)
theorem mapO_shaped (S : Sim L β H h) {vs : List V} {as : List Val} {ds : List D} (e : mapO (toD h 63) as = some ds) (r : VRs L β H vs as) : DpAll L.K H vs (toPs ds) ∧ PyData.canLayAll0 (toPs ds) = true ∧ PyData.depthAll (toPs ds) ≤ 63 := mapO_toD 63 (toD_ok S 63) as vs ds e r
end

/-! ### operators -/
def rOp (L : Lk) (o : Op) : R2 := fun x y H Q => ∃ (β : Bt) (h : Heap) (a b z : Val), Sim L β H h ∧ VR L β H x a ∧ VR L β H y b ∧ opV h o a b = some z ∧ ∀ u β' H', Ext β H β' H' → Sim L β' H' h → VR L β' H' u z → Q u H'
section
variable {X : Cx} {L : Lk}
theorem ite_some {α : Type} {c : Prop} [Decidable c] {a b : α} (e : (if c then some a else none) = some b) : c ∧ a = b := by
  split at e
  · exact ⟨by assumption, Option.some.inj e⟩
  · cases e
theorem sizeL : line = sizeLine := by rw [sizeLine_eq]; rfl
theorem str_app (s t : List Nat) : (⟨s.toArray⟩ : PySem.Str) ++ ⟨t.toArray⟩ = ⟨(s ++ t).toArray⟩ := by
  show PySem.Str.append _ _ = _
  simp [PySem.Str.append]
/-! #### results -/
theorem fin_tup {β : Bt} {H : Hp} {h : Heap} {vs : List V} {xs : List Val} {Q : VK} (S : Sim L β H h) (r : VRs L β H vs xs) (k : ∀ u β' H', Ext β H β' H' → Sim L β' H' h → VR L β' H' u (.tup xs) → Q u H') :
    ∀ p, H p = none → Q (.ref p) (upd H p (.tup vs)) := fun p e => k _ _ _ (Ext.laid S e) (S.laid e) (.tup (SqT.of upd_same) (r.mono S (Ext.laid S e)))
theorem fin_lst {β : Bt} {H : Hp} {h : Heap} {vs : List V} {xs : List Val} {Q : VK} (S : Sim L β H h) (r : VRs L β H vs xs) (k : ∀ u β' H', Ext β H β' H' → Sim L β' H' h → VR L β' H' u (.lst xs) → Q u H') :
    ∀ p, H p = none → Q (.ref p) (upd H p (.lst vs)) := fun p e => k _ _ _ (Ext.laid S e) (S.laid e) (.lst upd_same (S.un e) (r.mono S (Ext.laid S e)))
theorem fin_new {β : Bt} {H : Hp} {h : Heap} {vs : List V} {xs : List Val} {Q : VK} (S : Sim L β H h) (r : VRs L β H vs xs) (k : ∀ u β' H', Ext β H β' H' → Sim L β' H' (h.push (.lst xs)) → VR L β' H' u (.ref h.n) → Q u H') :
    ∀ p, H p = none → Q (.ref p) (upd H p (.lst vs)) := fun p e => k _ _ _ (Ext.bound S e) (S.push e ⟨vs, upd_same, r.mono S (Ext.bound S e)⟩) (.ref bnd_same)

/-! #### arithmetic -/
variable (X L)
theorem o_add (hK : X.K = L.K) : OpR X (binaryOp .Add) (rOp L .add) := by
  refine pwO fun pins s σ H x y Q I q => ?_
  obtain ⟨β, h, a, b, z, S, ra, rb, e, k⟩ := q
  unfold opV at e
  simp only at e
  split at e
  · cases ra; cases rb; cases e
    exact ⟨_, op_add, _, _, rfl, rfl, k _ _ _ .refl S (.int _)⟩
  · obtain ⟨hl, rfl⟩ := ite_some e
    cases ra; cases rb
    refine ⟨_, op_add_str, _, _, rfl, rfl, ?_, ?_⟩
    · show List.length _ + List.length _ ≤ sizeLine
      rw [← sizeL]; exact hl
    · rw [str_app]
      exact k _ _ _ .refl S (.str _)
  · obtain ⟨hl, rfl⟩ := ite_some e
    cases ra with
    | tup ha rxs =>
      cases rb with
      | tup hb rys =>
        rw [← hK] at ha hb
        refine ⟨_, op_catA, _, _, _, _, rfl, rfl, ha, hb, ?_, fun z => ?_, fun _ z => ?_, fun _ _ => fin_tup S (rxs.append rys) k⟩
        · rw [← sizeL, rxs.length, rys.length]; exact hl
        · subst z
          cases rxs
          exact k _ _ _ .refl S (.tup (hK ▸ hb) rys)
        · subst z
          cases rys
          rw [List.append_nil] at k
          exact k _ _ _ .refl S (.tup (hK ▸ ha) rxs)
  · obtain ⟨hl, rfl⟩ := ite_some e
    cases ra with
    | lst ha na rxs =>
      cases rb with
      | lst hb nb rys =>
        exact ⟨_, op_cat, _, _, _, _, rfl, rfl, ha, hb, by rw [← sizeL, rxs.length, rys.length]; exact hl, fin_lst S (rxs.append rys) k⟩
  · split at e
    · rename_i q
      obtain ⟨hl, rfl⟩ := ite_some e
      cases ra with
      | lst ha na rxs =>
        cases rb with
        | ref hb =>
          obtain ⟨a', hb', vs, hv, rys⟩ := S.at q
          rw [hb] at hb'; cases hb'
          exact ⟨_, op_cat, _, _, _, _, rfl, rfl, ha, hv, by rw [← sizeL, rxs.length, rys.length]; exact hl, fin_lst S (rxs.append rys) k⟩
    · cases e
  · split at e
    · rename_i q
      obtain ⟨hl, rfl⟩ := ite_some e
      cases rb with
      | lst hb nb rys =>
        cases ra with
        | ref ha =>
          obtain ⟨a', ha', vs, hv, rxs⟩ := S.at q
          rw [ha] at ha'; cases ha'
          exact ⟨_, op_cat, _, _, _, _, rfl, rfl, hv, hb, by rw [← sizeL, rxs.length, rys.length]; exact hl, fin_lst S (rxs.append rys) k⟩
    · cases e
  · cases e
theorem o_sub : OpR X (binaryOp .Sub) (rOp L .sub) := by
  refine pwO fun pins s σ H x y Q I q => ?_
  obtain ⟨β, h, a, b, z, S, ra, rb, e, k⟩ := q
  unfold opV at e
  simp only at e
  split at e
  · cases ra; cases rb; cases e
    exact ⟨_, op_sub, _, _, rfl, rfl, k _ _ _ .refl S (.int _)⟩
  · cases e
theorem rep_one (c : Nat) : ∀ (n : Nat) (a : Array Nat), (List.replicate n (#[c] : Array Nat)).foldl (· ++ ·) a = a ++ (List.replicate n c).toArray
  | 0, a => by simp
  | n + 1, a => by
    rw [List.replicate_succ, List.foldl_cons, rep_one c n, List.replicate_succ]
    apply Array.ext'
    simp
theorem txt_mul (c : Nat) {n : Int} (h0 : 0 ≤ n) : Txt.mul ⟨#[c]⟩ n = ⟨(List.replicate n.toNat c).toArray⟩ := by
  unfold Txt.mul
  split
  · have : n = 0 := by omega
    subst this
    rfl
  · split
    · rename_i h1 h2
      have : n = 1 := by simpa [PySem.Str.length] using h2
      subst this
      rfl
    · rw [rep_one]
      simp
theorem mul_ok (c : Nat) {n : Int} (h0 : 0 ≤ n) (h1 : n ≤ 1000) : MulOk ⟨#[c]⟩ n := by
  refine ⟨?_, fun h _ => ?_, fun _ _ => ?_⟩
  · rw [decide_eq_false (by omega), decide_eq_false (by omega)]; rfl
  · have hn : 1 ≤ n := by omega
    have : (1 : Int) ≤ (2 ^ 63 - 1) / n := (Int.le_ediv_iff_mul_le (by omega)).mpr (by omega)
    show ¬ ((1 : Int) > _)
    omega
  · unfold PySem.Builtin.Str.tooLong
    show decide _ = false
    refine decide_eq_false ?_
    show ¬ (1 * n.toNat > sizeLine)
    rw [sizeLine_eq]
    omega
theorem op_muls : OpR X (binaryOp .Mult) (fun x y H Q => ∃ c n, x = .str ⟨#[c]⟩ ∧ y = .int n ∧ 0 ≤ n ∧ n ≤ 1000 ∧ Q (.str ⟨(List.replicate n.toNat c).toArray⟩) H) := by
  intro pins s σ H x y v u Q I rx ry ⟨c, n, ex, ey, h0, h1, q⟩
  subst ex ey
  obtain ⟨t, rfl⟩ := rx
  obtain ⟨t', rfl⟩ := ry
  refine PySem.SB.mul (mul_ok c h0 h1) fun t2 k => ?_
  rw [txt_mul c h0]
  exact ⟨.str _, H, I.tok k, ⟨t2, rfl⟩, q⟩
theorem o_mul : OpR X (binaryOp .Mult) (rOp L .mul) := by
  refine pwO fun pins s σ H x y Q I q => ?_
  obtain ⟨β, h, a, b, z, S, ra, rb, e, k⟩ := q
  unfold opV at e
  simp only at e
  split at e
  · obtain ⟨hl, rfl⟩ := ite_some e
    cases ra; cases rb
    exact ⟨_, op_mul, _, _, rfl, rfl, hl, k _ _ _ .refl S (.int _)⟩
  · obtain ⟨hl, rfl⟩ := ite_some e
    cases ra; cases rb
    exact ⟨_, op_muls X, _, _, rfl, rfl, hl.1, hl.2, k _ _ _ .refl S (.str _)⟩
  · cases e
theorem o_fdiv : OpR X (binaryOp .FloorDiv) (rOp L .fdiv) := by
  refine pwO fun pins s σ H x y Q I q => ?_
  obtain ⟨β, h, a, b, z, S, ra, rb, e, k⟩ := q
  unfold opV at e
  simp only at e
  split at e
  · obtain ⟨hl, rfl⟩ := ite_some e
    cases ra; cases rb
    exact ⟨_, op_fdivN, _, _, rfl, rfl, hl, k _ _ _ .refl S (.int _)⟩
  · cases e
theorem o_mod : OpR X (binaryOp .Mod) (rOp L .mod) := by
  refine pwO fun pins s σ H x y Q I q => ?_
  obtain ⟨β, h, a, b, z, S, ra, rb, e, k⟩ := q
  unfold opV at e
  simp only at e
  split at e
  · obtain ⟨hl, rfl⟩ := ite_some e
    cases ra; cases rb
    exact ⟨_, op_modN, _, _, rfl, rfl, hl, k _ _ _ .refl S (.int _)⟩
  · cases e
theorem o_pow : OpR X (binaryOp .Pow) (rOp L .pow) := by
  refine pwO fun pins s σ H x y Q I q => ?_
  obtain ⟨β, h, a, b, z, S, ra, rb, e, k⟩ := q
  unfold opV at e
  simp only at e
  split at e
  · obtain ⟨hl, rfl⟩ := ite_some e
    cases ra; cases rb
    exact ⟨_, op_pow, _, _, rfl, rfl, hl, k _ _ _ .refl S (.int _)⟩
  · cases e

/-! #### order -/
theorem o_lt : OpR X (compareOp .Lt) (rOp L .lt) := by
  refine pwO fun pins s σ H x y Q I q => ?_
  obtain ⟨β, h, a, b, z, S, ra, rb, e, k⟩ := q
  unfold opV at e
  simp only at e
  split at e
  · cases ra; cases rb; cases e
    exact ⟨_, op_lt, _, _, rfl, rfl, k _ _ _ .refl S (.bl _)⟩
  · cases e
theorem o_le : OpR X (compareOp .LtE) (rOp L .le) := by
  refine pwO fun pins s σ H x y Q I q => ?_
  obtain ⟨β, h, a, b, z, S, ra, rb, e, k⟩ := q
  unfold opV at e
  simp only at e
  split at e
  · cases ra; cases rb; cases e
    exact ⟨_, op_le, _, _, rfl, rfl, k _ _ _ .refl S (.bl _)⟩
  · cases e
theorem o_gt : OpR X (compareOp .Gt) (rOp L .gt) := by
  refine pwO fun pins s σ H x y Q I q => ?_
  obtain ⟨β, h, a, b, z, S, ra, rb, e, k⟩ := q
  unfold opV at e
  simp only at e
  split at e
  · cases ra; cases rb; cases e
    exact ⟨_, op_gt, _, _, rfl, rfl, k _ _ _ .refl S (.bl _)⟩
  · cases e
theorem o_ge : OpR X (compareOp .GtE) (rOp L .ge) := by
  refine pwO fun pins s σ H x y Q I q => ?_
  obtain ⟨β, h, a, b, z, S, ra, rb, e, k⟩ := q
  unfold opV at e
  simp only at e
  split at e
  · cases ra; cases rb; cases e
    exact ⟨_, op_ge, _, _, rfl, rfl, k _ _ _ .refl S (.bl _)⟩
  · cases e

/-! #### equality -/
theorem o_eq (hK : X.K = L.K) (hu : X.A.units + 200 < cLine) : OpR X (compareOp .Eq) (rOp L .eq) := by
  refine pwO fun pins s σ H x y Q I q => ?_
  obtain ⟨β, h, a, b, z, S, ra, rb, e, k⟩ := q
  unfold opV eqVal at e
  simp only at e
  split at e
  · rename_i d d' e1 e2
    cases e
    obtain ⟨a1, a2⟩ := toD_shaped S e1 ra
    obtain ⟨b1, b2⟩ := toD_shaped S e2 rb
    rw [← hK] at a1 b1
    refine ⟨_, op_eqD (by omega), _, _, a1, b1, a2, b2, ?_⟩
    rw [eqv_toP]
    exact k _ _ _ .refl S (.bl _)
  · cases e
theorem o_ne (hK : X.K = L.K) (hu : X.A.units + 200 < cLine) : OpR X (compareOp .NotEq) (rOp L .ne) := by
  refine pwO fun pins s σ H x y Q I q => ?_
  obtain ⟨β, h, a, b, z, S, ra, rb, e, k⟩ := q
  unfold opV eqVal at e
  simp only at e
  split at e
  · rename_i d d' e1 e2
    cases e
    obtain ⟨a1, a2⟩ := toD_shaped S e1 ra
    obtain ⟨b1, b2⟩ := toD_shaped S e2 rb
    rw [← hK] at a1 b1
    refine ⟨_, op_neD (by omega), _, _, a1, b1, a2, b2, ?_⟩
    rw [eqv_toP]
    exact k _ _ _ .refl S (.bl _)
  · cases e

/-! #### is -/
theorem op_isFl : OpR X (compareOp .Is) (fun x y H Q => ∃ b, y = .bl b ∧ (∀ c, x ≠ .bl c) ∧ (∀ a, x ≠ .ref a) ∧ (∀ n, x ≠ .ty n) ∧ Q (.bl false) H) := by
  intro pins s σ H x y v u Q I rx ry h
  obtain ⟨b, rfl, n1, n2, n3, q⟩ := h
  cases (show u = Value.bool b from ry)
  have fin : EP X pins σ Q (.bool false) s := ⟨.bl false, H, I, rfl, q⟩
  cases x with
  | non => cases rx; exact wpAny_is_other rfl (by intro z; cases z) fin
  | bl c => exact absurd rfl (n1 c)
  | int i => obtain ⟨t, rfl⟩ := rx; exact wpAny_is_other rfl (by intro z; cases z) fin
  | str i => obtain ⟨t, rfl⟩ := rx; exact wpAny_is_other rfl (by intro z; cases z) fin
  | byt i => obtain ⟨t, rfl⟩ := rx; exact wpAny_is_other rfl (by intro z; cases z) fin
  | flt i => obtain ⟨t, rfl⟩ := rx; exact wpAny_is_other rfl (by intro z; cases z) fin
  | ref a => exact absurd rfl (n2 a)
  | ty n => exact absurd rfl (n3 n)
theorem op_isnotFl : OpR X (compareOp .IsNot) (fun x y H Q => ∃ b, y = .bl b ∧ (∀ c, x ≠ .bl c) ∧ (∀ a, x ≠ .ref a) ∧ (∀ n, x ≠ .ty n) ∧ Q (.bl true) H) := by
  intro pins s σ H x y v u Q I rx ry h
  obtain ⟨b, rfl, n1, n2, n3, q⟩ := h
  cases (show u = Value.bool b from ry)
  have fin : EP X pins σ Q (.bool true) s := ⟨.bl true, H, I, rfl, q⟩
  cases x with
  | non => cases rx; exact wpAny_isNot_other rfl (by intro z; cases z) fin
  | bl c => exact absurd rfl (n1 c)
  | int i => obtain ⟨t, rfl⟩ := rx; exact wpAny_isNot_other rfl (by intro z; cases z) fin
  | str i => obtain ⟨t, rfl⟩ := rx; exact wpAny_isNot_other rfl (by intro z; cases z) fin
  | byt i => obtain ⟨t, rfl⟩ := rx; exact wpAny_isNot_other rfl (by intro z; cases z) fin
  | flt i => obtain ⟨t, rfl⟩ := rx; exact wpAny_isNot_other rfl (by intro z; cases z) fin
  | ref a => exact absurd rfl (n2 a)
  | ty n => exact absurd rfl (n3 n)
theorem VR.isNon {L : Lk} {β : Bt} {H : Hp} {x : V} {a : Val} (r : VR L β H x a) : decide (x = .non) = (match a with | .non => true | _ => false) := by
  cases r <;> simp
theorem o_is : OpR X (compareOp .Is) (rOp L .is) := by
  refine pwO fun pins s σ H x y Q I q => ?_
  obtain ⟨β, h, a, b, z, S, ra, rb, e, k⟩ := q
  unfold opV isVal at e
  simp only at e
  split at e
  · cases rb
    refine ⟨_, op_isN, rfl, ?_⟩
    split at e
    · cases e; cases ra; exact k _ _ _ .refl S (.bl _)
    · rename_i hn
      cases e
      have : decide (x = .non) = false := by
        rw [ra.isNon]
        split
        · exact absurd rfl hn
        · rfl
      rw [this]
      exact k _ _ _ .refl S (.bl _)
  · rename_i bb
    cases rb
    split at e
    · rename_i aa
      cases e; cases ra
      refine ⟨_, op_isBl, _, _, rfl, rfl, ?_⟩
      have : decide (aa = bb) = (aa == bb) := by cases aa <;> cases bb <;> rfl
      rw [this]
      exact k _ _ _ .refl S (.bl _)
    · cases e; cases ra
      exact ⟨_, op_isFl X, _, rfl, (by intro c z; cases z), (by intro c z; cases z), (by intro c z; cases z), k _ _ _ .refl S (.bl _)⟩
    · cases e; cases ra
      exact ⟨_, op_isFl X, _, rfl, (by intro c z; cases z), (by intro c z; cases z), (by intro c z; cases z), k _ _ _ .refl S (.bl _)⟩
    · cases e; cases ra
      exact ⟨_, op_isFl X, _, rfl, (by intro c z; cases z), (by intro c z; cases z), (by intro c z; cases z), k _ _ _ .refl S (.bl _)⟩
    · cases e
  · cases e
theorem o_isnot : OpR X (compareOp .IsNot) (rOp L .isnot) := by
  refine pwO fun pins s σ H x y Q I q => ?_
  obtain ⟨β, h, a, b, z, S, ra, rb, e, k⟩ := q
  unfold opV isVal at e
  simp only at e
  split at e
  · cases rb
    refine ⟨_, op_notN, rfl, ?_⟩
    split at e
    · cases e; cases ra; exact k _ _ _ .refl S (.bl _)
    · rename_i hn
      cases e
      have : decide (x = .non) = false := by
        rw [ra.isNon]
        split
        · exact absurd rfl hn
        · rfl
      rw [this]
      exact k _ _ _ .refl S (.bl _)
  · rename_i bb
    cases rb
    split at e
    · rename_i aa
      cases e; cases ra
      refine ⟨_, op_notBl, _, _, rfl, rfl, ?_⟩
      have : decide (aa = bb) = (aa == bb) := by cases aa <;> cases bb <;> rfl
      rw [this]
      exact k _ _ _ .refl S (.bl _)
    · cases e; cases ra
      exact ⟨_, op_isnotFl X, _, rfl, (by intro c z; cases z), (by intro c z; cases z), (by intro c z; cases z), k _ _ _ .refl S (.bl _)⟩
    · cases e; cases ra
      exact ⟨_, op_isnotFl X, _, rfl, (by intro c z; cases z), (by intro c z; cases z), (by intro c z; cases z), k _ _ _ .refl S (.bl _)⟩
    · cases e; cases ra
      exact ⟨_, op_isnotFl X, _, rfl, (by intro c z; cases z), (by intro c z; cases z), (by intro c z; cases z), k _ _ _ .refl S (.bl _)⟩
    · cases e
  · cases e

/-! #### in -/
theorem op_inDic (hu : X.A.units + 200 < cLine) : OpR X (compareOp .In) (fun y x H Q => ∃ a o, x = .ref a ∧ DGet H a y o ∧ Q (.bl o.isSome) H) := by
  intro pins s σ H x y v u Q I rx ry h
  obtain ⟨a, o, rfl, g, q⟩ := h
  cases ry
  exact d_in (by omega) I g rx fun s' I' => ⟨.bl _, H, I', rfl, q⟩
theorem op_notinDic (hu : X.A.units + 200 < cLine) : OpR X (compareOp .NotIn) (fun y x H Q => ∃ a o, x = .ref a ∧ DGet H a y o ∧ Q (.bl (!o.isSome)) H) := by
  intro pins s σ H x y v u Q I rx ry h
  obtain ⟨a, o, rfl, g, q⟩ := h
  cases ry
  exact d_notIn (by omega) I g rx fun s' I' => ⟨.bl _, H, I', rfl, q⟩
/-- in of data: a list, a tuple -/
def rInDT (K : PySem.W.Frag) (neg : Bool) : R2 := fun x y H Q => ∃ d ds, Dp K H x d ∧ (Dp K H y (.list ds) ∨ Dp K H y (.tuple ds)) ∧ SeqAt.shaped d = true ∧ PyData.canLayAll0 ds = true ∧ Q (.bl (if neg then !(ds.any fun z => PyData.eqv z d) else ds.any fun z => PyData.eqv z d)) H
theorem op_inDT (hu : X.A.units + 200 < cLine) : OpR X (compareOp .In) (rInDT X.K false) := by
  intro pins s σ H x y v u Q I rx ry h
  obtain ⟨d, ds, hd, he, sd, se, q⟩ := h
  obtain ⟨as, r1⟩ := Dp.reads I d x v hd rx
  rcases he with he | he
  · obtain ⟨bs, r2⟩ := Dp.reads I _ y u he ry
    exact SeqAt.in_list_reads r2 r1 se (SeqAt.canLay_of_shaped sd) (PyProof.Rows.room_in_shaped sd (by omega)) ⟨.bl _, H, I, rfl, q⟩
  · obtain ⟨bs, r2⟩ := Dp.reads I _ y u he ry
    exact SeqAt.in_tuple_reads r2 r1 se (SeqAt.canLay_of_shaped sd) (PyProof.Rows.room_in_shaped sd (by omega)) ⟨.bl _, H, I, rfl, q⟩
theorem op_notInDT (hu : X.A.units + 200 < cLine) : OpR X (compareOp .NotIn) (rInDT X.K true) := by
  intro pins s σ H x y v u Q I rx ry h
  obtain ⟨d, ds, hd, he, sd, se, q⟩ := h
  obtain ⟨as, r1⟩ := Dp.reads I d x v hd rx
  rcases he with he | he
  · obtain ⟨bs, r2⟩ := Dp.reads I _ y u he ry
    exact SeqAt.notIn_list_reads r2 r1 se (SeqAt.canLay_of_shaped sd) (PyProof.Rows.room_in_shaped sd (by omega)) ⟨.bl _, H, I, rfl, q⟩
  · obtain ⟨bs, r2⟩ := Dp.reads I _ y u he ry
    exact SeqAt.notIn_tuple_reads r2 r1 se (SeqAt.canLay_of_shaped sd) (PyProof.Rows.room_in_shaped sd (by omega)) ⟨.bl _, H, I, rfl, q⟩
end

/-! #### dicts' keys -/
theorem kOf_is {a : Val} (e : isKey a = true) : ∃ k, kOf a = some k := by
  cases a <;> first | exact ⟨_, rfl⟩ | (simp [isKey] at e)
theorem kOf_V {L : Lk} {β : Bt} {H : Hp} {v : V} {a : Val} {k : Key} (r : VR L β H v a) (e : kOf a = some k) : v = kV k := by
  cases a with
  | int i => cases r; cases e; rfl
  | str s => cases r; cases e; rfl
  | _ => cases e
theorem kOf_eq {a b : Val} {j k : Key} (ea : kOf a = some j) (eb : kOf b = some k) : keyEq a b = decide (j = k) := by
  cases a with
  | int i =>
    cases ea
    cases b with
    | int i' => cases eb; simp only [keyEq]; rw [key_ll]
    | str s' => cases eb; simp [keyEq]
    | _ => cases eb
  | str s =>
    cases ea
    cases b with
    | int i' => cases eb; simp [keyEq]
    | str s' =>
      cases eb
      simp only [keyEq]
      rw [key_rr]
      by_cases q : s = s'
      · subst q; simp
      · simp [q]
    | _ => cases eb
  | _ => cases ea
section
variable {L : Lk} {β : Bt} {H : Hp}
theorem KR.get : ∀ {ps : List (Key × V)} {qs : List (Val × Val)} {a : Val} {k : Key}, KR L β H ps qs → kOf a = some k →
    (∀ x, dGet qs a = some x → ∃ v, valV ps k = some v ∧ VR L β H v x) ∧ (dGet qs a = none → valV ps k = none)
  | _, _, a, k, .nil, _ => ⟨fun x e => by simp [dGet] at e, fun _ => rfl⟩
  | _, _, a, k, .cons (k := j) (v := v) (a := b) (x := x) eb r t, e => by
    have q := kOf_eq eb e
    obtain ⟨i1, i2⟩ := KR.get t e
    by_cases z : j = k
    · subst z
      rw [decide_eq_true rfl] at q
      simp only [dGet, q, if_true]
      rw [valV_pos rfl]
      exact ⟨fun y ey => by cases ey; exact ⟨v, rfl, r⟩, fun ey => by cases ey⟩
    · rw [decide_eq_false z] at q
      simp only [dGet, q]
      rw [valV_neg (show ¬ (j, v).1 = k from z)]
      exact ⟨i1, i2⟩
theorem KR.some_of {ps : List (Key × V)} {qs : List (Val × Val)} {a : Val} {k : Key} (r : KR L β H ps qs) (e : kOf a = some k) : (valV ps k).isSome = (dGet qs a).isSome := by
  obtain ⟨h1, h2⟩ := r.get e
  cases q : dGet qs a with
  | none => rw [h2 q]; rfl
  | some x => obtain ⟨v, ev, _⟩ := h1 x q; rw [ev]; rfl
theorem KR.length : ∀ {ps : List (Key × V)} {qs : List (Val × Val)}, KR L β H ps qs → ps.length = qs.length
  | _, _, .nil => rfl
  | _, _, .cons _ _ t => congrArg Nat.succ (KR.length t)
theorem KR.any {a : Val} {k : Key} (e : kOf a = some k) : ∀ {ps : List (Key × V)} {qs : List (Val × Val)}, KR L β H ps qs → (ps.any fun kv => decide (kv.1 = k)) = dHas qs a
  | _, _, .nil => rfl
  | _, _, .cons (k := j) (a := b) eb r t => by
    unfold dHas
    rw [List.any_cons, List.any_cons]
    show (decide (j = k) || _) = (keyEq b a || _)
    rw [kOf_eq eb e]
    exact congrArg _ (KR.any e t)
theorem KR.drop {a : Val} {k : Key} (e : kOf a = some k) : ∀ {ps : List (Key × V)} {qs : List (Val × Val)}, KR L β H ps qs → KR L β H (dropK ps k) (dDrop qs a)
  | _, _, .nil => .nil
  | _, _, .cons (k := j) (v := v) (a := b) (x := x) eb r t => by
    have i := KR.drop e t
    unfold dropK dDrop at i ⊢
    rw [List.filter_cons, List.filter_cons, kOf_eq eb e]
    by_cases z : j = k
    · subst z
      simpa using i
    · rw [if_pos (by simpa using z), if_pos (by simpa using z)]
      exact .cons eb r i
theorem KR.repl {a : Val} {k : Key} (e : kOf a = some k) {v : V} {x : Val} (r : VR L β H v x) : ∀ {ps : List (Key × V)} {qs : List (Val × Val)}, KR L β H ps qs →
    KR L β H (ps.map fun kv => if kv.1 = k then (kv.1, v) else kv) (qs.map fun p => if keyEq p.1 a = true then (p.1, x) else p)
  | _, _, .nil => .nil
  | _, _, .cons (k := j) eb r' t => by
    have i := KR.repl e r t
    rw [List.map_cons, List.map_cons]
    simp only [kOf_eq eb e]
    by_cases z : j = k
    · subst z
      simp only [if_true, decide_true]
      exact .cons eb r i
    · simp only [if_neg z, decide_eq_false z]
      exact .cons eb r' i
theorem KR.snoc {a : Val} {k : Key} (e : kOf a = some k) {v : V} {x : Val} (r : VR L β H v x) : ∀ {ps : List (Key × V)} {qs : List (Val × Val)}, KR L β H ps qs → KR L β H (ps ++ [(k, v)]) (qs ++ [(a, x)])
  | _, _, .nil => .cons e r .nil
  | _, _, .cons eb r' t => .cons eb r' (KR.snoc e r t)
theorem KR.put {ps : List (Key × V)} {qs : List (Val × Val)} {a : Val} {k : Key} (t : KR L β H ps qs) (e : kOf a = some k) {v : V} {x : Val} (r : VR L β H v x) : KR L β H (putK ps k v) (dPut qs a x) := by
  unfold putK dPut
  rw [t.any e]
  split
  · exact t.repl e r
  · exact t.snoc e r
end

/-- a dict's cell is read -/
theorem dic_rd {L : Lk} {β : Bt} {H : Hp} {h : Heap} (S : Sim L β H h) {a : Addr} {r : Nat} {kvs : List (Val × Val)} {lk : Bool} (e : β r = some a) (q : h.c r = some (.dic kvs lk)) : ∃ ps, Rd H a (.dK ps) ∧ KR L β H ps kvs := by
  obtain ⟨a', e', x⟩ := S.at q
  rw [e] at e'; cases e'
  cases lk with
  | false => obtain ⟨ps, hp, kr⟩ := x; exact ⟨ps, .inl hp, kr⟩
  | true => obtain ⟨ps, o, hp, kr⟩ := x; exact ⟨ps, .inr ⟨o, hp⟩, kr⟩
theorem dic_get {L : Lk} {β : Bt} {H : Hp} {h : Heap} (S : Sim L β H h) {a : Addr} {r : Nat} {kvs : List (Val × Val)} {lk : Bool} (e : β r = some a) (q : h.c r = some (.dic kvs lk)) {y : V} {b : Val} (rb : VR L β H y b) (hk : isKey b = true) :
    ∃ ps k, KR L β H ps kvs ∧ kOf b = some k ∧ DGet H a y (valV ps k) := by
  obtain ⟨ps, hp, kr⟩ := dic_rd S e q
  obtain ⟨k, ek⟩ := kOf_is hk
  exact ⟨ps, k, kr, ek, .inl ⟨ps, k, hp, kOf_V rb ek, rfl⟩⟩
theorem seq_of {L : Lk} {β : Bt} {H : Hp} {h : Heap} (S : Sim L β H h) {y : V} {b : Val} {ys : List Val} (rb : VR L β H y b) (e : seqOf h b = some ys) : ∃ a vs, y = .ref a ∧ VRs L β H vs ys ∧ (SqL L.K H a vs ∨ SqT L.K H a vs) := by
  cases rb with
  | tup hs rs => simp only [seqOf] at e; cases e; exact ⟨_, _, rfl, rs, .inr hs⟩
  | lst hs _ rs => simp only [seqOf] at e; cases e; exact ⟨_, _, rfl, rs, .inl (SqL.of hs)⟩
  | arr hs rs => simp only [seqOf] at e; cases e; exact ⟨_, _, rfl, rs, .inl hs.sql⟩
  | ref hb =>
    simp only [seqOf] at e
    split at e
    · rename_i q
      cases e
      obtain ⟨a', hb', vs, ha, rs⟩ := S.at q
      rw [hb] at hb'; cases hb'
      exact ⟨_, _, rfl, rs, .inl (SqL.of ha)⟩
    · cases e
  | _ => simp only [seqOf] at e; cases e

section
variable (X : Cx) (L : Lk)
theorem in_seq (neg : Bool) (hK : X.K = L.K) {β : Bt} {H : Hp} {h : Heap} {x y : V} {a b : Val} {ys : List Val} {d : D} {ds : List D} {Q : VK} (S : Sim L β H h) (ra : VR L β H x a) (rb : VR L β H y b) (es : seqOf h b = some ys)
    (e1 : toD h 64 a = some d) (e2 : mapO (toD h 63) ys = some ds) (q : Q (.bl (if neg then !(ds.any fun z => z.eqv d) else ds.any fun z => z.eqv d)) H) : rInDT X.K neg x y H Q := by
  obtain ⟨a1, a2⟩ := toD_shaped S e1 ra
  obtain ⟨a', vs, rfl, rs, hs⟩ := seq_of S rb es
  obtain ⟨b1, b2, b3⟩ := mapO_shaped S e2 rs
  refine ⟨_, _, hK ▸ a1, ?_, a2, b2, ?_⟩
  · rw [hK]
    rcases hs with hs | hs
    · exact .inl (.lst hs b1)
    · exact .inr (.tup hs b1)
  · rw [any_toPs]; exact q
theorem o_in (hK : X.K = L.K) (hu : X.A.units + 200 < cLine) : OpR X (compareOp .In) (rOp L .isin) := by
  refine pwO fun pins s σ H x y Q I q => ?_
  obtain ⟨β, h, a, b, z, S, ra, rb, e, k⟩ := q
  simp only [opV] at e
  have seqs : ∀ ys, seqOf h b = some ys → (∀ d ds, toD h 64 a = some d → mapO (toD h 63) ys = some ds → z = .bl (ds.any fun z => z.eqv d) → ∃ r', OpR X (compareOp .In) r' ∧ r' x y H Q) := fun ys es d ds e1 e2 ez => by
    subst ez
    exact ⟨_, op_inDT X hu, in_seq X L false hK S ra rb es e1 e2 (k _ _ _ .refl S (.bl _))⟩
  unfold inVal at e
  split at e
  · rename_i t
    cases rb
    split at e
    · rename_i c
      cases e
      cases ra
      refine ⟨_, op_in_sign, c, _, rfl, rfl, ?_⟩
      rw [show decide (c ∈ (⟨t.toArray⟩ : PySem.Str).cps.toList) = t.contains c by simp]
      exact k _ _ _ .refl S (.bl _)
    · cases e
  · rename_i r
    cases rb with
    | ref hb =>
      split at e
      · rename_i kvs lk q
        split at e
        · rename_i hk
          cases e
          obtain ⟨ps, kk, kr, ek, g⟩ := dic_get S hb q ra hk
          refine ⟨_, op_inDic X hu, _, _, rfl, g, ?_⟩
          rw [kr.some_of ek]
          exact k _ _ _ .refl S (.bl _)
        · cases e
      · rename_i ys q
        split at e
        · rename_i d ds e1 e2
          cases e
          exact seqs ys (by simp only [seqOf, q]) d ds e1 e2 rfl
        · cases e
      · cases e
  · rename_i ys
    split at e
    · rename_i d ds e1 e2
      cases e
      exact seqs ys rfl d ds e1 e2 rfl
    · cases e
  · rename_i ys
    split at e
    · rename_i d ds e1 e2
      cases e
      exact seqs ys rfl d ds e1 e2 rfl
    · cases e
  · cases e
theorem o_notin (hK : X.K = L.K) (hu : X.A.units + 200 < cLine) : OpR X (compareOp .NotIn) (rOp L .notin) := by
  refine pwO fun pins s σ H x y Q I q => ?_
  obtain ⟨β, h, a, b, z, S, ra, rb, e, k⟩ := q
  simp only [opV] at e
  have seqs : ∀ ys, seqOf h b = some ys → (∀ d ds, toD h 64 a = some d → mapO (toD h 63) ys = some ds → z = .bl (!(ds.any fun z => z.eqv d)) → ∃ r', OpR X (compareOp .NotIn) r' ∧ r' x y H Q) := fun ys es d ds e1 e2 ez => by
    subst ez
    exact ⟨_, op_notInDT X hu, in_seq X L true hK S ra rb es e1 e2 (k _ _ _ .refl S (.bl _))⟩
  unfold inVal at e
  split at e
  · rename_i t
    cases rb
    split at e
    · rename_i c
      cases e
      cases ra
      refine ⟨_, op_notIn_sign, c, _, rfl, rfl, ?_⟩
      rw [show decide (c ∈ (⟨t.toArray⟩ : PySem.Str).cps.toList) = t.contains c by simp]
      exact k _ _ _ .refl S (.bl _)
    · cases e
  · rename_i r
    cases rb with
    | ref hb =>
      split at e
      · rename_i kvs lk q
        split at e
        · rename_i hk
          cases e
          obtain ⟨ps, kk, kr, ek, g⟩ := dic_get S hb q ra hk
          refine ⟨_, op_notinDic X hu, _, _, rfl, g, ?_⟩
          rw [kr.some_of ek]
          exact k _ _ _ .refl S (.bl _)
        · cases e
      · rename_i ys q
        split at e
        · rename_i d ds e1 e2
          cases e
          exact seqs ys (by simp only [seqOf, q]) d ds e1 e2 rfl
        · cases e
      · cases e
  · rename_i ys
    split at e
    · rename_i d ds e1 e2
      cases e
      exact seqs ys rfl d ds e1 e2 rfl
    · cases e
  · rename_i ys
    split at e
    · rename_i d ds e1 e2
      cases e
      exact seqs ys rfl d ds e1 e2 rfl
    · cases e
  · cases e
end
end MP

/-! Mp1c: expressions -/
namespace MP
open PySem PySem.Spec PyProof.Rows L2

structure Gd (X : Cx) (L : Lk) (W : WX) (lv : Nat) : Prop where
  hK : X.K = L.K
  calm : X.calm = true
  nd : X.N.Nodup
  hr : Room lv X.A
  tk : Takes X W
  pass : PassesOwn (model X.prog X.w) X.A X.env X.xe
theorem Gd.hu {X : Cx} {L : Lk} {W : WX} {lv : Nat} (G : Gd X L W lv) : X.A.units + 200 < cLine := by have := G.hr.un; omega

section
variable {X : Cx} {L : Lk} {F : Fns} {W : WX} {lv : Nat}

/-! ### names and constants -/
theorem s_var {i : Nat} {x : PySem.Str} {pos : Pos} (hN : X.N[i]? = some x) (hv : Vis X.env.scope x) (hd : (x == ("__debug__" : PySem.Str)) = false) (hcd : (x == ("__classdict__" : PySem.Str)) = false) : PE X (.Name x pos) (tI L F W (.var i)) := by
  refine pwE fun pins s σ H Q I q => ⟨_, pe_var hN hv hd hcd, ?_⟩
  obtain ⟨β, h, ρ, S, R, p⟩ := q
  unfold evE at p
  split at p
  · rename_i v e
    obtain ⟨u, eu, r⟩ := R.get i v e
    exact ⟨u, eu, p _ _ _ .refl S r⟩
  · exact p.elim
theorem s_int {i : Int} {j : Nat} {pos : Pos} : PE X (.Constant (.int i) j pos) (tI L F W (.cst (.int i))) :=
  pwE fun pins s σ H Q I ⟨β, h, ρ, S, R, p⟩ => ⟨_, pe_int, p _ _ _ .refl S (.int i)⟩
theorem s_bl {b : Bool} {j : Nat} {pos : Pos} : PE X (.Constant (.bool b) j pos) (tI L F W (.cst (.bl b))) :=
  pwE fun pins s σ H Q I ⟨β, h, ρ, S, R, p⟩ => ⟨_, pe_bl, p _ _ _ .refl S (.bl b)⟩
theorem s_non {j : Nat} {pos : Pos} : PE X (.Constant .none j pos) (tI L F W (.cst .non)) :=
  pwE fun pins s σ H Q I ⟨β, h, ρ, S, R, p⟩ => ⟨_, pe_non, p _ _ _ .refl S .non⟩
theorem s_str {x : PySem.Str} {j : Nat} {pos : Pos} : PE X (.Constant (.str x) j pos) (tI L F W (.cst (.str x.cps.toList))) :=
  pwE fun pins s σ H Q I ⟨β, h, ρ, S, R, p⟩ => ⟨_, pe_str, p _ _ _ .refl S (by
    have := VR.str (L := L) (β := β) (H := H) x.cps.toList
    rwa [show (⟨x.cps.toList.toArray⟩ : PySem.Str) = x by simp] at this)⟩
/-- a module's constant -/
def Cst (L : Lk) (u : Value) (v : Val) : Prop := ∃ x : V, RelV x u ∧ ∀ β H h, Sim L β H h → VR L β H x v
theorem s_glob {x : PySem.Str} {u : Value} {v : Val} {pos : Pos} (hg : Gl X x) (hm : X.mg x = some u) (c : Cst L u v) (hd : (x == ("__debug__" : PySem.Str)) = false) : PE X (.Name x pos) (tI L F W (.cst v)) := by
  obtain ⟨y, r, k⟩ := c
  exact pwE fun pins s σ H Q I ⟨β, h, ρ, S, R, p⟩ => ⟨_, pe_glob hg hm r hd, p _ _ _ .refl S (k β H h S)⟩

/-! ### argument lists -/
theorem s_nil : PA X [] (tIs L F W []) :=
  pwA fun pins s σ H Q I ⟨β, h, ρ, S, R, p⟩ => ⟨_, pa_nil, p _ _ _ .refl S .nil⟩
def notStar : Expr → Bool
  | .Starred _ _ => false
  | _ => true
theorem starEach_of {e : Expr} {es : List Expr} {env : PySem.Env} (h : notStar e = true) : starEach (e :: es) env = (false, eval e env) :: starEach es env := by
  cases e <;> first | rfl | (simp [notStar] at h)
theorem s_cons {e : Expr} {es : List Expr} {m : E} {ms : List E} (hs : notStar e = true) (he : PE X e (tI L F W m)) (hr : PA X es (tIs L F W ms)) : PA X (e :: es) (tIs L F W (m :: ms)) := by
  refine pwA fun pins s σ H Q I q => ⟨_, pa_cons he hr (starEach_of hs), ?_⟩
  obtain ⟨β, h, ρ, S, R, p⟩ := q
  unfold evEs at p
  refine tI_of S R (Psts.first p fun v h1 u β1 H1 _ x1 S1 r1 p1 => ?_)
  refine tIs_of S1 (R.mono S x1) (Psts.firsts p1 fun vs h2 us β2 H2 _ x2 S2 r2 p2 => ?_)
  exact p2 _ _ _ .refl S2 (.cons (r1.mono S1 x2) r2)

/-! ### displays -/
theorem s_tup {es : List Expr} {ms : List E} {j : Nat} {pos : Pos} (ha : PA X es (tIs L F W ms)) : PE X (.Tuple es j pos) (tI L F W (.tup ms)) := by
  refine pwE fun pins s σ H Q I q => ⟨_, pe_tup ha, ?_⟩
  obtain ⟨β, h, ρ, S, R, p⟩ := q
  unfold evE at p
  refine tIs_of S R (Pst.firsts p fun vs h1 us β1 H1 _ x1 S1 r1 p1 => ?_)
  split at p1
  · rename_i hl
    exact ⟨by rw [← sizeL, r1.length]; exact hl, fin_tup S1 r1 p1⟩
  · exact p1.elim
theorem s_lst {es : List Expr} {ms : List E} {pos : Pos} (new : Bool) (ha : PA X es (tIs L F W ms)) : PE X (.List es pos) (tI L F W (.lst new ms)) := by
  refine pwE fun pins s σ H Q I q => ⟨_, pe_lst ha, ?_⟩
  obtain ⟨β, h, ρ, S, R, p⟩ := q
  unfold evE at p
  refine tIs_of S R (Pst.firsts p fun vs h1 us β1 H1 _ x1 S1 r1 p1 => ?_)
  unfold newL at p1
  split at p1
  · rename_i hl
    refine ⟨by rw [← sizeL, r1.length]; exact hl, ?_⟩
    split at p1
    · exact fin_new S1 r1 p1
    · exact fin_lst S1 r1 p1
  · exact p1.elim
theorem s_dic {pos : Pos} : PE X (.Dict [] [] pos) (tI L F W .dic) := by
  refine pwE fun pins s σ H Q I q => ⟨_, pe_dnewK, fun pp e => ?_⟩
  obtain ⟨β, h, ρ, S, R, p⟩ := q
  unfold evE at p
  exact p _ _ _ (Ext.bound S e) (S.push (c := .dic [] false) e ⟨[], upd_same, .nil⟩) (.ref bnd_same)

/-! ### operators -/
theorem s_op2 {op : Operator} {o : Op} {a b : Expr} {ma mb : E} {pos : Pos} (ho : OpR X (binaryOp op) (rOp L o)) (ha : PE X a (tI L F W ma)) (hb : PE X b (tI L F W mb)) : PE X (.BinOp a op b pos) (tI L F W (.op o ma mb)) := by
  refine pwE fun pins s σ H Q I q => ⟨_, pe_op ho ha hb, ?_⟩
  obtain ⟨β, h, ρ, S, R, p⟩ := q
  unfold evE at p
  refine tI_of S R (Pst.first p fun v h1 u β1 H1 _ x1 S1 r1 p1 => ?_)
  refine tI_of S1 (R.mono S x1) (Pst.first p1 fun v2 h2 u2 β2 H2 _ x2 S2 r2 p2 => ?_)
  cases e : opV h2 o v v2 with
  | none => rw [e] at p2; exact p2.elim
  | some z => rw [e] at p2; exact ⟨β2, h2, v, v2, z, S2, r1.mono S1 x2, r2, e, p2⟩
def notSet : Expr → Bool
  | .Set .. => false
  | _ => true
theorem unmarked {op : CmpOp} {b : Expr} (h : notSet b = true) : behindInMarks op b = false := by
  cases b <;> first | rfl | (simp [notSet] at h)
theorem s_cmp {op : CmpOp} {o : Op} {a b : Expr} {ma mb : E} {pos : Pos} (hb0 : notSet b = true) (ho : OpR X (compareOp op) (rOp L o)) (ha : PE X a (tI L F W ma)) (hb : PE X b (tI L F W mb)) : PE X (.Compare a [op] [b] pos) (tI L F W (.op o ma mb)) := by
  refine pwE fun pins s σ H Q I q => ⟨_, pe_cmpR ho ha hb (unmarked hb0), ?_⟩
  obtain ⟨β, h, ρ, S, R, p⟩ := q
  unfold evE at p
  refine tI_of S R (Pst.first p fun v h1 u β1 H1 _ x1 S1 r1 p1 => ?_)
  refine tI_of S1 (R.mono S x1) (Pst.first p1 fun v2 h2 u2 β2 H2 _ x2 S2 r2 p2 => ?_)
  cases e : opV h2 o v v2 with
  | none => rw [e] at p2; exact p2.elim
  | some z => rw [e] at p2; exact ⟨β2, h2, v, v2, z, S2, r1.mono S1 x2, r2, e, p2⟩
/-- the same as a test -/
theorem tT_of_tI {e : E} {σ : L2.St} {H : Hp} {Q : Bool → Hp → Prop} (q : tT L F W e σ H Q) : tI L F W e σ H fun x H' => ∃ β h v k, Sim L β H' h ∧ VR L β H' x v ∧ truthy h v = some k ∧ Q k H' := by
  obtain ⟨β, h, ρ, S, R, p⟩ := q
  refine ⟨β, h, ρ, S, R, ?_⟩
  cases ee : evE L.T F e ρ h with
  | ok v h' =>
    rw [ee] at p
    obtain ⟨b, eb, k⟩ := p
    exact fun u β' H' x S' r => ⟨β', h', v, b, S', r, eb, k β' H' x S'⟩
  | exc x h' => rw [ee] at p; exact p
  | bad => rw [ee] at p; exact p
theorem truV {β : Bt} {H : Hp} {h : Heap} {x : V} {v : Val} {k : Bool} (hK : X.K = L.K) (S : Sim L β H h) (r : VR L β H x v) (e : truthy h v = some k) : TruV X.K x H k := by
  cases r with
  | non => cases e; rfl
  | bl b => cases e; rfl
  | int i => cases e; rfl
  | str s => cases e
  | tup hs rs => cases e; exact .inr (.inl ⟨_, hK ▸ hs, by cases rs <;> rfl⟩)
  | lst hs _ rs => cases e; exact .inl ⟨_, SqL.of hs, by cases rs <;> rfl⟩
  | arr hs rs => cases e
  | ref hb =>
    simp only [truthy] at e
    split at e
    · rename_i xs q
      cases e
      obtain ⟨a', hb', vs, ha, rs⟩ := S.at q
      rw [hb] at hb'; cases hb'
      exact .inl ⟨_, SqL.of ha, by cases rs <;> rfl⟩
    · cases e
  | fn k => cases e

/-! ### tests -/
def isPlainT : Expr → Bool
  | .UnaryOp .Not _ _ => false
  | .BoolOp .. => false
  | .IfExp .. => false
  | .Compare .. => false
  | _ => true
theorem plainT {e : Expr} (h : isPlainT e = true) (env : PySem.Env) (whole : Sem Value) : isTrue e env whole = (do let v ← whole; standAt e.pos; holding [v] (PySem.truthy v)) := by
  cases e with
  | UnaryOp op a p => cases op <;> first | rfl | (simp [isPlainT] at h)
  | BoolOp => simp [isPlainT] at h
  | IfExp => simp [isPlainT] at h
  | Compare => simp [isPlainT] at h
  | _ => rfl
theorem s_tplain (hK : X.K = L.K) {e : Expr} {m : E} (hp : isPlainT e = true) (he : PE X e (tI L F W m)) : PT X e (tT L F W m) := by
  refine pwT fun pins s σ H Q I q => ⟨_, pt_truth he (plainT hp _), ?_⟩
  obtain ⟨β, h, ρ, S, R, p⟩ := tT_of_tI q
  refine ⟨β, h, ρ, S, R, ?_⟩
  cases ee : evE L.T F m ρ h with
  | ok v h' =>
    rw [ee] at p
    intro u β' H' x S' r
    obtain ⟨β2, h2, v2, k, S2, r2, e2, q2⟩ := p u β' H' x S' r
    exact ⟨k, truV hK S2 r2 e2, q2⟩
  | exc x h' => rw [ee] at p; exact p
  | bad => rw [ee] at p; exact p
theorem s_tnot {e : Expr} {m : E} {pos : Pos} (he : PT X e (tT L F W m)) : PT X (.UnaryOp .Not e pos) (tT L F W (.not m)) := by
  refine pwT fun pins s σ H Q I q => ⟨_, pt_not he, ?_⟩
  obtain ⟨β, h, ρ, S, R, p⟩ := q
  refine ⟨β, h, ρ, S, R, ?_⟩
  unfold evE at p
  cases ee : evE L.T F m ρ h with
  | ok v h' =>
    rw [ee] at p
    dsimp only [Out.bind] at p
    cases et : MP.truthy h' v with
    | none => rw [et] at p; exact p.elim
    | some b =>
      rw [et] at p
      simp only [Option.map, Out.ofOpt_some] at p
      obtain ⟨b', eb, k⟩ := p
      cases eb
      exact ⟨b, et, k⟩
  | exc x h' => rw [ee] at p; exact p
  | bad => rw [ee] at p; exact p
theorem s_tand1 {e : Expr} {m : E} {pos : Pos} (he : PT X e (tT L F W m)) : PW X (.BoolOp .And [e] pos) (tT L F W m) := pw_and1 he
theorem s_tor1 {e : Expr} {m : E} {pos : Pos} (he : PT X e (tT L F W m)) : PW X (.BoolOp .Or [e] pos) (tT L F W m) := pw_or1 he
theorem pwW {X : Cx} {e : Expr} {t : TT} (k : ∀ pins s σ H Q, Inv X pins σ H s → t σ H Q → ∃ t', PW X e t' ∧ t' σ H Q) : PW X e t :=
  ⟨fun wh pins s σ H Q I q => by obtain ⟨t', p, q'⟩ := k pins s σ H Q I q; exact p.run wh pins s σ H Q I q'⟩
theorem s_tand {a b : Expr} {rest : List Expr} {ma mb : E} {pos : Pos} (ha : PT X a (tT L F W ma)) (hb : PW X (.BoolOp .And (b :: rest) pos) (tT L F W mb)) : PW X (.BoolOp .And (a :: b :: rest) pos) (tT L F W (.and ma mb)) := by
  refine pwW fun pins s σ H Q I q => ⟨_, pw_and ha hb, ?_⟩
  obtain ⟨β, h, ρ, S, R, p⟩ := q
  refine ⟨β, h, ρ, S, R, ?_⟩
  unfold evE at p
  cases ee : evE L.T F ma ρ h with
  | ok v h' =>
    rw [ee] at p
    dsimp only [Out.bind] at p
    cases et : MP.truthy h' v with
    | none => rw [et] at p; exact p.elim
    | some b =>
      rw [et] at p
      refine ⟨b, et, fun β' H' x S' => ?_⟩
      cases b with
      | true =>
        refine iteT ⟨β', h', ρ, S', R.mono S x, ?_⟩
        simp only at p
        cases e2 : evE L.T F mb ρ h' with
        | ok v2 h2 => rw [e2] at p; obtain ⟨b2, eb, k⟩ := p; exact ⟨b2, eb, fun β2 H2 x2 S2 => k β2 H2 (x.trans x2) S2⟩
        | exc y h2 => rw [e2] at p; exact fun c d β2 H2 x2 S2 r => p c d β2 H2 (x.trans x2) S2 r
        | bad => rw [e2] at p; exact p
      | false =>
        simp only at p
        obtain ⟨b', eb, k⟩ := p
        rw [et] at eb; cases eb
        exact iteF (k β' H' x S')
  | exc x h' => rw [ee] at p; exact p
  | bad => rw [ee] at p; exact p
theorem s_tor {a b : Expr} {rest : List Expr} {ma mb : E} {pos : Pos} (ha : PT X a (tT L F W ma)) (hb : PW X (.BoolOp .Or (b :: rest) pos) (tT L F W mb)) : PW X (.BoolOp .Or (a :: b :: rest) pos) (tT L F W (.or ma mb)) := by
  refine pwW fun pins s σ H Q I q => ⟨_, pw_or ha hb, ?_⟩
  obtain ⟨β, h, ρ, S, R, p⟩ := q
  refine ⟨β, h, ρ, S, R, ?_⟩
  unfold evE at p
  cases ee : evE L.T F ma ρ h with
  | ok v h' =>
    rw [ee] at p
    dsimp only [Out.bind] at p
    cases et : MP.truthy h' v with
    | none => rw [et] at p; exact p.elim
    | some b =>
      rw [et] at p
      refine ⟨b, et, fun β' H' x S' => ?_⟩
      cases b with
      | false =>
        refine iteF ⟨β', h', ρ, S', R.mono S x, ?_⟩
        simp only at p
        cases e2 : evE L.T F mb ρ h' with
        | ok v2 h2 => rw [e2] at p; obtain ⟨b2, eb, k⟩ := p; exact ⟨b2, eb, fun β2 H2 x2 S2 => k β2 H2 (x.trans x2) S2⟩
        | exc y h2 => rw [e2] at p; exact fun c d β2 H2 x2 S2 r => p c d β2 H2 (x.trans x2) S2 r
        | bad => rw [e2] at p; exact p
      | true =>
        simp only at p
        obtain ⟨b', eb, k⟩ := p
        rw [et] at eb; cases eb
        exact iteT (k β' H' x S')
  | exc x h' => rw [ee] at p; exact p
  | bad => rw [ee] at p; exact p
def isCmp : Op → Bool
  | .eq | .ne | .lt | .le | .gt | .ge | .is | .isnot | .isin | .notin => true
  | _ => false
theorem cmp_bl {h : Heap} {o : Op} {x y z : Val} (c : isCmp o = true) (e : opV h o x y = some z) : ∃ b, z = .bl b := by
  cases o with
  | eq => simp only [opV, Option.map_eq_some_iff] at e; obtain ⟨b, _, rfl⟩ := e; exact ⟨_, rfl⟩
  | ne => simp only [opV, Option.map_eq_some_iff] at e; obtain ⟨b, _, rfl⟩ := e; exact ⟨_, rfl⟩
  | is => simp only [opV, Option.map_eq_some_iff] at e; obtain ⟨b, _, rfl⟩ := e; exact ⟨_, rfl⟩
  | isnot => simp only [opV, Option.map_eq_some_iff] at e; obtain ⟨b, _, rfl⟩ := e; exact ⟨_, rfl⟩
  | isin => simp only [opV, Option.map_eq_some_iff] at e; obtain ⟨b, _, rfl⟩ := e; exact ⟨_, rfl⟩
  | notin => simp only [opV, Option.map_eq_some_iff] at e; obtain ⟨b, _, rfl⟩ := e; exact ⟨_, rfl⟩
  | lt => simp only [opV] at e; split at e <;> first | (cases e; exact ⟨_, rfl⟩) | cases e
  | le => simp only [opV] at e; split at e <;> first | (cases e; exact ⟨_, rfl⟩) | cases e
  | gt => simp only [opV] at e; split at e <;> first | (cases e; exact ⟨_, rfl⟩) | cases e
  | ge => simp only [opV] at e; split at e <;> first | (cases e; exact ⟨_, rfl⟩) | cases e
  | _ => simp [isCmp] at c
/-- a test from a value that is a truth value -/
theorem tT_bl {e : E} {σ : L2.St} {H : Hp} {Q : Bool → Hp → Prop} (hb : ∀ ρ h v h', evE L.T F e ρ h = .ok v h' → ∃ b, v = .bl b) (q : tT L F W e σ H Q) : tI L F W e σ H fun x H' => ∃ k, x = .bl k ∧ Q k H' := by
  obtain ⟨β, h, ρ, S, R, p⟩ := q
  refine ⟨β, h, ρ, S, R, ?_⟩
  cases ee : evE L.T F e ρ h with
  | ok v h' =>
    rw [ee] at p
    obtain ⟨b, rfl⟩ := hb _ _ _ _ ee
    obtain ⟨b', eb, k⟩ := p
    cases eb
    exact fun u β' H' x S' r => by cases r; exact ⟨b, rfl, k β' H' x S'⟩
  | exc x h' => rw [ee] at p; exact p
  | bad => rw [ee] at p; exact p
theorem op_bl {o : Op} {ma mb : E} (c : isCmp o = true) (ρ : Env) (h : Heap) (v : Val) (h' : Heap) (e : evE L.T F (.op o ma mb) ρ h = .ok v h') : ∃ b, v = .bl b := by
  unfold evE at e
  cases e1 : evE L.T F ma ρ h with
  | ok x h1 =>
    rw [e1] at e
    dsimp only [Out.bind] at e
    cases e2 : evE L.T F mb ρ h1 with
    | ok y h2 =>
      rw [e2] at e
      dsimp only [Out.bind] at e
      cases e3 : opV h2 o x y with
      | none => rw [e3] at e; cases e
      | some z =>
        rw [e3] at e
        obtain ⟨b, rfl⟩ := cmp_bl c e3
        cases e
        exact ⟨b, rfl⟩
    | exc _ _ => rw [e2] at e; cases e
    | bad => rw [e2] at e; cases e
  | exc _ _ => rw [e1] at e; cases e
  | bad => rw [e1] at e; cases e
theorem s_tcmp {op : CmpOp} {o : Op} {a b : Expr} {ma mb : E} {pos : Pos} (c : isCmp o = true) (hb0 : notSet b = true) (ho : OpR X (compareOp op) (rOp L o)) (ha : PE X a (tI L F W ma)) (hb : PE X b (tI L F W mb)) : PT X (.Compare a [op] [b] pos) (tT L F W (.op o ma mb)) := by
  refine pwT fun pins s σ H Q I q => ⟨_, pt_cmpR ho ha hb (unmarked hb0), ?_⟩
  obtain ⟨β, h, ρ, S, R, p⟩ := tT_bl (op_bl c) q
  unfold evE at p
  refine tI_of S R (Pst.first p fun v h1 u β1 H1 _ x1 S1 r1 p1 => ?_)
  refine tI_of S1 (R.mono S x1) (Pst.first p1 fun v2 h2 u2 β2 H2 _ x2 S2 r2 p2 => ?_)
  cases e : opV h2 o v v2 with
  | none => rw [e] at p2; exact p2.elim
  | some z => rw [e] at p2; exact ⟨β2, h2, v, v2, z, S2, r1.mono S1 x2, r2, e, p2⟩

/-! ### a op b op c -/
theorem chain_step {o o' : Op} {ma mb mc : E} {σ : L2.St} {β : Bt} {H : Hp} {h : Heap} {ρ : Env} {Q : VK} (c : isCmp o = true) (S : Sim L β H h) (R : ER L β H σ ρ) (p : Pst L β H (evE L.T F (.chain o o' ma mb mc) ρ h) Q fun c d H' => W c d σ H') :
    tChain (rOp L o) (rOp L o') (tI L F W ma) (tI L F W mb) (tI L F W mc) σ H Q := by
  unfold evE at p
  refine tI_of S R (Pst.first p fun v h1 u β1 H1 _ x1 S1 r1 p1 => ?_)
  refine tI_of S1 (R.mono S x1) (Pst.first p1 fun v2 h2 u2 β2 H2 _ x2 S2 r2 p2 => ?_)
  cases e : opV h2 o v v2 with
  | none => rw [e] at p2; exact p2.elim
  | some z =>
    rw [e] at p2
    obtain ⟨b, rfl⟩ := cmp_bl c e
    refine ⟨β2, h2, v, v2, _, S2, r1.mono S1 x2, r2, e, fun u3 β3 H3 x3 S3 r3 => ?_⟩
    cases r3
    refine ⟨b, rfl, ?_⟩
    cases b with
    | true =>
      refine iteT (tI_of S3 ((R.mono S x1).mono S1 (x2.trans x3)) (Pst.first (Pst.mono x3 p2) fun v4 h4 u4 β4 H4 _ x4 S4 r4 p4 => ?_))
      cases e4 : opV h4 o' v2 v4 with
      | none => rw [e4] at p4; exact p4.elim
      | some z4 => rw [e4] at p4; exact ⟨β4, h4, v2, v4, z4, S4, (r2.mono S2 x3).mono S3 x4, r4, e4, p4⟩
    | false => exact iteF (p2 _ _ _ x3 S3 (.bl false))
theorem unmarked2 {op op' : CmpOp} {b c : Expr} (h : notSet c = true) : lastMarks [op, op'] [b, c] = false := unmarked h
theorem s_chain {op op' : CmpOp} {o o' : Op} {a b e : Expr} {ma mb mc : E} {pos : Pos} (c : isCmp o = true) (hb0 : notSet e = true) (ho : OpR X (compareOp op) (rOp L o)) (ho' : OpR X (compareOp op') (rOp L o'))
    (ha : PE X a (tI L F W ma)) (hb : PE X b (tI L F W mb)) (he : PE X e (tI L F W mc)) : PE X (.Compare a [op, op'] [b, e] pos) (tI L F W (.chain o o' ma mb mc)) :=
  pwE fun pins s σ H Q I ⟨β, h, ρ, S, R, p⟩ => ⟨_, pe_chain ho ho' ha hb he (unmarked2 hb0), chain_step c S R p⟩
theorem chain_bl {o o' : Op} {ma mb mc : E} (c : isCmp o = true) (c' : isCmp o' = true) (ρ : Env) (h : Heap) (v : Val) (h' : Heap) (e : evE L.T F (.chain o o' ma mb mc) ρ h = .ok v h') : ∃ b, v = .bl b := by
  unfold evE at e
  cases e1 : evE L.T F ma ρ h with
  | ok x h1 =>
    rw [e1] at e
    dsimp only [Out.bind] at e
    cases e2 : evE L.T F mb ρ h1 with
    | ok y h2 =>
      rw [e2] at e
      dsimp only [Out.bind] at e
      split at e
      · cases e4 : evE L.T F mc ρ h2 with
        | ok w h4 =>
          rw [e4] at e
          dsimp only [Out.bind] at e
          cases e5 : opV h4 o' y w with
          | none => rw [e5] at e; cases e
          | some z => rw [e5] at e; obtain ⟨b, rfl⟩ := cmp_bl c' e5; cases e; exact ⟨b, rfl⟩
        | exc _ _ => rw [e4] at e; cases e
        | bad => rw [e4] at e; cases e
      · cases e; exact ⟨_, rfl⟩
      · cases e
    | exc _ _ => rw [e2] at e; cases e
    | bad => rw [e2] at e; cases e
  | exc _ _ => rw [e1] at e; cases e
  | bad => rw [e1] at e; cases e
theorem s_tchain {op op' : CmpOp} {o o' : Op} {a b e : Expr} {ma mb mc : E} {pos : Pos} (c : isCmp o = true) (c' : isCmp o' = true) (hb0 : notSet e = true) (ho : OpR X (compareOp op) (rOp L o)) (ho' : OpR X (compareOp op') (rOp L o'))
    (ha : PE X a (tI L F W ma)) (hb : PE X b (tI L F W mb)) (he : PE X e (tI L F W mc)) : PT X (.Compare a [op, op'] [b, e] pos) (tT L F W (.chain o o' ma mb mc)) := by
  refine pwT fun pins s σ H Q I q => ⟨_, pt_chain ho ho' ha hb he (unmarked2 hb0), ?_⟩
  obtain ⟨β, h, ρ, S, R, p⟩ := tT_bl (chain_bl c c') q
  exact chain_step c S R p

/-! ### not, and, or, if as values; signs -/
theorem s_neg {a : Expr} {ma : E} {pos : Pos} (ha : PE X a (tI L F W ma)) : PE X (.UnaryOp .USub a pos) (tI L F W (.neg ma)) := by
  refine pwE fun pins s σ H Q I q => ⟨_, pe_un un_neg ha, ?_⟩
  obtain ⟨β, h, ρ, S, R, p⟩ := q
  unfold evE at p
  refine tI_of S R (Pst.first p fun v h1 u β1 H1 _ x1 S1 r1 p1 => ?_)
  split at p1
  · cases r1; exact ⟨_, rfl, p1 _ _ _ .refl S1 (.int _)⟩
  · exact p1.elim
theorem s_not {a : Expr} {ma : E} {pos : Pos} (hK : X.K = L.K) (ha : PE X a (tI L F W ma)) : PE X (.UnaryOp .Not a pos) (tI L F W (.not ma)) := by
  refine pwE fun pins s σ H Q I q => ⟨_, pe_notT ha, ?_⟩
  obtain ⟨β, h, ρ, S, R, p⟩ := q
  unfold evE at p
  refine tI_of S R (Pst.first p fun v h1 u β1 H1 _ x1 S1 r1 p1 => ?_)
  cases e : MP.truthy h1 v with
  | none => rw [e] at p1; exact p1.elim
  | some b => rw [e] at p1; exact ⟨b, truV hK S1 r1 e, p1 _ _ _ .refl S1 (.bl _)⟩
theorem s_and1 {op : BoolOp} {a : Expr} {ma : E} {pos : Pos} (ha : PE X a (tI L F W ma)) : PE X (.BoolOp op [a] pos) (tI L F W ma) := pe_one ha
theorem s_and {a b : Expr} {rest : List Expr} {ma mb : E} {pos : Pos} (hK : X.K = L.K) (ha : PE X a (tI L F W ma)) (hb : PE X (.BoolOp .And (b :: rest) pos) (tI L F W mb)) : PE X (.BoolOp .And (a :: b :: rest) pos) (tI L F W (.and ma mb)) := by
  refine pwE fun pins s σ H Q I q => ⟨_, pe_andT ha hb, ?_⟩
  obtain ⟨β, h, ρ, S, R, p⟩ := q
  unfold evE at p
  refine tI_of S R (Pst.first p fun v h1 u β1 H1 _ x1 S1 r1 p1 => ?_)
  cases e : MP.truthy h1 v with
  | none => rw [e] at p1; exact p1.elim
  | some b =>
    rw [e] at p1
    refine ⟨b, truV hK S1 r1 e, ?_⟩
    cases b with
    | true => exact iteT (tI_of S1 (R.mono S x1) p1)
    | false => exact iteF (p1 _ _ _ .refl S1 r1)
theorem s_or {a b : Expr} {rest : List Expr} {ma mb : E} {pos : Pos} (hK : X.K = L.K) (ha : PE X a (tI L F W ma)) (hb : PE X (.BoolOp .Or (b :: rest) pos) (tI L F W mb)) : PE X (.BoolOp .Or (a :: b :: rest) pos) (tI L F W (.or ma mb)) := by
  refine pwE fun pins s σ H Q I q => ⟨_, pe_orT ha hb, ?_⟩
  obtain ⟨β, h, ρ, S, R, p⟩ := q
  unfold evE at p
  refine tI_of S R (Pst.first p fun v h1 u β1 H1 _ x1 S1 r1 p1 => ?_)
  cases e : MP.truthy h1 v with
  | none => rw [e] at p1; exact p1.elim
  | some b =>
    rw [e] at p1
    refine ⟨b, truV hK S1 r1 e, ?_⟩
    cases b with
    | true => exact iteT (p1 _ _ _ .refl S1 r1)
    | false => exact iteF (tI_of S1 (R.mono S x1) p1)
theorem s_ite {c a b : Expr} {mc ma mb : E} {pos : Pos} (hc : PT X c (tT L F W mc)) (ha : PE X a (tI L F W ma)) (hb : PE X b (tI L F W mb)) : PE X (.IfExp c a b pos) (tI L F W (.ite mc ma mb)) := by
  refine pwE fun pins s σ H Q I q => ⟨_, pe_ifExp hc ha hb, ?_⟩
  obtain ⟨β, h, ρ, S, R, p⟩ := q
  unfold evE at p
  refine ⟨β, h, ρ, S, R, ?_⟩
  cases ee : evE L.T F mc ρ h with
  | ok v h' =>
    rw [ee] at p
    dsimp only [Out.bind] at p
    cases et : MP.truthy h' v with
    | none => rw [et] at p; exact p.elim
    | some b =>
      rw [et] at p
      refine ⟨b, et, fun β' H' x S' => ?_⟩
      cases b with
      | true => exact iteT (tI_of S' (R.mono S x) (Pst.mono x p))
      | false => exact iteF (tI_of S' (R.mono S x) (Pst.mono x p))
  | exc x h' => rw [ee] at p; exact p
  | bad => rw [ee] at p; exact p

/-! ### subscripts, slices -/
def plainIx : Expr → Bool
  | .Slice .. => false
  | _ => true
theorem plainIx_of {b : Expr} (h : plainIx b = true) : PlainIx b := by
  cases b <;> first | (intro _ _; rfl) | (simp [plainIx] at h)
theorem pwI {r : R2} (k : ∀ pins s σ H x y Q, Inv X pins σ H s → r x y H Q → ∃ r', IxR X r' ∧ r' x y H Q) : IxR X r := by
  intro value slice pins s σ H x y v u Q I rx ry q hs
  obtain ⟨r', p, q'⟩ := k pins s σ H x y Q I q
  exact p value slice pins s σ H x y v u Q I rx ry q' hs
theorem ix_dic (hu : X.A.units + 200 < cLine) : IxR X (fun x y H Q => ∃ a v, x = .ref a ∧ DGet H a y (some v) ∧ Q v H) := by
  intro value slice pins s σ H x y v u Q I rx ry h hs
  obtain ⟨a, z, rfl, g, q⟩ := h
  cases rx
  exact tail_any (dict_typeIs I g) PySem.F.slot_dict_getitem.lookup (d_getItem (by omega) I g ry fun w' s' I' rw' => ⟨z, H, I', rw', q⟩) hs
def rSub (L : Lk) : R2 := fun x y H Q => ∃ (β : Bt) (h : Heap) (a b z : Val), Sim L β H h ∧ VR L β H x a ∧ VR L β H y b ∧ subV h a b = some z ∧ ∀ u β' H', Ext β H β' H' → Sim L β' H' h → VR L β' H' u z → Q u H'
theorem place_ixN (n : Nat) (i : Int) : place n i = ixN n i := rfl
theorem at_atI {β : Bt} {H : Hp} {vs : List V} {xs : List Val} {i : Int} {z : Val} (r : VRs L β H vs xs) (e : at_ xs i = some z) : ∃ v, atI vs i = some v ∧ VR L β H v z := by
  unfold at_ at e
  unfold atI
  rw [place_ixN] at e
  rw [r.length]
  cases q : ixN xs.length i with
  | none => rw [q] at e; cases e
  | some j =>
    rw [q] at e
    exact r.get (i := j) e
theorem o_sub_ix (hK : X.K = L.K) (hu : X.A.units + 200 < cLine) : IxR X (rSub L) := by
  refine pwI fun pins s σ H x y Q I q => ?_
  obtain ⟨β, h, a, b, z, S, ra, rb, e, k⟩ := q
  have seqs : ∀ xs i, seqOf h a = some xs → b = .int i → at_ xs i = some z → ∃ r', IxR X r' ∧ r' x y H Q := fun xs i es eb ez => by
    subst eb
    cases rb
    obtain ⟨a', vs, rfl, rs, hs⟩ := seq_of S ra es
    obtain ⟨v, ev, r⟩ := at_atI rs ez
    rw [← hK] at hs
    rcases hs with hs | hs
    · exact ⟨_, ix_list, _, _, _, _, rfl, rfl, hs, ev, k _ _ _ .refl S r⟩
    · exact ⟨_, ix_tup, _, _, _, _, rfl, rfl, hs, ev, k _ _ _ .refl S r⟩
  unfold subV at e
  split at e
  · rename_i t
    split at e
    · rename_i i
      obtain ⟨hl, e⟩ : t.length ≤ line ∧ (at_ t i).map (fun c => Val.str [c]) = some z := by
        split at e
        · exact ⟨by assumption, e⟩
        · cases e
      cases ra; cases rb
      obtain ⟨c, ec, rfl⟩ := Option.map_eq_some_iff.mp e
      refine ⟨_, ix_str, _, _, c, rfl, rfl, ?_, ?_, ?_⟩
      · rw [← sizeL]; exact hl
      · exact ec
      · exact k _ _ _ .refl S (.str [c])
    · cases e
  · rename_i r
    cases ra with
    | ref hb =>
      split at e
      · rename_i kvs lk q
        split at e
        · rename_i hk
          obtain ⟨ps, kk, kr, ek, g⟩ := dic_get S hb q rb hk
          obtain ⟨v, ev, r⟩ := (kr.get ek).1 z e
          rw [ev] at g
          exact ⟨_, ix_dic hu, _, _, rfl, g, k _ _ _ .refl S r⟩
        · cases e
      · rename_i xs q
        split at e
        · exact seqs xs _ (by simp only [seqOf, q]) rfl e
        · cases e
      · cases e
  · split at e
    · rename_i i
      cases es : seqOf h a with
      | none => rw [es] at e; cases e
      | some xs => rw [es] at e; exact seqs xs i es rfl e
    · cases e
theorem s_sub {a b : Expr} {ma mb : E} {pos : Pos} (hK : X.K = L.K) (hu : X.A.units + 200 < cLine) (hp : plainIx b = true) (ha : PE X a (tI L F W ma)) (hb : PE X b (tI L F W mb)) : PE X (.Subscript a b pos) (tI L F W (.sub ma mb)) := by
  refine pwE fun pins s σ H Q I q => ⟨_, pe_ix (o_sub_ix (L := L) hK hu) ha hb (plainIx_of hp), ?_⟩
  obtain ⟨β, h, ρ, S, R, p⟩ := q
  unfold evE at p
  refine tI_of S R (Pst.first p fun v h1 u β1 H1 _ x1 S1 r1 p1 => ?_)
  refine tI_of S1 (R.mono S x1) (Pst.first p1 fun v2 h2 u2 β2 H2 _ x2 S2 r2 p2 => ?_)
  cases e : subV h2 v v2 with
  | none => rw [e] at p2; exact p2.elim
  | some z => rw [e] at p2; exact ⟨β2, h2, v, v2, z, S2, r1.mono S1 x2, r2, e, p2⟩
end
end MP

/-! Mp1d: attributes, slices, calls -/
namespace MP
open PySem PySem.Spec PyProof.Rows L2

/-- an exception class whose instances are looked at -/
structure ExI (K : PySem.W.Frag) (C : Addr) : Prop where
  ic : (PySem.W.clsIn K C).isSome = true
  ga : PySem.W.findIn K (.ref C) "__getattribute__" = some (some (.builtin "BaseException.__getattribute__"))
  gg : PySem.W.findIn K (.ref C) "__getattr__" = some none
  sb : PySem.W.subIn K (.ref C) (.type "BaseException") = some true
  hd : PySem.W.hasDictIn K C = true
  ca : PySem.W.findIn K (.ref C) "__class__" = some (some (.builtin "object.__class__"))
  cn : PySem.W.specialIn K (.builtin "object.__class__") "__get__" = some (some (.builtin "getset_descriptor.__get__"))
  ct : PySem.W.takesIn K (.builtin "object.__class__") = some true
  mo : PySem.W.mroIn K C (.type "object") = some true
/-- an exception class whose own __init__ keeps its one argument as line -/
structure ExnOne (K : PySem.W.Frag) (C : Addr) : Prop where
  oex : OexC K C
  no : PySem.W.findIn K (.ref C) "line" = some none
  at_ : ∃ (fI : Addr) (fd : FuncData) (x qual : PySem.Str) (params : Arguments) (scope : Scope) (p1 p2 p3 p4 : Pos), PySem.W.findIn K (.ref C) "__init__" = some (some (.ref fI)) ∧ PySem.W.typeIn K (.ref fI) = some (.type "function") ∧
    FunD K x qual params [.Assign [.Attribute (.Name "self" p1) "line" p2] (.Name "line" p3) p4] scope [] [] fI fd ∧ FnScope ["self", "line"] ["self", "line"] scope ∧ Binds K fd ["self", "line"] []
/-- what the written part says of classes and names -/
structure Lf (K : PySem.W.Frag) (L : Lk) : Prop where
  inj : ∀ i j, L.nm i = L.nm j → i = j
  cls : ∀ c, L.T.isC c = true → Cls K (L.ca c)
  noat : ∀ c f, L.T.isC c = true → L.T.fo c f = true → NoAttr K (L.ca c) (L.nm f)
  meth : ∀ c m k, L.T.isC c = true → L.T.meth c m = some k → Meth K (L.ca c) (L.nm m) (L.fa k)
  prop : ∀ c f k, L.T.isC c = true → L.T.prop c f = some k → ∃ p, PropOf K (L.ca c) (L.nm f) p (L.fa k)
  init : ∀ c k, L.T.isC c = true → L.T.init c = some k → Mk K (L.ca c) (L.fa k)
  exn0 : ∀ c, L.T.exn c = some false → PySem.W.excIn K (L.ca c) He.veBase "ValueError.__new__" = true ∧ PySem.W.keepIn K (.ref (L.ca c)) = true ∧ PySem.W.subIn K (.ref (L.ca c)) (.type "BaseException") = some true ∧ PySem.W.typeIn K (.ref (L.ca c)) = some (.type "type")
  exn1 : ∀ c, L.T.exn c = some true → ExnOne K (L.ca c)
  exm : ∀ a c b, L.T.sub a c = some b → PySem.W.exmOne K (.ref (L.ca a)) (.ref (L.ca c)) = some b
  exi : L.T.xi = true → ∀ c b, L.T.exn c = some b → ExI K (L.ca c)
  exk : L.T.xi = true → ∀ a c b, L.T.sub a c = some b → PySem.W.kitOne K (.ref (L.ca a)) (.ref (L.ca c)) = some b

/-- what a def gives -/
def spF (L : Lk) (F : Fns) (k : Nat) : Sp := fun vs H Q E => ∃ (pv : Addr → Prop) (β : Bt) (h : Heap) (args : List Val), Sim (L.pvs pv) β H h ∧ VRs (L.pvs pv) β H vs args ∧ Pst (L.pvs pv) β H (F k args h) Q E
/-- a def that takes its arguments as they are written -/
def PlainFn (P : Program) (w : World) (K : PySem.W.Frag) (mg : PySem.Str → Option Value) (base : PySem.Heap) (L : Lk) (F : Fns) (lv k : Nat) : Prop :=
  ∃ fd ps, FnOk P w K mg base (L2.CX P w) lv (L.fa k) fd ps (spF L F k) ∧ Binds K fd ps [] ∧ PySem.W.keepIn K (.ref (L.fa k)) = true
/-- a def with n written arguments and the keywords ks -/
def KwFn (P : Program) (w : World) (K : PySem.W.Frag) (mg : PySem.Str → Option Value) (base : PySem.Heap) (L : Lk) (F : Fns) (lv k n : Nat) (ks : List PySem.Str) (b : List Bd) : Prop :=
  ∃ fd ps g gV, FnOk P w K mg base (L2.CX P w) lv (L.fa k) fd ps (spF L F k) ∧ KBn K fd ps n ks g gV ∧ PySem.W.keepIn K (.ref (L.fa k)) = true ∧
    ∀ pv β H h vs zs args us, Sim (L.pvs pv) β H h → VRs (L.pvs pv) β H (vs ++ zs) args → vs.length = n → zs.length = ks.length → bindBd args b = some us → VRs (L.pvs pv) β H (gV vs zs) us
theorem FR.look {L : Lk} {β : Bt} {H : Hp} (inj : ∀ i j, L.nm i = L.nm j → i = j) (f : Nat) : ∀ {ps : List (PySem.Str × V)} {qs : List (Nat × Val)}, FR L β H ps qs →
    (∀ x, lookF qs f = some x → ∃ v, ps.lookup (L.nm f) = some v ∧ VR L β H v x) ∧ (lookF qs f = none → ps.lookup (L.nm f) = none)
  | _, _, .nil => ⟨fun x e => by simp [lookF] at e, fun _ => rfl⟩
  | _, _, .cons (f := g) (v := v) (x := y) r t => by
    obtain ⟨i1, i2⟩ := FR.look inj f t
    by_cases z : f = g
    · subst z
      have e1 : (f == f) = true := beq_self_eq_true f
      refine ⟨fun x e => ?_, fun e => ?_⟩
      · simp only [lookF, e1, if_true] at e
        cases e
        exact ⟨v, by simp [List.lookup], r⟩
      · simp only [lookF, e1, if_true] at e
        cases e
    · have e1 : (f == g) = false := beq_eq_false_iff_ne.mpr z
      have e2 : (L.nm f == L.nm g) = false := beq_eq_false_iff_ne.mpr fun q => z (inj f g q)
      refine ⟨fun x e => ?_, fun e => ?_⟩
      · simp only [lookF, e1] at e
        obtain ⟨u, eu, ru⟩ := i1 x e
        exact ⟨u, by simp [List.lookup, e2, eu], ru⟩
      · simp only [lookF, e1] at e
        simp [List.lookup, e2, i2 e]
theorem FR.put {L : Lk} {β : Bt} {H : Hp} (inj : ∀ i j, L.nm i = L.nm j → i = j) (f : Nat) {v : V} {x : Val} (r : VR L β H v x) : ∀ {ps : List (PySem.Str × V)} {qs : List (Nat × Val)}, FR L β H ps qs →
    FR L β H (L2.putF (L.nm f) v ps) (MP.putF qs f x)
  | _, _, .nil => .cons r .nil
  | _, _, .cons (f := g) r' t => by
    unfold L2.putF MP.putF
    by_cases z : g = f
    · subst z
      rw [if_pos rfl, if_pos (beq_self_eq_true g)]
      exact .cons r t
    · rw [if_neg (fun q => z (inj g f q)), if_neg (by simpa using z)]
      exact .cons r' (FR.put inj f r t)
theorem FR.length {L : Lk} {β : Bt} {H : Hp} : ∀ {ps : List (PySem.Str × V)} {qs : List (Nat × Val)}, FR L β H ps qs → ps.length = qs.length
  | _, _, .nil => rfl
  | _, _, .cons _ t => congrArg Nat.succ (FR.length t)

/-- a base that is no bare call of super -/
def notSuper : Expr → Bool
  | .Call (.Name id _) [] [] _ => id != "super"
  | _ => true
theorem base_of {o : Expr} {attr : PySem.Str} {env : PySem.Env} {t : Sem Value} (h : notSuper o = true) : attributeBase o attr env t = t := by
  unfold attributeBase
  split
  · rename_i id p pos
    have hn : (id != ("super" : PySem.Str)) = true := h
    simp only [hn, Bool.true_or, if_true]
  · rfl

section
variable {X : Cx} {L : Lk} {F : Fns} {W : WX} {lv : Nat}
theorem ins_at {β : Bt} {H : Hp} {h : Heap} (S : Sim L β H h) {a : Addr} {r c : Nat} {fs : List (Nat × Val)} (e : β r = some a) (q : h.c r = some (.ins c fs)) :
    L.T.isC c = true ∧ (∀ p ∈ fs, L.T.fo c p.1 = true) ∧ ∃ dx ps, H a = some (.ins (L.ca c) dx ps) ∧ FR L β H ps fs := by
  obtain ⟨a', e', x⟩ := S.at q
  rw [e] at e'; cases e'
  exact x
theorem lookF_mem {fs : List (Nat × Val)} {f : Nat} {v : Val} (e : lookF fs f = some v) : ∃ p ∈ fs, p.1 = f := by
  induction fs with
  | nil => simp [lookF] at e
  | cons p r ih =>
    by_cases z : f = p.1
    · exact ⟨p, List.mem_cons_self, z.symm⟩
    · have e : lookF r f = some v := by simpa [lookF, beq_eq_false_iff_ne.mpr z] using e
      obtain ⟨q, hq, eq⟩ := ih e
      exact ⟨q, List.mem_cons_of_mem _ hq, eq⟩
/-- o.f; a property where pr says so -/
theorem s_attr {o : Expr} {f : Nat} {mo : E} {pos : Pos} (G : Gd X L W (lv + 1)) (K0 : Lf X.K L) (hn : notSuper o = true) (ho : PE X o (tI L F W mo))
    (pf : ∀ c k, L.T.isC c = true → L.T.prop c f = some k → PlainFn X.prog X.w X.K X.mg X.base L F lv k) : PE X (.Attribute o (L.nm f) pos) (tI L F W (.attr mo f)) := by
  -- the value's kind is known only behind o: a rule of our own, by the value
  refine ⟨fun pins s σ H Q I q => ?_⟩
  obtain ⟨β, h, ρ, S, R, p⟩ := q
  unfold evE at p
  refine attr_of (base_of hn) (thn (ho.run pins s σ H (fun x H1 => ∃ β1 h1 v, Sim L β1 H1 h1 ∧ VR L β1 H1 x v ∧ Pst L β1 H1 (attrV L.T F v f h1) Q fun c d H' => W c d σ H') I
    (tI_of S R (Pst.first p fun v h1 u β1 H1 _ x1 S1 r1 p1 => ⟨β1, h1, v, S1, r1, p1⟩))) fun u s1 ⟨x, H1, I1, rx, β1, h1, v, S1, r1, p1⟩ => ?_)
  unfold attrV at p1
  split at p1
  · rename_i r
    split at p1
    · rename_i c fs hc
      cases r1 with
      | ref hb =>
        obtain ⟨ic, fo, dx, ps, ha, fr⟩ := ins_at S1 hb hc
        obtain ⟨l1, l2⟩ := fr.look K0.inj f
        cases rx
        split at p1
        · rename_i y ey
          obtain ⟨w, ew, rw'⟩ := l1 y ey
          obtain ⟨pp, hp, ep⟩ := lookF_mem ey
          exact getattr_ok I1 ha (K0.cls c ic) (K0.noat c f ic (ep ▸ fo pp hp)) ew fun u2 s2 I2 ru => ⟨w, H1, I2, ru, p1 _ _ _ .refl S1 rw'⟩
        · rename_i ey
          split at p1
          · rename_i k ek
            obtain ⟨pa, hpo⟩ := K0.prop c f k ic ek
            obtain ⟨fd, pps, Fk, hbd, kp⟩ := pf c k ic ek
            have hs : spF L F k [.ref _] H1 Q fun _ _ _ => False := ⟨L.pv, β1, h1, [.ref r], S1, .cons (.ref hb) .nil, by
              cases e : F k [.ref r] h1 with
              | ok y h2 => rw [e] at p1; exact p1
              | exc y h2 => rw [e] at p1; exact p1.elim
              | bad => rw [e] at p1; exact p1.elim⟩
            exact getprop_ok (dvs := []) (ds := []) I1 ha (K0.cls c ic) hpo Fk G.hr hbd .nil passL hs
          · exact p1.elim
    · exact p1.elim
  · exact p1.elim

/-! ### a[lo:hi] -/
/-- what is wanted of a value that may be a list to be laid -/
def Want (L : Lk) (β : Bt) (H : Hp) (new : Bool) (h : Heap) (z : Val) (Q : VK) : Prop := match z with
  | .lst xs => if new = true then ∀ u β' H', Ext β H β' H' → Sim L β' H' (h.push (.lst xs)) → VR L β' H' u (.ref h.n) → Q u H' else ∀ u β' H', Ext β H β' H' → Sim L β' H' h → VR L β' H' u z → Q u H'
  | _ => ∀ u β' H', Ext β H β' H' → Sim L β' H' h → VR L β' H' u z → Q u H'
theorem Want.lst {β : Bt} {H : Hp} {new : Bool} {h : Heap} {xs : List Val} {vs : List V} {Q : VK} (S : Sim L β H h) (r : VRs L β H vs xs) (k : Want L β H new h (.lst xs) Q) : ∀ p, H p = none → Q (.ref p) (upd H p (.lst vs)) := by
  unfold Want at k
  cases new with
  | true => exact fin_new S r (by simpa using k)
  | false => exact fin_lst S r (by simpa using k)
def rSli (L : Lk) (new : Bool) : V → Option Int → Option Int → Hp → VK → Prop := fun x lo hi H Q => ∃ (β : Bt) (h : Heap) (a z : Val), Sim L β H h ∧ VR L β H x a ∧ sliceV h a lo hi = some z ∧ Want L β H new h z Q
theorem clip_sIx (n d : Nat) (o : Option Int) : clip n d o = HT.sIx n d o := by cases o <;> rfl
theorem cut_str (s : List Nat) (lo hi : Option Int) : (⟨(cut s lo hi).toArray⟩ : PySem.Str) = cutS ⟨s.toArray⟩ lo hi := by
  unfold cut cutS
  simp only [clip_sIx]
  rfl
theorem cut_V {β : Bt} {H : Hp} {vs : List V} {xs : List Val} (rs : VRs L β H vs xs) (lo hi : Option Int) : VRs L β H (cutV vs lo hi) (cut xs lo hi) := by
  unfold cut cutV
  rw [clip_sIx, clip_sIx, ← rs.length]
  exact (rs.drop _).take _
theorem o_slice (hK : X.K = L.K) (new : Bool) : SlR X (rSli L new) := by
  intro pins s σ H x v vl vu lo hi sl Q I rx hs pl pu q
  obtain ⟨β, h, a, z, S, ra, e, k⟩ := q
  have lists : ∀ xs, seqOf h a = some xs → (∀ ys, a ≠ .tup ys) → z = .lst (cut xs lo hi) → ∃ T id, typeLookup (.type T) "__getitem__" = pure (some (.builtin id)) ∧ s.TypeIs v T ∧ wpAny (model X.prog X.w) X.A (getItem v (.ref sl)) (EP X pins σ Q) X.xe s := fun xs es nt ez => by
    subst ez
    cases ra with
    | lst ha _ rs => simp only [seqOf] at es; cases es; exact sl_list pins s σ H _ v vl vu lo hi sl Q I rx hs pl pu ⟨_, _, rfl, SqL.of ha, Want.lst S (cut_V rs lo hi) k⟩
    | arr ha rs => simp only [seqOf] at es; cases es; exact sl_list pins s σ H _ v vl vu lo hi sl Q I rx hs pl pu ⟨_, _, rfl, hK ▸ ha.sql, Want.lst S (cut_V rs lo hi) k⟩
    | tup ha rs => exact absurd rfl (nt _)
    | ref hb =>
      simp only [seqOf] at es
      split at es
      · rename_i ys q
        cases es
        obtain ⟨a', hb', vs, ha, rs⟩ := S.at q
        rw [hb] at hb'; cases hb'
        exact sl_list pins s σ H _ v vl vu lo hi sl Q I rx hs pl pu ⟨_, _, rfl, SqL.of ha, Want.lst S (cut_V rs lo hi) k⟩
      · cases es
    | _ => simp only [seqOf] at es; cases es
  unfold sliceV at e
  split at e
  · obtain ⟨hl, rfl⟩ := ite_some e
    cases ra
    refine sl_str pins s σ H _ v vl vu lo hi sl Q I rx hs pl pu ⟨_, rfl, ?_, ?_⟩
    · rw [← sizeL]; exact hl
    · rw [← cut_str]
      exact k _ _ _ .refl S (.str _)
  · rename_i xs
    cases e
    cases ra with
    | tup ha rs =>
      refine sl_tupA pins s σ H _ v vl vu lo hi sl Q I rx hs pl pu ⟨_, _, rfl, hK ▸ ha, fun w => ?_, fun w => fin_tup S (cut_V rs lo hi) k⟩
      have hw : cut xs lo hi = xs := by
        unfold cut
        rw [clip_sIx, clip_sIx, ← rs.length, w.1, w.2]
        simp only [Nat.sub_zero, List.drop_zero, rs.length, List.take_length]
      rw [hw] at k
      exact k _ _ _ .refl S (.tup ha rs)
  · rename_i h1 h2
    cases es : seqOf h a with
    | none => rw [es] at e; cases e
    | some xs => rw [es] at e; cases e; exact lists xs es (fun ys q => h2 ys q) rfl
/-- a part of a slice: lacking, or an int -/
def tPartI (L : Lk) (F : Fns) (W : WX) (ms : List E) : TO := fun σ H Q => ∃ (β : Bt) (h : Heap) (ρ : Env), Sim L β H h ∧ ER L β H σ ρ ∧ match evEs L.T F ms ρ h with
  | .ok vs h' => ∃ is, intsV vs = some is ∧ ∀ β' H', Ext β H β' H' → Sim L β' H' h' → Q is.head? H'
  | .exc x h' => ∀ cls d β' H', Ext β H β' H' → Sim L β' H' h' → ExR L H' cls d x → W cls d σ H'
  | .bad => False
theorem pwP {e : Option Expr} {t : TO} (k : ∀ pins s σ H Q, L2.Inv X pins σ H s → t σ H Q → ∃ t', PO X e t' ∧ t' σ H Q) : PO X e t :=
  ⟨fun pins s σ H Q I q => by obtain ⟨t', p, q'⟩ := k pins s σ H Q I q; exact p.run pins s σ H Q I q'⟩
theorem s_part0 : PO X none (tPartI L F W []) := by
  refine pwP fun pins s σ H Q I q => ⟨_, po_none, ?_⟩
  obtain ⟨β, h, ρ, S, R, p⟩ := q
  unfold evEs at p
  obtain ⟨is, e, k⟩ := p
  cases e
  exact k _ _ .refl S
theorem s_part1 {e : Expr} {m : E} (he : PE X e (tI L F W m)) : PO X (some e) (tPartI L F W [m]) := by
  refine pwP fun pins s σ H Q I q => ⟨_, po_some he, ?_⟩
  obtain ⟨β, h, ρ, S, R, p⟩ := q
  refine tI_of S R ?_
  unfold evEs at p
  cases ee : evE L.T F m ρ h with
  | ok v h' =>
    rw [ee] at p
    unfold evEs at p
    obtain ⟨is, e, k⟩ := p
    intro u β' H' x S' r
    cases v with
    | int i =>
      cases r
      cases e
      exact ⟨i, rfl, k β' H' x S'⟩
    | _ => cases e
  | exc x h' => rw [ee] at p; exact p
  | bad => rw [ee] at p; exact p
theorem s_slice {o : Expr} {lo hi : Option Expr} {mo : E} {ml mh : List E} {p2 pos : Pos} (hK : X.K = L.K) (new : Bool) (ho : PE X o (tI L F W mo)) (hl : PO X lo (tPartI L F W ml)) (hu : PO X hi (tPartI L F W mh)) :
    PE X (.Subscript o (.Slice lo hi none p2) pos) (tI L F W (.slice new mo ml mh)) := by
  refine pwE fun pins s σ H Q I q => ⟨_, pe_slice (o_slice (L := L) hK new) ho hl hu, ?_⟩
  obtain ⟨β, h, ρ, S, R, p⟩ := q
  unfold evE at p
  refine tI_of S R (Pst.first p fun v h1 u β1 H1 _ x1 S1 r1 p1 => ?_)
  refine ⟨β1, h1, ρ, S1, R.mono S x1, ?_⟩
  cases e1 : evEs L.T F ml ρ h1 with
  | ok l h2 =>
    rw [e1] at p1
    dsimp only [Out.bind] at p1
    cases i1 : intsV l with
    | none => rw [i1] at p1; exact p1.elim
    | some ls =>
      rw [i1] at p1
      dsimp only at p1
      refine ⟨ls, i1, fun β2 H2 x2 S2 => ⟨β2, h2, ρ, S2, (R.mono S x1).mono S1 x2, ?_⟩⟩
      cases e2 : evEs L.T F mh ρ h2 with
      | ok w h3 =>
        rw [e2] at p1
        dsimp only [Out.bind] at p1
        cases i2 : intsV w with
        | none => rw [i2] at p1; exact p1.elim
        | some us =>
          rw [i2] at p1
          refine ⟨us, i2, fun β3 H3 x3 S3 => ?_⟩
          have p3 := Pst.mono (x2.trans x3) p1
          have r3 := r1.mono S1 (x2.trans x3)
          dsimp only at p3
          split at p3
          · rename_i xs ez
            refine ⟨β3, h3, v, _, S3, r3, ez, ?_⟩
            unfold newL at p3
            split at p3
            · cases new with
              | true => exact p3
              | false => exact p3
            · exact p3.elim
          · rename_i z nz ez
            refine ⟨β3, h3, v, z, S3, r3, ez, ?_⟩
            cases z with
            | lst xs => exact absurd rfl (nz xs)
            | _ => exact p3
          · exact p3.elim
      | exc x h3 => rw [e2] at p1; exact fun c d β3 H3 x3 S3 r3 => p1 c d β3 H3 (x2.trans x3) S3 r3
      | bad => rw [e2] at p1; exact p1.elim
  | exc x h2 => rw [e1] at p1; exact p1
  | bad => rw [e1] at p1; exact p1
end
end MP

/-! Mp1e: calls -/
namespace MP
open PySem PySem.Spec PyProof.Rows L2

theorem plain_args {env : PySem.Env} {pos : Pos} : ∀ {es : List Expr}, es.all notStar = true → (backTo pos (starEach es env)).any (·.1) = false
  | [], _ => rfl
  | e :: es, h => by
    simp only [List.all_cons, Bool.and_eq_true] at h
    rw [starEach_of h.1]
    show (false || (backTo pos (starEach es env)).any (·.1)) = false
    rw [plain_args h.2]; rfl
theorem plain_few {env : PySem.Env} {pos : Pos} : ∀ {es : List Expr}, es.all notStar = true → (backTo pos (starEach es env)).all (fun x => !x.1) = true
  | [], _ => rfl
  | e :: es, h => by
    simp only [List.all_cons, Bool.and_eq_true] at h
    rw [starEach_of h.1]
    show (true && (backTo pos (starEach es env)).all (fun x => !x.1)) = true
    rw [plain_few h.2]; rfl
/-- keywords all named -/
def kwNames : List Keyword → Option (List PySem.Str)
  | [] => some []
  | ⟨some n, _, _⟩ :: r => (kwNames r).map (n :: ·)
  | _ => none
theorem kw_all {env : PySem.Env} {pos : Pos} : ∀ {kws : List Keyword} {ks : List PySem.Str}, kwNames kws = some ks → (backToKw pos (keywordEach kws env)).all (·.1.isSome) = true ∧ (backToKw pos (keywordEach kws env)).filterMap (·.1) = ks ∧
    (backToKw pos (keywordEach kws env)).any (·.1.isNone) = false
  | [], ks, h => by cases h; exact ⟨rfl, rfl, rfl⟩
  | ⟨some n, e, p⟩ :: r, ks, h => by
    obtain ⟨ks', h', rfl⟩ := Option.map_eq_some_iff.mp (show (kwNames r).map (n :: ·) = some ks from h)
    obtain ⟨a, b, c⟩ := kw_all (env := env) (pos := pos) h'
    refine ⟨?_, ?_, ?_⟩
    · show (true && (backToKw pos (keywordEach r env)).all (·.1.isSome)) = true
      rw [a]; rfl
    · show n :: (backToKw pos (keywordEach r env)).filterMap (·.1) = n :: ks'
      rw [b]
    · show (false || (backToKw pos (keywordEach r env)).any (·.1.isNone)) = false
      rw [c]; rfl
  | ⟨none, _, _⟩ :: _, _, h => by cases h
theorem Pst.stop {L : Lk} {β : Bt} {H : Hp} {o : Out Val} {f : Val → Heap → Out Val} {Q : VK} {E : XK} (p : Pst L β H o Q E) (e : ∀ v h, o = .ok v h → f v h = .ok v h) : Pst L β H (o.bind f) Q E := by
  cases o with
  | ok v h => show Pst L β H (f v h) Q E; rw [e v h rfl]; exact p
  | exc x h => exact p
  | bad => exact p
theorem evEs_append (T : Tb) (F : Fns) (ρ : Env) : ∀ (as bs : List E) (h : Heap), evEs T F (as ++ bs) ρ h = (evEs T F as ρ h).bind fun vs h1 => (evEs T F bs ρ h1).bind fun us h2 => .ok (vs ++ us) h2
  | [], bs, h => by
    rw [evEs_nil]
    show evEs T F bs ρ h = (evEs T F bs ρ h).bind fun us h2 => .ok us h2
    cases evEs T F bs ρ h <;> rfl
  | a :: as, bs, h => by
    rw [List.cons_append, evEs_cons, evEs_cons]
    cases evE T F a ρ h with
    | ok v h1 =>
      dsimp only [Out.bind]
      rw [evEs_append T F ρ as bs h1]
      cases evEs T F as ρ h1 with
      | ok vs h2 =>
        dsimp only [Out.bind]
        cases evEs T F bs ρ h2 <;> rfl
      | exc x h2 => rfl
      | bad => rfl
    | exc x h1 => rfl
    | bad => rfl

section
variable {X : Cx} {L : Lk} {F : Fns} {W : WX} {lv : Nat}
/-- f(..), f a def of the module -/
theorem s_call {x : PySem.Str} {k : Nat} {es : List Expr} {ms : List E} {p pos : Pos} (G : Gd X L W lv) (hz : es = [] → ms = []) (hs : es.all notStar = true) (hg : Gl X x) (hm : X.mg x = some (.ref (L.fa k))) (hdb : (x == ("__debug__" : PySem.Str)) = false)
    (pf : PlainFn X.prog X.w X.K X.mg X.base L F lv k) (ha : PA X es (tIs L F W ms)) : PE X (.Call (.Name x p) es [] pos) (tI L F W (.call k ms)) := by
  obtain ⟨fd, ps, Fk, hb, kp⟩ := pf
  refine ⟨fun pins s σ H Q I q => ?_⟩
  obtain ⟨β, h, ρ, S, R, p0⟩ := q
  unfold evE at p0
  refine wpAny_Call_Name_kw (ld_glob I hg hm ?_ hdb)
  cases es with
  | nil =>
    rw [hz rfl] at p0
    unfold evEs at p0
    exact PySem.W.callWith_K0 I.kIn kp (run_fnS (E := WE W) (us := []) Fk G.hr hb (passAt G.tk σ) I .nil ⟨L.pv, β, h, [], S, .nil, p0⟩)
  | cons e es =>
    have ta : tIs L F W ms σ H (fun vs H1 => spF L F k vs H1 Q (WE W σ)) := tIs_of S R (Pst.firsts p0 fun vs h1 us β1 H1 _ x1 S1 r1 p1 => ⟨L.pv, β1, h1, vs, S1, r1, p1⟩)
    simp only [List.all_cons, Bool.and_eq_true] at hs
    refine PySem.W.callWith_K (h₀ := X.base) I.ok.mod.kin kp (thn (ha.run pos pins s σ H _ I ta) fun us s1 ⟨vs, H1, I1, r, q⟩ => ⟨I1.kIn, ?_⟩) (starEach_of hs.1) (plain_args hs.2)
    exact run_fnS (E := WE W) Fk G.hr hb (passAt G.tk σ) I1 r q
/-! ### keywords and defaults -/
theorem run_fnkS {k n : Nat} {f : Addr} {fd : FuncData} {ps ks : List PySem.Str} {sp : Sp} {E : L2.St → XK} {g : List Value → List Value → List Value} {gV : List V → List V → List V} {pins : List (Addr × Obj)} {σ : L2.St} {H : Hp} {s : Shared} {Q : VK} {us ws : List Value} {vs zs : List V}
    (Fk : FnOk X.prog X.w X.K X.mg X.base (L2.CX X.prog X.w) k f fd ps sp) (hr : Room k X.A) (hb : KBn X.K fd ps n ks g gV) (hx : PassesAt (L2.CX X.prog X.w) X σ (E σ)) (I : L2.Inv X pins σ H s) (r : Vals vs us) (rz : Vals zs ws) (l1 : vs.length = n) (l2 : zs.length = ks.length)
    (h : sp (gV vs zs) H Q (E σ)) : wpAny (model X.prog X.w) X.A (call (.ref f) us (ks.zip ws)) (EP X pins σ Q) X.xe s := by
  have r2 := hb.rel r rz
  refine wpAny_call (codeAny_mono (Fk.run X.A X.stack s H ⟨us, ks.zip ws⟩ (g us ws) (gV vs zs) Q (E σ) hr I.env0 (hb.to s us ws I.kIn (r.length.symm.trans l1) (rz.length.symm.trans l2)) r2 h) fun r s' hq => ?_)
  cases r with
  | error e => exact hx pins H s e s' I hq
  | ok fl =>
    cases fl with
    | ret u => exact I.after hq
    | next => exact False.elim hq
    | brk => exact False.elim hq
    | cont => exact False.elim hq
theorem s_kcons {nm : Option PySem.Str} {e : Expr} {kp : Pos} {kws : List Keyword} {m : E} {ms : List E} (he : PE X e (tI L F W m)) (hr : PK X kws (tIs L F W ms)) : PK X (⟨nm, e, kp⟩ :: kws) (tIs L F W (m :: ms)) := by
  refine ⟨fun pos pins s σ H Q I q => (pk_cons he hr).run pos pins s σ H Q I ?_⟩
  obtain ⟨β, h, ρ, S, R, p⟩ := q
  unfold evEs at p
  refine tI_of S R (Psts.first p fun v h1 u β1 H1 _ x1 S1 r1 p1 => ?_)
  refine tIs_of S1 (R.mono S x1) (Psts.firsts p1 fun vs h2 us β2 H2 _ x2 S2 r2 p2 => ?_)
  exact p2 _ _ _ .refl S2 (.cons (r1.mono S1 x2) r2)
theorem s_knil : PK X [] (tIs L F W []) := ⟨fun pos pins s σ H Q I ⟨β, h, ρ, S, R, p⟩ => pk_nil.run pos pins s σ H Q I (p _ _ _ .refl S .nil)⟩
/-- f(e, .., k = v, ..) -/
theorem s_callK {x : PySem.Str} {k n : Nat} {e : Expr} {es : List Expr} {kws : List Keyword} {ks : List PySem.Str} {ms mk : List E} {b : List Bd} {p pos : Pos} (G : Gd X L W lv) (hs : (e :: es).all notStar = true) (hkn : kwNames kws = some ks) (ln : ms.length = n) (lk : mk.length = ks.length)
    (hg : Gl X x) (hm : X.mg x = some (.ref (L.fa k))) (hdb : (x == ("__debug__" : PySem.Str)) = false)
    (pf : KwFn X.prog X.w X.K X.mg X.base L F lv k n ks b) (ha : PA X (e :: es) (tIs L F W ms)) (hk : PK X kws (tIs L F W mk)) : PE X (.Call (.Name x p) (e :: es) kws pos) (tI L F W (.callK k (ms ++ mk) b)) := by
  obtain ⟨fd, ps, g, gV, Fk, hb, kp, hV⟩ := pf
  refine ⟨fun pins s σ H Q I q => ?_⟩
  obtain ⟨β, h, ρ, S, R, p0⟩ := q
  unfold evE at p0
  rw [evEs_append] at p0
  refine wpAny_Call_Name_kw (ld_glob I hg hm ?_ hdb)
  simp only [List.all_cons, Bool.and_eq_true] at hs
  obtain ⟨k1, k2, k3⟩ := kw_all (env := X.env) (pos := pos) hkn
  have lenE : ∀ (ms : List E) (h : Heap) vs h', evEs L.T F ms ρ h = .ok vs h' → vs.length = ms.length := by
    intro ms
    induction ms with
    | nil => intro h vs h' q; unfold evEs at q; cases q; rfl
    | cons a as ih =>
      intro h vs h' q
      unfold evEs at q
      cases e1 : evE L.T F a ρ h with
      | ok v h1 =>
        rw [e1] at q
        dsimp only [Out.bind] at q
        cases e2 : evEs L.T F as ρ h1 with
        | ok us h2 =>
          rw [e2] at q
          dsimp only [Out.bind] at q
          cases q
          exact congrArg Nat.succ (ih _ _ _ e2)
        | exc _ _ => rw [e2] at q; cases q
        | bad => rw [e2] at q; cases q
      | exc _ _ => rw [e1] at q; cases q
      | bad => rw [e1] at q; cases q
  have assoc : ∀ (o : Out (List Val)) (f : List Val → Heap → Out (List Val)) (k' : List Val → Heap → Out Val), (o.bind f).bind k' = o.bind fun v h => (f v h).bind k' := fun o f k' => by cases o <;> rfl
  rw [assoc] at p0
  have ta : tIs L F W ms σ H (fun vs H1 => vs.length = n ∧ tIs L F W mk σ H1 fun zs H2 => zs.length = ks.length ∧ spF L F k (gV vs zs) H2 Q (WE W σ)) :=
    tIs_of S R (Pst.firsts p0 fun vs h1 us β1 H1 e1 x1 S1 r1 p1 => by
      have l1 : us.length = n := by rw [r1.length, lenE _ _ _ _ e1, ln]
      refine ⟨l1, tIs_of S1 (R.mono S x1) ?_⟩
      rw [assoc] at p1
      refine Pst.firsts p1 fun zs h2 ws β2 H2 e2 x2 S2 r2 p2 => ?_
      have l2 : ws.length = ks.length := by rw [r2.length, lenE _ _ _ _ e2, lk]
      refine ⟨l2, ?_⟩
      dsimp only [Out.bind] at p2
      cases eb : bindBd (vs ++ zs) b with
      | none => rw [eb] at p2; exact p2.elim
      | some args =>
        rw [eb] at p2
        exact ⟨L.pv, β2, h2, args, S2, hV _ _ _ _ _ _ _ _ S2 ((r1.mono S1 x2).append r2) l1 l2 eb, p2⟩)
  refine PySem.W.callWith_KW (h₀ := X.base) I.ok.mod.kin kp k1 (thn (ha.run pos pins s σ H _ I ta) fun us s1 ⟨vs, H1, I1, r, l1, q⟩ => ?_) ?_ (starEach_of hs.1)
  · refine thn (hk.run pos pins s1 σ H1 _ I1 q) fun ws s2 ⟨zs, H2, I2, rz, l2, q2⟩ => ⟨I2.kIn, ?_⟩
    rw [k2]
    exact run_fnkS (E := WE W) Fk G.hr hb (passAt G.tk σ) I2 r rz l1 l2 q2
  · rw [starEach_of hs.1]
    show ((false || (backTo pos (starEach es X.env)).any (·.1)) || (backToKw pos (keywordEach kws X.env)).any (·.1.isNone)) = false
    rw [plain_args hs.2, k3]; rfl

/-! ### C(..) -/
theorem run_makeS {k : Nat} {f C : Addr} {fd : FuncData} {ps : List PySem.Str} {sp : Sp} {E : L2.St → XK} {pins : List (Addr × Obj)} {σ : L2.St} {H : Hp} {s : Shared} {Q : VK} {us : List Value} {vs : List V}
    (M : Mk X.K C f) (Fk : FnOk X.prog X.w X.K X.mg X.base (L2.CX X.prog X.w) k f fd ps sp) (hr : Room (k + 1) X.A) (hb : Binds X.K fd ps []) (hx : PassesAt (L2.CX X.prog X.w) X σ (E σ)) (I : L2.Inv X pins σ H s) (r : Vals vs us)
    (h : ∀ x dx, H x = none → H dx = none → dx ≠ x → sp (.ref x :: vs) (upd (upd H dx (.own x)) x (.ins C dx [])) (fun v H2 => v = .non ∧ Q (.ref x) H2) (E σ)) :
    wpAny (model X.prog X.w) X.A (call (.ref C) us) (EP X pins σ Q) X.xe s := by
  have hq := h (s.heap.objs.size + 1) s.heap.objs.size (I.hok.fresh (Nat.le_succ _)) (I.hok.fresh (Nat.le_refl _)) (Nat.ne_of_lt (Nat.lt_succ_self _))
  have I2 := Inv.made (C := C) I
  have r2 : Vals (V.ref (s.heap.objs.size + 1) :: vs) (Value.ref (s.heap.objs.size + 1) :: us) := .cons rfl r
  have hl : (Value.ref (s.heap.objs.size + 1) :: us).length = ps.length := by rw [← r2.length]; exact Fk.len _ _ _ _ hq
  have b := hb _ (Value.ref (s.heap.objs.size + 1) :: us) I2.kIn (by rw [List.append_nil]; exact hl)
  rw [List.append_nil] at b
  refine wpAny_call (make_map (f := f) I.kIn M.makes M.init (beq_iff_eq.mp M.fn) (codeAny_mono (Fk.run _ X.stack _ _ ⟨Value.ref (s.heap.objs.size + 1) :: us, []⟩ (Value.ref (s.heap.objs.size + 1) :: us) _ _ (E σ) (hr.make C us [])
    (I2.env0.make C us []) b r2 hq) fun r s' hq' => ?_))
  cases r with
  | error e => exact hx pins _ _ e s' I2 hq'
  | ok fl =>
    cases fl with
    | ret u =>
      obtain ⟨v, H', I3, rv, ev, q3⟩ := I2.after hq'
      subst ev
      exact ⟨rv, ⟨V.ref (s.heap.objs.size + 1), H', I3, rfl, q3⟩⟩
    | next => exact False.elim hq'
    | brk => exact False.elim hq'
    | cont => exact False.elim hq'
theorem make_sp {β : Bt} {H : Hp} {h : Heap} {c k : Nat} {vs : List V} {args : List Val} {Q : VK} {E : XK} (K0 : Lf X.K L) (S : Sim L β H h) (r : VRs L β H vs args) (ic : L.T.isC c = true) (hi : L.T.init c = some k) (p : Pst L β H (makeV L.T F c args h) Q E) :
    ∀ x dx, H x = none → H dx = none → dx ≠ x → spF L F k (.ref x :: vs) (upd (upd H dx (.own x)) x (.ins (L.ca c) dx [])) (fun v H2 => v = .non ∧ Q (.ref x) H2) E := by
  intro x dx hx hdx hne
  unfold makeV at p
  rw [ic, hi] at p
  dsimp only at p
  have S1 : Sim L β (upd H dx (.own x)) h := S.laid hdx
  have x1 : Ext β H β (upd H dx (.own x)) := Ext.laid S hdx
  have hx1 : (upd H dx (.own x)) x = none := by rw [upd_ne (Ne.symm hne)]; exact hx
  have x2 : Ext β (upd H dx (.own x)) (bnd β h.n x) (upd (upd H dx (.own x)) x (.ins (L.ca c) dx [])) := Ext.bound S1 hx1
  have S2 : Sim L (bnd β h.n x) (upd (upd H dx (.own x)) x (.ins (L.ca c) dx [])) (h.push (.ins c [])) := S1.push (c := .ins c []) hx1 ⟨ic, (fun p hp => by cases hp), dx, [], upd_same, FR.nil⟩
  refine ⟨L.pv, _, _, .ref h.n :: args, S2, .cons (.ref bnd_same) (r.mono S (x1.trans x2)), ?_⟩
  have p1 := Pst.mono (x1.trans x2) p
  refine Pst.first p1 fun v h3 u β3 H3 e3 x3 S3 r3 p3 => ?_
  cases v with
  | non =>
    cases r3
    exact ⟨rfl, p3 _ _ _ .refl S3 (.ref (x3.keep _ _ bnd_same))⟩
  | _ => exact p3.elim
theorem s_make {x : PySem.Str} {c k : Nat} {es : List Expr} {ms : List E} {p pos : Pos} (G : Gd X L W (lv + 1)) (K0 : Lf X.K L) (hz : es = [] → ms = []) (hs : es.all notStar = true) (hg : Gl X x) (hm : X.mg x = some (.ref (L.ca c))) (hdb : (x == ("__debug__" : PySem.Str)) = false)
    (ic : L.T.isC c = true) (hi : L.T.init c = some k) (pf : PlainFn X.prog X.w X.K X.mg X.base L F lv k) (ha : PA X es (tIs L F W ms)) : PE X (.Call (.Name x p) es [] pos) (tI L F W (.make c ms)) := by
  obtain ⟨fd, ps, Fk, hb, kp⟩ := pf
  have M := K0.init c k ic hi
  refine ⟨fun pins s σ H Q I q => ?_⟩
  obtain ⟨β, h, ρ, S, R, p0⟩ := q
  unfold evE at p0
  refine wpAny_Call_Name_kw (ld_glob I hg hm ?_ hdb)
  cases es with
  | nil =>
    rw [hz rfl] at p0
    unfold evEs at p0
    exact PySem.W.callWith_K0 I.kIn M.kp (run_makeS (E := WE W) (us := []) M Fk G.hr hb (passAt G.tk σ) I .nil (make_sp K0 S .nil ic hi p0))
  | cons e es =>
    have ta : tIs L F W ms σ H (fun vs H1 => ∃ β1 h1 args, Sim L β1 H1 h1 ∧ VRs L β1 H1 vs args ∧ Pst L β1 H1 (makeV L.T F c args h1) Q (WE W σ)) := tIs_of S R (Pst.firsts p0 fun vs h1 us β1 H1 _ x1 S1 r1 p1 => ⟨β1, h1, vs, S1, r1, p1⟩)
    simp only [List.all_cons, Bool.and_eq_true] at hs
    refine PySem.W.callWith_K (h₀ := X.base) I.ok.mod.kin M.kp (thn (ha.run pos pins s σ H _ I ta) fun us s1 ⟨vs, H1, I1, r, β1, h1, args, S1, r1, q⟩ => ⟨I1.kIn, ?_⟩) (starEach_of hs.1) (plain_args hs.2)
    exact run_makeS (E := WE W) M Fk G.hr hb (passAt G.tk σ) I1 r (make_sp K0 S1 r1 ic hi q)

/-! ### o.m(..), m a def of the instance's class -/
theorem mcall_eq {o : Expr} {m : PySem.Str} {apos pos : Pos} {es : List Expr} (hn : notSuper o = true) (hl : (apos.endLine == pos.line) = true) (hs : es.all notStar = true) (hc : es.length < 30) :
    eval (.Call (.Attribute o m apos) es [] pos) X.env = (do
      let ov ← eval o X.env
      standAt apos.atName
      let (f, first) ← holding [ov] (getMethod ov m (plainOf o X.env))
      callWith pos f first (backTo pos (starEach es X.env)) (backToKw pos (keywordEach [] X.env))) :=
  mcall_of (base_of hn) fun ov => mcall_line (by
    show ((backTo pos (starEach es X.env)).all (fun x => !x.1) && true && decide (es.length + 0 + 0 < 30)) = true
    rw [plain_few hs, Bool.true_and, Bool.true_and]
    exact decide_eq_true (by omega)) hl
theorem s_meth {o : Expr} {m : Nat} {mo : E} {es : List Expr} {ms : List E} {apos pos : Pos} (G : Gd X L W lv) (K0 : Lf X.K L) (hz : es = [] → ms = []) (hn : notSuper o = true) (hl : (apos.endLine == pos.line) = true) (hs : es.all notStar = true) (hc : es.length < 30) (ho : PE X o (tI L F W mo)) (ha : PA X es (tIs L F W ms))
    (pf : ∀ c k, L.T.isC c = true → L.T.meth c m = some k → PlainFn X.prog X.w X.K X.mg X.base L F lv k) : PE X (.Call (.Attribute o (L.nm m) apos) es [] pos) (tI L F W (.meth mo m ms)) := by
  refine ⟨fun pins s σ H Q I q => ?_⟩
  obtain ⟨β, h, ρ, S, R, p0⟩ := q
  unfold evE at p0
  refine PySem.W.methodCall_KW (pl := plainOf o X.env) (thn (ho.run pins s σ H (fun x H1 => ∃ β1 h1 r c fs k a, Sim L β1 H1 h1 ∧ ER L β1 H1 σ ρ ∧ x = .ref a ∧ β1 r = some a ∧ h1.c r = some (.ins c fs) ∧ lookF fs m = none ∧ L.T.meth c m = some k ∧
    Pst L β1 H1 ((evEs L.T F ms ρ h1).bind fun vs h => F k (.ref r :: vs) h) Q fun c d H' => W c d σ H') I
    (tI_of S R (Pst.first p0 fun v h1 u β1 H1 e1 x1 S1 r1 p1 => ?_))) fun u s1 ⟨x, H1, I1, rx, β1, h1, r, c, fs, k, a, S1, R1, ex, eb, ec, el, em, p1⟩ => ?_) (mcall_eq hn hl hs hc)
  · clear e1
    split at p1
    · rename_i r
      split at p1
      · rename_i c fs ec
        split at p1
        · rename_i k el em
          cases r1 with
          | ref hb => exact ⟨β1, h1, r, c, fs, k, _, S1, R.mono S x1, rfl, hb, ec, el, em, p1⟩
        · exact p1.elim
      · exact p1.elim
    · exact p1.elim
  · subst ex
    cases rx
    obtain ⟨ic, fo, dx, ps0, hH, fr⟩ := ins_at S1 eb ec
    obtain ⟨fd, ps, Fk, hb, kp⟩ := pf c k ic em
    have hm := K0.meth c m k ic em
    refine getmeth_ok I1 hH (K0.cls c ic) hm ((fr.look K0.inj m).2 el) ?_
    cases es with
    | nil =>
      rw [hz rfl] at p1
      unfold evEs at p1
      exact PySem.W.callWith_K0 (first := [.ref a]) I1.kIn hm.kp (run_fnS (E := WE W) (us := [.ref a]) (vs := [.ref a]) Fk G.hr hb (passAt G.tk σ) I1 (.cons rfl .nil) ⟨L.pv, β1, h1, [.ref r], S1, .cons (.ref eb) .nil, p1⟩)
    | cons e es =>
      have ta : tIs L F W ms σ H1 (fun vs H2 => spF L F k (.ref a :: vs) H2 Q (WE W σ)) := tIs_of S1 R1 (Pst.firsts p1 fun vs h2 us β2 H2 _ x2 S2 r2 p2 => ⟨L.pv, β2, h2, .ref r :: vs, S2, .cons (.ref (x2.keep _ _ eb)) r2, p2⟩)
      simp only [List.all_cons, Bool.and_eq_true] at hs
      refine PySem.W.callWith_K (first := [.ref a]) (h₀ := X.base) I.ok.mod.kin hm.kp (thn (ha.run pos pins s1 σ H1 _ I1 ta) fun us s2 ⟨vs, H2, I2, r2, q2⟩ => ⟨I2.kIn, ?_⟩) (starEach_of hs.1) (plain_args hs.2)
      exact run_fnS (E := WE W) (us := .ref a :: us) (vs := .ref a :: vs) Fk G.hr hb (passAt G.tk σ) I2 (.cons rfl r2) q2

/-! ### a call of a name that holds a def -/
theorem s_callV {i : Nat} {x : PySem.Str} {e : Expr} {es : List Expr} {ms : List E} {p pos : Pos} (G : Gd X L W lv) (hs : (e :: es).all notStar = true) (hN : X.N[i]? = some x) (hv : Vis X.env.scope x) (hdb : (x == ("__debug__" : PySem.Str)) = false) (hcd : (x == ("__classdict__" : PySem.Str)) = false)
    (pf : ∀ k, L.T.val k = true → PlainFn X.prog X.w X.K X.mg X.base L F lv k) (ha : PA X (e :: es) (tIs L F W ms)) : PE X (.Call (.Name x p) (e :: es) [] pos) (tI L F W (.callV i ms)) := by
  refine ⟨fun pins s σ H Q I q => ?_⟩
  obtain ⟨β, h, ρ, S, R, p0⟩ := q
  unfold evE at p0
  split at p0
  · rename_i k ek
    obtain ⟨u, eu, ru⟩ := R.get i _ ek
    cases ru
    simp only [List.all_cons, Bool.and_eq_true] at hs
    split at p0
    · rename_i hv1
      obtain ⟨fd, ps, Fk, hb, kp⟩ := pf k hv1
      have ta : tIs L F W ms σ H (fun vs H1 => spF L F k vs H1 Q (WE W σ)) := tIs_of S R (Pst.firsts p0 fun vs h1 us β1 H1 _ x1 S1 r1 p1 => ⟨L.pv, β1, h1, vs, S1, r1, p1⟩)
      refine wpAny_Call_Name_kw (thn ((pe_var (pos := p) hN hv hdb hcd).run pins s σ H (fun v H1 => v = .ref (L.fa k) ∧ H1 = H) I ⟨.ref (L.fa k), eu, rfl, rfl⟩) fun u s1 ⟨v, H1, I1, r1, q1⟩ => ?_)
      obtain ⟨rfl, rfl⟩ := q1
      cases r1
      refine PySem.W.callWith_K (h₀ := X.base) I.ok.mod.kin kp (thn (ha.run pos pins s1 σ _ _ I1 ta) fun us s2 ⟨vs, H2, I2, r, q⟩ => ⟨I2.kIn, ?_⟩) (starEach_of hs.1) (plain_args hs.2)
      exact run_fnS (E := WE W) Fk G.hr hb (passAt G.tk σ) I2 r q
    · exact p0.elim
  · exact p0.elim
end
end MP

/-! Mp1f: built-in functions, methods of lists and texts, isinstance -/
namespace MP
open PySem PySem.Spec PyProof.Rows L2

theorem pwC {X : Cx} {f : Value} {r : List V → Hp → VK → Prop} (k : ∀ pins s σ H xs Q, L2.Inv X pins σ H s → r xs H Q → ∃ r', CallR X f r' ∧ r' xs H Q) : CallR X f r := by
  intro pins s σ H xs us Q I r1 h
  obtain ⟨r', c, q⟩ := k pins s σ H xs Q I h
  exact c pins s σ H xs us Q I r1 q
theorem pwM {X : Cx} {id : String} {r : V → List V → Hp → VK → Prop} (k : ∀ pins s σ H x xs Q, L2.Inv X pins σ H s → r x xs H Q → ∃ r', MtR X id r' ∧ r' x xs H Q) : MtR X id r := by
  intro pins s σ H x xs v us Q I rx r1 h
  obtain ⟨r', c, q⟩ := k pins s σ H x xs Q I h
  exact c pins s σ H x xs v us Q I rx r1 q

section
variable {L : Lk} {β : Bt} {H : Hp} {h : Heap}
theorem ints_of : ∀ {xs : List Val} {is : List Int} {vs : List V}, intsV xs = some is → VRs L β H vs xs → vs = is.map V.int
  | [], _, _, e, .nil => by cases e; rfl
  | x :: xs, is, _, e, .cons r t => by
    cases x with
    | int i =>
      obtain ⟨js, ej, rfl⟩ := Option.map_eq_some_iff.mp (show (intsV xs).map (i :: ·) = some is from e)
      cases r
      rw [ints_of ej t]; rfl
    | _ => cases e
theorem bools_of : ∀ {xs : List Val} {is : List Bool} {vs : List V}, boolsV xs = some is → VRs L β H vs xs → vs = is.map V.bl
  | [], _, _, e, .nil => by cases e; rfl
  | x :: xs, is, _, e, .cons r t => by
    cases x with
    | bl i =>
      obtain ⟨js, ej, rfl⟩ := Option.map_eq_some_iff.mp (show (boolsV xs).map (i :: ·) = some is from e)
      cases r
      rw [bools_of ej t]; rfl
    | _ => cases e
def tx (s : List Nat) : PySem.Str := ⟨s.toArray⟩
theorem texts_of : ∀ {xs : List Val} {is : List (List Nat)} {vs : List V}, textsV xs = some is → VRs L β H vs xs → vs = (is.map tx).map V.str
  | [], _, _, e, .nil => by cases e; rfl
  | x :: xs, is, _, e, .cons r t => by
    cases x with
    | str i =>
      obtain ⟨js, ej, rfl⟩ := Option.map_eq_some_iff.mp (show (textsV xs).map (i :: ·) = some is from e)
      cases r
      rw [texts_of ej t]; rfl
    | _ => cases e
theorem maxI_of : ∀ {is : List Int} {m : Int}, maxI is = some m → 0 < is.length ∧ m ∈ is ∧ ∀ y ∈ is, y ≤ m
  | [], _, e => by cases e
  | [i], m, e => by cases e; exact ⟨Nat.one_pos, by simp, by simp⟩
  | i :: j :: r, m, e => by
    obtain ⟨k, ek, rfl⟩ := Option.map_eq_some_iff.mp (show (maxI (j :: r)).map (fun m => max i m) = some m from e)
    obtain ⟨_, h2, h3⟩ := maxI_of ek
    refine ⟨Nat.succ_pos _, ?_, fun y hy => ?_⟩
    · rcases Int.le_total i k with q | q
      · rw [show max i k = k by omega]; exact List.mem_cons_of_mem _ h2
      · rw [show max i k = i by omega]; exact List.mem_cons_self
    · rcases List.mem_cons.mp hy with rfl | hy
      · omega
      · have := h3 y hy; omega
theorem minI_of : ∀ {is : List Int} {m : Int}, minI is = some m → 0 < is.length ∧ m ∈ is ∧ ∀ y ∈ is, m ≤ y
  | [], _, e => by cases e
  | [i], m, e => by cases e; exact ⟨Nat.one_pos, by simp, by simp⟩
  | i :: j :: r, m, e => by
    obtain ⟨k, ek, rfl⟩ := Option.map_eq_some_iff.mp (show (minI (j :: r)).map (fun m => min i m) = some m from e)
    obtain ⟨_, h2, h3⟩ := minI_of ek
    refine ⟨Nat.succ_pos _, ?_, fun y hy => ?_⟩
    · rcases Int.le_total i k with q | q
      · rw [show min i k = i by omega]; exact List.mem_cons_self
      · rw [show min i k = k by omega]; exact List.mem_cons_of_mem _ h2
    · rcases List.mem_cons.mp hy with rfl | hy
      · omega
      · have := h3 y hy; omega
end
theorem intText_eq (i : Int) : (Str.ofString (toString i)) = tx (intText i) := by
  cases i with
  | ofNat n =>
    have e : intText (Int.ofNat n) = digits n := by
      unfold intText
      rw [if_neg (by simp)]; rfl
    rw [e]
    exact TL.ext_tl (TL.tl_num n)
  | negSucc n =>
    have e : intText (Int.negSucc n) = 45 :: digits (n + 1) := by
      unfold intText
      rw [if_pos (Int.negSucc_lt_zero n)]; rfl
    rw [e]
    have e2 := TL.tl_num (n + 1)
    refine TL.ext_tl ?_
    show (Str.ofString (toString (Int.negSucc n))).cps.toList = _
    have e3 : toString (Int.negSucc n) = "-" ++ toString (((n + 1 : Nat)) : Int) := rfl
    have e4 : ∀ a b : String, (Str.ofString (a ++ b)).cps.toList = (Str.ofString a).cps.toList ++ (Str.ofString b).cps.toList := fun a b => by
      rw [PyProof.Rows.signs_ofString, PyProof.Rows.signs_ofString, PyProof.Rows.signs_ofString, String.toList_append, List.map_append]
    rw [e3, e4]
    show _ ++ TL.tl (Str.ofString (toString (((n + 1 : Nat)) : Int))) = _
    rw [e2]
    rfl
theorem join_eq (s : List Nat) : ∀ ts : List (List Nat), PySem.Str.join (tx s) (ts.map tx) = tx (joinT s ts)
  | [] => rfl
  | [x] => rfl
  | x :: y :: r => by
    show tx x ++ tx s ++ PySem.Str.join (tx s) ((y :: r).map tx) = _
    rw [join_eq s (y :: r)]
    show (⟨_⟩ : PySem.Str) ++ ⟨_⟩ ++ ⟨_⟩ = _
    rw [str_app, str_app]; rfl
theorem sumLen_eq : ∀ ts : List (List Nat), ((ts.map tx).map (·.length)).sum = sumLen ts
  | [] => rfl
  | x :: r => by
    simp only [List.map_cons, List.sum_cons, sumLen]
    rw [sumLen_eq r]; rfl

def bfNm : Bf → PySem.Str
  | .len => "len" | .max => "max" | .min => "min" | .sum => "sum" | .all => "all" | .any => "any" | .int => "int" | .str => "str" | .list => "list" | .tuple => "tuple" | .sorted => "sorted"
def bfTy : Bf → Bool
  | .int | .str | .list | .tuple => true
  | _ => false
def bfId : Bf → String
  | .len => "len" | .max => "max" | .min => "min" | .sum => "sum" | .all => "all" | .any => "any" | .int => "int" | .str => "str" | .list => "list" | .tuple => "tuple" | .sorted => "sorted"
def bfVal (f : Bf) : Value := if bfTy f then .type (bfId f) else .builtin (bfId f)
def rBf (L : Lk) (f : Bf) (new : Bool) : List V → Hp → VK → Prop := fun vs H Q => ∃ (β : Bt) (h : Heap) (args : List Val) (z : Val), Sim L β H h ∧ VRs L β H vs args ∧ bfV h f args = some z ∧ Want L β H new h z Q

section
variable {X : Cx} {L : Lk}
theorem o_len_dict (hu : True) : CallR X (.builtin "len") (fun xs H Q => ∃ a kvs, xs = [.ref a] ∧ Rd H a (.dK kvs) ∧ Q (.int kvs.length) H) := by
  intro pins s σ H xs us Q I r h
  obtain ⟨a, kvs, rfl, e, q⟩ := h
  obtain ⟨u, rfl, rx⟩ := vals1 r
  cases rx
  exact d_len I e fun t s' I' => ⟨.int _, H, I', ⟨_, rfl⟩, q⟩
theorem o_len (hK : X.K = L.K) (new : Bool) : CallR X (.builtin "len") (rBf L .len new) := by
  refine pwC fun pins s σ H xs Q I q => ?_
  obtain ⟨β, h, args, z, S, rs, e, k⟩ := q
  have seqs : ∀ b v ys, VR L β H v b → seqOf h b = some ys → z = .int ys.length → xs = [v] → ∃ r', CallR X (.builtin "len") r' ∧ r' xs H Q := fun b v ys rv es ez ex => by
    subst ez ex
    obtain ⟨a, vs, rfl, rr, hs⟩ := seq_of S rv es
    refine ⟨_, call_len, _, ys.length, rfl, ?_, k _ _ _ .refl S (.int _)⟩
    rcases hs with hs | hs
    · exact .inl ⟨vs, hK ▸ hs, rr.length.symm⟩
    · exact .inr ⟨vs, hK ▸ hs, rr.length.symm⟩
  unfold bfV at e
  split at e
  · rename_i t _
    obtain ⟨hl, rfl⟩ := ite_some e
    cases rs with
    | cons r t' =>
      cases t'
      cases r
      refine ⟨_, call_len, _, t.length, rfl, ⟨?_, rfl⟩, k _ _ _ .refl S (.int _)⟩
      rw [← sizeL]; exact hl
  · rename_i r
    cases rs with
    | cons rv t' =>
      cases t'
      split at e
      · rename_i ys q
        cases e
        exact seqs _ _ ys rv (by simp only [seqOf, q]) rfl rfl
      · rename_i kvs lk q
        cases e
        cases rv with
        | ref hb =>
          obtain ⟨a', hb', x⟩ := S.at q
          rw [hb] at hb'; cases hb'
          cases lk with
          | false =>
            obtain ⟨ps, ha, kr⟩ := x
            exact ⟨_, o_len_dict trivial, _, ps, rfl, .inl ha, by rw [kr.length]; exact k _ _ _ .refl S (.int _)⟩
          | true =>
            obtain ⟨ps, o, ha, kr⟩ := x
            exact ⟨_, o_len_dict trivial, _, ps, rfl, .inr ⟨o, ha⟩, by rw [kr.length]; exact k _ _ _ .refl S (.int _)⟩
      · cases e
  · rename_i v h1 h2 _
    cases rs with
    | cons rv t' =>
      cases t'
      cases es : seqOf h v with
      | none => rw [es] at e; cases e
      | some ys => rw [es] at e; cases e; exact seqs _ _ ys rv es rfl rfl
  all_goals first | contradiction | cases e
theorem o_max (hK : X.K = L.K) (hc : X.calm = true) (new : Bool) : CallR X (.builtin "max") (rBf L .max new) := by
  refine pwC fun pins s σ H xs Q I q => ?_
  obtain ⟨β, h, args, z, S, rs, e, k⟩ := q
  unfold bfV at e
  split at e
  all_goals first | contradiction | skip
  · cases e
    cases rs with
    | cons r1 t1 =>
      cases t1 with
      | cons r2 t2 =>
        cases t2; cases r1; cases r2
        exact ⟨_, call_max2 hc, _, _, rfl, k _ _ _ .refl S (.int _)⟩
  · obtain ⟨m, em, rfl⟩ := Option.map_eq_some_iff.mp e
    obtain ⟨is, ei, em⟩ := Option.bind_eq_some_iff.mp em
    obtain ⟨m1, m2, m3⟩ := maxI_of em
    cases rs with
    | cons r1 t1 =>
      cases t1
      cases r1 with
      | lst ha hn rr =>
        refine ⟨_, cr_max hc, _, is, rfl, ?_, m1, fun m' h1 h2 => ?_⟩
        · rw [← ints_of ei rr]; exact SqL.of ha
        · have : m' = m := Int.le_antisymm (m3 _ h1) (h2 _ m2)
          subst this
          exact k _ _ _ .refl S (.int _)
theorem o_min (hK : X.K = L.K) (hc : X.calm = true) (new : Bool) : CallR X (.builtin "min") (rBf L .min new) := by
  refine pwC fun pins s σ H xs Q I q => ?_
  obtain ⟨β, h, args, z, S, rs, e, k⟩ := q
  unfold bfV at e
  split at e
  all_goals first | contradiction | skip
  · cases e
    cases rs with
    | cons r1 t1 =>
      cases t1 with
      | cons r2 t2 =>
        cases t2; cases r1; cases r2
        exact ⟨_, call_min2 hc, _, _, rfl, k _ _ _ .refl S (.int _)⟩
  · obtain ⟨m, em, rfl⟩ := Option.map_eq_some_iff.mp e
    obtain ⟨is, ei, em⟩ := Option.bind_eq_some_iff.mp em
    obtain ⟨m1, m2, m3⟩ := minI_of em
    cases rs with
    | cons r1 t1 =>
      cases t1
      cases r1 with
      | lst ha hn rr =>
        refine ⟨_, cr_min hc, _, is, rfl, ?_, m1, fun m' h1 h2 => ?_⟩
        · rw [← ints_of ei rr]; exact SqL.of ha
        · have : m' = m := Int.le_antisymm (h2 _ m2) (m3 _ h1)
          subst this
          exact k _ _ _ .refl S (.int _)
theorem o_sum (hc : X.calm = true) (new : Bool) : CallR X (.builtin "sum") (rBf L .sum new) := by
  refine pwC fun pins s σ H xs Q I q => ?_
  obtain ⟨β, h, args, z, S, rs, e, k⟩ := q
  unfold bfV at e
  split at e
  all_goals first | contradiction | skip
  · obtain ⟨is, ei, rfl⟩ := Option.map_eq_some_iff.mp e
    cases rs with
    | cons r1 t1 =>
      cases t1
      cases r1 with
      | lst ha hn rr =>
        refine ⟨_, cr_sum hc, _, is, rfl, ?_, k _ _ _ .refl S (.int _)⟩
        rw [← ints_of ei rr]; exact SqL.of ha
theorem o_all (hc : X.calm = true) (new : Bool) : CallR X (.builtin "all") (rBf L .all new) := by
  refine pwC fun pins s σ H xs Q I q => ?_
  obtain ⟨β, h, args, z, S, rs, e, k⟩ := q
  unfold bfV at e
  split at e
  all_goals first | contradiction | skip
  · obtain ⟨is, ei, rfl⟩ := Option.map_eq_some_iff.mp e
    cases rs with
    | cons r1 t1 =>
      cases t1
      cases r1 with
      | lst ha hn rr =>
        refine ⟨_, cr_all hc, _, is, rfl, ?_, k _ _ _ .refl S (.bl _)⟩
        rw [← bools_of ei rr]; exact SqL.of ha
theorem o_any (hc : X.calm = true) (new : Bool) : CallR X (.builtin "any") (rBf L .any new) := by
  refine pwC fun pins s σ H xs Q I q => ?_
  obtain ⟨β, h, args, z, S, rs, e, k⟩ := q
  unfold bfV at e
  split at e
  all_goals first | contradiction | skip
  · obtain ⟨is, ei, rfl⟩ := Option.map_eq_some_iff.mp e
    cases rs with
    | cons r1 t1 =>
      cases t1
      cases r1 with
      | lst ha hn rr =>
        refine ⟨_, cr_any hc, _, is, rfl, ?_, k _ _ _ .refl S (.bl _)⟩
        rw [← bools_of ei rr]; exact SqL.of ha
theorem o_int (new : Bool) : CallR X (.type "int") (rBf L .int new) := by
  refine pwC fun pins s σ H xs Q I q => ?_
  obtain ⟨β, h, args, z, S, rs, e, k⟩ := q
  unfold bfV at e
  split at e
  all_goals first | contradiction | skip
  · cases e
    cases rs with
    | cons r1 t1 => cases t1; cases r1; exact ⟨_, call_int1, .inl ⟨_, rfl, k _ _ _ .refl S (.int _)⟩⟩
  · cases e
    cases rs with
    | cons r1 t1 => cases t1; cases r1; exact ⟨_, call_int1, .inr ⟨_, rfl, k _ _ _ .refl S (.int _)⟩⟩
  · obtain ⟨⟨hd, hl⟩, rfl⟩ := ite_some e
    cases rs with
    | cons r1 t1 =>
      cases t1; cases r1
      simp only [allDig, Bool.and_eq_true, Bool.not_eq_true', List.isEmpty_eq_false_iff] at hd
      refine ⟨_, call_int_str, _, _, rfl, SX.int_S hd.2 hd.1 (by omega), ?_, k _ _ _ .refl S (.int _)⟩
      show List.length _ ≤ 640
      exact hl
theorem o_str (new : Bool) : CallR X (.type "str") (rBf L .str new) := by
  refine pwC fun pins s σ H xs Q I q => ?_
  obtain ⟨β, h, args, z, S, rs, e, k⟩ := q
  unfold bfV at e
  split at e
  all_goals first | contradiction | skip
  · obtain ⟨hl, rfl⟩ := ite_some e
    cases rs with
    | cons r1 t1 =>
      cases t1; cases r1
      refine ⟨_, call_str_int, _, rfl, hl, ?_⟩
      have ei := intText_eq
      show Q (V.str (Str.ofString (toString _))) H
      rw [ei]
      exact k _ _ _ .refl S (.str _)
  · cases e
    cases rs with
    | cons r1 t1 => cases t1; cases r1; exact ⟨_, SkE.call_str_str, _, rfl, k _ _ _ .refl S (.str _)⟩
theorem o_tuple (hK : X.K = L.K) (new : Bool) : CallR X (.type "tuple") (rBf L .tuple new) := by
  refine pwC fun pins s σ H xs Q I q => ?_
  obtain ⟨β, h, args, z, S, rs, e, k⟩ := q
  unfold bfV at e
  split at e
  all_goals first | contradiction | skip
  · cases e
    cases rs with
    | cons r1 t1 =>
      cases t1
      cases r1 with
      | tup ha rr => exact ⟨_, call_tuple_of, _, _, rfl, .inr ⟨hK ▸ ha, k _ _ _ .refl S (.tup ha rr)⟩⟩
  · rename_i v hv _
    obtain ⟨ys, es, rfl⟩ := Option.map_eq_some_iff.mp e
    cases rs with
    | cons r1 t1 =>
      cases t1
      obtain ⟨a, vs, rfl, rr, hs⟩ := seq_of S r1 es
      rcases hs with hs | hs
      · exact ⟨_, call_tuple_of, _, _, rfl, .inl ⟨hK ▸ hs, fin_tup S rr k⟩⟩
      · exact ⟨_, call_tuple_of, _, _, rfl, .inr ⟨hK ▸ hs, k _ _ _ .refl S (.tup hs rr)⟩⟩
theorem o_list (hK : X.K = L.K) (new : Bool) : CallR X (.type "list") (rBf L .list new) := by
  refine pwC fun pins s σ H xs Q I q => ?_
  obtain ⟨β, h, args, z, S, rs, e, k⟩ := q
  unfold bfV at e
  split at e
  all_goals first | contradiction | skip
  · obtain ⟨ys, es, rfl⟩ := Option.map_eq_some_iff.mp e
    cases rs with
    | cons r1 t1 =>
      cases t1
      obtain ⟨a, vs, rfl, rr, hs⟩ := seq_of S r1 es
      exact ⟨_, call_list_of, _, _, rfl, hK ▸ hs, Want.lst S rr k⟩
theorem o_bf (hK : X.K = L.K) (hc : X.calm = true) (new : Bool) (f : Bf) : CallR X (bfVal f) (rBf L f new) := by
  cases f with
  | len => exact o_len hK new
  | max => exact o_max hK hc new
  | min => exact o_min hK hc new
  | sum => exact o_sum hc new
  | all => exact o_all hc new
  | any => exact o_any hc new
  | int => exact o_int new
  | str => exact o_str new
  | list => exact o_list hK new
  | tuple => exact o_tuple hK new
  | sorted =>
    intro pins s σ H xs us Q I r q
    obtain ⟨β, h, args, z, S, rs, e, k⟩ := q
    unfold bfV at e
    split at e
    all_goals first | contradiction | cases e
variable {F : Fns} {W : WX} {lv : Nat}
theorem bf_boot (f : Bf) : bootBuiltins (bfNm f) = some (bfVal f) ∧ bfNm f ≠ "__name__" ∧ (bfNm f == ("__debug__" : PySem.Str)) = false := by
  cases f <;> exact ⟨by first | rfl | decide +kernel, by decide +kernel, by decide +kernel⟩
theorem s_bf {f : Bf} {e : Expr} {es : List Expr} {ms : List E} {p pos : Pos} (G : Gd X L W lv) (new : Bool) (hs : (e :: es).all notStar = true) (hg : Gl X (bfNm f)) (hm : X.mg (bfNm f) = none) (ha : PA X (e :: es) (tIs L F W ms)) : PE X (.Call (.Name (bfNm f) p) (e :: es) [] pos) (tI L F W (.bf f new ms)) := by
  obtain ⟨hv, hn, hdb⟩ := bf_boot f
  simp only [List.all_cons, Bool.and_eq_true] at hs
  have base : PE X (.Call (.Name (bfNm f) p) (e :: es) [] pos) (tCB (rBf L f new) (tIs L F W ms)) := by
    have c := o_bf (L := L) G.hK G.calm new f
    unfold bfVal at c hv
    split at c
    · rename_i ht
      rw [if_pos ht] at hv
      exact pe_callTy c hg hm hv ha hn hdb (starEach_of hs.1) (plain_args hs.2)
    · rename_i ht
      rw [if_neg ht] at hv
      exact pe_callB c hg hm hv ha hn hdb (starEach_of hs.1) (plain_args hs.2)
  refine pwE fun pins s σ H Q I q => ⟨_, base, ?_⟩
  obtain ⟨β, h, ρ, S, R, p0⟩ := q
  unfold evE at p0
  refine tIs_of S R (Pst.firsts p0 fun vs h1 us β1 H1 _ x1 S1 r1 p1 => ?_)
  split at p1
  · rename_i ys ez
    refine ⟨β1, h1, vs, _, S1, r1, ez, ?_⟩
    unfold newL at p1
    split at p1
    · cases new with
      | true => exact p1
      | false => exact p1
    · exact p1.elim
  · rename_i z nz ez
    refine ⟨β1, h1, vs, z, S1, r1, ez, ?_⟩
    cases z with
    | lst xs => exact absurd rfl (nz xs)
    | _ => exact p1
  · exact p1.elim

/-! ### isinstance -/
def tyNm : Ty → String
  | .int => "int" | .bool => "bool" | .str => "str" | .tuple => "tuple" | .cls _ => ""
theorem s_isi {e : Expr} {m : E} {t : Ty} {p p2 pos : Pos} (G : Gd X L W lv) (ht : match t with | .cls _ => False | _ => True) (hs : notStar e = true) (hg : Gl X "isinstance") (hm : X.mg "isinstance" = none) (hg2 : Gl X (Str.ofString (tyNm t))) (hm2 : X.mg (Str.ofString (tyNm t)) = none) (he : PE X e (tI L F W m)) :
    PE X (.Call (.Name "isinstance" p) [e, .Name (Str.ofString (tyNm t)) p2] [] pos) (tI L F W (.isi m t)) := by
  have hb : bootBuiltins (Str.ofString (tyNm t)) = some (.type (tyNm t)) ∧ Str.ofString (tyNm t) ≠ "__name__" ∧ (Str.ofString (tyNm t) == ("__debug__" : PySem.Str)) = false := by
    cases t with
    | cls c => exact ht.elim
    | _ => exact ⟨by first | rfl | decide +kernel, by decide +kernel, by decide +kernel⟩
  have h2 : PE X (.Name (Str.ofString (tyNm t)) p2) (tC (.ty (tyNm t))) := pe_bltn hg2 hm2 hb.1 rfl hb.2.1 hb.2.2
  have ha : PA X [e, .Name (Str.ofString (tyNm t)) p2] (tCons (tI L F W m) (tCons (tC (.ty (tyNm t))) tNil)) := pa_cons he (pa_cons h2 pa_nil) (starEach_of hs)
  refine pwE fun pins s σ H Q I q => ⟨_, pe_callB call_isi hg hm (by first | rfl | decide +kernel) ha (by decide +kernel) (by decide +kernel) (starEach_of hs) rfl, ?_⟩
  obtain ⟨β, h, ρ, S, R, p0⟩ := q
  unfold evE at p0
  refine tI_of S R (Pst.first p0 fun v h1 u β1 H1 _ x1 S1 r1 p1 => ?_)
  cases ez : isiV L.T h1 v t with
  | none => rw [ez] at p1; exact p1.elim
  | some b =>
    rw [ez] at p1
    have fin : ∀ a, TyX X.K H1 u (.type a) → kitB a (tyNm t) = some b → ∃ (x c : V) (t' u' : Value) (b' : Bool), [u, .ty (tyNm t)] = [x, c] ∧ ClsV c u' ∧ TyX X.K H1 x t' ∧ PySem.W.kitOne X.K t' u' = some b' ∧ Q (.bl b') H1 := fun a ty hk =>
      ⟨u, .ty (tyNm t), .type a, .type (tyNm t), b, rfl, .ty _, ty, kit_ty hk, p1 _ _ _ .refl S1 (.bl b)⟩
    show ∃ (x c : V) (t' u' : Value) (b' : Bool), [u, .ty (tyNm t)] = [x, c] ∧ ClsV c u' ∧ TyX X.K H1 x t' ∧ PySem.W.kitOne X.K t' u' = some b' ∧ Q (.bl b') H1
    have lists : ∀ {a : Addr} {vs : List V}, SqL L.K H1 a vs → TyX X.K H1 (.ref a) (.type "list") := fun {a vs} hs => by
      rcases hs with (hs | ⟨o, hs⟩) | ⟨o, its, n, h1, h2, _⟩
      · exact .base (.lst hs)
      · exact .base (.frz hs)
      · exact .kList (G.hK ▸ h1) h2
    have tups : ∀ {a : Addr} {vs : List V}, SqT L.K H1 a vs → TyX X.K H1 (.ref a) (.type "tuple") := fun {a vs} hs => by
      rcases hs with (hs | ⟨o, hs⟩) | hs
      · exact .base (.tup hs)
      · exact .fTuple hs
      · obtain ⟨o, its, n, h1, h2, _⟩ := hs
        exact .kTuple (G.hK ▸ h1) h2
    cases r1 with
    | non => exact fin _ (.base .non) (by cases t <;> first | exact ht.elim | (cases ez; decide +kernel))
    | bl y => exact fin _ (.base (.bl y)) (by cases t <;> first | exact ht.elim | (cases ez; decide +kernel))
    | int y => exact fin _ (.base (.int y)) (by cases t <;> first | exact ht.elim | (cases ez; decide +kernel))
    | str y => exact fin _ (.base (.str _)) (by cases t <;> first | exact ht.elim | (cases ez; decide +kernel))
    | tup hs rs => exact fin _ (tups hs) (by cases t <;> first | exact ht.elim | (cases ez; decide +kernel))
    | lst hs hn rs => exact fin _ (lists (SqL.of hs)) (by cases t <;> first | exact ht.elim | (cases ez; decide +kernel))
    | arr hs rs => exact fin _ (lists hs.sql) (by cases t <;> first | exact ht.elim | (cases ez; decide +kernel))
    | ref hb => cases t <;> cases ez
    | fn k => cases t <;> cases ez
end
end MP

/-! Mp1g: methods of lists and texts -/
namespace MP
open PySem PySem.Spec PyProof.Rows L2

def rBm (L : Lk) (m : Bm) : V → List V → Hp → VK → Prop := fun x vs H Q => ∃ (β : Bt) (h : Heap) (a : Val) (args : List Val), Sim L β H h ∧ VR L β H x a ∧ VRs L β H vs args ∧ Pst L β H (bmV h m a args) Q fun _ _ _ => False
section
variable {X : Cx} {L : Lk}
theorem lst_ch {β : Bt} {H : Hp} {h : Heap} (S : Sim L β H h) {r : Nat} {a : Addr} {xs : List Val} {vs : List V} {Q : VK} {z : Val} {v : V} (e : β r = some a) (rs : VRs L β H vs xs) (rv : VR L β H v z)
    (p : Pst L β H (.ok z (h.set r (.lst xs))) Q fun _ _ _ => False) : Q v (upd H a (.lst vs)) :=
  p _ _ _ (Ext.change e) (S.change (c := .lst xs) e ⟨vs, upd_same, rs.mono S (Ext.change e)⟩) (rv.mono S (Ext.change e))
theorem lst_at {β : Bt} {H : Hp} {h : Heap} (S : Sim L β H h) {r : Nat} {a : Addr} {xs : List Val} (e : β r = some a) (q : h.c r = some (.lst xs)) : ∃ vs, H a = some (.lst vs) ∧ VRs L β H vs xs := by
  obtain ⟨a', e', x⟩ := S.at q
  rw [e] at e'; cases e'
  exact x
theorem o_append : MtR X "list.append" (rBm L .append) := by
  refine pwM fun pins s σ H x vs Q I q => ?_
  obtain ⟨β, h, a, args, S, ra, rs, p⟩ := q
  unfold bmV at p
  split at p
  all_goals first | contradiction | exact p.elim | skip
  split at p
  · rename_i r _ xs y hc
    cases ra with
    | ref hb =>
      cases rs with
      | cons r1 t1 =>
        cases t1
        obtain ⟨us, ha, ru⟩ := lst_at S hb hc
        split at p
        · rename_i hl
          refine ⟨_, mt_append, _, us, _, rfl, rfl, ha, ?_, lst_ch S hb (ru.append (.cons r1 .nil)) .non p⟩
          rw [← sizeL, ru.length]; exact hl
        · exact p.elim
  · exact p.elim
theorem o_extend : MtR X "list.extend" (rBm L .extend) := by
  refine pwM fun pins s σ H x vs Q I q => ?_
  obtain ⟨β, h, a, args, S, ra, rs, p⟩ := q
  unfold bmV at p
  split at p
  all_goals first | contradiction | exact p.elim | skip
  split at p
  · rename_i r _ xs ys hc
    cases ra with
    | ref hb =>
      cases rs with
      | cons r1 t1 =>
        cases t1
        obtain ⟨us, ha, ru⟩ := lst_at S hb hc
        cases r1 with
        | lst hs hn rr =>
          split at p
          · rename_i hl
            refine ⟨_, mt_extend, _, _, us, _, rfl, rfl, ha, hs, ?_, lst_ch S hb (ru.append rr) .non p⟩
            rw [← sizeL, ru.length, rr.length]; exact hl
          · exact p.elim
  · rename_i r _ xs q hc
    cases ra with
    | ref hb =>
      cases rs with
      | cons r1 t1 =>
        cases t1
        obtain ⟨us, ha, ru⟩ := lst_at S hb hc
        cases r1 with
        | ref hb2 =>
          split at p
          · rename_i ys hq
            obtain ⟨ws, ha2, rw2⟩ := lst_at S hb2 hq
            split at p
            · rename_i hl
              refine ⟨_, mt_extend, _, _, us, _, rfl, rfl, ha, ha2, ?_, lst_ch S hb (ru.append rw2) .non p⟩
              rw [← sizeL, ru.length, rw2.length]; exact hl
            · exact p.elim
          · exact p.elim
  · exact p.elim
theorem VRs.getLast {β : Bt} {H : Hp} {vs : List V} {xs : List Val} {y : Val} (r : VRs L β H vs xs) (e : xs.getLast? = some y) : ∃ v, vs[vs.length - 1]? = some v ∧ VR L β H v y := by
  rw [List.getLast?_eq_getElem?] at e
  obtain ⟨v, a, b⟩ := r.get e
  exact ⟨v, by rw [r.length]; exact a, b⟩
/-- a list's pop -/
def rPopL (L : Lk) : V → List V → Hp → VK → Prop := fun x vs H Q => ∃ (β : Bt) (h : Heap) (a : Val) (args : List Val), bmK h .pop a = some 0 ∧ Sim L β H h ∧ VR L β H x a ∧ VRs L β H vs args ∧ Pst L β H (bmV h .pop a args) Q fun _ _ _ => False
theorem place_seq {n : Nat} {i : Int} {j : Nat} (hn : n ≤ sizeLine) (e : place n i = some j) : -(2 ^ 63) ≤ i ∧ i < 2 ^ 63 ∧ seqIndex? i n = some j := by
  have h := ixN_seq (show ixN n i = some j from e)
  obtain ⟨h1, h2, h3, h4⟩ := h
  have := line63
  exact ⟨by omega, by omega, h1⟩
theorem o_popL : MtR X "list.pop" (rPopL L) := by
  refine pwM fun pins s σ H x vs Q I q => ?_
  obtain ⟨β, h, a, args, hk, S, ra, rs, p⟩ := q
  unfold bmV at p
  split at p
  all_goals first | contradiction | exact p.elim | skip
  rename_i r _
  simp only [bmK, kindV] at hk
  split at p
  · rename_i xs hc
    cases ra with
    | ref hb =>
      obtain ⟨us, ha, ru⟩ := lst_at S hb hc
      cases rs
      split at p
      · rename_i y ey
        obtain ⟨v, ev, rv⟩ := ru.getLast ey
        exact ⟨_, mt_pop, _, us, v, rfl, rfl, ha, ev, lst_ch S hb ru.dropLast rv p⟩
      · exact p.elim
  · rename_i xs i hc
    cases ra with
    | ref hb =>
      obtain ⟨us, ha, ru⟩ := lst_at S hb hc
      cases rs with
      | cons r1 t1 =>
        cases t1; cases r1
        split at p
        · rename_i j ej
          split at p
          · rename_i y ey
            obtain ⟨v, ev, rv⟩ := ru.get ey
            obtain ⟨z, _⟩ := I.lstM ha
            obtain ⟨l1, l2, l3⟩ := place_seq (by rw [← ru.length]; exact z) ej
            refine ⟨_, mt_popAt, _, us, i, j, v, rfl, rfl, ha, l1, l2, by rw [ru.length]; exact l3, ev, lst_ch S hb (ru.erase j) rv p⟩
          · exact p.elim
        · exact p.elim
  · rename_i kvs k hc
    rw [hc] at hk
    cases hk
  · exact p.elim

/-! ### texts -/
theorem o_join (hK : X.K = L.K) : MtR X "str.join" (rBm L .join) := by
  refine pwM fun pins s σ H x vs Q I q => ?_
  obtain ⟨β, h, a, args, S, ra, rs, p⟩ := q
  unfold bmV at p
  split at p
  all_goals first | contradiction | exact p.elim | skip
  split at p
  · split at p
    · rename_i xs _ ts et
      split at p
      · rename_i hl
        cases ra
        cases rs with
        | cons r1 t1 =>
          cases t1
          cases r1 with
          | lst hs hn rr =>
            refine ⟨_, mt_join, _, _, ts.map tx, rfl, rfl, ?_, ?_, ?_⟩
            · rw [← texts_of et rr]; exact .inl (SqL.of hs)
            · rw [sumLen_eq, List.length_map]
              have : line = 16777216 := rfl
              show sumLen ts + ts.length * List.length _ ≤ 16777216
              rw [Nat.mul_comm]
              exact Nat.le_trans hl (by decide)
            · show Q (V.str (Txt.join (tx _) _)) H
              rw [show Txt.join (tx _) (ts.map tx) = _ from (StrLaws.glued_eq_join _ _).trans (join_eq _ ts)]
              exact p _ _ _ .refl S (.str _)
      · exact p.elim
    · exact p.elim
  · exact p.elim
theorem prefix_sub (s t : List Nat) : PySem.Builtin.Str.subAt (tx s) (tx t) 0 = t.isPrefixOf s := by
  rw [StrLaws.subAt_eq]
  show ((s.drop 0).take t.length == t) = _
  rw [List.drop_zero, Bool.eq_iff_iff, beq_iff_eq, List.isPrefixOf_iff_prefix]
  constructor
  · intro e; exact e ▸ List.take_prefix _ _
  · intro e; exact (List.prefix_iff_eq_take.mp e).symm
theorem o_removeprefix : MtR X "str.removeprefix" (rBm L .removeprefix) := by
  refine pwM fun pins s σ H x vs Q I q => ?_
  obtain ⟨β, h, a, args, S, ra, rs, p⟩ := q
  unfold bmV at p
  split at p
  all_goals first | contradiction | exact p.elim | skip
  rename_i u _
  split at p
  · rename_i t
    split at p
    · rename_i hl
      cases ra
      cases rs with
      | cons r1 t1 =>
        cases t1; cases r1
        refine ⟨_, mt_removeprefix, tx u, tx t, rfl, rfl, ?_, ?_⟩
        · rw [← sizeL]; exact hl
        · have e : Txt.removeprefix (tx u) (tx t) = tx (if t.isPrefixOf u then u.drop t.length else u) := by
            unfold Txt.removeprefix
            rw [prefix_sub]
            cases hp : t.isPrefixOf u with
            | true =>
              simp only [if_true, Txt.affix]
              have hle : t.length ≤ u.length := (List.isPrefixOf_iff_prefix.mp hp).length_le
              have hl2 : (tx t).length = t.length := rfl
              have hl3 : (tx u).length = u.length := rfl
              rw [hl2, hl3]
              by_cases hz : u.length - t.length = u.length
              · rw [if_pos (by simpa using hz)]
                have : t.length = 0 := by omega
                rw [this, List.drop_zero]
              · rw [if_neg (by simpa using hz)]
                unfold PySem.Builtin.Str.strSub tx
                simp
                exact List.take_of_length_le (by rw [List.length_drop]; exact Nat.le_refl _)
            | false => simp [Txt.affix]
          rw [e]
          exact p _ _ _ .refl S (.str _)
    · exact p.elim
  · exact p.elim
theorem o_startswith : MtR X "str.startswith" (rBm L .startswith) := by
  refine pwM fun pins s σ H x vs Q I q => ?_
  obtain ⟨β, h, a, args, S, ra, rs, p⟩ := q
  unfold bmV at p
  split at p
  all_goals first | contradiction | exact p.elim | skip
  rename_i u _
  split at p
  · rename_i t
    cases ra
    cases rs with
    | cons r1 t1 =>
      cases t1; cases r1
      refine ⟨_, mt_startswith, tx u, tx t, rfl, rfl, ?_⟩
      have e : Txt.startswith (tx u) (tx t) = t.isPrefixOf u := by
        unfold Txt.startswith
        rw [prefix_sub]
        cases hp : t.isPrefixOf u with
        | true =>
          have hle : t.length ≤ u.length := (List.isPrefixOf_iff_prefix.mp hp).length_le
          show (decide (0 + t.length ≤ u.length) && true) = true
          simp [hle]
        | false => simp
      rw [e]
      exact p _ _ _ .refl S (.bl _)
  · exact p.elim
/-- where a sign stands first -/
theorem occ_one (x : PySem.Str) (c : Nat) : ∀ (n k : Nat) (free : Nat), free ≤ k → k + n = x.length + 1 →
    (forIn (List.range' k n) ((#[] : Array Nat), free) (StrLaws.occBody x ⟨#[c]⟩ x.length 1)).run.fst.toList = match (x.cps.toList.drop k).findIdx? (· == c) with
      | some i => [k + i]
      | none => []
  | 0, k, free, _, e => by
    have : (x.cps.toList.drop k) = [] := List.drop_eq_nil_of_le (by show x.cps.toList.length ≤ k; rw [Array.length_toList]; have : x.length = x.cps.size := rfl; omega)
    rw [this]; rfl
  | n + 1, k, free, hf, e => by
    rw [List.range'_succ, List.forIn_cons]
    have hlen : x.cps.toList.length = x.length := by rw [Array.length_toList]; rfl
    unfold StrLaws.occBody
    by_cases hc : x.cps.toList[k]? = some c
    · obtain ⟨q1, q2⟩ := (StrLaws.subAt_one x c k).mpr hc
      rw [if_pos ⟨⟨⟨by simp, hf⟩, q1⟩, q2⟩]
      have hk : k < x.cps.toList.length := (List.getElem?_eq_some_iff.mp hc).1
      have hd : x.cps.toList.drop k = c :: x.cps.toList.drop (k + 1) := by
        rw [List.drop_eq_getElem_cons hk]
        rw [(List.getElem?_eq_some_iff.mp hc).2]
      rw [hd, List.findIdx?_cons]
      simp only [beq_self_eq_true, if_true]
      have stay : ∀ (l : List Nat) (st : Array Nat × Nat), st.fst.size = 1 → (forIn l st (StrLaws.occBody x ⟨#[c]⟩ x.length 1)).run.fst = st.fst := by
        intro l
        induction l with
        | nil => intro st _; rfl
        | cons a l ih =>
          intro st hs
          rw [List.forIn_cons]
          have e0 : StrLaws.occBody x ⟨#[c]⟩ x.length 1 a st = pure (ForInStep.yield (st.fst, st.snd)) := by
            unfold StrLaws.occBody
            exact if_neg (fun q => by have := q.1.1.1; omega)
          rw [e0]
          exact ih _ hs
      have := stay (List.range' (k + 1) n) ((#[] : Array Nat).push k, k + (⟨#[c]⟩ : PySem.Str).length) rfl
      exact (congrArg Array.toList this).trans rfl
    · have nc : ¬ ((((#[] : Array Nat), free).fst.size < 1 ∧ ((#[] : Array Nat), free).snd ≤ k) ∧ k + (⟨#[c]⟩ : PySem.Str).length ≤ x.length) ∨ ¬ (PySem.Builtin.Str.subAt x ⟨#[c]⟩ k = true) := by
        by_cases q1 : k + (⟨#[c]⟩ : PySem.Str).length ≤ x.length
        · exact .inr fun q2 => hc ((StrLaws.subAt_one x c k).mp ⟨q1, q2⟩)
        · exact .inl fun q => q1 q.2
      rw [if_neg (fun q => nc.elim (fun z => z q.1) fun z => z q.2)]
      have ih := occ_one x c n (k + 1) free (by omega) (by omega)
      show (forIn (List.range' (k + 1) n) ((#[] : Array Nat), free) (StrLaws.occBody x ⟨#[c]⟩ x.length 1)).run.fst.toList = _
      rw [ih]
      by_cases hk : k < x.cps.toList.length
      · rw [List.drop_eq_getElem_cons hk, List.findIdx?_cons]
        have hne : (x.cps.toList[k] == c) = false := by
          rw [beq_eq_false_iff_ne]
          intro q
          exact hc (by rw [List.getElem?_eq_getElem hk, q])
        rw [hne]
        simp only [Bool.false_eq_true, if_false]
        cases (x.cps.toList.drop (k + 1)).findIdx? (· == c) with
        | none => rfl
        | some i => simp only [Option.map_some]; congr 1; omega
      · have d1 : x.cps.toList.drop k = [] := List.drop_eq_nil_of_le (by omega)
        have d2 : x.cps.toList.drop (k + 1) = [] := List.drop_eq_nil_of_le (by omega)
        rw [d1, d2]
        rfl
theorem find_eq (s : List Nat) (c : Nat) : Txt.find (tx s) (tx [c]) = match s.findIdx? (· == c) with
    | some i => (i : Int)
    | none => -1 := by
  unfold Txt.find
  rw [StrLaws.occ_eq]
  have := occ_one (tx s) c ((tx s).length + 1 - 0) 0 0 (Nat.le_refl _) (by omega)
  rw [show (tx [c]) = (⟨#[c]⟩ : PySem.Str) from rfl, this]
  rw [List.drop_zero]
  show (match (match s.findIdx? (· == c) with | some i => [0 + i] | none => []) with | i :: _ => (i : Int) | [] => -1) = _
  cases s.findIdx? (· == c) with
  | none => rfl
  | some i => simp
theorem o_find : MtR X "str.find" (rBm L .find) := by
  refine pwM fun pins s σ H x vs Q I q => ?_
  obtain ⟨β, h, a, args, S, ra, rs, p⟩ := q
  unfold bmV at p
  split at p
  all_goals first | contradiction | exact p.elim | skip
  rename_i u _
  split at p
  · rename_i c
    cases ra
    cases rs with
    | cons r1 t1 =>
      cases t1; cases r1
      refine ⟨_, mt_find, tx u, tx [c], rfl, rfl, ?_⟩
      rw [find_eq]
      exact p _ _ _ .refl S (.int _)
  · exact p.elim

/-! ### the rule -/
def bmNm : Bm → PySem.Str
  | .append => "append" | .extend => "extend" | .pop => "pop" | .get => "get" | .join => "join" | .removeprefix => "removeprefix" | .startswith => "startswith" | .find => "find"
variable {F : Fns} {W : WX} {lv : Nat}
/-- a method that this type has: what the rule needs -/
theorem s_bm_of {T id : String} {r : V → List V → Hp → VK → Prop} {m : Bm} {tk : Nat} {o : Expr} {mo : E} {es : List Expr} {ms : List E} {apos pos : Pos} (pa : PlainAttrs T) (slot : Slot T (bmNm m) id) (hty : typeOf (.builtin id) = pure (.type "method_descriptor")) (hm : MtR X id r)
    (hn : notSuper o = true) (hl : (apos.endLine == pos.line) = true) (hs : es.all notStar = true) (hc : es.length < 30) (hz : es = [] → ms = []) (ho : PE X o (tI L F W mo)) (ha : PA X es (tIs L F W ms))
    (hT : ∀ β H h x a, Sim L β H h → VR L β H x a → bmK h m a = some tk → tyV X.K T x H)
    (hr : ∀ β H h x a vs args Q, bmK h m a = some tk → Sim L β H h → VR L β H x a → VRs L β H vs args → Pst L β H (bmV h m a args) Q (fun _ _ _ => False) → r x vs H Q)
    (pins : List (Addr × Obj)) (s : Shared) (σ : L2.St) (H : Hp) (Q : VK) (I : L2.Inv X pins σ H s) (β : Bt) (h : Heap) (ρ : Env) (S : Sim L β H h) (R : ER L β H σ ρ)
    (hk : ∀ v h1, evE L.T F mo ρ h = .ok v h1 → bmK h1 m v = some tk ∨ bmK h1 m v = none) (p0 : Pst L β H (evE L.T F (.bm mo m ms) ρ h) Q fun c d H' => W c d σ H') :
    wpAny (model X.prog X.w) X.A (eval (.Call (.Attribute o (bmNm m) apos) es [] pos) X.env) (EP X pins σ Q) X.xe s := by
  unfold evE at p0
  have noexc : ∀ (h : Heap) (a : Val) (args : List Val) (x : Exc) (h' : Heap), bmV h m a args ≠ .exc x h' := by
    intro h a args x h' e
    unfold bmV at e
    repeat' split at e
    all_goals first | cases e | skip
  have fin : ∀ {β1 : Bt} {h1 : Heap} {u : V} {v : Val} {H1 : Hp}, bmK h1 m v = some tk → Sim L β1 H1 h1 → VR L β1 H1 u v → ∀ {vs args} , VRs L β1 H1 vs args → Pst L β1 H1 (if bmK h1 m v = some tk then bmV h1 m v args else .bad) Q (fun c d H' => W c d σ H') → r u vs H1 Q := fun {β1 h1 u v H1} ek S1 r1 {vs args} rs p1 => by
    rw [if_pos ek] at p1
    refine hr _ _ _ _ _ _ _ _ ek S1 r1 rs ?_
    cases eb : bmV h1 m v args with
    | ok z h2 => rw [eb] at p1; exact p1
    | exc x h2 => exact absurd eb (noexc _ _ _ _ _)
    | bad => rw [eb] at p1; exact p1.elim
  cases es with
  | nil =>
    rw [hz rfl] at p0
    refine (pe_bm0 pa slot hty hm ho (base_of hn) hl).run pins s σ H Q I (tI_of S R (Pst.first p0 fun v h1 u β1 H1 e1 x1 S1 r1 p1 => ?_))
    rcases hk v h1 e1 with ek | ek
    · rw [ek] at p1
      rw [evEs_nil] at p1
      exact ⟨hT _ _ _ _ _ S1 r1 ek, fin ek S1 r1 .nil p1⟩
    · rw [ek] at p1; exact p1.elim
  | cons e es =>
    simp only [List.all_cons, Bool.and_eq_true] at hs
    refine (pe_bm pa slot hty hm ho ha (base_of hn) ?_ hl (starEach_of hs.1) (plain_args hs.2)).run pins s σ H Q I (tI_of S R (Pst.first p0 fun v h1 u β1 H1 e1 x1 S1 r1 p1 => ?_))
    · rw [plain_few (by simp only [List.all_cons, Bool.and_eq_true]; exact hs)]
      show (true && true && decide ((e :: es).length + 0 + 0 < 30)) = true
      rw [Bool.true_and, Bool.true_and]
      exact decide_eq_true (by omega)
    · rcases hk v h1 e1 with ek | ek
      · rw [ek] at p1
        refine ⟨hT _ _ _ _ _ S1 r1 ek, tIs_of S1 (R.mono S x1) (Pst.firsts p1 fun vs h2 us β2 H2 _ x2 S2 r2 p2 => ?_)⟩
        by_cases ek2 : bmK h2 m v = some tk
        · exact fin ek2 S2 (r1.mono S1 x2) r2 p2
        · rw [if_neg ek2] at p2; exact p2.elim
      · rw [ek] at p1; exact p1.elim
/-- s.m(..) of the methods without dicts -/
theorem s_bm {m : Bm} {o : Expr} {mo : E} {es : List Expr} {ms : List E} {apos pos : Pos} (hK : X.K = L.K) (hg : m ≠ .get) (hn : notSuper o = true) (hl : (apos.endLine == pos.line) = true) (hs : es.all notStar = true) (hc : es.length < 30) (hz : es = [] → ms = []) (ho : PE X o (tI L F W mo)) (ha : PA X es (tIs L F W ms))
    (hd : m = .pop → es = []) :
    PE X (.Call (.Attribute o (bmNm m) apos) es [] pos) (tI L F W (.bm mo m ms)) := by
  refine ⟨fun pins s σ H Q I ⟨β, h, ρ, S, R, p0⟩ => ?_⟩
  have tyL : ∀ m, bmHas m 0 = true → bmHas m 2 = false → ∀ β H h x a, Sim L β H h → VR L β H x a → bmK h m a = some 0 → tyV X.K "list" x H := fun m _ _ β H h x a S r e => by
    unfold bmK kindV at e
    cases r with
    | ref hb =>
      simp only at e
      split at e
      · rename_i t et
        split at et
        · rename_i xs q
          obtain ⟨vs, ha, _⟩ := lst_at S hb q
          exact .inl ⟨rfl, vs, SqL.of ha⟩
        · cases et; split at e <;> cases e
        · cases et
      · cases e
    | str s => simp only at e; split at e <;> cases e
    | _ => cases e
  have tyS : ∀ m β H h x a, Sim L β H h → VR L β H x a → bmK h m a = some 2 → tyV X.K "str" x H := fun m β H h x a S r e => by
    unfold bmK kindV at e
    cases r with
    | ref hb =>
      simp only at e
      split at e
      · rename_i t et
        split at et
        · cases et; split at e <;> cases e
        · cases et; split at e <;> cases e
        · cases et
      · cases e
    | str s => rfl
    | _ => cases e
  have kd : ∀ (h : Heap) (v : Val), bmK h m v = none ∨ ∃ t, bmK h m v = some t ∧ bmHas m t = true := fun h v => by
    unfold bmK
    split
    · split
      · exact .inr ⟨_, rfl, by assumption⟩
      · exact .inl rfl
    · exact .inl rfl
  have one : ∀ tk, (∀ t, bmHas m t = true → t = tk) → ∀ v h1, evE L.T F mo ρ h = .ok v h1 → bmK h1 m v = some tk ∨ bmK h1 m v = none := fun tk u v h1 _ => by
    rcases kd h1 v with q | ⟨t, q, b⟩
    · exact .inr q
    · exact .inl (by rw [q, u t b])
  cases m with
  | get => exact absurd rfl hg
  | append => exact s_bm_of (m := .append) (tk := 0) PySem.F.plainAttrs_list PySem.F.slot_list_append PySem.F.type_list_append (o_append (L := L)) hn hl hs hc hz ho ha (tyL .append rfl rfl) (fun β H h x a vs args Q _ S r rs p => ⟨β, h, a, args, S, r, rs, p⟩) pins s σ H Q I β h ρ S R (one 0 fun t b => by simpa [bmHas] using b) p0
  | extend => exact s_bm_of (m := .extend) (tk := 0) PySem.F.plainAttrs_list PySem.F.slot_list_extend PySem.F.type_list_extend (o_extend (L := L)) hn hl hs hc hz ho ha (tyL .extend rfl rfl) (fun β H h x a vs args Q _ S r rs p => ⟨β, h, a, args, S, r, rs, p⟩) pins s σ H Q I β h ρ S R (one 0 fun t b => by simpa [bmHas] using b) p0
  | pop =>
    by_cases q : ∃ v h1, evE L.T F mo ρ h = .ok v h1 ∧ bmK h1 .pop v = some 1
    · exfalso
      obtain ⟨v, h1, e, ek⟩ := q
      rw [hz (hd rfl)] at p0
      unfold evE at p0
      rw [e] at p0
      dsimp only [Out.bind] at p0
      rw [ek, evEs_nil] at p0
      dsimp only at p0
      rw [if_pos ek] at p0
      have : bmV h1 .pop v [] = .bad := by
        cases v with
        | ref r =>
          unfold bmK kindV at ek
          simp only at ek
          split at ek
          · rename_i t et
            split at et
            · cases et; split at ek <;> cases ek
            · rename_i hc
              unfold bmV
              simp only [hc]
            · cases et
          · cases ek
        | _ => unfold bmV; rfl
      rw [this] at p0
      exact p0
    · refine s_bm_of (m := .pop) (tk := 0) PySem.F.plainAttrs_list PySem.F.slot_list_pop PySem.F.type_list_pop (o_popL (L := L)) hn hl hs hc hz ho ha (tyL .pop rfl rfl) (fun β H h x a vs args Q e S r rs p => ⟨β, h, a, args, e, S, r, rs, p⟩) pins s σ H Q I β h ρ S R (fun v h1 e => ?_) p0
      rcases kd h1 v with z | ⟨t, z, b⟩
      · exact .inr z
      · simp only [bmHas, Bool.or_eq_true, beq_iff_eq] at b
        rcases b with rfl | rfl
        · exact .inl z
        · exact absurd ⟨v, h1, e, z⟩ q
  | join => exact s_bm_of (m := .join) (tk := 2) PySem.F.plainAttrs_str PySem.F.slot_str_join PySem.F.type_str_join (o_join (L := L) hK) hn hl hs hc hz ho ha (tyS .join) (fun β H h x a vs args Q _ S r rs p => ⟨β, h, a, args, S, r, rs, p⟩) pins s σ H Q I β h ρ S R (one 2 fun t b => by simpa [bmHas] using b) p0
  | removeprefix => exact s_bm_of (m := .removeprefix) (tk := 2) PySem.F.plainAttrs_str PySem.F.slot_str_removeprefix PySem.F.type_str_removeprefix (o_removeprefix (L := L)) hn hl hs hc hz ho ha (tyS .removeprefix) (fun β H h x a vs args Q _ S r rs p => ⟨β, h, a, args, S, r, rs, p⟩) pins s σ H Q I β h ρ S R (one 2 fun t b => by simpa [bmHas] using b) p0
  | startswith => exact s_bm_of (m := .startswith) (tk := 2) PySem.F.plainAttrs_str PySem.F.slot_str_startswith PySem.F.type_str_startswith (o_startswith (L := L)) hn hl hs hc hz ho ha (tyS .startswith) (fun β H h x a vs args Q _ S r rs p => ⟨β, h, a, args, S, r, rs, p⟩) pins s σ H Q I β h ρ S R (one 2 fun t b => by simpa [bmHas] using b) p0
  | find => exact s_bm_of (m := .find) (tk := 2) PySem.F.plainAttrs_str PySem.F.slot_str_find PySem.F.type_str_find (o_find (L := L)) hn hl hs hc hz ho ha (tyS .find) (fun β H h x a vs args Q _ S r rs p => ⟨β, h, a, args, S, r, rs, p⟩) pins s σ H Q I β h ρ S R (one 2 fun t b => by simpa [bmHas] using b) p0
end
end MP

/-! Mp1h: statements -/
namespace MP
open PySem PySem.Spec PyProof.Rows L2

def Sst (L : Lk) (β : Bt) (H : Hp) (o : SO) (D : Ends) (W : WX) : Prop := match o with
  | .nx ρ h' => ∀ σ' β' H', Ext β H β' H' → Sim L β' H' h' → ER L β' H' σ' ρ → D.nx σ' H'
  | .rt v h' => ∀ u β' H', Ext β H β' H' → Sim L β' H' h' → VR L β' H' u v → D.rt u H'
  | .bk ρ h' => ∀ σ' β' H', Ext β H β' H' → Sim L β' H' h' → ER L β' H' σ' ρ → D.bk σ' H'
  | .ct ρ h' => ∀ σ' β' H', Ext β H β' H' → Sim L β' H' h' → ER L β' H' σ' ρ → D.ct σ' H'
  | .exc x ρ h' => ∀ cls d σ' β' H', Ext β H β' H' → Sim L β' H' h' → ER L β' H' σ' ρ → ExR L H' cls d x → W cls d σ' H'
  | .bad => False
def tS (L : Lk) (F : Fns) (W : WX) (s : S) : TS := fun D σ H => ∃ (β : Bt) (h : Heap) (ρ : Env), Sim L β H h ∧ ER L β H σ ρ ∧ Sst L β H (exS L.T F s ρ h) D W
def tSs (L : Lk) (F : Fns) (W : WX) (s : List S) : TS := fun D σ H => ∃ (β : Bt) (h : Heap) (ρ : Env), Sim L β H h ∧ ER L β H σ ρ ∧ Sst L β H (exB L.T F s ρ h) D W
section
variable {L : Lk} {F : Fns} {W : WX} {β β' β2 : Bt} {H H' H2 : Hp} {h : Heap} {σ : L2.St} {ρ : Env} {D : Ends}
theorem Sst.mono {o : SO} (x : Ext β H β' H') (p : Sst L β H o D W) : Sst L β' H' o D W := by
  cases o with
  | nx ρ h' => exact fun σ' β2 H2 y s r => p σ' β2 H2 (x.trans y) s r
  | rt v h' => exact fun u β2 H2 y s r => p u β2 H2 (x.trans y) s r
  | bk ρ h' => exact fun σ' β2 H2 y s r => p σ' β2 H2 (x.trans y) s r
  | ct ρ h' => exact fun σ' β2 H2 y s r => p σ' β2 H2 (x.trans y) s r
  | exc x' ρ h' => exact fun c d σ' β2 H2 y s r => p c d σ' β2 H2 (x.trans y) s r
  | bad => exact p
/-- from a statement to its first expression -/
theorem Sst.first {o : Out Val} {f : Val → Heap → SO} {Q' : VK} (S : Sim L β H h) (R : ER L β H σ ρ) (p : Sst L β H (o.stm ρ f) D W)
    (k : ∀ v h1 u β1 H1, o = .ok v h1 → Ext β H β1 H1 → Sim L β1 H1 h1 → VR L β1 H1 u v → Sst L β1 H1 (f v h1) D W → Q' u H1) : Pst L β H o Q' fun c d H' => W c d σ H' := by
  cases o with
  | ok v h' => exact fun u β1 H1 x s r => k v h' u β1 H1 rfl x s r (Sst.mono x p)
  | exc x h' => exact fun c d β1 H1 y s r => p c d σ β1 H1 y s (R.mono S y) r
  | bad => exact p
theorem Sst.firsts {o : Out (List Val)} {f : List Val → Heap → SO} {Q' : List V → Hp → Prop} (S : Sim L β H h) (R : ER L β H σ ρ) (p : Sst L β H (o.stm ρ f) D W)
    (k : ∀ v h1 u β1 H1, o = .ok v h1 → Ext β H β1 H1 → Sim L β1 H1 h1 → VRs L β1 H1 u v → Sst L β1 H1 (f v h1) D W → Q' u H1) : Psts L β H o Q' fun c d H' => W c d σ H' := by
  cases o with
  | ok v h' => exact fun u β1 H1 x s r => k v h' u β1 H1 rfl x s r (Sst.mono x p)
  | exc x h' => exact fun c d β1 H1 y s r => p c d σ β1 H1 y s (R.mono S y) r
  | bad => exact p
theorem exB_nil (T : Tb) : exB T F [] ρ h = .nx ρ h := by unfold exB; rfl
theorem exB_cons (T : Tb) (s : S) (r : List S) : exB T F (s :: r) ρ h = (exS T F s ρ h).next fun ρ h => exB T F r ρ h := by conv => lhs; unfold exB
end

section
variable {X : Cx} {L : Lk} {F : Fns} {W : WX} {lv : Nat}
theorem s_stop {st : Stmt} : PS X st (tS L F W .stop) := ⟨fun pins s σ H D I ⟨β, h, ρ, S, R, p⟩ => by unfold exS at p; exact p.elim⟩
theorem s_stopE {e : Expr} : PE X e (tI L F W .stop) := ⟨fun pins s σ H Q I ⟨β, h, ρ, S, R, p⟩ => by unfold evE at p; exact p.elim⟩
theorem s_snil : PSs X [] (tSs L F W []) := pwSs fun pins s σ H D I ⟨β, h, ρ, S, R, p⟩ => ⟨_, pss_nil, by rw [exB_nil] at p; exact p _ _ _ .refl S R⟩
theorem s_scons {st : Stmt} {rest : List Stmt} {m : S} {ms : List S} (h1 : PS X st (tS L F W m)) (h2 : PSs X rest (tSs L F W ms)) : PSs X (st :: rest) (tSs L F W (m :: ms)) := by
  refine pwSs fun pins s σ H D I ⟨β, h, ρ, S, R, p⟩ => ⟨_, pss_cons h1 h2, ?_⟩
  rw [exB_cons] at p
  refine ⟨β, h, ρ, S, R, ?_⟩
  cases e : exS L.T F m ρ h with
  | nx ρ' h' => rw [e] at p; exact fun σ' β' H' x s r => ⟨β', h', ρ', s, r, Sst.mono x p⟩
  | rt v h' => rw [e] at p; exact p
  | bk ρ' h' => rw [e] at p; exact p
  | ct ρ' h' => rw [e] at p; exact p
  | exc x ρ' h' => rw [e] at p; exact p
  | bad => rw [e] at p; exact p
theorem s_pass {pos : Pos} : PS X (.Pass pos) (tS L F W .pass) := pwS fun pins s σ H D I ⟨β, h, ρ, S, R, p⟩ => ⟨_, ps_pass, by unfold exS at p; exact p _ _ _ .refl S R⟩
theorem s_doc {x : PySem.Str} {j : Nat} {pos pos' : Pos} : PS X (.Expr (.Constant (.str x) j pos) pos') (tS L F W .pass) := pwS fun pins s σ H D I ⟨β, h, ρ, S, R, p⟩ => ⟨_, ps_doc, by unfold exS at p; exact p _ _ _ .refl S R⟩
theorem s_brk {pos : Pos} : PS X (.Break pos) (tS L F W .brk) := pwS fun pins s σ H D I ⟨β, h, ρ, S, R, p⟩ => ⟨_, ps_break, by unfold exS at p; exact p _ _ _ .refl S R⟩
theorem s_cont {pos : Pos} : PS X (.Continue pos) (tS L F W .cont) := pwS fun pins s σ H D I ⟨β, h, ρ, S, R, p⟩ => ⟨_, ps_continue, by unfold exS at p; exact p _ _ _ .refl S R⟩
def notComp : Expr → Bool
  | .ListComp .. => false
  | .SetComp .. => false
  | .DictComp .. => false
  | _ => true
theorem sw_no {e : Expr} {t : Option Expr} {l : Nat} {env : PySem.Env} (h : notComp e = true) : swapsWith e t l env = pure false := by
  cases e <;> first | rfl | (simp [notComp] at h)
theorem s_expr {e : Expr} {m : E} {pos : Pos} (hn : notComp e = true) (he : PE X e (tI L F W m)) : PS X (.Expr e pos) (tS L F W (.expr m)) := by
  refine pwS fun pins s σ H D I ⟨β, h, ρ, S, R, p⟩ => ⟨_, ps_expr he (sw_no hn), ?_⟩
  unfold exS at p
  exact tI_of S R (Sst.first S R p fun v h1 u β1 H1 _ x1 S1 r1 p1 => p1 _ _ _ .refl S1 (R.mono S x1))
theorem s_ret {e : Expr} {m : E} {pos : Pos} (he : PE X e (tI L F W m)) : PS X (.Return (some e) pos) (tS L F W (.ret m)) := by
  refine pwS fun pins s σ H D I ⟨β, h, ρ, S, R, p⟩ => ⟨_, ps_ret he, ?_⟩
  unfold exS at p
  exact tI_of S R (Sst.first S R p fun v h1 u β1 H1 _ x1 S1 r1 p1 => p1 _ _ _ .refl S1 r1)
theorem s_retN {pos : Pos} : PS X (.Return none pos) (tS L F W .retN) := pwS fun pins s σ H D I ⟨β, h, ρ, S, R, p⟩ => ⟨_, ps_retN, by unfold exS at p; exact p _ _ _ .refl S .non⟩
theorem s_if {c : Expr} {a b : List Stmt} {mc : E} {ma mb : List S} {pos : Pos} (hc : PT X c (tT L F W mc)) (ha : PSs X a (tSs L F W ma)) (hb : PSs X b (tSs L F W mb)) : PS X (.If c a b pos) (tS L F W (.ife mc ma mb)) := by
  refine pwS fun pins s σ H D I ⟨β, h, ρ, S, R, p⟩ => ⟨_, ps_if hc ha hb, ?_⟩
  unfold exS at p
  refine ⟨β, h, ρ, S, R, ?_⟩
  cases ee : evE L.T F mc ρ h with
  | ok v h' =>
    rw [ee] at p
    dsimp only [Out.stm] at p
    cases et : MP.truthy h' v with
    | none => rw [et] at p; exact p.elim
    | some b =>
      rw [et] at p
      refine ⟨b, et, fun β' H' x S' => ?_⟩
      cases b with
      | true => exact iteT ⟨β', h', ρ, S', R.mono S x, Sst.mono x p⟩
      | false => exact iteF ⟨β', h', ρ, S', R.mono S x, Sst.mono x p⟩
  | exc x h' => rw [ee] at p; exact fun c d β1 H1 y s r => p c d σ β1 H1 y s (R.mono S y) r
  | bad => rw [ee] at p; exact p

/-! ### targets -/
/-- a store: the slots as told, the own names of a block apart -/
def tG (L : Lk) (tg : Tg) : TG := fun v σ H Q => ∃ (β : Bt) (h : Heap) (ρ ρ' : Env) (a : Val), Sim L β H h ∧ ER L β H σ ρ ∧ VR L β H v a ∧ bindTg ρ tg a = some ρ' ∧
  ∀ σ', ER L β H σ' ρ' → (∀ vs : List Nat, (∀ i ∈ (match tg with | .name i => [i] | .tup is => is), i ∈ vs) → L2.wipe σ' vs = L2.wipe σ vs) → Q σ' H
def tGs (L : Lk) (is : List Nat) : TGs := fun us σ H Q => ∃ (β : Bt) (h : Heap) (ρ ρ' : Env) (as : List Val), Sim L β H h ∧ ER L β H σ ρ ∧ VRs L β H us as ∧ setSlots ρ is as = some ρ' ∧
  ∀ σ', ER L β H σ' ρ' → (∀ vs : List Nat, (∀ i ∈ is, i ∈ vs) → L2.wipe σ' vs = L2.wipe σ vs) → Q σ' H
theorem wipe_set {σ : L2.St} {i : Nat} {v : Option V} : ∀ {vs : List Nat}, i ∈ vs → L2.wipe (σ.set i v) vs = L2.wipe σ vs
  | j :: vs, h => by
    unfold L2.wipe
    by_cases e : i = j
    · subst e
      by_cases hm : i ∈ vs
      · rw [wipe_set hm]
      · have out : ∀ {vs : List Nat}, i ∉ vs → L2.wipe (σ.set i v) vs = (L2.wipe σ vs).set i v := by
          intro vs
          induction vs with
          | nil => intro _; rfl
          | cons k vs ih =>
            intro hk
            simp only [List.mem_cons, not_or] at hk
            unfold L2.wipe
            rw [ih hk.2, List.set_comm _ _ hk.1]
        rw [out hm, List.set_set]
    · have hm : i ∈ vs := by
        rcases List.mem_cons.mp h with z | z
        · exact absurd z e
        · exact z
      rw [wipe_set hm]
/-- names that may be stored -/
structure Sto (X : Cx) (i : Nat) (x : PySem.Str) : Prop where
  at_ : X.N[i]? = some x
  loc : Loc X.env.scope x
  fn : X.fn x = true ∨ X.env.scope.names.lookup x = some .local
theorem s_gname {i : Nat} {x : PySem.Str} {pos : Pos} (nd : X.N.Nodup) (h : Sto X i x) : PG X (.Name x pos) (tG L (.name i)) := by
  refine ⟨fun pins s σ H v u Q I r ⟨β, h', ρ, ρ', a, S, R, rv, e, k⟩ => (pg_name nd h.at_ h.loc h.fn).run pins s σ H v u Q I r ?_⟩
  simp only [bindTg, setSlots] at e
  split at e
  · cases e
    exact k _ (R.set rv i) fun vs hv => wipe_set (hv i (by simp))
  · cases e
inductive TgOk (X : Cx) : List Expr → List Nat → Prop where
  | nil : TgOk X [] []
  | cons {i : Nat} {x : PySem.Str} {p : Pos} {es : List Expr} {is : List Nat} : Sto X i x → TgOk X es is → TgOk X (.Name x p :: es) (i :: is)
theorem TgOk.length {py : List Expr} {is : List Nat} (h : TgOk X py is) : py.length = is.length := by
  induction h with
  | nil => rfl
  | cons _ _ ih => exact congrArg Nat.succ ih
theorem s_gs {py : List Expr} {is : List Nat} (nd : X.N.Nodup) (h : TgOk X py is) : PGs X py (tGs L is) := by
  induction h with
  | nil =>
    refine ⟨fun pins s σ H vs us Q I r ⟨β, h', ρ, ρ', as, S, R, rv, e, k⟩ => pgs_nil.run pins s σ H vs us Q I r ?_⟩
    cases as with
    | nil =>
      cases rv
      cases e
      exact ⟨rfl, k σ R fun _ _ => rfl⟩
    | cons a as => cases e
  | @cons i x p es is sx _ ih =>
    refine ⟨fun pins s σ H vs us Q I r ⟨β, h', ρ, ρ', as, S, R, rv, e, k⟩ => (pgs_cons (s_gname (L := L) nd sx) ih).run pins s σ H vs us Q I r ?_⟩
    cases as with
    | nil => cases e
    | cons a as =>
      cases rv with
      | cons ra rs =>
        simp only [setSlots] at e
        split at e
        · rename_i hl
          refine ⟨_, _, rfl, β, h', ρ, ρ.set i (some a), a, S, R, ra, by simp only [bindTg, setSlots]; rw [if_pos hl], fun σ1 R1 w1 => ?_⟩
          exact ⟨β, h', ρ.set i (some a), ρ', as, S, R1, rs, e, fun σ2 R2 w2 => k σ2 R2 fun vs hv => (w2 vs fun j hj => hv j (List.mem_cons_of_mem _ hj)).trans (w1 vs fun j hj => by
            cases List.mem_singleton.mp hj
            exact hv _ List.mem_cons_self)⟩
        · cases e
def notStarA : List Expr → Bool := fun es => es.all notStar
theorem assignEach_len {env : PySem.Env} : ∀ es : List Expr, (assignEach es env).length = es.length
  | [] => rfl
  | e :: es => by
    have : (assignEach (e :: es) env).length = (assignEach es env).length + 1 := by cases e <;> rfl
    rw [this, assignEach_len es]; rfl
theorem assignEach_plain {env : PySem.Env} : ∀ {es : List Expr}, es.all notStar = true → (assignEach es env).findIdx? (·.1) = none
  | [], _ => rfl
  | e :: es, h => by
    simp only [List.all_cons, Bool.and_eq_true] at h
    have e1 : assignEach (e :: es) env = (false, assign e env) :: assignEach es env := by
      cases e <;> first | rfl | (simp [notStar] at h)
    rw [e1, List.findIdx?_cons, assignEach_plain h.2]
    rfl
theorem s_gtup {py : List Expr} {is : List Nat} {k : Nat} {pos : Pos} (hK : X.K = L.K) (hc : X.calm = true) (nd : X.N.Nodup) (h : TgOk X py is) : PG X (.Tuple py k pos) (tG L (.tup is)) := by
  have hs : py.all notStar = true := by
    induction h with
    | nil => rfl
    | cons h1 _ ih => exact ih
  have hl : py.length = is.length := h.length
  refine ⟨fun pins s σ H v u Q I r ⟨β, h', ρ, ρ', a, S, R, rv, e, kk⟩ => (pg_tup hc (s_gs (L := L) nd h) (assignEach_len py) (assignEach_plain hs)).run pins s σ H v u Q I r ?_⟩
  simp only [bindTg] at e
  split at e
  · rename_i as
    cases rv with
    | tup ht rs =>
      refine ⟨_, _, rfl, hK ▸ ht, ?_, β, h', ρ, ρ', as, S, R, rs, e, kk⟩
      rw [rs.length, hl]
      have : ∀ (ρ ρ' : Env) (is : List Nat) (as : List Val), setSlots ρ is as = some ρ' → as.length = is.length := by
        intro ρ ρ' is
        induction is generalizing ρ with
        | nil => intro as e; cases as with | nil => rfl | cons _ _ => cases e
        | cons i is ih =>
          intro as e
          cases as with
          | nil => cases e
          | cons a as =>
            simp only [setSlots] at e
            split at e
            · exact congrArg Nat.succ (ih _ _ e)
            · cases e
      exact this _ _ _ _ e
  · cases e
end
end MP

/-! Mp1i: assignments, loops -/
namespace MP
open PySem PySem.Spec PyProof.Rows L2

section
variable {X : Cx} {L : Lk} {F : Fns} {W : WX} {lv : Nat}
theorem s_set {i : Nat} {x : PySem.Str} {e : Expr} {m : E} {pos pos' : Pos} (nd : X.N.Nodup) (sx : Sto X i x) (hs : swapsWith e (some (.Name x pos')) pos.line X.env = pure false) (he : PE X e (tI L F W m)) : PS X (.Assign [.Name x pos'] e pos) (tS L F W (.asg (.name i) m)) := by
  refine pwS fun pins s σ H D I ⟨β, h, ρ, S, R, p⟩ => ⟨_, ps_set nd sx.at_ sx.loc he hs sx.fn, ?_⟩
  unfold exS at p
  refine tI_of S R (Sst.first S R p fun v h1 u β1 H1 _ x1 S1 r1 p1 => ?_)
  simp only [bindTg, setSlots] at p1
  split at p1
  · rename_i ρ' e'
    split at e'
    · cases e'
      exact p1 _ _ _ .refl S1 ((R.mono S x1).set r1 i)
    · cases e'
  · exact p1.elim
def notTup : Expr → Bool
  | .Tuple .. => false
  | _ => true
theorem s_setT {e : Expr} {m : E} {py : List Expr} {is : List Nat} {k : Nat} {pos tpos : Pos} (hK : X.K = L.K) (hc : X.calm = true) (nd : X.N.Nodup) (ht : TgOk X py is) (hn : notTup e = true) (he : PE X e (tI L F W m)) :
    PS X (.Assign [.Tuple py k tpos] e pos) (tS L F W (.asg (.tup is) m)) := by
  have h1 : swapsWithSole [.Tuple py k tpos] e pos.line X.env = pure false := by
    show swapsWith e (some (.Tuple py k tpos)) pos.line X.env = pure false
    cases e <;> rfl
  have h2 : swappedStores [.Tuple py k tpos] e X.env = pure none := by
    cases e <;> first | rfl | (simp [notTup] at hn)
  refine pwS fun pins s σ H D I ⟨β, h, ρ, S, R, p⟩ => ⟨_, ps_asg he (s_gtup (L := L) hK hc nd ht) h1 h2, ?_⟩
  unfold exS at p
  refine tI_of S R (Sst.first S R p fun v h1 u β1 H1 _ x1 S1 r1 p1 => ?_)
  cases e' : bindTg ρ (.tup is) v with
  | none => rw [e'] at p1; exact p1.elim
  | some ρ' =>
    rw [e'] at p1
    exact ⟨β1, h1, ρ, ρ', v, S1, R.mono S x1, r1, e', fun σ' R' _ => p1 _ _ _ .refl S1 R'⟩
def rAug (L : Lk) (o : Op) : TIp := fun x y H Q => ∃ (β : Bt) (h : Heap) (a b z : Val), Sim L β H h ∧ VR L β H x a ∧ VR L β H y b ∧ augV o a b = some z ∧ ∀ u, VR L β H u z → Q u H
theorem ip_aug {op : Operator} {o : Op} (ho : (op = .Add ∧ o = .add) ∨ (op = .Sub ∧ o = .sub)) : PIp X op (rAug L o) := by
  intro pins s σ H x y v u Q I r1 r2 ⟨β, h, a, b, z, S, ra, rb, e, k⟩
  rcases ho with ⟨rfl, rfl⟩ | ⟨rfl, rfl⟩
  · simp only [augV] at e
    split at e
    · cases ra; cases rb; cases e
      exact ip_add pins s σ H _ _ v u Q I r1 r2 ⟨_, _, rfl, rfl, k _ (.int _)⟩
    · cases e
  · simp only [augV] at e
    split at e
    · cases ra; cases rb; cases e
      exact ip_sub pins s σ H _ _ v u Q I r1 r2 ⟨_, _, rfl, rfl, k _ (.int _)⟩
    · cases e
theorem s_augN {i : Nat} {x : PySem.Str} {e : Expr} {m : E} {op : Operator} {o : Op} {pos pos' : Pos} (nd : X.N.Nodup) (sx : Sto X i x) (ho : (op = .Add ∧ o = .add) ∨ (op = .Sub ∧ o = .sub)) (he : PE X e (tI L F W m)) : PS X (.AugAssign (.Name x pos') op e pos) (tS L F W (.augN i o m)) := by
  refine pwS fun pins s σ H D I ⟨β, h, ρ, S, R, p⟩ => ⟨_, ps_aug nd sx.at_ sx.loc he (ip_aug (L := L) ho) sx.fn, ?_⟩
  unfold exS at p
  split at p
  · rename_i v ev
    obtain ⟨u, eu, ru⟩ := R.get i v ev
    refine ⟨u, eu, tI_of S R (Sst.first S R p fun w h1 u2 β1 H1 _ x1 S1 r1 p1 => ?_)⟩
    cases e' : augV o v w with
    | none => rw [e'] at p1; exact p1.elim
    | some z =>
      rw [e'] at p1
      exact ⟨β1, h1, v, w, z, S1, ru.mono S x1, r1, e', fun u3 r3 => p1 _ _ _ .refl S1 ((R.mono S x1).set r3 i)⟩
  · exact p.elim

/-! ### while -/
theorem s_whl {c : Expr} {body : List Stmt} {mc : E} {mb : List S} {pos : Pos} (hp : PassesOwn (model X.prog X.w) X.A X.env X.xe) (hc : PT X c (tT L F W mc)) (hb : PSs X body (tSs L F W mb)) : PS X (.While c body [] pos) (tS L F W (.whl mc mb)) := by
  refine pwS fun pins s σ H D I ⟨β, h, ρ, S, R, p⟩ => ⟨_, ps_while hp hc hb, ?_⟩
  unfold exS at p
  generalize hst : (fun (ρ : Env) (h : Heap) => _ : Env → Heap → WS) = step at p
  have nb : whileL step ρ h ≠ .bad := fun z => by rw [z] at p; exact p
  obtain ⟨n, hn⟩ := whileL_runs nb
  refine ⟨fun m σ H => ∃ β h ρ o, Sim L β H h ∧ ER L β H σ ρ ∧ wIter step m ρ h = some o ∧ Sst L β H o D W, ⟨n, β, h, ρ, _, S, R, hn, p⟩, ?_⟩
  rintro m σ H ⟨β, h, ρ, o, S, R, hw, q⟩
  cases m with
  | zero => cases hw
  | succ m =>
    simp only [wIter] at hw
    refine ⟨β, h, ρ, S, R, ?_⟩
    subst hst
    dsimp only at hw
    cases ee : evE L.T F mc ρ h with
    | ok v h' =>
      rw [ee] at hw
      dsimp only at hw
      cases et : MP.truthy h' v with
      | none => rw [et] at hw; cases hw; exact q.elim
      | some b =>
        rw [et] at hw
        refine ⟨b, et, fun β' H' x S' => ?_⟩
        cases b with
        | true =>
          dsimp only at hw
          refine iteT ⟨fun σ' H' => ∃ β h ρ o, Sim L β H' h ∧ ER L β H' σ' ρ ∧ wIter _ m ρ h = some o ∧ Sst L β H' o D W, fun σ' H' z => ⟨m, Nat.lt_succ_self _, z⟩, β', h', ρ, S', R.mono S x, ?_⟩
          cases eb : exB L.T F mb ρ h' with
          | nx ρ2 h2 => rw [eb] at hw; exact fun σ2 β2 H2 x2 S2 R2 => ⟨β2, h2, ρ2, o, S2, R2, hw, Sst.mono (x.trans x2) q⟩
          | ct ρ2 h2 => rw [eb] at hw; exact fun σ2 β2 H2 x2 S2 R2 => ⟨β2, h2, ρ2, o, S2, R2, hw, Sst.mono (x.trans x2) q⟩
          | bk ρ2 h2 => rw [eb] at hw; cases hw; exact fun σ2 β2 H2 x2 S2 R2 => q σ2 β2 H2 (x.trans x2) S2 R2
          | rt v2 h2 => rw [eb] at hw; cases hw; exact fun u2 β2 H2 x2 S2 R2 => q u2 β2 H2 (x.trans x2) S2 R2
          | exc y ρ2 h2 => rw [eb] at hw; cases hw; exact fun c d σ2 β2 H2 x2 S2 R2 E2 => q c d σ2 β2 H2 (x.trans x2) S2 R2 E2
          | bad => rw [eb] at hw; cases hw; exact q.elim
        | false =>
          dsimp only at hw
          cases hw
          exact iteF (q _ _ _ x S' (R.mono S x))
    | exc x h' => rw [ee] at hw; cases hw; exact fun c d β1 H1 y s r => q c d σ β1 H1 y s (R.mono S y) r
    | bad => rw [ee] at hw; cases hw; exact q.elim

/-! ### what is walked -/
def WalkOk (L : Lk) (J : It) (h0 : Heap) (ws items : List Val) (us : List V) : Prop := Walk J items.length (fun H => ∃ pv β h, Sim (L.pvs pv) β H h ∧ stays h0 h ws ∧ VRs (L.pvs pv) β H us ws)
  (fun i H x H' => ∀ pv β h, Sim (L.pvs pv) β H h → stays h0 h ws → VRs (L.pvs pv) β H us ws → ∃ v, items[i]? = some v ∧ Ext β H β H' ∧ Sim (L.pvs pv) β H' h ∧ VR (L.pvs pv) β H' x v)
def tWk (L : Lk) (F : Fns) (W : WX) (w : Nat) (it : List E) : TI := fun σ H R => ∃ (β : Bt) (h : Heap) (ρ : Env), Sim L β H h ∧ ER L β H σ ρ ∧ match evEs L.T F it ρ h with
  | .ok ws h1 => ∃ items, walkV h1 w ws = some items ∧ ∀ us β1 H1 J, Ext β H β1 H1 → Sim L β1 H1 h1 → VRs L β1 H1 us ws → WalkOk L J h1 ws items us → R J H1
  | .exc x h1 => ∀ cls d β' H', Ext β H β' H' → Sim L β' H' h1 → ExR L H' cls d x → W cls d σ H'
  | .bad => False
theorem pwPI {tg e : Expr} {t : TI} (k : ∀ pins s σ H R, L2.Inv X pins σ H s → t σ H R → ∃ t', PI X tg e t' ∧ t' σ H R) : PI X tg e t :=
  ⟨fun pins s σ H R I q => by obtain ⟨t', p, q'⟩ := k pins s σ H R I q; exact p.run pins s σ H R I q'⟩
end
section
variable {L : Lk}
theorem wk_list {a : Addr} {h0 : Heap} {b : Val} {items : List Val} (es : seqOf h0 b = some items) (nt : ∀ xs, b ≠ .tup xs) : WalkOk L (Itl L.K a) h0 [b] items [.ref a] := by
  have at_ : ∀ pv β H h, Sim (L.pvs pv) β H h → stays h0 h [b] → VRs (L.pvs pv) β H [.ref a] [b] → ∃ vs, SqL L.K H a vs ∧ VRs (L.pvs pv) β H vs items := fun pv β H h S st rs => by
    cases rs with
    | cons r _ =>
      cases r with
      | tup _ _ => exact absurd rfl (nt _)
      | lst ha _ rr => simp only [seqOf] at es; cases es; exact ⟨_, SqL.of ha, rr⟩
      | arr ha rr => simp only [seqOf] at es; cases es; exact ⟨_, ha.sql, rr⟩
      | ref hb =>
        simp only [seqOf] at es
        split at es
        · rename_i xs q
          cases es
          obtain ⟨vs, ha, rr⟩ := lst_at S hb (st.1.trans q)
          exact ⟨vs, SqL.of ha, rr⟩
        · cases es
      | fn _ => cases es
  refine ⟨fun i H hi ⟨pv, β, h, S, st, rs⟩ => ?_, fun H ⟨pv, β, h, S, st, rs⟩ => ?_, fun i H x H' hi _ y pv β h S st rs => ?_⟩
  · obtain ⟨vs, hs, rr⟩ := at_ pv β H h S st rs
    exact ⟨vs, vs[i]'(by rw [rr.length]; exact hi), hs, by simp [rr.length, hi]⟩
  · obtain ⟨vs, hs, rr⟩ := at_ pv β H h S st rs
    exact ⟨vs, hs, by rw [rr.length]; exact Nat.le_refl _⟩
  · obtain ⟨vs, hs, rr⟩ := at_ pv β H h S st rs
    obtain ⟨rfl, y⟩ := y
    have e1 := y vs hs
    obtain ⟨v', ev', rv'⟩ := rr.get (i := i) (x := items[i]'hi) (by simp [hi])
    rw [e1] at ev'
    cases ev'
    exact ⟨_, by simp [hi], .refl, S, rv'⟩
theorem wk_tup {a : Addr} {h0 : Heap} {items : List Val} : WalkOk L (Itt L.K a) h0 [.tup items] items [.ref a] := by
  have at_ : ∀ pv β H h, Sim (L.pvs pv) β H h → VRs (L.pvs pv) β H [.ref a] [.tup items] → ∃ vs, SqT L.K H a vs ∧ VRs (L.pvs pv) β H vs items := fun pv β H h S rs => by
    cases rs with
    | cons r _ => cases r with | tup ht rr => exact ⟨_, ht, rr⟩
  refine ⟨fun i H hi ⟨pv, β, h, S, st, rs⟩ => ?_, fun H ⟨pv, β, h, S, st, rs⟩ => ?_, fun i H x H' hi _ y pv β h S st rs => ?_⟩
  · obtain ⟨vs, hs, rr⟩ := at_ pv β H h S rs
    exact ⟨vs, vs[i]'(by rw [rr.length]; exact hi), hs, by simp [rr.length, hi]⟩
  · obtain ⟨vs, hs, rr⟩ := at_ pv β H h S rs
    exact ⟨vs, hs, by rw [rr.length]; exact Nat.le_refl _⟩
  · obtain ⟨vs, hs, rr⟩ := at_ pv β H h S rs
    obtain ⟨rfl, y⟩ := y
    have e1 := y vs hs
    obtain ⟨v', ev', rv'⟩ := rr.get (i := i) (x := items[i]'hi) (by simp [hi])
    rw [e1] at ev'
    cases ev'
    exact ⟨_, by simp [hi], .refl, S, rv'⟩
theorem wk_str {z : List Nat} {h0 : Heap} {us : List V} {ws : List Val} : WalkOk L (Its (tx z)) h0 ws (z.map fun c => .str [c]) us := by
  have hz : (tx z).cps.size = z.length := by simp [tx]
  refine ⟨fun i H hi _ => ?_, fun H _ => ?_, fun i H x H' hi _ y pv β h S st rs => ?_⟩
  · show i < (tx z).cps.size
    rw [hz]; simpa using hi
  · show (tx z).cps.size ≤ _
    rw [hz]; simp
  · obtain ⟨rfl, c, hc, rfl⟩ := y
    have hc : z[i]? = some c := by simpa [tx] using hc
    exact ⟨.str [c], by simp [hc], .refl, S, .str [c]⟩
theorem upto_len : ∀ (n : Nat) (lo : Int), (upto lo n).length = n
  | 0, _ => rfl
  | n + 1, lo => congrArg Nat.succ (upto_len n (lo + 1))
theorem upto_get : ∀ (n i : Nat) (lo : Int), i < n → (upto lo n)[i]? = some (.int (lo + i))
  | n + 1, 0, lo, _ => by simp [upto]
  | n + 1, i + 1, lo, h => by
    have := upto_get n i (lo + 1) (by omega)
    simp only [upto, List.getElem?_cons_succ, this]
    congr 2
    omega
theorem wk_range {lo : Int} {n : Nat} {h0 : Heap} {us : List V} {ws : List Val} : WalkOk L (Itr lo n) h0 ws (upto lo n) us := by
  refine ⟨fun i H hi _ => by rw [upto_len] at hi; exact hi, fun H _ => by rw [upto_len]; exact Nat.le_refl _, fun i H x H' hi _ y pv β h S st rs => ?_⟩
  rw [upto_len] at hi
  obtain ⟨rfl, rfl⟩ := y
  exact ⟨_, upto_get n i lo hi, .refl, S, .int _⟩
theorem enum_get : ∀ (xs : List Val) (i : Nat) (k : Int) (x : Val), xs[i]? = some x → (enumFrom k xs)[i]? = some (.tup [.int (k + i), x])
  | [], _, _, _, e => by simp at e
  | y :: xs, 0, k, x, e => by simp at e; subst e; simp [enumFrom]
  | y :: xs, i + 1, k, x, e => by
    have := enum_get xs i (k + 1) x (by simpa using e)
    simp only [enumFrom, List.getElem?_cons_succ, this]
    congr 4
    omega
theorem enum_len : ∀ (xs : List Val) (k : Int), (enumFrom k xs).length = xs.length
  | [], _ => rfl
  | _ :: xs, k => congrArg Nat.succ (enum_len xs (k + 1))
theorem pair_laid {β : Bt} {H : Hp} {h : Heap} (S : Sim L β H h) {T : Addr} {x y : V} {a b : Val} (e : H T = none) (rx : VR L β H x a) (ry : VR L β H y b) : Ext β H β (upd H T (.tup [x, y])) ∧ Sim L β (upd H T (.tup [x, y])) h ∧ VR L β (upd H T (.tup [x, y])) (.ref T) (.tup [a, b]) :=
  ⟨Ext.laid S e, S.laid e, .tup (SqT.of upd_same) (.cons (rx.mono S (Ext.laid S e)) (.cons (ry.mono S (Ext.laid S e)) .nil))⟩
theorem seq_at {β : Bt} {H : Hp} {h h0 : Heap} {a : Addr} {b : Val} {items : List Val} (es : seqOf h0 b = some items) (nt : ∀ xs, b ≠ .tup xs) (S : Sim L β H h) (st : stays h0 h [b]) (r : VR L β H (.ref a) b) : ∃ vs, SqL L.K H a vs ∧ VRs L β H vs items := by
  cases r with
  | tup _ _ => exact absurd rfl (nt _)
  | lst ha _ rr => simp only [seqOf] at es; cases es; exact ⟨_, SqL.of ha, rr⟩
  | arr ha rr => simp only [seqOf] at es; cases es; exact ⟨_, ha.sql, rr⟩
  | ref hb =>
    simp only [seqOf] at es
    split at es
    · rename_i xs q
      cases es
      obtain ⟨vs, ha, rr⟩ := lst_at S hb (st.1.trans q)
      exact ⟨vs, SqL.of ha, rr⟩
    · cases es
  | fn _ => cases es
theorem wk_enum {a : Addr} {h0 : Heap} {b : Val} {items : List Val} (es : seqOf h0 b = some items) (nt : ∀ xs, b ≠ .tup xs) : WalkOk L (Ite L.K a) h0 [b] (enumFrom 0 items) [.ref a] := by
  have hd : ∀ pv β H, VRs (L.pvs pv) β H [.ref a] [b] → VR (L.pvs pv) β H (.ref a) b := fun pv β H rs => by cases rs with | cons r _ => exact r
  refine ⟨fun i H hi ⟨pv, β, h, S, st, rs⟩ => ?_, fun H ⟨pv, β, h, S, st, rs⟩ => ?_, fun i H x H' hi _ y pv β h S st rs => ?_⟩
  · rw [enum_len] at hi
    obtain ⟨vs, hs, rr⟩ := seq_at (L := L.pvs pv) es nt S st (hd pv β H rs)
    exact ⟨vs, vs[i]'(by rw [rr.length]; exact hi), hs, by simp [rr.length, hi]⟩
  · obtain ⟨vs, hs, rr⟩ := seq_at (L := L.pvs pv) es nt S st (hd pv β H rs)
    exact ⟨vs, hs, by rw [rr.length, enum_len]; exact Nat.le_refl _⟩
  · rw [enum_len] at hi
    obtain ⟨vs, hs, rr⟩ := seq_at (L := L.pvs pv) es nt S st (hd pv β H rs)
    obtain ⟨T, z, rfl, h2, rfl, h4⟩ := y
    have e1 := h4 vs hs
    obtain ⟨v', ev', rv'⟩ := rr.get (i := i) (x := items[i]'hi) (by simp [hi])
    rw [e1] at ev'
    cases ev'
    obtain ⟨q1, q2, q3⟩ := pair_laid S h2 (.int (i : Nat)) rv'
    refine ⟨.tup [.int ((0 : Int) + (i : Nat)), items[i]], enum_get items i 0 _ (by simp [hi]), q1, q2, ?_⟩
    rw [Int.zero_add]
    exact q3
theorem zip_len : ∀ (xs ys : List Val), (zipV xs ys).length = min xs.length ys.length
  | [], _ => by simp [zipV]
  | _ :: _, [] => by simp [zipV]
  | _ :: xs, _ :: ys => by simp only [zipV, List.length_cons, zip_len xs ys]; omega
theorem zip_get : ∀ (xs ys : List Val) (i : Nat) (x y : Val), xs[i]? = some x → ys[i]? = some y → (zipV xs ys)[i]? = some (.tup [x, y])
  | [], _, _, _, _, e, _ => by simp at e
  | _ :: _, [], _, _, _, _, e => by simp at e
  | _ :: xs, _ :: ys, 0, x, y, e, f => by simp at e f; subst e f; rfl
  | _ :: xs, _ :: ys, i + 1, x, y, e, f => by
    simp only [zipV, List.getElem?_cons_succ]
    exact zip_get xs ys i x y (by simpa using e) (by simpa using f)
end
section
variable {X : Cx} {L : Lk} {F : Fns} {W : WX} {lv : Nat}
theorem s_w0 {tg e : Expr} {m : E} (hK : X.K = L.K) (he : PE X e (tI L F W m)) : PI X tg e (tWk L F W 0 [m]) := by
  refine pwPI fun pins s σ H R I ⟨β, h, ρ, S, Re, p⟩ => ?_
  rw [evEs_cons] at p
  cases ee : evE L.T F m ρ h with
  | ok v h1 =>
    rw [ee] at p
    dsimp only [Out.bind] at p
    rw [evEs_nil] at p
    dsimp only at p
    obtain ⟨items, ei, k⟩ := p
    have seqs : seqOf h1 v = some items → (∀ xs, v ≠ .tup xs) → ∃ t', PI X tg e t' ∧ t' σ H R := fun es nt => ⟨_, pi_list he, tI_of S Re (by
      rw [ee]
      intro u β1 H1 x1 S1 r1
      obtain ⟨a, vs, rfl, rs, hs⟩ := seq_of S1 r1 es
      refine ⟨a, rfl, ?_, ?_⟩
      · cases r1 with
        | tup _ _ => exact absurd rfl (nt _)
        | lst ha _ _ => exact ⟨_, SqL.of ha⟩
        | arr ha _ => exact ⟨_, hK ▸ ha.sql⟩
        | ref hb =>
          simp only [seqOf] at es
          split at es
          · rename_i xs q
            obtain ⟨vs, ha, _⟩ := lst_at S1 hb q
            exact ⟨vs, SqL.of ha⟩
          · cases es
        | fn _ => cases es
      · rw [hK]; exact k _ β1 H1 _ x1 S1 (.cons r1 .nil) (wk_list es nt))⟩
    cases v with
    | str z =>
      cases ei
      exact ⟨_, pi_str he, tI_of S Re (by
        rw [ee]
        intro u β1 H1 x1 S1 r1
        cases r1
        exact ⟨_, rfl, k [V.str (tx z)] β1 H1 _ x1 S1 (.cons (.str z) .nil) wk_str⟩)⟩
    | tup xs =>
      cases ei
      exact ⟨_, pi_tup he, tI_of S Re (by
        rw [ee]
        intro u β1 H1 x1 S1 r1
        cases r1 with
        | tup ht rr =>
          refine ⟨_, rfl, ⟨_, hK ▸ ht⟩, ?_⟩
          rw [hK]
          exact k _ β1 H1 _ x1 S1 (.cons (.tup ht rr) .nil) wk_tup)⟩
    | lst xs => exact seqs ei (fun _ z => by cases z)
    | arr xs => exact seqs ei (fun _ z => by cases z)
    | ref r => exact seqs ei (fun _ z => by cases z)
    | non => cases ei
    | bl _ => cases ei
    | int _ => cases ei
    | fn _ => cases ei
  | exc x h1 =>
    rw [ee] at p
    exact ⟨_, pi_list he, tI_of S Re (by rw [ee]; exact p)⟩
  | bad => rw [ee] at p; exact p.elim
theorem s_w2 {tg a : Expr} {ms : List E} {p pos : Pos} (hs : notStar a = true) (hg : Gl X "range") (hm : X.mg "range" = none) (ha : PA X [a] (tIs L F W ms)) : PI X tg (.Call (.Name "range" p) [a] [] pos) (tWk L F W 2 ms) := by
  refine pwPI fun pins s σ H R I ⟨β, h, ρ, S, Re, q⟩ => ⟨_, pi_range1 hg hm ha (starEach_of hs), tIs_of S Re ?_⟩
  cases ee : evEs L.T F ms ρ h with
  | ok ws h1 =>
    rw [ee] at q
    obtain ⟨items, ei, k⟩ := q
    intro us β1 H1 x1 S1 r1
    unfold walkV at ei
    split at ei
    all_goals first | contradiction | skip
    rename_i n _
    obtain ⟨hr, rfl⟩ := ite_some ei
    cases r1 with
    | cons r t =>
      cases t; cases r
      exact ⟨n, rfl, hr.1, hr.2, k _ β1 H1 _ x1 S1 (.cons (.int n) .nil) wk_range⟩
  | exc x h1 => rw [ee] at q; exact q
  | bad => rw [ee] at q; exact q.elim
theorem s_w3 {tg a b : Expr} {ms : List E} {p pos : Pos} (hs : notStar a = true) (hs2 : notStar b = true) (hg : Gl X "range") (hm : X.mg "range" = none) (ha : PA X [a, b] (tIs L F W ms)) : PI X tg (.Call (.Name "range" p) [a, b] [] pos) (tWk L F W 3 ms) := by
  refine pwPI fun pins s σ H R I ⟨β, h, ρ, S, Re, q⟩ => ⟨_, pi_range2 hg hm ha ((starEach_of hs).trans (by rw [starEach_of hs2]; rfl)) (starEach_of hs2), tIs_of S Re ?_⟩
  cases ee : evEs L.T F ms ρ h with
  | ok ws h1 =>
    rw [ee] at q
    obtain ⟨items, ei, k⟩ := q
    intro us β1 H1 x1 S1 r1
    unfold walkV at ei
    split at ei
    all_goals first | contradiction | skip
    rename_i i j _
    obtain ⟨hr, rfl⟩ := ite_some ei
    cases r1 with
    | cons r t =>
      cases t with
      | cons r2 t =>
        cases t; cases r; cases r2
        exact ⟨i, j, rfl, ⟨hr.1.1, hr.1.2, hr.2.1, hr.2.2⟩, k _ β1 H1 _ x1 S1 (.cons (.int i) (.cons (.int j) .nil)) wk_range⟩
  | exc x h1 => rw [ee] at q; exact q
  | bad => rw [ee] at q; exact q.elim

/-! ### for -/
theorem exS_loop (T : Tb) {tg : Tg} {w : Nat} {it : List E} {body : List S} {ρ : Env} {h : Heap} (hw : w ≠ 1) : exS T F (.loop tg w it body) ρ h = (evEs T F it ρ h).stm ρ fun ws h => match walkV h w ws with
    | some items => forL (fun h' => stays h h' ws) (fun v ρ h => match bindTg ρ tg v with
      | some ρ' => exB T F body ρ' h
      | none => .bad) items ρ h
    | none => .bad := by
  conv => lhs; unfold exS
  split
  · exact absurd rfl hw
  · rfl
theorem stays_refl {h0 : Heap} : ∀ {ws : List Val}, stays h0 h0 ws
  | [] => trivial
  | v :: t => by
    have := stays_refl (h0 := h0) (ws := t)
    cases v <;> first | exact this | exact ⟨rfl, this⟩
theorem s_for {ptg iter : Expr} {body : List Stmt} {tg : Tg} {w : Nat} {it : List E} {mb : List S} {pos : Pos} (hp : PassesOwn (model X.prog X.w) X.A X.env X.xe) (hc : X.calm = true) (hw : w ≠ 1) (hn : notSet iter = true) (hi : PI X ptg iter (tWk L F W w it)) (hg : PG X ptg (tG L tg)) (hb : PSs X body (tSs L F W mb)) :
    PS X (.For ptg iter body [] pos) (tS L F W (.loop tg w it mb)) := by
  refine pwS fun pins s σ H D I ⟨β, h, ρ, S, R, p⟩ => ⟨_, ps_for hp hc hi hg hb (fun x => by cases iter <;> first | rfl | (simp [notSet] at hn)), ?_⟩
  rw [exS_loop _ hw] at p
  refine ⟨β, h, ρ, S, R, ?_⟩
  cases ee : evEs L.T F it ρ h with
  | ok ws h1 =>
    rw [ee] at p
    dsimp only [Out.stm] at p
    cases ei : walkV h1 w ws with
    | none => rw [ei] at p; exact p.elim
    | some items =>
      rw [ei] at p
      dsimp only at p
      refine ⟨items, ei, fun us β1 H1 J x1 S1 r1 wk => ?_⟩
      generalize hturn : (fun (v : Val) (ρ : Env) (h : Heap) => _ : Val → Env → Heap → SO) = turn at p
      refine for_it wk (fun i σ2 H2 => ∃ β2 h2 ρ2, Sim L β2 H2 h2 ∧ ER L β2 H2 σ2 ρ2 ∧ Ext β1 H1 β2 H2 ∧ stays h1 h2 ws ∧ Sst L β2 H2 (forL (fun h' => stays h1 h' ws) turn (items.drop i) ρ2 h2) D W) ?_ ?_ ?_ ?_
      · exact ⟨β1, h1, ρ, S1, R.mono S x1, .refl, stays_refl, by rw [List.drop_zero]; exact Sst.mono x1 p⟩
      · rintro i σ2 H2 _ ⟨β2, h2, ρ2, S2, R2, x2, st2, p2⟩
        exact ⟨L.pv, β2, h2, S2, st2, r1.mono S1 x2⟩
      · rintro i x σ2 H2 H3 hi ⟨β2, h2, ρ2, S2, R2, x2, st2, p2⟩ y
        obtain ⟨v, ev, x3, S3, rv⟩ := y L.pv β2 h2 S2 st2 (r1.mono S1 x2)
        have hd : items.drop i = v :: items.drop (i + 1) := by
          rw [List.drop_eq_getElem_cons hi]
          congr 1
          rw [List.getElem?_eq_getElem hi] at ev
          exact Option.some.inj ev
        rw [hd] at p2
        simp only [forL] at p2
        have hv : turn v ρ2 h2 = match bindTg ρ2 tg v with
          | some ρ' => exB L.T F mb ρ' h2
          | none => .bad := by rw [← hturn]
        cases eb : bindTg ρ2 tg v with
        | none => rw [hv, eb] at p2; exact p2.elim
        | some ρ3 =>
          rw [hv, eb] at p2
          refine ⟨β2, h2, ρ2, ρ3, v, S3, R2.mono S2 x3, rv, eb, fun σ' R' _ => ⟨β2, h2, ρ3, S3, R', ?_⟩⟩
          dsimp only at p2
          have again : ∀ {ρ4 : Env} {h4 : Heap}, Sst L β2 H2 (@ite _ (stays h1 h4 ws) (Classical.propDecidable _) (forL (fun h' => stays h1 h' ws) turn (items.drop (i + 1)) ρ4 h4) .bad) D W → ∀ σ4 β4 H4, Ext β2 H3 β4 H4 → Sim L β4 H4 h4 → ER L β4 H4 σ4 ρ4 →
              ∃ β2 h2 ρ2, Sim L β2 H4 h2 ∧ ER L β2 H4 σ4 ρ2 ∧ Ext β1 H1 β2 H4 ∧ stays h1 h2 ws ∧ Sst L β2 H4 (forL (fun h' => stays h1 h' ws) turn (items.drop (i + 1)) ρ2 h2) D W := fun {ρ4 h4} q σ4 β4 H4 x4 S4 R4 => by
            split at q
            · rename_i st4
              exact ⟨β4, h4, ρ4, S4, R4, x2.trans (x3.trans x4), st4, Sst.mono (x3.trans x4) q⟩
            · exact q.elim
          cases eo : exB L.T F mb ρ3 h2 with
          | nx ρ4 h4 => rw [eo] at p2; exact again p2
          | ct ρ4 h4 => rw [eo] at p2; exact again p2
          | bk ρ4 h4 => rw [eo] at p2; exact fun σ4 β4 H4 x4 S4 R4 => p2 σ4 β4 H4 (x3.trans x4) S4 R4
          | rt v4 h4 => rw [eo] at p2; exact fun u4 β4 H4 x4 S4 R4 => p2 u4 β4 H4 (x3.trans x4) S4 R4
          | exc z ρ4 h4 => rw [eo] at p2; exact fun c d σ4 β4 H4 x4 S4 R4 E4 => p2 c d σ4 β4 H4 (x3.trans x4) S4 R4 E4
          | bad => rw [eo] at p2; exact p2.elim
      · rintro σ2 H2 ⟨β2, h2, ρ2, S2, R2, x2, st2, p2⟩
        rw [List.drop_length] at p2
        exact p2 _ _ _ .refl S2 R2
  | exc x h1 => rw [ee] at p; exact fun c d β1 H1 y s r => p c d σ β1 H1 y s (R.mono S y) r
  | bad => rw [ee] at p; exact p.elim
end
end MP

/-! Mp1j: comprehensions -/
namespace MP
open PySem PySem.Spec PyProof.Rows L2

/-- the list at D is being made -/
@[reducible] def Lk.hide (L : Lk) (D : Addr) : Lk := L.pvs fun a => L.pv a ∨ a = D

/-! ### a list is hidden, grows, comes out -/
section
variable {L : Lk} {β : Bt} {H : Hp} {h : Heap} {D : Addr} {o : HO}
theorem sqt_laid (e : H D = none) {a : Addr} {vs : List V} (q : SqT L.K H a vs) : SqT L.K (upd H D o) a vs := by
  have k : ∀ b u, H b = some u → (upd H D o) b = some u := fun b u z => by rw [upd_ne (ne_of_none z e)]; exact z
  rcases q with (q | ⟨ob, q⟩) | q
  · exact .inl (.inl (k _ _ q))
  · exact .inl (.inr ⟨ob, k _ _ q⟩)
  · exact .inr q
theorem arr_hide (e : H D = none) {a : Addr} {vs : List V} (q : ArrAt L β H a vs) : ArrAt (L.hide D) β (upd H D o) a vs := by
  have k : ∀ b u, H b = some u → (upd H D o) b = some u := fun b u z => by rw [upd_ne (ne_of_none z e)]; exact z
  rcases q with ⟨q, n⟩ | ⟨ob, q⟩ | q
  · exact .inl ⟨k _ _ q, (fun z => by
      rcases z with z | z
      · exact n.1 z
      · rw [z, e] at q; cases q), n.2⟩
  · exact .inr (.inl ⟨ob, k _ _ q⟩)
  · exact .inr (.inr q)
mutual
theorem VR.hideLaid (e : H D = none) : ∀ {v : V} {x : Val}, VR L β H v x → VR (L.hide D) β (upd H D o) v x
  | _, _, .non => .non
  | _, _, .bl b => .bl b
  | _, _, .int i => .int i
  | _, _, .str s => .str s
  | _, _, .tup q r => .tup (sqt_laid e q) (VRs.hideLaid e r)
  | _, _, .lst q n r => .lst (by rw [upd_ne (ne_of_none q e)]; exact q) ⟨(fun z => by
      rcases z with z | z
      · exact n.1 z
      · rw [z, e] at q; cases q), n.2⟩ (VRs.hideLaid e r)
  | _, _, .arr q r => .arr (arr_hide e q) (VRs.hideLaid e r)
  | _, _, .ref q => .ref q
  | _, _, .fn k => .fn (L := L.hide D) k
theorem VRs.hideLaid (e : H D = none) : ∀ {vs : List V} {xs : List Val}, VRs L β H vs xs → VRs (L.hide D) β (upd H D o) vs xs
  | _, _, .nil => .nil
  | _, _, .cons r t => .cons (VR.hideLaid e r) (VRs.hideLaid e t)
end
/-- to another relation, pointwise -/
theorem KR.to {L' : Lk} {β' : Bt} {H' : Hp} (f : ∀ {v : V} {x : Val}, VR L β H v x → VR L' β' H' v x) : ∀ {ps : List (Key × V)} {qs : List (Val × Val)}, KR L β H ps qs → KR L' β' H' ps qs
  | _, _, .nil => .nil
  | _, _, .cons e r t => .cons e (f r) (KR.to f t)
theorem FR.to {L' : Lk} {β' : Bt} {H' : Hp} (nm : L'.nm = L.nm) (f : ∀ {v : V} {x : Val}, VR L β H v x → VR L' β' H' v x) : ∀ {ps : List (PySem.Str × V)} {qs : List (Nat × Val)}, FR L β H ps qs → FR L' β' H' ps qs
  | _, _, .nil => .nil
  | _, _, .cons r t => nm ▸ .cons (f r) (FR.to nm f t)
theorem CR.to {pv : Addr → Prop} {β' : Bt} {H' : Hp} (f : ∀ {v : V} {x : Val}, VR L β H v x → VR (L.pvs pv) β' H' v x) (g : ∀ {vs : List V} {xs : List Val}, VRs L β H vs xs → VRs (L.pvs pv) β' H' vs xs) {a : Addr} {c : Cell} (e : H' a = H a) (r : CR L β H a c) : CR (L.pvs pv) β' H' a c := by
  cases c with
  | lst xs => obtain ⟨vs, q, t⟩ := r; exact ⟨vs, e.trans q, g t⟩
  | dic kvs b =>
    cases b with
    | false => obtain ⟨ps, q, t⟩ := r; exact ⟨ps, e.trans q, t.to f⟩
    | true => obtain ⟨ps, o, q, t⟩ := r; exact ⟨ps, o, e.trans q, t.to f⟩
  | ins c fs => obtain ⟨w1, w2, dx, ps, q, t⟩ := r; exact ⟨w1, w2, dx, ps, e.trans q, FR.to (L := L) (L' := L.pvs pv) rfl f t⟩
theorem Sim.hideLaid (S : Sim L β H h) (e : H D = none) : Sim (L.hide D) β (upd H D o) h where
  fwd := S.fwd
  bwd := fun r a q => by
    obtain ⟨l, c, hc, x⟩ := S.bwd r a q
    exact ⟨l, c, hc, x.to (VR.hideLaid e) (VRs.hideLaid e) (upd_ne fun z => S.free e r (by rw [q, z]))⟩
  inj := S.inj
  priv := fun a q => by
    rcases q with q | q
    · exact ⟨(Ext.laid S e).there a (S.priv a q).1, (S.priv a q).2⟩
    · rw [q, upd_same]; exact ⟨by simp, S.free e⟩
theorem ER.hideLaid {σ : L2.St} {ρ : Env} (R : ER L β H σ ρ) (e : H D = none) : ER (L.hide D) β (upd H D o) σ ρ :=
  ⟨R.len, fun i v q => by obtain ⟨u, a, b⟩ := R.get i v q; exact ⟨u, a, b.hideLaid e⟩⟩

variable {acc acc' : List V}
theorem sqt_touch (e : H D = some (.lst acc)) {a : Addr} {vs : List V} (q : SqT L.K H a vs) : SqT L.K (upd H D (.lst acc')) a vs := by
  have k : ∀ b u, H b = some u → u ≠ .lst acc → (upd H D (.lst acc')) b = some u := fun b u z n => by
    rw [upd_ne (fun w => by rw [w, e] at z; exact n (Option.some.inj z).symm)]; exact z
  rcases q with (q | ⟨ob, q⟩) | q
  · exact .inl (.inl (k _ _ q (by intro z; cases z)))
  · exact .inl (.inr ⟨ob, k _ _ q (by intro z; cases z)⟩)
  · exact .inr q
theorem arr_touch (p : L.pv D) (e : H D = some (.lst acc)) {a : Addr} {vs : List V} (q : ArrAt L β H a vs) : ArrAt L β (upd H D (.lst acc')) a vs := by
  rcases q with ⟨q, n⟩ | ⟨ob, q⟩ | q
  · exact .inl ⟨by rw [upd_ne (fun w => n.1 (by rw [w]; exact p))]; exact q, n⟩
  · exact .inr (.inl ⟨ob, by rw [upd_ne (fun w => by rw [w, e] at q; cases q)]; exact q⟩)
  · exact .inr (.inr q)
mutual
theorem VR.touch (p : L.pv D) (e : H D = some (.lst acc)) : ∀ {v : V} {x : Val}, VR L β H v x → VR L β (upd H D (.lst acc')) v x
  | _, _, .non => .non
  | _, _, .bl b => .bl b
  | _, _, .int i => .int i
  | _, _, .str s => .str s
  | _, _, .tup q r => .tup (sqt_touch e q) (VRs.touch p e r)
  | _, _, .lst q n r => .lst (by rw [upd_ne (fun w => n.1 (by rw [w]; exact p))]; exact q) n (VRs.touch p e r)
  | _, _, .arr q r => .arr (arr_touch p e q) (VRs.touch p e r)
  | _, _, .ref q => .ref q
  | _, _, .fn k => .fn k
theorem VRs.touch (p : L.pv D) (e : H D = some (.lst acc)) : ∀ {vs : List V} {xs : List Val}, VRs L β H vs xs → VRs L β (upd H D (.lst acc')) vs xs
  | _, _, .nil => .nil
  | _, _, .cons r t => .cons (VR.touch p e r) (VRs.touch p e t)
end
theorem Sim.touch (S : Sim L β H h) (p : L.pv D) (e : H D = some (.lst acc)) : Sim L β (upd H D (.lst acc')) h where
  fwd := S.fwd
  bwd := fun r a q => by
    obtain ⟨l, c, hc, x⟩ := S.bwd r a q
    exact ⟨l, c, hc, CR.to (pv := L.pv) (VR.touch p e) (VRs.touch p e) (upd_ne fun z => (S.priv D p).2 r (by rw [q, z])) x⟩
  inj := S.inj
  priv := fun a q => ⟨by
    by_cases z : a = D
    · rw [z, upd_same]; simp
    · rw [upd_ne z]; exact (S.priv a q).1, (S.priv a q).2⟩

mutual
theorem VR.show {pv : Addr → Prop} (hp : ∀ a, L.pv a → pv a) : ∀ {v : V} {x : Val}, VR (L.pvs pv) β H v x → VR L β H v x
  | _, _, .non => .non
  | _, _, .bl b => .bl b
  | _, _, .int i => .int i
  | _, _, .str s => .str s
  | _, _, .tup q r => .tup q (VRs.show hp r)
  | _, _, .lst q n r => .lst q ⟨fun z => n.1 (hp _ z), n.2⟩ (VRs.show hp r)
  | _, _, .arr q r => .arr (by
      rcases q with ⟨q, n⟩ | q
      · exact .inl ⟨q, fun z => n.1 (hp _ z), n.2⟩
      · exact .inr q) (VRs.show hp r)
  | _, _, .ref q => .ref q
  | _, _, .fn k => .fn (L := L) k
theorem VRs.show {pv : Addr → Prop} (hp : ∀ a, L.pv a → pv a) : ∀ {vs : List V} {xs : List Val}, VRs (L.pvs pv) β H vs xs → VRs L β H vs xs
  | _, _, .nil => .nil
  | _, _, .cons r t => .cons (VR.show hp r) (VRs.show hp t)
end
theorem Sim.show {pv : Addr → Prop} (hp : ∀ a, L.pv a → pv a) (S : Sim (L.pvs pv) β H h) : Sim L β H h where
  fwd := S.fwd
  bwd := fun r a q => by
    obtain ⟨l, c, hc, x⟩ := S.bwd r a q
    exact ⟨l, c, hc, CR.to (L := L.pvs pv) (pv := L.pv) (VR.show hp) (VRs.show hp) rfl x⟩
  inj := S.inj
  priv := fun a q => S.priv a (hp a q)

mutual
theorem VR.born {n : Nat} (f : β n = none) : ∀ {v : V} {x : Val}, VR (L.hide D) β H v x → VR L (bnd β n D) H v x
  | _, _, .non => .non
  | _, _, .bl b => .bl b
  | _, _, .int i => .int i
  | _, _, .str s => .str s
  | _, _, .tup q r => .tup q (VRs.born f r)
  | _, _, .lst q m r => .lst q ⟨fun z => m.1 (.inl z), fun k z => by
      by_cases w : k = n
      · subst w; rw [bnd_same] at z; cases z; exact m.1 (.inr rfl)
      · rw [bnd_ne w] at z; exact m.2 k z⟩ (VRs.born f r)
  | _, _, .arr q r => .arr (by
      rcases q with ⟨q, m⟩ | q
      · exact .inl ⟨q, fun z => m.1 (.inl z), fun k z => by
          by_cases w : k = n
          · subst w; rw [bnd_same] at z; cases z; exact m.1 (.inr rfl)
          · rw [bnd_ne w] at z; exact m.2 k z⟩
      · exact .inr q) (VRs.born f r)
  | _, _, .ref (r := k) q => .ref (by
      by_cases w : k = n
      · subst w; rw [f] at q; cases q
      · rw [bnd_ne w]; exact q)
  | _, _, .fn k => .fn (L := L) k
theorem VRs.born {n : Nat} (f : β n = none) : ∀ {vs : List V} {xs : List Val}, VRs (L.hide D) β H vs xs → VRs L (bnd β n D) H vs xs
  | _, _, .nil => .nil
  | _, _, .cons r t => .cons (VR.born f r) (VRs.born f t)
end
theorem Sim.born (S : Sim (L.hide D) β H h) (np : ¬ L.pv D) {ys : List Val} (e : H D = some (.lst acc)) (r : VRs (L.hide D) β H acc ys) : Sim L (bnd β h.n D) H (h.push (.lst ys)) where
  fwd := fun k d q => by
    by_cases z : k = h.n
    · subst z; exact ⟨D, bnd_same⟩
    · have q' : h.c k = some d := by
        have : (if k = h.n then some (Cell.lst ys) else h.c k) = some d := q
        rwa [if_neg z] at this
      obtain ⟨a, y⟩ := S.fwd k d q'
      exact ⟨a, by rw [bnd_ne z]; exact y⟩
  bwd := fun k a q => by
    by_cases z : k = h.n
    · subst z
      rw [bnd_same] at q; cases q
      exact ⟨Nat.lt_succ_self _, .lst ys, if_pos rfl, acc, e, r.born S.fresh⟩
    · rw [bnd_ne z] at q
      obtain ⟨l, d, hd, y⟩ := S.bwd k a q
      exact ⟨Nat.lt_succ_of_lt l, d, by show (if k = h.n then some _ else h.c k) = some d; rw [if_neg z]; exact hd, CR.to (L := L.hide D) (pv := L.pv) (VR.born S.fresh) (VRs.born S.fresh) rfl y⟩
  inj := fun k q a h1 h2 => by
    have un := (S.priv D (.inr rfl)).2
    by_cases z : k = h.n
    · by_cases w : q = h.n
      · rw [z, w]
      · subst z
        rw [bnd_same] at h1; cases h1
        rw [bnd_ne w] at h2
        exact absurd h2 (un q)
    · rw [bnd_ne z] at h1
      by_cases w : q = h.n
      · subst w
        rw [bnd_same] at h2; cases h2
        exact absurd h1 (un k)
      · rw [bnd_ne w] at h2
        exact S.inj k q a h1 h2
  priv := fun a q => ⟨(S.priv a (.inl q)).1, fun k w => by
    by_cases z : k = h.n
    · subst z
      rw [bnd_same] at w
      cases w
      exact np q
    · rw [bnd_ne z] at w
      exact (S.priv a (.inl q)).2 k w⟩
end
theorem wipe_wipe {σ : L2.St} : ∀ {us vs : List Nat}, (∀ i ∈ us, i ∈ vs) → L2.wipe (L2.wipe σ us) vs = L2.wipe σ vs
  | [], _, _ => rfl
  | u :: us, vs, h => by
    show L2.wipe ((L2.wipe σ us).set u none) vs = _
    rw [wipe_set (h u List.mem_cons_self)]
    exact wipe_wipe fun i hi => h i (List.mem_cons_of_mem _ hi)
def tgSlots : Tg → List Nat
  | .name i => [i]
  | .tup is => is
def noW : WX := fun _ _ _ _ => False
/-- what a comprehension's turn does -/
noncomputable def cStep (T : Tb) (F : Fns) (elt : E) (tg : Tg) (ifs : List E) (vs : List Nat) (ρ : Env) : Val → Heap → Out (List Val) := fun v h => match bindTg (wipeS ρ vs) tg v with
  | some ρ' => (evEs T F ifs ρ' h).bind fun bs h => match bs with
    | [] => (evE T F elt ρ' h).bind fun y h => .ok [y] h
    | [b] => match MP.truthy h b with
      | some true => (evE T F elt ρ' h).bind fun y h => .ok [y] h
      | some false => .ok [] h
      | none => .bad
    | _ => .bad
  | none => .bad
theorem evE_comp (T : Tb) (F : Fns) {new : Bool} {elt : E} {tg : Tg} {w : Nat} {it ifs : List E} {vs : List Nat} {ρ : Env} {h : Heap} (hw : w ≠ 1) : evE T F (.comp new elt tg w it ifs vs) ρ h = (evEs T F it ρ h).bind fun ws h => match walkV h w ws with
    | some items => match compL (fun h' => stays h h' ws) (cStep T F elt tg ifs vs ρ) items h with
      | .ok ys h2 => newL new ys h2
      | _ => .bad
    | none => .bad := by
  conv => lhs; unfold evE
  dsimp only
  split
  · exact absurd rfl hw
  · rfl
section
variable {X : Cx} {L : Lk} {F : Fns} {W : WX} {lv : Nat}
theorem s_comp_of {elt ptg iter : Expr} {ifs : List Expr} {scope : Scope} {own : List (PySem.Str × Nat)} {pos : Pos} {new : Bool} {me : E} {tg : Tg} {w : Nat} {it mifs : List E} {wi : TI} {g : TG} {tt : TT} {te : TE}
    (hg : g = fun v σ H Q => ∃ pv, tG (L.pvs pv) tg v σ H Q) (hte : te = fun σ H Q => ∃ pv, tI (L.pvs pv) F noW me σ H Q) (hwi : wi = tWk L F W w it)
    (htt : (mifs = [] ∧ tt = tYes) ∨ ∃ c, mifs = [c] ∧ tt = fun σ H Q => ∃ pv, tT (L.pvs pv) F noW c σ H Q)
    (hw : w ≠ 1) (hs : ∀ i ∈ tgSlots tg, i ∈ own.map (·.2)) {σ : L2.St} {H : Hp} {Q : VK} {β : Bt} {h : Heap} {ρ : Env} (S : Sim L β H h) (R : ER L β H σ ρ)
    (p : Pst L β H (evE L.T F (.comp new me tg w it mifs (own.map (·.2))) ρ h) Q fun c d H' => W c d σ H') : tLc wi g tt te (own.map (·.2)) σ H Q := by
  subst hg hte hwi
  rw [evE_comp _ _ hw] at p
  generalize hvs : own.map (·.2) = vs at *
  refine ⟨β, h, ρ, S, R, ?_⟩
  cases ee : evEs L.T F it ρ h with
  | ok ws h1 =>
    rw [ee] at p
    dsimp only [Out.bind] at p
    cases ei : walkV h1 w ws with
    | none => rw [ei] at p; exact p.elim
    | some items =>
      rw [ei] at p
      dsimp only at p
      refine ⟨items, ei, fun us β1 H1 J x1 S1 r1 wk D hD => ?_⟩
      cases ec : compL (fun h' => stays h1 h' ws) (cStep L.T F me tg mifs vs ρ) items h1 with
      | ok ys hf =>
        rw [ec] at p
        dsimp only at p
        have p1 := Pst.mono x1 p
        have np : ¬ L.pv D := fun z => (S1.priv D z).1 hD
        have hl : ys.length ≤ line := by
          unfold newL at p1
          split at p1
          · assumption
          · exact p1.elim
        have R1 := R.mono S x1
        refine lc_it (g := fun v σ H Q => ∃ pv, tG (L.pvs pv) tg v σ H Q) (tt := tt) (te := fun σ H Q => ∃ pv, tI (L.pvs pv) F noW me σ H Q) (vs := vs) (σ := σ) (H1 := H1) (D := D) (Qd := fun H => Q (.ref D) H) wk (fun i H2 => ∃ β2 h2 acc accV zs, Sim (L.hide D) β2 H2 h2 ∧ Ext β1 H1 β2 H2 ∧ stays h1 h2 ws ∧ ER (L.hide D) β2 H2 (L2.wipe σ vs) (wipeS ρ vs) ∧ VRs (L.hide D) β2 H2 us ws ∧ H2 D = some (.lst accV) ∧ VRs (L.hide D) β2 H2 accV acc ∧
          compL (fun h' => stays h1 h' ws) (cStep L.T F me tg mifs vs ρ) (items.drop i) h2 = .ok zs hf ∧ acc ++ zs = ys) ?_ ?_ ?_ ?_
        · exact ⟨β1, h1, [], [], ys, S1.hideLaid hD, Ext.laid S1 hD, stays_refl, ER.wipe (R1.hideLaid hD) vs, r1.hideLaid hD, upd_same, .nil, by rw [List.drop_zero]; exact ec, rfl⟩
        · rintro i H2 _ ⟨β2, h2, acc, accV, zs, S2, x2, st2, R2, rs2, _, _, _, _⟩
          exact ⟨_, β2, h2, S2, st2, rs2⟩
        · rintro i x H2 H3 hi ⟨β2, h2, acc, accV, zs, S2, x2, st2, R2, rs2, eD, ra, ez, ey⟩ y
          obtain ⟨v, ev, x3, S3, rv⟩ := y _ β2 h2 S2 st2 rs2
          have hd : items.drop i = v :: items.drop (i + 1) := by
            rw [List.drop_eq_getElem_cons hi]
            congr 1
            rw [List.getElem?_eq_getElem hi] at ev
            exact Option.some.inj ev
          rw [hd] at ez
          simp only [compL] at ez
          have uD : ∀ {β' : Bt}, Sim (L.hide D) β' H3 h2 → ∀ r, β' r ≠ some D := fun S' => (S'.priv D (.inr rfl)).2
          have eD3 : H3 D = some (.lst accV) := x3.rest D _ eD ((S2.priv D (.inr rfl)).2)
          -- what the turn gave
          cases es : cStep L.T F me tg mifs vs ρ v h2 with
          | ok ys1 h3 =>
            rw [es] at ez
            dsimp only at ez
            split at ez
            · rename_i st3
              cases ez2 : compL (fun h' => stays h1 h' ws) (cStep L.T F me tg mifs vs ρ) (items.drop (i + 1)) h3 with
              | ok zs' h4 =>
                rw [ez2] at ez
                cases ez
                unfold cStep at es
                cases eb : bindTg (wipeS ρ vs) tg v with
                | none => rw [eb] at es; cases es
                | some ρ3 =>
                  rw [eb] at es
                  dsimp only at es
                  refine ⟨_, β2, h2, wipeS ρ vs, ρ3, v, S3, R2.mono S2 x3, rv, eb, fun σ4 R4 w4 => ⟨?_, ?_⟩⟩
                  · have := w4 vs (by cases tg <;> exact hs)
                    rw [this, wipe_wipe fun i hi => hi]
                  · -- the end of a turn without an item
                    have skip : ∀ {β5 H5 h5}, h5 = h3 → ys1 = [] → Ext β2 H3 β5 H5 → Sim (L.hide D) β5 H5 h5 → ∃ β2 h2 acc accV zs, Sim (L.hide D) β2 H5 h2 ∧ Ext β1 H1 β2 H5 ∧ stays h1 h2 ws ∧ ER (L.hide D) β2 H5 (L2.wipe σ vs) (wipeS ρ vs) ∧ VRs (L.hide D) β2 H5 us ws ∧ H5 D = some (.lst accV) ∧ VRs (L.hide D) β2 H5 accV acc ∧
                        compL (fun h' => stays h1 h' ws) (cStep L.T F me tg mifs vs ρ) (items.drop (i + 1)) h2 = .ok zs hf ∧ acc ++ zs = ys := fun {β5 H5 h5} e5 ey1 x5 S5 => by
                      subst e5 ey1
                      have x35 := x3.trans x5
                      exact ⟨β5, h5, acc, accV, zs', S5, x2.trans x35, st3, R2.mono S2 x35, rs2.mono S2 x35, x35.rest D _ eD ((S2.priv D (.inr rfl)).2), ra.mono S2 x35, ez2, by simpa using ey⟩
                    -- .. with an item
                    have put : ∀ {β5 H5 h5}, (evE L.T F me ρ3 h5).bind (fun y h => .ok [y] h) = (.ok ys1 h3 : Out (List Val)) → Ext β2 H3 β5 H5 → Sim (L.hide D) β5 H5 h5 → (∃ pv, tI (L.pvs pv) F noW me σ4 H5 fun y H4 => ∃ accV', H4 D = some (.lst accV') ∧ accV'.length < sizeLine ∧
                        (∃ β2 h2 acc accV zs, Sim (L.hide D) β2 (upd H4 D (.lst (accV' ++ [y]))) h2 ∧ Ext β1 H1 β2 (upd H4 D (.lst (accV' ++ [y]))) ∧ stays h1 h2 ws ∧ ER (L.hide D) β2 (upd H4 D (.lst (accV' ++ [y]))) (L2.wipe σ vs) (wipeS ρ vs) ∧ VRs (L.hide D) β2 (upd H4 D (.lst (accV' ++ [y]))) us ws ∧ (upd H4 D (.lst (accV' ++ [y]))) D = some (.lst accV) ∧ VRs (L.hide D) β2 (upd H4 D (.lst (accV' ++ [y]))) accV acc ∧
                          compL (fun h' => stays h1 h' ws) (cStep L.T F me tg mifs vs ρ) (items.drop (i + 1)) h2 = .ok zs hf ∧ acc ++ zs = ys)) := fun {β5 H5 h5} e5 x5 S5 => by
                      refine ⟨_, β5, h5, ρ3, S5, R4.mono S3 x5, ?_⟩
                      cases e6 : evE L.T F me ρ3 h5 with
                      | ok z h6 =>
                        rw [e6] at e5
                        dsimp only [Out.bind] at e5
                        cases e5
                        intro u β6 H6 x6 S6 r6
                        have x36 := x3.trans (x5.trans x6)
                        have eD6 : H6 D = some (.lst accV) := x36.rest D _ eD ((S2.priv D (.inr rfl)).2)
                        have pD : (L.hide D).pv D := .inr rfl
                        have ra6 := ra.mono S2 x36
                        refine ⟨accV, eD6, ?_, β6, h3, acc ++ [z], accV ++ [u], zs', S6.touch pD eD6, ?_, st3, ?_, (rs2.mono S2 x36).touch pD eD6, upd_same, (ra6.append (.cons r6 .nil)).touch pD eD6, ez2, by simpa using ey⟩
                        · rw [← sizeL, ra6.length]
                          have := congrArg List.length ey
                          simp only [List.length_append, List.length_cons, List.length_nil] at this
                          omega
                        · have x26 := x2.trans x36
                          exact ⟨x26.keep, fun a ob q n => by rw [upd_ne (ne_of_none q hD)]; exact x26.rest a ob q n, x26.new, fun a q => by
                            by_cases zz : a = D
                            · rw [zz, upd_same]; simp
                            · rw [upd_ne zz]; exact x26.there a q⟩
                        · have R6 := R2.mono S2 x36
                          exact ⟨R6.len, fun j w q => by obtain ⟨a, b, c⟩ := R6.get j w q; exact ⟨a, b, c.touch pD eD6⟩⟩
                      | exc _ _ => rw [e6] at e5; cases e5
                      | bad => rw [e6] at e5; cases e5
                    rcases htt with ⟨rfl, rfl⟩ | ⟨c, rfl, rfl⟩
                    · rw [evEs_nil] at es
                      have q := put es .refl S3
                      unfold tYes
                      simp only [if_true]
                      exact q
                    · rw [evEs_cons] at es
                      refine ⟨_, β2, h2, ρ3, S3, R4, ?_⟩
                      cases e7 : evE L.T F c ρ3 h2 with
                      | ok b h7 =>
                        rw [e7] at es
                        dsimp only [Out.bind] at es
                        rw [evEs_nil] at es
                        dsimp only at es
                        cases et : MP.truthy h7 b with
                        | none => rw [et] at es; cases es
                        | some t =>
                          rw [et] at es
                          refine ⟨t, et, fun β5 H5 x5 S5 => ?_⟩
                          cases t with
                          | true => exact iteT (put es x5 S5)
                          | false =>
                            cases es
                            exact iteF (skip rfl rfl x5 S5)
                      | exc _ _ => rw [e7] at es; cases es
                      | bad => rw [e7] at es; cases es
              | exc _ _ => rw [ez2] at ez; cases ez
              | bad => rw [ez2] at ez; cases ez
            · cases ez
          | exc _ _ => rw [es] at ez; cases ez
          | bad => rw [es] at ez; cases ez
        · rintro H2 ⟨β2, h2, acc, accV, zs, S2, x2, st2, R2, rs2, eD, ra, ez, ey⟩
          rw [List.drop_length] at ez
          simp only [compL] at ez
          cases ez
          rw [List.append_nil] at ey
          subst ey
          unfold newL at p1
          rw [if_pos hl] at p1
          cases new with
          | false => exact p1 _ _ _ x2 (S2.show fun a z => .inl z) (.lst eD ⟨np, (S2.priv D (.inr rfl)).2⟩ (ra.show fun a z => .inl z))
          | true =>
            refine p1 _ (bnd β2 hf.n D) H2 ⟨fun r a q => ?_, x2.rest, fun r a q => ?_, x2.there⟩ (S2.born np eD ra) (.ref bnd_same)
            · have := x2.keep r a q
              rw [bnd_ne (fun z => by rw [z, S2.fresh] at this; cases this)]
              exact this
            · by_cases z : r = hf.n
              · subst z; rw [bnd_same] at q; cases q; exact .inr hD
              · rw [bnd_ne z] at q; exact x2.new r a q
      | exc _ _ => rw [ec] at p; exact p.elim
      | bad => rw [ec] at p; exact p.elim
  | exc x h1 => rw [ee] at p; exact p
  | bad => rw [ee] at p; exact p.elim
/-- the contexts of a comprehension's block -/
def Blk (X : Cx) (scope : Scope) (Y : Cx) : Prop := ∃ (s : Shared) (H : Hp) (C : Addr) (cl : List (PySem.Str × Addr)) (fp : List Addr), Y = X.blk s H scope (compEnvC scope cl C X.env) fp
inductive IfsOk (L : Lk) (F : Fns) (X : Cx) (scope : Scope) : List Expr → List E → Prop where
  | nil : IfsOk L F X scope [] []
  | one {c : Expr} {m : E} : (∀ pv Y, Blk X scope Y → PT Y c (tT (L.pvs pv) F noW m)) → IfsOk L F X scope [c] [m]
theorem comp_parts {elt ptg : Expr} {ifs : List Expr} {scope : Scope} {me : E} {tg : Tg} {mifs : List E} (hg : ∀ pv Y, Blk X scope Y → PG Y ptg (tG (L.pvs pv) tg)) (ht : IfsOk L F X scope ifs mifs) (he : ∀ pv Y, Blk X scope Y → PE Y elt (tI (L.pvs pv) F noW me)) :
    (∀ Y, Blk X scope Y → PG Y ptg (fun v σ H Q => ∃ pv, tG (L.pvs pv) tg v σ H Q)) ∧ (∀ Y, Blk X scope Y → PE Y elt (fun σ H Q => ∃ pv, tI (L.pvs pv) F noW me σ H Q)) ∧
      ∃ tt, ((mifs = [] ∧ tt = tYes) ∨ ∃ c, mifs = [c] ∧ tt = fun σ H Q => ∃ pv, tT (L.pvs pv) F noW c σ H Q) ∧ ∀ Y, Blk X scope Y → PTs Y ifs tt := by
  refine ⟨fun Y hY => ⟨fun pins s σ H v u Q I r ⟨pv, q⟩ => (hg pv Y hY).run pins s σ H v u Q I r q⟩, fun Y hY => ⟨fun pins s σ H Q I ⟨pv, q⟩ => (he pv Y hY).run pins s σ H Q I q⟩, ?_⟩
  cases ht with
  | nil => exact ⟨_, .inl ⟨rfl, rfl⟩, fun Y _ => pts_nil⟩
  | one h => exact ⟨_, .inr ⟨_, rfl, rfl⟩, fun Y hY => pts_one ⟨fun pins s σ H Q I ⟨pv, q⟩ => (h pv Y hY).run pins s σ H Q I q⟩⟩
theorem s_comp {elt ptg iter : Expr} {ifs : List Expr} {scope : Scope} {own : List (PySem.Str × Nat)} {pos : Pos} {new : Bool} {me : E} {tg : Tg} {w : Nat} {it mifs : List E} (hc : X.calm = true) (nd : X.N.Nodup) (hw : w ≠ 1) (hn : notSet iter = true) (hs : ∀ i ∈ tgSlots tg, i ∈ own.map (·.2))
    (hi : PI X ptg iter (tWk L F W w it)) (ok : BlkOk X.N X.env.scope scope own) (hg : ∀ pv Y, Blk X scope Y → PG Y ptg (tG (L.pvs pv) tg)) (ht : IfsOk L F X scope ifs mifs) (he : ∀ pv Y, Blk X scope Y → PE Y elt (tI (L.pvs pv) F noW me)) :
    PE X (.ListComp elt [⟨ptg, iter, ifs, 0⟩] scope pos) (tI L F W (.comp new me tg w it mifs (own.map (·.2)))) := by
  obtain ⟨h1, h2, tt, h3, h4⟩ := comp_parts hg ht he
  refine pwE fun pins s σ H Q I ⟨β, h, ρ, S, R, p⟩ => ⟨_, pe_lc hc nd hi ok (fun s H C cl fp => h1 _ ⟨s, H, C, cl, fp, rfl⟩) (fun s H C cl fp => h4 _ ⟨s, H, C, cl, fp, rfl⟩) (fun s H C cl fp => h2 _ ⟨s, H, C, cl, fp, rfl⟩) (fun x => by cases iter <;> first | rfl | (simp [notSet] at hn)), ?_⟩
  exact s_comp_of (ptg := ptg) (elt := elt) (iter := iter) (ifs := ifs) (scope := scope) (pos := pos) rfl rfl rfl h3 hw hs S R p
/-- name = [..], the name's slot used at once -/
theorem s_setLc {i : Nat} {y : PySem.Str} {elt ptg iter : Expr} {ifs : List Expr} {scope : Scope} {own : List (PySem.Str × Nat)} {pos py spos : Pos} {new : Bool} {me : E} {tg : Tg} {w : Nat} {it mifs : List E} (hc : X.calm = true) (nd : X.N.Nodup) (hw : w ≠ 1) (hn : notSet iter = true) (hs : ∀ i ∈ tgSlots tg, i ∈ own.map (·.2))
    (hy : X.N[i]? = some y) (hyl : X.env.scope.names.lookup y = some .local) (hsw : swapsWith (.ListComp elt [⟨ptg, iter, ifs, 0⟩] scope pos) (some (.Name y py)) spos.line X.env = pure true)
    (hi : PI X ptg iter (tWk L F W w it)) (ok : BlkOk X.N X.env.scope scope own) (hg : ∀ pv Y, Blk X scope Y → PG Y ptg (tG (L.pvs pv) tg)) (ht : IfsOk L F X scope ifs mifs) (he : ∀ pv Y, Blk X scope Y → PE Y elt (tI (L.pvs pv) F noW me)) :
    PS X (.Assign [.Name y py] (.ListComp elt [⟨ptg, iter, ifs, 0⟩] scope pos) spos) (tS L F W (.asg (.name i) (.comp new me tg w it mifs (own.map (·.2))))) := by
  obtain ⟨h1, h2, tt, h3, h4⟩ := comp_parts hg ht he
  refine pwS fun pins s σ H D I ⟨β, h, ρ, S, R, p⟩ => ⟨_, ps_setLc hc nd hy hyl hsw hi ok (fun s H C cl fp => h1 _ ⟨s, H, C, cl, fp, rfl⟩) (fun s H C cl fp => h4 _ ⟨s, H, C, cl, fp, rfl⟩) (fun s H C cl fp => h2 _ ⟨s, H, C, cl, fp, rfl⟩) (fun x => by cases iter <;> first | rfl | (simp [notSet] at hn)), ?_⟩
  unfold exS at p
  refine s_comp_of (Q := fun x H1 => gName i x σ H1 D.nx) (W := W) (ptg := ptg) (elt := elt) (iter := iter) (ifs := ifs) (scope := scope) (pos := pos) (new := new) rfl rfl rfl h3 hw hs S R (Sst.first S R p fun v h1 u β1 H1 _ x1 S1 r1 p1 => ?_)
  simp only [bindTg, setSlots] at p1
  split at p1
  · rename_i ρ' e'
    split at e'
    · cases e'
      exact p1 _ _ _ .refl S1 ((R.mono S x1).set r1 i)
    · cases e'
  · exact p1.elim
end
end MP

/-! Mp1k: what a def laid is let go; fields, places, exceptions -/
namespace MP
open PySem PySem.Spec PyProof.Rows L2

/-! ### what was laid is let go -/
mutual
theorem VR.back {L : Lk} {β β' : Bt} {H H' : Hp} (keep : ∀ r a, β r = some a → β' r = some a) : ∀ {v0 v : V} {x : Val}, VR L β H v0 x → VR L β' H' v x → VR L β H' v x
  | _, _, _, .non, .non => .non
  | _, _, _, .bl b, .bl _ => .bl b
  | _, _, _, .int i, .int _ => .int i
  | _, _, _, .str s, .str _ => .str s
  | _, _, _, .tup _ r, .tup e r' => .tup e (VRs.back keep r r')
  | _, _, _, .lst _ _ r, .lst e n r' => .lst e ⟨n.1, fun q z => n.2 q (keep _ _ z)⟩ (VRs.back keep r r')
  | _, _, _, .arr _ r, .arr e r' => .arr (by
      rcases e with ⟨e, n⟩ | e | e
      · exact .inl ⟨e, n.1, fun q z => n.2 q (keep _ _ z)⟩
      · exact .inr (.inl e)
      · exact .inr (.inr e)) (VRs.back keep r r')
  | _, _, _, .ref e, .ref e' => .ref (by rw [keep _ _ e] at e'; cases e'; exact e)
  | _, _, _, .fn k, .fn _ => .fn k
theorem VRs.back {L : Lk} {β β' : Bt} {H H' : Hp} (keep : ∀ r a, β r = some a → β' r = some a) : ∀ {vs0 vs : List V} {xs : List Val}, VRs L β H vs0 xs → VRs L β' H' vs xs → VRs L β H' vs xs
  | _, _, _, .nil, .nil => .nil
  | _, _, _, .cons r t, .cons r' t' => .cons (VR.back keep r r') (VRs.back keep t t')
end
section
variable {L : Lk} {β β' : Bt} {H H' : Hp} {h h' : Heap}
theorem KR.back (keep : ∀ r a, β r = some a → β' r = some a) : ∀ {ps0 ps : List (Key × V)} {qs : List (Val × Val)}, KR L β H ps0 qs → KR L β' H' ps qs → KR L β H' ps qs
  | _, _, _, .nil, .nil => .nil
  | _, _, _, .cons _ r t, .cons e r' t' => .cons e (r.back keep r') (KR.back keep t t')
theorem FR.back (keep : ∀ r a, β r = some a → β' r = some a) : ∀ {ps0 ps : List (PySem.Str × V)} {qs : List (Nat × Val)}, FR L β H ps0 qs → FR L β' H' ps qs → FR L β H' ps qs
  | _, _, _, .nil, .nil => .nil
  | _, _, _, .cons r t, .cons r' t' => .cons (r.back keep r') (FR.back keep t t')
theorem CR.back (keep : ∀ r a, β r = some a → β' r = some a) {a : Addr} {c : Cell} (x : CR L β H a c) (y : CR L β' H' a c) : CR L β H' a c := by
  cases c with
  | lst xs => obtain ⟨_, _, r⟩ := x; obtain ⟨vs, e, r'⟩ := y; exact ⟨vs, e, r.back keep r'⟩
  | dic kvs b =>
    cases b with
    | false => obtain ⟨_, _, r⟩ := x; obtain ⟨vs, e, r'⟩ := y; exact ⟨vs, e, r.back keep r'⟩
    | true => obtain ⟨_, _, _, r⟩ := x; obtain ⟨vs, o, e, r'⟩ := y; exact ⟨vs, o, e, r.back keep r'⟩
  | ins c fs => obtain ⟨_, _, _, _, _, r⟩ := x; obtain ⟨w1, w2, dx, vs, e, r'⟩ := y; exact ⟨w1, w2, dx, vs, e, r.back keep r'⟩
theorem same_ext (x : Ext β H β' H') : Ext β H β H' := ⟨fun _ _ e => e, x.rest, fun _ _ e => .inl e, x.there⟩
theorem same_sim (S : Sim L β H h) (x : Ext β H β' H') (S' : Sim L β' H' h') (q : same h h') : Sim L β H' h where
  fwd := S.fwd
  bwd := fun r a e => by
    obtain ⟨l, c, hc, cr⟩ := S.bwd r a e
    obtain ⟨_, c', hc', cr'⟩ := S'.bwd r a (x.keep r a e)
    rw [q r l, hc] at hc'
    cases hc'
    exact ⟨l, c, hc, cr.back x.keep cr'⟩
  inj := S.inj
  priv := fun a p => ⟨x.there a (S.priv a p).1, (S.priv a p).2⟩
theorem frz_all (n : Nat) (ih : ∀ v a w, frzV h h' n a = some w → VR L β' H' v a → VR L β H' v w) : ∀ (as : List Val) (vs : List V) (ws : List Val), mapO (frzV h h' n) as = some ws → VRs L β' H' vs as → VRs L β H' vs ws
  | [], _, ws, e, .nil => by simp only [mapO] at e; cases e; exact .nil
  | a :: as, _, ws, e, .cons r t => by
    simp only [mapO] at e
    split at e
    · rename_i b bs e1 e2
      cases e
      exact .cons (ih _ _ _ e1 r) (frz_all n ih as _ _ e2 t)
    · cases e
theorem frz_ok (S : Sim L β H h) (x : Ext β H β' H') (S' : Sim L β' H' h') : ∀ (n : Nat) (v : V) (a w : Val), frzV h h' n a = some w → VR L β' H' v a → VR L β H' v w
  | 0, _, _, _, e, _ => by simp [frzV] at e
  | n + 1, v, a, w, e, r => by
    have lists := frz_all (L := L) (β := β) (β' := β') (H' := H') n (frz_ok S x S' n)
    cases r with
    | non => simp only [frzV] at e; cases e; exact .non
    | bl b => simp only [frzV] at e; cases e; exact .bl b
    | int i => simp only [frzV] at e; cases e; exact .int i
    | str s => simp only [frzV] at e; cases e; exact .str s
    | tup hs rs =>
      simp only [frzV] at e
      obtain ⟨ws, e1, rfl⟩ := Option.map_eq_some_iff.mp e
      exact .tup hs (lists _ _ _ e1 rs)
    | lst hs hn rs =>
      simp only [frzV] at e
      obtain ⟨ws, e1, rfl⟩ := Option.map_eq_some_iff.mp e
      exact .lst hs ⟨hn.1, fun q z => hn.2 q (x.keep _ _ z)⟩ (lists _ _ _ e1 rs)
    | arr hs rs =>
      simp only [frzV] at e
      obtain ⟨ws, e1, rfl⟩ := Option.map_eq_some_iff.mp e
      refine .arr ?_ (lists _ _ _ e1 rs)
      rcases hs with ⟨hs, hn⟩ | hs | hs
      · exact .inl ⟨hs, hn.1, fun q z => hn.2 q (x.keep _ _ z)⟩
      · exact .inr (.inl hs)
      · exact .inr (.inr hs)
    | @ref a r hb =>
      simp only [frzV] at e
      split at e
      · rename_i hl
        split at e
        · rename_i c hc
          cases e
          obtain ⟨a0, h0⟩ := S.fwd _ _ hc
          have := x.keep _ _ h0
          rw [hb] at this
          cases this
          exact .ref h0
        · cases e
      · rename_i hl
        split at e
        · rename_i xs hc
          obtain ⟨ws, e1, rfl⟩ := Option.map_eq_some_iff.mp e
          obtain ⟨a', hb', vs, hv, rs⟩ := S'.at hc
          rw [hb] at hb'; cases hb'
          refine .lst hv ⟨fun q => (S'.priv _ q).2 _ hb, fun q z => ?_⟩ (lists _ _ _ e1 rs)
          have := S'.inj _ _ _ (x.keep _ _ z) hb
          subst this
          exact hl (S.bwd _ _ z).1
        · cases e
    | fn k => simp only [frzV] at e; cases e; exact .fn k
theorem Pst.folded (S : Sim L β H h) {o : Out Val} {Q : VK} {E : XK} (p : Pst L β H (fold h o) Q E) : Pst L β H o Q E := by
  cases o with
  | ok v h2 =>
    intro u β2 H2 x s r
    unfold fold at p
    simp only at p
    split at p
    · rename_i q
      split at p
      · rename_i w ew
        exact p u β H2 (same_ext x) (same_sim S x s q) (frz_ok S x s 64 _ _ _ ew r)
      · exact p.elim
    · exact p.elim
  | exc y h2 =>
    intro cls d β2 H2 x s r
    unfold fold at p
    simp only at p
    split at p
    · rename_i q
      exact p cls d β H2 (same_ext x) (same_sim S x s q) r
    · exact p.elim
  | bad => exact p
end

/-! ### raise -/
section
variable {X : Cx} {L : Lk} {F : Fns} {W : WX} {lv : Nat}
theorem pmk_own0 {C : Addr} {bmB : List Value} {B newId initId : String} {x : PySem.Str} {p pos : Pos} (Fb : ExcBaseFacts B newId initId bmB) (q : PySem.W.excIn X.K C bmB newId = true) (gC : X.mg x = some (.ref C))
    (kC : PySem.W.keepIn X.K (.ref C) = true) (r : Raises X (.ref C)) (hg : Gl X x) (hdb : (x == ("__debug__" : PySem.Str)) = false) : PMk X (.Call (.Name x p) [] [] pos) (fun _ H Q => Q (.ref C) none H) := by
  intro pins s σ H Q I h
  refine wpAny_Call_Name_kw (ld_glob I hg gC ?_ hdb)
  refine PySem.W.callWith_K0 I.kIn kC ?_
  show wpAny _ _ (call (.ref C) []) _ _ _
  obtain ⟨bm, N, nm, qn, bs, hdct, sn, sub, ab, col, dd, k0, k1, k2, k3, k5, mN, hC, hN, hni, T⟩ := exc_obj I.kIn q
  refine wpAny_call_exc_subT Fb T hC hN hni (fun h' e hm => ?_) (by show 0 ≤ sizeLine; omega)
  exact mk_of I hm r h (I.hok.gone hm.new)
theorem s_raise0 {x : PySem.Str} {c : Nat} {p pos pos' : Pos} (G : Gd X L W lv) (K0 : Lf X.K L) (hg : Gl X x) (hm : X.mg x = some (.ref (L.ca c))) (hdb : (x == ("__debug__" : PySem.Str)) = false) (hx : L.T.exn c = some false) :
    PS X (.Raise (some (.Call (.Name x p) [] [] pos)) none pos') (tS L F W (.raise c [])) := by
  obtain ⟨q1, q2, q3, q4⟩ := K0.exn0 c hx
  refine pwS fun pins s σ H D I ⟨β, h, ρ, S, R, p0⟩ => ⟨_, ps_raise G.calm G.tk (pmk_own0 PySem.F.excBase_ValueError q1 hm q2 (raises_own q3 q4) hg hdb), ?_⟩
  unfold exS evEs at p0
  simp only [Out.stm_ok, hx] at p0
  exact p0 _ _ _ _ _ .refl S R ⟨rfl, .inl ⟨rfl, rfl⟩⟩
theorem s_raise1 {x : PySem.Str} {c : Nat} {e : Expr} {m : E} {p pos pos' : Pos} (G : Gd X L W lv) (K0 : Lf X.K L) (hg : Gl X x) (hm : X.mg x = some (.ref (L.ca c))) (hdb : (x == ("__debug__" : PySem.Str)) = false) (hx : L.T.exn c = some false)
    (hs : notStar e = true) (he : PE X e (tI L F W m)) : PS X (.Raise (some (.Call (.Name x p) [e] [] pos)) none pos') (tS L F W (.raise c [m])) := by
  obtain ⟨q1, q2, q3, q4⟩ := K0.exn0 c hx
  refine pwS fun pins s σ H D I ⟨β, h, ρ, S, R, p0⟩ => ⟨_, ps_raise G.calm G.tk (SkE.pmk_own1 PySem.F.excBase_ValueError q1 hm q2 (raises_own q3 q4) hg he (starEach_of hs) hdb), ?_⟩
  unfold exS at p0
  simp only [evEs_cons, evEs_nil] at p0
  refine tI_of S R ?_
  cases eo : evE L.T F m ρ h with
  | ok v h1 =>
    rw [eo] at p0
    simp only [Out.bind_ok, Out.stm_ok, hx] at p0
    exact fun u β1 H1 x1 S1 r1 => p0 _ _ σ β1 H1 x1 S1 (R.mono S x1) ⟨rfl, .inl ⟨rfl, rfl⟩⟩
  | exc y h1 =>
    rw [eo] at p0
    simp only [Out.bind_exc, Out.stm_exc] at p0
    exact fun cls d β1 H1 x1 S1 r1 => p0 _ _ σ β1 H1 x1 S1 (R.mono S x1) r1
  | bad => rw [eo] at p0; exact p0.elim
/-- what such an __init__ promises -/
def spLine (K : PySem.W.Frag) : Sp := fun vs H Q _ => ∃ (a C : Addr) (y : V), vs = [.ref a, y] ∧ OexC K C ∧ PySem.W.findIn K (.ref C) "line" = some none ∧ H a = some (exo a C none) ∧
  ∀ dx, H dx = none → dx ≠ a → Q .non (upd (upd H dx (exd dx [("line", y)])) a (exo a C (some dx)))
theorem line_ok {P : Program} {w : World} {K : PySem.W.Frag} {mg : PySem.Str → Option Value} {base : PySem.Heap} {k : Nat} {fI : Addr} {fd : FuncData} {x qual : PySem.Str} {params : Arguments} {scope : Scope} {p1 p2 p3 p4 : Pos}
    (Fd : FunD K x qual params [.Assign [.Attribute (.Name "self" p1) "line" p2] (.Name "line" p3) p4] scope [] [] fI fd) (Sc : FnScope ["self", "line"] ["self", "line"] scope) :
    FnOk P w K mg base (L2.CX P w) (k + 1) fI fd ["self", "line"] (spLine K) := by
  refine Fd.ok Sc (fun vs H Q E ⟨a, C, y, e, _⟩ => by rw [e]; rfl) fun cdv A outer s H vs Q E hr ⟨a, C, y, e, T, hno, ea, q⟩ => ?_
  subst e
  have vis : ∀ z : PySem.Str, z ∈ (["self", "line"] : List PySem.Str) → Vis scope z := fun z hz => by
    rcases Sc.par z hz with h | h
    · exact .inl h
    · exact .inr (.inl h)
  refine ⟨_, pss_cons (ps_ost (pe_var (i := 0) rfl (vis _ (by simp)) (by decide) (by decide)) (pe_var (i := 1) rfl (vis _ (by simp)) (by decide) (by decide)) (by rfl)) pss_nil, ?_⟩
  exact ⟨_, rfl, _, rfl, a, C, rfl, T, hno, .inl ⟨ea, fun dx n ne => q dx n ne⟩⟩
theorem s_raiseL {x : PySem.Str} {c : Nat} {e : Expr} {m : E} {p pos pos' : Pos} (G : Gd X L W (lv + 2)) (K0 : Lf X.K L) (hg : Gl X x) (hm : X.mg x = some (.ref (L.ca c))) (hdb : (x == ("__debug__" : PySem.Str)) = false) (hx : L.T.exn c = some true)
    (hs : notStar e = true) (he : PE X e (tI L F W m)) : PS X (.Raise (some (.Call (.Name x p) [e] [] pos)) none pos') (tS L F W (.raise c [m])) := by
  obtain ⟨ox, no, fI, fd, y, qual, params, scope, p1, p2, p3, p4, iC, tI0, Fd, Sc, hb⟩ := K0.exn1 c hx
  have ha : PA X [e] (tIs L F W [m]) := s_cons hs he s_nil
  refine pwS fun pins s σ H D I ⟨β, h, ρ, S, R, p0⟩ => ⟨_, ps_raise G.calm G.tk (pmk_oex (k := 1) (dvs := []) ox iC tI0 (line_ok (k := 0) Fd Sc) (G.hr.mono (by omega)) hb .nil passL hg hm ha hdb (starEach_of hs) rfl), ?_⟩
  unfold exS at p0
  refine tIs_of S R ?_
  simp only [evEs_cons, evEs_nil] at p0 ⊢
  cases eo : evE L.T F m ρ h with
  | ok v h1 =>
    rw [eo] at p0
    simp only [Out.bind_ok, Out.stm_ok, hx] at p0 ⊢
    intro us β1 H1 x1 S1 r1
    cases v with
    | int i =>
      cases r1 with
      | cons r1 rn =>
        cases rn
        cases r1
        refine ⟨by show 1 ≤ 1000; omega, fun a na => ⟨a, L.ca c, .int i, rfl, ox, no, upd_same, fun dx ndx hne => ⟨rfl, dx, [("line", .int i)], upd_same, ?_, ?_, ?_⟩⟩⟩
        · rw [upd_ne hne, upd_same]
        · rw [upd_ne hne] at ndx; exact ndx
        · rw [upd_ne hne] at ndx
          have eh : upd (del (upd (upd (upd H1 a (exo a (L.ca c) none)) dx (exd dx [("line", V.int i)])) a (exo a (L.ca c) (some dx))) a) dx (.xd [("line", V.int i)]) = upd H1 dx (.xd [("line", V.int i)]) := by
            funext b
            by_cases hbd : b = dx
            · subst hbd; rw [upd_same, upd_same]
            · rw [upd_ne hbd, upd_ne hbd]
              by_cases hba : b = a
              · subst hba; rw [del_same]; exact na.symm
              · rw [del_ne hba, upd_ne hba, upd_ne hbd, upd_ne hba]
          rw [eh]
          exact p0 _ _ σ β1 _ (x1.trans (Ext.laid S1 ndx)) (S1.laid ndx) ((R.mono S x1).mono S1 (Ext.laid S1 ndx)) ⟨rfl, .inr ⟨.int i, dx, i, rfl, rfl, rfl, upd_same⟩⟩
    | _ => exact p0.elim
  | exc y h1 =>
    rw [eo] at p0
    simp only [Out.bind_exc, Out.stm_exc] at p0 ⊢
    exact fun cls d β1 H1 x1 S1 r1 => p0 _ _ σ β1 H1 x1 S1 (R.mono S x1) r1
  | bad => rw [eo] at p0; exact p0.elim

/-! ### try -/
theorem s_try {x : PySem.Str} {c : Nat} {body suite : List Stmt} {b0 : Stmt} {np pos pos' : Pos} {mb ms : List S} (K0 : Lf X.K L) (tk : Takes X W) (hst : X.stack = X.env :: X.outer) (hf : X.env.frame = some X.env.locals) (hg : Gl X x) (hm : X.mg x = some (.ref (L.ca c)))
    (hdb : (x == ("__debug__" : PySem.Str)) = false) (hb : ∀ (W' : WX) (pn : List (Addr × Obj)) (xe : Value → Shared → Prop), Takes (X.tr pn xe) W' → PassesOwn (model X.prog X.w) X.A X.env xe → PSs (X.tr pn xe) body (tSs L F W' mb))
    (hsu : ∀ (a : Addr) (oe : Obj) (pn : List (Addr × Obj)), PSs (X.suite a ((a, oe) :: pn)) (b0 :: suite) (tSs L F noW ms)) :
    PS X (.Try body [.ExceptHandler (some (.Name x np)) none (b0 :: suite) pos'] [] [] pos) (tS L F W (.try_ mb c ms)) := by
  refine pwS fun pins s σ H D I ⟨β, h, ρ, S, R, p⟩ => ⟨_, ps_try_only (tb := fun W' => tSs L F W' mb) (ts := fun _ _ _ => tSs L F noW ms) hst hf ⟨hg, hdb, .inl hm⟩ tk hb (fun a oe cls d pn _ _ => hsu a oe pn), β, h, ρ, S, R, ?_⟩
  unfold exS at p
  cases eo : exB L.T F mb ρ h with
  | exc y ρ1 h1 =>
    rw [eo] at p
    intro cls d σ' β' H' x' S' R' hy
    have hcl := hy.1
    subst hcl
    simp only at p
    cases eq : L.T.sub y.c c with
    | none => rw [eq] at p; exact p.elim
    | some b =>
      rw [eq] at p
      refine ⟨b, K0.exm _ _ _ eq, fun hb1 a na => ?_, fun hb1 => ?_⟩
      · subst hb1
        refine ⟨β', h1, ρ1, S', R', ?_⟩
        simp only at p
        cases es : exB L.T F ms ρ1 h1 with
        | exc z ρ2 h2 => rw [es] at p; exact p.elim
        | nx ρ2 h2 => rw [es] at p; exact Sst.mono x' p
        | rt v h2 => rw [es] at p; exact Sst.mono x' p
        | bk ρ2 h2 => rw [es] at p; exact Sst.mono x' p
        | ct ρ2 h2 => rw [es] at p; exact Sst.mono x' p
        | bad => rw [es] at p; exact p.elim
      · subst hb1
        exact p _ d σ' β' H' x' S' R' hy
  | nx ρ1 h1 => rw [eo] at p; exact p
  | rt v h1 => rw [eo] at p; exact p
  | bk ρ1 h1 => rw [eo] at p; exact p
  | ct ρ1 h1 => rw [eo] at p; exact p
  | bad => rw [eo] at p; exact p.elim
end
end MP

/-! Mp1l: try .. except C as e -/
namespace MP
open PySem PySem.Spec PyProof.Rows L2

/-! ### what stands for itself: constants, tuples of constants -/
def cstE : Expr → Option (E × Val)
  | .Constant (.int i) _ _ => some (.cst (.int i), .int i)
  | .Constant (.bool b) _ _ => some (.cst (.bl b), .bl b)
  | .Constant .none _ _ => some (.cst .non, .non)
  | .Constant (.str s) _ _ => some (.cst (.str s.cps.toList), .str s.cps.toList)
  | _ => none
def cstEs : List Expr → Option (List E × List Val)
  | [] => some ([], [])
  | e :: r => match cstE e, cstEs r with
    | some (m, v), some (ms, vs) => if notStar e then some (m :: ms, v :: vs) else none
    | _, _ => none
def cstR : Expr → Option (E × Val)
  | .Tuple es _ _ => match cstEs es with
    | some (ms, vs) => if vs.length ≤ 100 then some (.tup ms, .tup vs) else none
    | none => none
  | e => cstE e
section
variable {X : Cx} {L : Lk} {F : Fns} {W : WX}
theorem cstE_ok {e : Expr} {m : E} {v : Val} (h : cstE e = some (m, v)) : PE X e (tI L F W m) ∧ ∀ ρ h, evE L.T F m ρ h = .ok v h := by
  unfold cstE at h
  split at h <;> first | (cases h; done) | (cases h; refine ⟨by first | exact s_int | exact s_bl | exact s_non | exact s_str, fun ρ h => by unfold evE; rfl⟩)
theorem cstEs_ok : ∀ {es : List Expr} {ms : List E} {vs : List Val}, cstEs es = some (ms, vs) → PA X es (tIs L F W ms) ∧ ∀ ρ h, evEs L.T F ms ρ h = .ok vs h
  | [], _, _, h => by cases h; exact ⟨s_nil, fun ρ h => evEs_nil _ _ _ _⟩
  | e :: r, ms, vs, h => by
    unfold cstEs at h
    split at h
    · rename_i m v ms' vs' e1 e2
      split at h
      · rename_i hs
        cases h
        obtain ⟨a1, a2⟩ := cstE_ok (X := X) (L := L) (F := F) (W := W) e1
        obtain ⟨b1, b2⟩ := cstEs_ok e2
        exact ⟨s_cons hs a1 b1, fun ρ h => by rw [evEs_cons, a2, Out.bind_ok, b2, Out.bind_ok]⟩
      · cases h
    · cases h
theorem cstR_ok {e : Expr} {m : E} {v : Val} (h : cstR e = some (m, v)) : PE X e (tI L F W m) ∧ ∀ ρ h, evE L.T F m ρ h = .ok v h := by
  unfold cstR at h
  split at h
  · split at h
    · rename_i ms vs e1
      split at h
      · rename_i hl
        cases h
        obtain ⟨a1, a2⟩ := cstEs_ok (X := X) (L := L) (F := F) (W := W) e1
        refine ⟨s_tup a1, fun ρ h => ?_⟩
        unfold evE
        rw [a2, Out.bind_ok, if_pos (by have : line = 16777216 := rfl; omega)]
      · cases h
    · cases h
  · exact cstE_ok h
end

/-! ### the suite -/
theorem ExR.mono {L : Lk} {β β' : Bt} {H H' : Hp} {h : Heap} (S : Sim L β H h) (x : Ext β H β' H') {cls : Value} {d : Option Addr} {y : Exc} (r : ExR L H cls d y) : ExR L H' cls d y := by
  refine ⟨r.1, ?_⟩
  rcases r.2 with h1 | ⟨v, dd, i, e1, e2, e3, e4⟩
  · exact .inl h1
  · refine .inr ⟨v, dd, i, e1, e2, e3, x.rest _ _ e4 fun q eq => ?_⟩
    obtain ⟨_, c, _, cr⟩ := S.bwd _ _ eq
    rcases cr.ne with ⟨_, z⟩ | ⟨_, z⟩ | ⟨_, _, z⟩ | ⟨_, _, _, z⟩ <;> (rw [z] at e4; cases e4)
def tHX (L : Lk) (a : Addr) (i : Nat) (x : Exc) (d : Option Addr) (t : HX) : TT := fun σ H Q => ∃ (β : Bt) (h : Heap) (ρ : Env) (b : Bool), Sim L β H h ∧ ER L β H σ ρ ∧ σ[i]? = some (some (.ref a)) ∧ ExR L H (.ref (L.ca x.c)) d x ∧ hxV L.T x ρ t = some b ∧ ∀ β' H', Ext β H β' H' → Sim L β' H' h → Q b H'
def tHs (L : Lk) (a : Addr) (i : Nat) (x : Exc) (d : Option Addr) (ts : List (HX × HR)) (last : HR) : TS := fun D σ H => ∃ (β : Bt) (h : Heap) (ρ : Env) (v : Val), Sim L β H h ∧ ER L β H σ ρ ∧ σ[i]? = some (some (.ref a)) ∧ ExR L H (.ref (L.ca x.c)) d x ∧
  hxEnd L.T x ρ ts last = some v ∧ ∀ u β' H', Ext β H β' H' → Sim L β' H' h → VR L β' H' u v → D.rt u H'
def tHr (L : Lk) (a : Addr) (i : Nat) (x : Exc) (d : Option Addr) (r : HR) : TE := fun σ H Q => ∃ (β : Bt) (h : Heap) (ρ : Env) (v : Val), Sim L β H h ∧ ER L β H σ ρ ∧ σ[i]? = some (some (.ref a)) ∧ ExR L H (.ref (L.ca x.c)) d x ∧
  hrV L.T x r = some v ∧ ∀ u β' H', Ext β H β' H' → Sim L β' H' h → VR L β' H' u v → Q u H'
section
variable {X : Cx} {L : Lk} {F : Fns} {a : Addr} {i : Nat} {x : Exc} {d : Option Addr} {oe : Obj} {pn : List (Addr × Obj)}
theorem inst_exc {pins : List (Addr × Obj)} {σ : L2.St} {H : Hp} {s : Shared} (I : Inv (X.suite a ((a, oe) :: pn)) pins σ H s) (hz : Zc (.ref (L.ca x.c)) d oe) (hf : ∃ vs, oe.data = .fields vs) (hx : ExR L H (.ref (L.ca x.c)) d x) : ∃ od, PySem.W.InstAt s.heap a oe (L.ca x.c) od := by
  obtain ⟨ha, _⟩ := I.pin (a, oe) (List.mem_append_left _ List.mem_cons_self)
  obtain ⟨vs, hd⟩ := hf
  have hn : PySem.W.notCls oe = true := by unfold PySem.W.notCls; rw [hd] <;> rfl
  rcases hx.2 with ⟨_, rfl⟩ | ⟨v, dd, k, _, _, rfl, ea⟩
  · exact ⟨none, ha, hz.1, hn, by rw [hz.2]; trivial⟩
  · have ok : ObjOk X.prog X.w H s.heap dd (.xd [("line", .int k)]) := I.hok dd _ ea
    obtain ⟨mA, hns, hr⟩ := ok
    obtain ⟨od, ho, hl⟩ := lookIn_ns hns
    exact ⟨some od, ha, hz.1, hn, by rw [hz.2]; exact ho⟩
theorem hx_isi {n cn : PySem.Str} {c : Nat} {p1 p2 p3 pos : Pos} (hK : X.K = L.K) (K0 : Lf X.K L) (xi : L.T.xi = true) (hz : Zc (.ref (L.ca x.c)) d oe) (hf : ∃ vs, oe.data = .fields vs) (hN : X.N[i]? = some n) (v : Vis X.env.scope n) (q1 : (n == ("__debug__" : PySem.Str)) = false)
    (q2 : (n == ("__classdict__" : PySem.Str)) = false) (hg : Gl X "isinstance") (hm : X.mg "isinstance" = none) (hg2 : Gl X cn) (hm2 : X.mg cn = some (.ref (L.ca c))) (q3 : (cn == ("__debug__" : PySem.Str)) = false) :
    PT (X.suite a ((a, oe) :: pn)) (.Call (.Name "isinstance" p1) [.Name n p2, .Name cn p3] [] pos) (tHX L a i x d (.isE c)) := by
  have call : CallR (X.suite a ((a, oe) :: pn)) (.builtin "isinstance") (fun xs H Q => xs = [.ref a, .ref (L.ca c)] ∧ ExR L H (.ref (L.ca x.c)) d x ∧ ∃ b0, L.T.exn x.c = some b0 ∧ ∃ b, L.T.sub x.c c = some b ∧ Q (.bl b) H) := by
    intro pins s σ H xs us Q I r ⟨e, hx, b0, hb0, b, eb, q⟩
    subst e
    cases r with
    | cons rx rr =>
      cases rr with
      | cons rt rr =>
        cases rr
        cases rx
        cases rt
        obtain ⟨od, J⟩ := inst_exc (L := L) I hz hf hx
        have T := K0.exi xi x.c b0 hb0
        exact PySem.W.kia_one (PySem.W.kitx_exc T.ic T.ga T.gg T.sb T.ca T.cn T.ct T.mo) I.kIn J (K0.exk xi _ _ _ eb) (fun z => nomatch z) fun tk => ⟨.bl b, H, I.kept (t' := tk) fun _ _ z => z, rfl, q⟩
  have ha : PA (X.suite a ((a, oe) :: pn)) [.Name n p2, .Name cn p3] (tCons (tVar i) (tCons (tC (.ref (L.ca c))) tNil)) := pa_cons (pe_var hN v q1 q2) (pa_cons (pe_glob hg2 hm2 rfl q3) pa_nil)
  have he := pe_callB (p := p1) (pos := pos) call hg hm (by first | rfl | decide +kernel) ha (by decide +kernel) (by decide +kernel) rfl rfl
  refine pwT fun pins s σ H Q I ⟨β, h, ρ, b, S, R, e1, hx, eb, q⟩ => ⟨_, pt_truth he (plainT rfl _), ?_⟩
  simp only [hxV] at eb
  split at eb
  · rename_i b0 hb0
    exact ⟨_, e1, rfl, hx, b0, hb0, b, eb, b, truV (X := X) hK S (.bl b) rfl, q _ _ .refl S⟩
  · cases eb
theorem hx_line {n : PySem.Str} {p2 p3 : Pos} (K0 : Lf X.K L) (xi : L.T.xi = true) (hz : Zc (.ref (L.ca x.c)) d oe) (hf : ∃ vs, oe.data = .fields vs) (h1 : L.T.exn x.c = some true) (hN : X.N[i]? = some n) (v : Vis X.env.scope n)
    (q1 : (n == ("__debug__" : PySem.Str)) = false) (q2 : (n == ("__classdict__" : PySem.Str)) = false) : PE (X.suite a ((a, oe) :: pn)) (.Attribute (.Name n p2) "line" p3) (tXf a (.ref (L.ca x.c)) d (L.ca x.c) "line" (tVar i)) := by
  have T := K0.exi xi x.c true h1
  exact pe_xf ⟨T.ga, T.gg, T.sb, T.hd⟩ (K0.exn1 _ h1).no hz hf (pe_var hN v q1 q2) rfl
theorem hx_ne {n y : PySem.Str} {j : Nat} {p2 p3 p4 pos : Pos} (hK : X.K = L.K) (hu : X.A.units + 200 < cLine) (K0 : Lf X.K L) (xi : L.T.xi = true) (hz : Zc (.ref (L.ca x.c)) d oe) (hf : ∃ vs, oe.data = .fields vs) (hN : X.N[i]? = some n)
    (v : Vis X.env.scope n) (q1 : (n == ("__debug__" : PySem.Str)) = false) (q2 : (n == ("__classdict__" : PySem.Str)) = false) (hNy : X.N[j]? = some y) (vy : Vis X.env.scope y) (y1 : (y == ("__debug__" : PySem.Str)) = false) (y2 : (y == ("__classdict__" : PySem.Str)) = false) :
    PT (X.suite a ((a, oe) :: pn)) (.Compare (.Attribute (.Name n p2) "line" p3) [.NotEq] [.Name y p4] pos) (tHX L a i x d (.lineNe j)) := by
  refine pwT fun pins s σ H Q I ⟨β, h, ρ, b, S, R, e1, hx, eb, q⟩ => ?_
  simp only [hxV] at eb
  split at eb
  · rename_i k m e0 e2 e3
    cases eb
    obtain ⟨u, eu, ru⟩ := R.get _ _ e3
    cases ru
    rcases hx.2 with ⟨e4, _⟩ | ⟨w, dd, k', e4, e5, e6, ea⟩
    · rw [e4] at e2; cases e2
    · rw [e4] at e2; cases e2; cases e5
      refine ⟨_, pt_cmpR (o_ne (X.suite a ((a, oe) :: pn)) L hK hu) (hx_line K0 xi hz hf e0 hN v q1 q2) (pe_var hNy vy y1 y2) (unmarked rfl), ?_⟩
      refine ⟨_, e1, rfl, rfl, dd, _, .int k, e6, ea, by simp [List.lookup], ?_⟩
      refine ⟨_, eu, β, h, .int k, .int m, .bl (!(k == m)), S, .int k, .int m, by simp [opV, eqVal, toD, D.eqv], fun u' β' H' x' S' r' => ?_⟩
      cases r'
      exact ⟨_, rfl, q _ _ x' S'⟩
  · cases eb
theorem hx_not {e : Expr} {t : HX} {pos : Pos} {X' : Cx} (he : PT X' e (tHX L a i x d t)) : PT X' (.UnaryOp .Not e pos) (tHX L a i x d (.not t)) := by
  refine pwT fun pins s σ H Q I ⟨β, h, ρ, b, S, R, e1, hx, eb, q⟩ => ⟨_, pt_not he, ?_⟩
  obtain ⟨b', e2, rfl⟩ := Option.map_eq_some_iff.mp (show (hxV L.T x ρ t).map (!·) = some b from eb)
  exact ⟨β, h, ρ, b', S, R, e1, hx, e2, q⟩
theorem hx_or1 {e : Expr} {t : HX} {pos : Pos} {X' : Cx} (he : PT X' e (tHX L a i x d t)) : PW X' (.BoolOp .Or [e] pos) (tHX L a i x d t) := pw_or1 he
theorem hx_or {e b : Expr} {rest : List Expr} {t u : HX} {pos : Pos} {X' : Cx} (he : PT X' e (tHX L a i x d t)) (hb : PW X' (.BoolOp .Or (b :: rest) pos) (tHX L a i x d u)) : PW X' (.BoolOp .Or (e :: b :: rest) pos) (tHX L a i x d (.or t u)) := by
  refine pwW fun pins s σ H Q I ⟨β, h, ρ, k, S, R, e1, hx, eb, q⟩ => ⟨_, pw_or he hb, ?_⟩
  simp only [hxV] at eb
  split at eb
  · rename_i e2
    cases eb
    exact ⟨β, h, ρ, true, S, R, e1, hx, e2, fun β' H' x' S' => iteT (q β' H' x' S')⟩
  · rename_i e2
    exact ⟨β, h, ρ, false, S, R, e1, hx, e2, fun β' H' x' S' => iteF ⟨β', h, ρ, k, S', R.mono S x', e1, hx.mono S x', eb, fun β2 H2 x2 S2 => q β2 H2 (x'.trans x2) S2⟩⟩
  · cases eb
theorem hr_val {e : Expr} {m : E} {v : Val} {X' : Cx} {W : WX} (he : PE X' e (tI L F W m)) (hv : ∀ ρ h, evE L.T F m ρ h = .ok v h) : PE X' e (tHr L a i x d (.val v)) := by
  refine pwE fun pins s σ H Q I ⟨β, h, ρ, w, S, R, e1, hx, eb, q⟩ => ⟨_, he, β, h, ρ, S, R, ?_⟩
  cases eb
  rw [hv]
  exact q
theorem hr_line {n : PySem.Str} {p2 p3 : Pos} (K0 : Lf X.K L) (xi : L.T.xi = true) (hz : Zc (.ref (L.ca x.c)) d oe) (hf : ∃ vs, oe.data = .fields vs) (hN : X.N[i]? = some n) (v : Vis X.env.scope n)
    (q1 : (n == ("__debug__" : PySem.Str)) = false) (q2 : (n == ("__classdict__" : PySem.Str)) = false) : PE (X.suite a ((a, oe) :: pn)) (.Attribute (.Name n p2) "line" p3) (tHr L a i x d .line) := by
  refine pwE fun pins s σ H Q I ⟨β, h, ρ, w, S, R, e1, hx, eb, q⟩ => ?_
  simp only [hrV] at eb
  split at eb
  · rename_i k e0 e2
    cases eb
    rcases hx.2 with ⟨e4, _⟩ | ⟨w, dd, k', e4, e5, e6, ea⟩
    · rw [e4] at e2; cases e2
    · rw [e4] at e2; cases e2; cases e5
      exact ⟨_, hx_line K0 xi hz hf e0 hN v q1 q2, _, e1, rfl, rfl, dd, _, .int k, e6, ea, by simp [List.lookup], q _ _ _ .refl S (.int k)⟩
  · cases eb
theorem hs_last {e : Expr} {r : HR} {pos : Pos} {X' : Cx} (he : PE X' e (tHr L a i x d r)) : PSs X' [.Return (some e) pos] (tHs L a i x d [] r) := by
  refine pwSs fun pins s σ H D I ⟨β, h, ρ, v, S, R, e1, hx, eb, q⟩ => ⟨_, pss_one (ps_ret he), ?_⟩
  exact ⟨β, h, ρ, v, S, R, e1, hx, eb, q⟩
theorem hs_if {c e : Expr} {t : HX} {r last : HR} {ts : List (HX × HR)} {rest : List Stmt} {pos pos' : Pos} {X' : Cx} (hc : PT X' c (tHX L a i x d t)) (he : PE X' e (tHr L a i x d r)) (hr : PSs X' rest (tHs L a i x d ts last)) :
    PSs X' (.If c [.Return (some e) pos] [] pos' :: rest) (tHs L a i x d ((t, r) :: ts) last) := by
  refine pwSs fun pins s σ H D I ⟨β, h, ρ, v, S, R, e1, hx, eb, q⟩ => ⟨_, pss_cons (ps_if hc (pss_one (ps_ret he)) pss_nil) hr, ?_⟩
  simp only [hxEnd] at eb
  split at eb
  · rename_i e2
    exact ⟨β, h, ρ, true, S, R, e1, hx, e2, fun β' H' x' S' => iteT ⟨β', h, ρ, v, S', R.mono S x', e1, hx.mono S x', eb, fun u β2 H2 x2 S2 r2 => q u β2 H2 (x'.trans x2) S2 r2⟩⟩
  · rename_i e2
    exact ⟨β, h, ρ, false, S, R, e1, hx, e2, fun β' H' x' S' => iteF ⟨β', h, ρ, v, S', R.mono S x', e1, hx.mono S x', eb, fun u β2 H2 x2 S2 r2 => q u β2 H2 (x'.trans x2) S2 r2⟩⟩
  · cases eb
theorem ER.hidden {β : Bt} {H : Hp} {σ : L2.St} {ρ : Env} (R : ER L β H σ ρ) (i : Nat) (v : Option V) : ER L β H (σ.set i v) (ρ.set i none) :=
  ⟨by rw [List.length_set, List.length_set]; exact R.len, fun j y e => by
    by_cases z : i = j
    · subst z
      have hl : i < ρ.length := by
        have := (List.getElem?_eq_some_iff.mp e).1
        rwa [List.length_set] at this
      rw [List.getElem?_set_self hl] at e
      cases e
    · rw [List.getElem?_set_ne z] at e
      rw [List.getElem?_set_ne z]
      exact R.get j y e⟩
theorem s_tryAs {W : WX} {y n : PySem.Str} {c : Nat} {body suite : List Stmt} {b0 : Stmt} {np pos pos' : Pos} {mb : List S} {ts : List (HX × HR)} {last : HR} (K0 : Lf X.K L) (tk : Takes X W) (hst : X.stack = X.env :: X.outer) (hf : X.env.frame = some X.env.locals) (nd : X.N.Nodup)
    (hi : X.N[i]? = some n) (hln : X.env.kindOf n = some .local) (hg : Gl X y) (hm : X.mg y = some (.ref (L.ca c)))
    (hdb : (y == ("__debug__" : PySem.Str)) = false) (hb : ∀ (W' : WX) (pn : List (Addr × Obj)) (xe : Value → Shared → Prop), Takes (X.tr pn xe) W' → PassesOwn (model X.prog X.w) X.A X.env xe → PSs (X.tr pn xe) body (tSs L F W' mb))
    (hsu : ∀ (a : Addr) (oe : Obj) (d : Option Addr) (x : Exc) (pn : List (Addr × Obj)), Zc (.ref (L.ca x.c)) d oe → (∃ vs, oe.data = .fields vs) → PSs (X.suite a ((a, oe) :: pn)) (b0 :: suite) (tHs L a i x d ts last)) :
    PS X (.Try body [.ExceptHandler (some (.Name y np)) (some n) (b0 :: suite) pos'] [] [] pos) (tS L F W (.tryAs mb c i ts last)) := by
  have hsu2 : ∀ (a : Addr) (oe : Obj) (cls : Value) (d : Option Addr) (pn : List (Addr × Obj)), Zc cls d oe → (∃ vs, oe.data = .fields vs) →
      PSs (X.suite a ((a, oe) :: pn)) (b0 :: suite) (fun D σ H => ∃ x : Exc, cls = .ref (L.ca x.c) ∧ tHs L a i x d ts last D σ H) := fun a oe cls d pn hz hv => by
    refine pwSs fun pins s σ H D I ⟨x, e, q⟩ => ?_
    subst e
    exact ⟨_, hsu a oe d x pn hz hv, q⟩
  refine pwS fun pins s σ H D I ⟨β, h, ρ, S, R, p⟩ => ⟨_, ps_try_as (tb := fun W' => tSs L F W' mb) (ts := fun a cls d D σ H => ∃ x : Exc, cls = .ref (L.ca x.c) ∧ tHs L a i x d ts last D σ H) hst hf nd hi hln ⟨hg, hdb, .inl hm⟩ tk hb hsu2, β, h, ρ, S, R, ?_⟩
  unfold exS at p
  cases eo : exB L.T F mb ρ h with
  | exc x ρ1 h1 =>
    rw [eo] at p
    intro cls d σ' β' H' x' S' R' hy
    have hcl := hy.1
    subst hcl
    simp only at p
    cases eq : L.T.sub x.c c with
    | none => rw [eq] at p; exact p.elim
    | some b =>
      rw [eq] at p
      refine ⟨b, K0.exm _ _ _ eq, fun hb1 a na => ?_, fun hb1 => ?_⟩
      · subst hb1
        simp only at p
        split at p
        · rename_i hl
          split at p
          · rename_i v ev
            exact ⟨x, rfl, β', h1, ρ1.set i none, v, S', R'.hidden i _, List.getElem?_set_self (by rw [R'.len]; exact hl), hy, ev, fun u β2 H2 x2 S2 r2 => p u β2 H2 (x'.trans x2) S2 r2⟩
          · exact p.elim
        · exact p.elim
      · subst hb1
        exact p _ d σ' β' H' x' S' R' hy
  | nx ρ1 h1 => rw [eo] at p; exact p
  | rt v h1 => rw [eo] at p; exact p
  | bk ρ1 h1 => rw [eo] at p; exact p
  | ct ρ1 h1 => rw [eo] at p; exact p
  | bad => rw [eo] at p; exact p.elim
end
end MP

/-! Mp2: from the rows' trees to MP -/
namespace MP
open PySem PySem.Spec PyProof.Rows L2

inductive GV where
  | fn (k : Nat) | cls (c : Nat) | cst (v : Val)
/-- the names of the whole text -/
structure GT where
  gl : List (PySem.Str × GV)
  fld : List (PySem.Str × Nat)
  /-- defs that are called as they are written; with keywords -/
  pl : Nat → Bool
  kw : Nat → Nat → List PySem.Str → Option (List Bd)
  init : Nat → Option Nat
  isC : Nat → Bool
  exn : Nat → Option Bool
  xi : Bool
  /-- built-in names that the text does not bind -/
  blt : List PySem.Str
/-- a def's or a block's names -/
structure CK where
  N : List PySem.Str
  sc : Scope
  raw : List (PySem.Str × NameKind)
  /-- displays and slices are cells -/
  nl : Bool

def idxOf : List PySem.Str → PySem.Str → Option Nat
  | [], _ => none
  | y :: r, x => if x == y then some 0 else (idxOf r x).map (· + 1)
theorem idxOf_at : ∀ {N : List PySem.Str} {x : PySem.Str} {i : Nat}, idxOf N x = some i → N[i]? = some x
  | [], _, _, h => by cases h
  | y :: r, x, i, h => by
    unfold idxOf at h
    split at h
    · rename_i e
      cases h
      simp only [beq_iff_eq] at e
      subst e
      rfl
    · obtain ⟨j, e, rfl⟩ := Option.map_eq_some_iff.mp h
      simpa using idxOf_at e
def visK (sc : Scope) (x : PySem.Str) : Bool := match sc.names.lookup x with
  | some .local => true
  | some .cell => true
  | some .free => true
  | _ => false
theorem vis_of {sc : Scope} {x : PySem.Str} (h : visK sc x = true) : Vis sc x := by
  unfold visK at h
  unfold Vis
  split at h <;> simp_all
def glK (sc : Scope) (x : PySem.Str) : Bool := match sc.names.lookup x with
  | some .globalImplicit => true
  | _ => false
theorem gl_of {sc : Scope} {x : PySem.Str} (h : glK sc x = true) : sc.names.lookup x = some .globalImplicit := by
  unfold glK at h
  split at h
  · assumption
  · cases h
def odd (x : PySem.Str) : Bool := x == ("__debug__" : PySem.Str) || x == ("__classdict__" : PySem.Str)
theorem odd_of {x : PySem.Str} (h : odd x = false) : (x == ("__debug__" : PySem.Str)) = false ∧ (x == ("__classdict__" : PySem.Str)) = false := by
  unfold odd at h
  rw [Bool.or_eq_false_iff] at h
  exact h
/-- a slot that is read -/
def slotR (c : CK) (x : PySem.Str) : Option Nat := if visK c.sc x && !odd x then idxOf c.N x else none
/-- a slot that is stored -/
def slotW (c : CK) (x : PySem.Str) : Option Nat := match c.raw.lookup x with
  | some .local => idxOf c.N x
  | some .cell => idxOf c.N x
  | _ => none
def slotsW (c : CK) : List Expr → Option (List Nat)
  | [] => some []
  | .Name x _ :: r => match slotW c x, slotsW c r with
    | some i, some is => some (i :: is)
    | _, _ => none
  | _ => none
def tgOf (c : CK) : Expr → Option Tg
  | .Name x _ => (slotW c x).map .name
  | .Tuple ts _ _ => (slotsW c ts).map .tup
  | _ => none
def binO : Operator → Option Op
  | .Add => some .add | .Sub => some .sub | .Mult => some .mul | .FloorDiv => some .fdiv | .Mod => some .mod | .Pow => some .pow
  | _ => none
def cmpO : CmpOp → Op
  | .Eq => .eq | .NotEq => .ne | .Lt => .lt | .LtE => .le | .Gt => .gt | .GtE => .ge | .Is => .is | .IsNot => .isnot | .In => .isin | .NotIn => .notin
def bfOf (x : PySem.Str) : Option Bf :=
  if x == bfNm .len then some .len else if x == bfNm .int then some .int else if x == bfNm .tuple then some .tuple else if x == bfNm .max then some .max else if x == bfNm .min then some .min else
  if x == bfNm .sum then some .sum else if x == bfNm .all then some .all else if x == bfNm .any then some .any else if x == bfNm .str then some .str else if x == bfNm .list then some .list else none
theorem bfOf_nm {x : PySem.Str} {f : Bf} (h : bfOf x = some f) : x = bfNm f := by
  unfold bfOf at h
  repeat' split at h
  all_goals first | cases h | skip
  all_goals simp_all
def bmOf (x : PySem.Str) : Option Bm :=
  if x == bmNm .append then some .append else if x == bmNm .extend then some .extend else if x == bmNm .pop then some .pop else if x == bmNm .join then some .join else
  if x == bmNm .removeprefix then some .removeprefix else if x == bmNm .startswith then some .startswith else if x == bmNm .find then some .find else none
theorem bmOf_nm {x : PySem.Str} {f : Bm} (h : bmOf x = some f) : x = bmNm f ∧ f ≠ .get := by
  unfold bmOf at h
  repeat' split at h
  all_goals first | cases h | skip
  all_goals simp_all
def tyOf (x : PySem.Str) : Option Ty :=
  if x == Str.ofString "int" then some .int else if x == Str.ofString "bool" then some .bool else if x == Str.ofString "str" then some .str else if x == Str.ofString "tuple" then some .tuple else none
theorem tyOf_nm {x : PySem.Str} {t : Ty} (h : tyOf x = some t) : x = Str.ofString (tyNm t) ∧ ∀ c, t ≠ .cls c := by
  unfold tyOf at h
  repeat' split at h
  all_goals first | cases h | skip
  all_goals (simp only [beq_iff_eq] at *; exact ⟨by assumption, fun c z => by cases z⟩)

/-- a built-in name -/
def bltK (g : GT) (c : CK) (x : PySem.Str) : Bool := glK c.sc x && g.blt.contains x
/-- the own slots of a comprehension -/
def ownOf (N : List PySem.Str) : List (PySem.Str × NameKind) → List (PySem.Str × Nat)
  | [] => []
  | (x, k) :: r => match k, idxOf N x with
    | .local, some i => (x, i) :: ownOf N r
    | .cell, some i => (x, i) :: ownOf N r
    | _, _ => ownOf N r
def blkOf (c : CK) (scope : Scope) : CK := ⟨c.N, relS scope c.sc, scope.names, c.nl⟩
/-- a global as a value -/
def gvVal : GV → Option Val
  | .fn k => some (.fn k)
  | .cst v => some v
  | .cls _ => none

variable (g : GT)
mutual
def cE : Nat → CK → Expr → E
  | 0, _, _ => .stop
  | n + 1, c, e => match e with
    | .Name x _ => match slotR c x with
      | some i => .var i
      | none => if glK c.sc x && !odd x then match (g.gl.lookup x).bind gvVal with
          | some v => .cst v
          | none => .stop
        else .stop
    | .Constant (.int i) _ _ => .cst (.int i)
    | .Constant (.bool b) _ _ => .cst (.bl b)
    | .Constant .none _ _ => .cst .non
    | .Constant (.str s) _ _ => .cst (.str s.cps.toList)
    | .Tuple es _ _ => .tup (cEs n c es)
    | .List es _ => .lst c.nl (cEs n c es)
    | .Dict [] [] _ => .dic
    | .BinOp a op b _ => match binO op with
      | some o => .op o (cE n c a) (cE n c b)
      | none => .stop
    | .Compare a [op] [b] _ => if notSet b then .op (cmpO op) (cE n c a) (cE n c b) else .stop
    | .Compare a [op, op'] [b, d] _ => if notSet d then .chain (cmpO op) (cmpO op') (cE n c a) (cE n c b) (cE n c d) else .stop
    | .UnaryOp .USub a _ => .neg (cE n c a)
    | .UnaryOp .Not a _ => .not (cE n c a)
    | .BoolOp .And vs _ => cV n c true vs
    | .BoolOp .Or vs _ => cV n c false vs
    | .IfExp q a b _ => .ite (cT n c q) (cE n c a) (cE n c b)
    | .Attribute o f _ => if notSuper o then match g.fld.lookup f with
        | some i => .attr (cE n c o) i
        | none => .stop
      else .stop
    | .Subscript a i _ => match i with
      | .Slice lo hi none _ => .slice c.nl (cE n c a) (cO n c lo) (cO n c hi)
      | i => if plainIx i then .sub (cE n c a) (cE n c i) else .stop
    | .Call (.Name x _) args [] _ => if args.all notStar then match slotR c x with
        | some i => match args with
          | [] => .stop
          | a :: as => .callV i (cEs n c (a :: as))
        | none => if glK c.sc x && !odd x then match g.gl.lookup x with
            | some (.fn k) => if g.pl k then .call k (match args with
                | [] => []
                | a :: as => cEs n c (a :: as)) else match args with
              | [] => .stop
              | a :: as => match g.kw k (a :: as).length [] with
                | some b => if (cEs n c (a :: as)).length = (a :: as).length then .callK k (cEs n c (a :: as) ++ []) b else .stop
                | none => .stop
            | some (.cls k) => match g.init k with
              | some f => if g.isC k && g.pl f then .make k (match args with
                | [] => []
                | a :: as => cEs n c (a :: as)) else .stop
              | none => .stop
            | some (.cst _) => .stop
            | none => if g.blt.contains x then match bfOf x with
                | some f => match args with
                  | [] => .stop
                  | a :: as => .bf f c.nl (cEs n c (a :: as))
                | none => if x == Str.ofString "isinstance" then match args with
                    | [a, .Name t _] => if bltK g c t then match tyOf t with
                        | some ty => .isi (cE n c a) ty
                        | none => .stop
                      else .stop
                    | _ => .stop
                  else .stop
              else .stop
          else .stop
      else .stop
    | .Call (.Name x _) (a :: as) (kw :: kws) _ => if (a :: as).all notStar && glK c.sc x && !odd x then match g.gl.lookup x, kwNames (kw :: kws) with
        | some (.fn k), some ks => match g.kw k (a :: as).length ks with
          | some b => if (cEs n c (a :: as)).length = (a :: as).length ∧ (cK n c (kw :: kws)).length = ks.length then .callK k (cEs n c (a :: as) ++ cK n c (kw :: kws)) b else .stop
          | none => .stop
        | _, _ => .stop
      else .stop
    | .Call (.Attribute o m apos) args [] pos => if notSuper o && (apos.endLine == pos.line) && args.all notStar && decide (args.length < 30) then match bmOf m with
        | some b => if b = .pop ∧ args.length ≠ 0 then .stop else .bm (cE n c o) b (match args with
          | [] => []
          | a :: as => cEs n c (a :: as))
        | none => match g.fld.lookup m with
          | some i => .meth (cE n c o) i (match args with
            | [] => []
            | a :: as => cEs n c (a :: as))
          | none => .stop
      else .stop
    | .ListComp elt [⟨tg, iter, ifs, 0⟩] scope _ => cC n c elt tg iter ifs scope
    | _ => .stop
def cEs : Nat → CK → List Expr → List E
  | 0, _, _ => [.stop]
  | _ + 1, _, [] => []
  | n + 1, c, e :: es => (if notStar e then cE n c e else .stop) :: cEs n c es
def cK : Nat → CK → List Keyword → List E
  | 0, _, _ => [.stop]
  | _ + 1, _, [] => []
  | n + 1, c, ⟨_, e, _⟩ :: es => cE n c e :: cK n c es
/-- a part of a slice -/
def cO : Nat → CK → Option Expr → List E
  | 0, _, _ => [.stop]
  | _ + 1, _, none => []
  | n + 1, c, some e => [cE n c e]
/-- a and b and .., as a value -/
def cV : Nat → CK → Bool → List Expr → E
  | 0, _, _, _ => .stop
  | _ + 1, _, _, [] => .stop
  | n + 1, c, w, a :: r => match r with
    | [] => cE n c a
    | b :: r' => if w then .and (cE n c a) (cV n c w (b :: r')) else .or (cE n c a) (cV n c w (b :: r'))
/-- a test -/
def cT : Nat → CK → Expr → E
  | 0, _, _ => .stop
  | n + 1, c, e => match e with
    | .UnaryOp .Not a _ => .not (cT n c a)
    | .BoolOp .And vs _ => cW n c true vs
    | .BoolOp .Or vs _ => cW n c false vs
    | .Compare a [op] [b] _ => if notSet b then .op (cmpO op) (cE n c a) (cE n c b) else .stop
    | .Compare a [op, op'] [b, d] _ => if notSet d then .chain (cmpO op) (cmpO op') (cE n c a) (cE n c b) (cE n c d) else .stop
    | e => if isPlainT e then cE n c e else .stop
def cW : Nat → CK → Bool → List Expr → E
  | 0, _, _, _ => .stop
  | _ + 1, _, _, [] => .stop
  | n + 1, c, w, a :: r => match r with
    | [] => cT n c a
    | b :: r' => if w then .and (cT n c a) (cW n c w (b :: r')) else .or (cT n c a) (cW n c w (b :: r'))
/-- what is walked: its kind and its expressions -/
def cI : Nat → CK → Expr → Nat × List E
  | 0, _, _ => (0, [.stop])
  | n + 1, c, e => match e with
    | .Call (.Name x _) [a] [] _ => if x == Str.ofString "range" && bltK g c x && notStar a then (2, cEs n c [a]) else (0, [cE n c e])
    | .Call (.Name x _) [a, b] [] _ => if x == Str.ofString "range" && bltK g c x && notStar a && notStar b then (3, cEs n c [a, b]) else (0, [cE n c e])
    | e => (0, [cE n c e])
def cC : Nat → CK → Expr → Expr → Expr → List Expr → Scope → E
  | 0, _, _, _, _, _, _ => .stop
  | n + 1, c, elt, tg, iter, ifs, scope => if notSet iter && blkC c.N c.sc scope (ownOf c.N scope.names) then match tgOf (blkOf c scope) tg with
      | some t => if (tgSlots t).all (fun i => ((ownOf c.N scope.names).map (·.2)).contains i) then match ifs with
          | [] => .comp false (cE n (blkOf c scope) elt) t (cI n c iter).1 (cI n c iter).2 [] ((ownOf c.N scope.names).map (·.2))
          | [q] => .comp false (cE n (blkOf c scope) elt) t (cI n c iter).1 (cI n c iter).2 [cT n (blkOf c scope) q] ((ownOf c.N scope.names).map (·.2))
          | _ => .stop
        else .stop
      | none => .stop
    else .stop
end
end MP

/-! Mp2b: what the translation gives is what the rows' trees do: expressions -/
namespace MP
open PySem PySem.Spec PyProof.Rows L2

structure CkOk (X : Cx) (c : CK) : Prop where
  N : X.N = c.N
  sc : X.env.scope = c.sc
  st : ∀ x, c.raw.lookup x = some .local ∨ c.raw.lookup x = some .cell → Loc X.env.scope x ∧ (X.fn x = true ∨ X.env.scope.names.lookup x = some .local)
structure Fx (X : Cx) (L : Lk) (F : Fns) (g : GT) (lv : Nat) : Prop where
  lf : Lf X.K L
  fn : ∀ x k, g.gl.lookup x = some (.fn k) → X.mg x = some (.ref (L.fa k))
  cls : ∀ x k, g.gl.lookup x = some (.cls k) → X.mg x = some (.ref (L.ca k))
  cst : ∀ x v, g.gl.lookup x = some (.cst v) → ∃ u, X.mg x = some u ∧ ∀ pv, Cst (L.pvs pv) u v
  blt : ∀ x, g.blt.contains x = true → X.mg x = none
  fld : ∀ x i, g.fld.lookup x = some i → L.nm i = x
  pl : ∀ k, g.pl k = true → PlainFn X.prog X.w X.K X.mg X.base L F lv k
  kw : ∀ k n ks b, g.kw k n ks = some b → KwFn X.prog X.w X.K X.mg X.base L F lv k n ks b
  init : ∀ c, g.init c = L.T.init c
  isC : ∀ c, g.isC c = L.T.isC c
  exn : ∀ c, g.exn c = L.T.exn c
  xi : g.xi = L.T.xi
  val : ∀ k, L.T.val k = true → g.pl k = true
  meth : ∀ c m k, L.T.isC c = true → L.T.meth c m = some k → g.pl k = true
  prop : ∀ c m k, L.T.isC c = true → L.T.prop c m = some k → g.pl k = true
theorem Lf.pvs {K : PySem.W.Frag} {L : Lk} (h : Lf K L) (pv : Addr → Prop) : Lf K (L.pvs pv) := ⟨h.inj, h.cls, h.noat, h.meth, h.prop, h.init, h.exn0, h.exn1, h.exm, h.exi, h.exk⟩
theorem Fx.pvs {X : Cx} {L : Lk} {F : Fns} {g : GT} {lv : Nat} (h : Fx X L F g lv) (pv : Addr → Prop) : Fx X (L.pvs pv) F g lv :=
  ⟨h.lf.pvs pv, h.fn, h.cls, fun x v e => by obtain ⟨u, a, b⟩ := h.cst x v e; exact ⟨u, a, fun pv => b pv⟩, h.blt, h.fld, h.pl, h.kw, h.init, h.isC, h.exn, h.xi, h.val, h.meth, h.prop⟩
theorem Gd.dn {X : Cx} {L : Lk} {W : WX} {lv : Nat} (G : Gd X L W (lv + 1)) : Gd X L W lv := ⟨G.hK, G.calm, G.nd, G.hr.mono (Nat.le_succ _), G.tk, G.pass⟩

section
variable {X : Cx} {L : Lk} {F : Fns} {W : WX} {lv : Nat} {g : GT} {c : CK}
theorem gl_X (O : CkOk X c) {x : PySem.Str} (h : glK c.sc x = true) : Gl X x := by
  show X.env.scope.names.lookup x = _
  rw [O.sc]; exact gl_of h
theorem slotR_ok (O : CkOk X c) {x : PySem.Str} {i : Nat} (h : slotR c x = some i) : X.N[i]? = some x ∧ Vis X.env.scope x ∧ (x == ("__debug__" : PySem.Str)) = false ∧ (x == ("__classdict__" : PySem.Str)) = false := by
  unfold slotR at h
  split at h
  · rename_i q
    simp only [Bool.and_eq_true, Bool.not_eq_true'] at q
    exact ⟨by rw [O.N]; exact idxOf_at h, by rw [O.sc]; exact vis_of q.1, (odd_of q.2).1, (odd_of q.2).2⟩
  · cases h
theorem slotW_ok (O : CkOk X c) {x : PySem.Str} {i : Nat} (h : slotW c x = some i) : Sto X i x := by
  unfold slotW at h
  split at h
  · rename_i q
    obtain ⟨a, b⟩ := O.st x (.inl q)
    exact ⟨by rw [O.N]; exact idxOf_at h, a, b⟩
  · rename_i q
    obtain ⟨a, b⟩ := O.st x (.inr q)
    exact ⟨by rw [O.N]; exact idxOf_at h, a, b⟩
  · cases h
theorem slotsW_ok (O : CkOk X c) : ∀ {es : List Expr} {is : List Nat}, slotsW c es = some is → TgOk X es is
  | [], is, h => by cases h; exact .nil
  | e :: r, is, h => by
    cases e with
    | Name x p =>
      simp only [slotsW] at h
      split at h
      · rename_i i js e1 e2
        cases h
        exact .cons (slotW_ok O e1) (slotsW_ok O e2)
      · cases h
    | _ => cases h
theorem tgOf_ok (O : CkOk X c) (G : Gd X L W lv) {e : Expr} {t : Tg} (h : tgOf c e = some t) : PG X e (tG L t) := by
  cases e with
  | Name x p =>
    obtain ⟨i, e1, rfl⟩ := Option.map_eq_some_iff.mp (show (slotW c x).map .name = some t from h)
    exact s_gname G.nd (slotW_ok O e1)
  | Tuple ts k p =>
    obtain ⟨is, e1, rfl⟩ := Option.map_eq_some_iff.mp (show (slotsW c ts).map .tup = some t from h)
    exact s_gtup G.hK G.calm G.nd (slotsW_ok O e1)
  | _ => cases h
theorem blk_ok {scope : Scope} {Y : Cx} (O : CkOk X c) (hY : Blk X scope Y) : CkOk Y (blkOf c scope) := by
  obtain ⟨s, H, C, cl, fp, rfl⟩ := hY
  have hsc : (compEnvC scope cl C X.env).scope = relS scope X.env.scope := rfl
  refine ⟨O.N, by show (compEnvC scope cl C X.env).scope = relS scope c.sc; rw [hsc, O.sc], fun x h => ?_⟩
  have h : scope.names.lookup x = some .local ∨ scope.names.lookup x = some .cell := h
  rcases h with h | h
  · have := lookup_relS_keep (sc := X.env.scope) (by simp) h
    exact ⟨.inl this, .inr this⟩
  · have := lookup_relS_keep (sc := X.env.scope) (by simp) h
    exact ⟨.inr this, .inl (by show (scope.names.lookup x == some NameKind.cell) = true; rw [h]; rfl)⟩
theorem blk_gd {scope : Scope} {Y : Cx} (G : Gd X L W lv) (hY : Blk X scope Y) (pv : Addr → Prop) : Gd Y (L.pvs pv) noW lv := by
  obtain ⟨s, H, C, cl, fp, rfl⟩ := hY
  exact ⟨G.hK, G.calm, G.nd, G.hr, fun _ _ ⟨_, _, _, _, _, _, _, _, _, _, _, _, _, _, _, _, w⟩ => w.elim, PassesOwn.never⟩
theorem blk_fx {scope : Scope} {Y : Cx} (h : Fx X L F g lv) (hY : Blk X scope Y) : Fx Y L F g lv := by
  obtain ⟨s, H, C, cl, fp, rfl⟩ := hY
  exact ⟨h.lf, h.fn, h.cls, h.cst, h.blt, h.fld, h.pl, h.kw, h.init, h.isC, h.exn, h.xi, h.val, h.meth, h.prop⟩
theorem s_badA {es : List Expr} {ms : List E} : PA X es (tIs L F W (.stop :: ms)) := ⟨fun pos pins s σ H Q I ⟨β, h, ρ, S, R, p⟩ => by
  rw [evEs_cons] at p; unfold evE at p; exact p.elim⟩
theorem s_badK {es : List Keyword} {ms : List E} : PK X es (tIs L F W (.stop :: ms)) := ⟨fun pos pins s σ H Q I ⟨β, h, ρ, S, R, p⟩ => by
  rw [evEs_cons] at p; unfold evE at p; exact p.elim⟩
theorem s_badP {e : Option Expr} {ms : List E} : PO X e (tPartI L F W (.stop :: ms)) := ⟨fun pins s σ H Q I ⟨β, h, ρ, S, R, p⟩ => by
  rw [evEs_cons] at p; unfold evE at p; exact p.elim⟩
theorem s_badT {e : Expr} : PT X e (tT L F W .stop) := ⟨fun pins s σ H Q I ⟨β, h, ρ, S, R, p⟩ => by
  unfold evE at p; exact p.elim⟩
theorem s_badW {e : Expr} : PW X e (tT L F W .stop) := ⟨fun wh pins s σ H Q I ⟨β, h, ρ, S, R, p⟩ => by
  unfold evE at p; exact p.elim⟩
theorem s_badI {tg e : Expr} {w : Nat} : PI X tg e (tWk L F W w [.stop]) := ⟨fun pins s σ H R I ⟨β, h, ρ, S, Re, p⟩ => by
  rw [evEs_cons] at p; unfold evE at p; exact p.elim⟩
end
def PartsOk (X : Cx) (L : Lk) (F : Fns) (W : WX) (elt ptg iter : Expr) (ifs : List Expr) (scope : Scope) (m : E) : Prop := m = .stop ∨ ∃ (new : Bool) (me : E) (t : Tg) (w : Nat) (it mifs : List E) (own : List (PySem.Str × Nat)), m = .comp new me t w it mifs (own.map (·.2)) ∧ w ≠ 1 ∧ notSet iter = true ∧
  (∀ i ∈ tgSlots t, i ∈ own.map (·.2)) ∧ PI X ptg iter (tWk L F W w it) ∧ BlkOk X.N X.env.scope scope own ∧ (∀ pv Y, Blk X scope Y → PG Y ptg (tG (L.pvs pv) t)) ∧ IfsOk L F X scope ifs mifs ∧ (∀ pv Y, Blk X scope Y → PE Y elt (tI (L.pvs pv) F noW me))
structure CAll (F : Fns) (g : GT) (lv n : Nat) : Prop where
  e : ∀ (X : Cx) (L : Lk) (W : WX) (c : CK), CkOk X c → Gd X L W (lv + 1) → Fx X L F g lv → ∀ e, PE X e (tI L F W (cE g n c e))
  es : ∀ (X : Cx) (L : Lk) (W : WX) (c : CK), CkOk X c → Gd X L W (lv + 1) → Fx X L F g lv → ∀ es, PA X es (tIs L F W (cEs g n c es))
  k : ∀ (X : Cx) (L : Lk) (W : WX) (c : CK), CkOk X c → Gd X L W (lv + 1) → Fx X L F g lv → ∀ es, PK X es (tIs L F W (cK g n c es))
  o : ∀ (X : Cx) (L : Lk) (W : WX) (c : CK), CkOk X c → Gd X L W (lv + 1) → Fx X L F g lv → ∀ e, PO X e (tPartI L F W (cO g n c e))
  v : ∀ (X : Cx) (L : Lk) (W : WX) (c : CK), CkOk X c → Gd X L W (lv + 1) → Fx X L F g lv → ∀ w vs pos, PE X (.BoolOp (if w then .And else .Or) vs pos) (tI L F W (cV g n c w vs))
  t : ∀ (X : Cx) (L : Lk) (W : WX) (c : CK), CkOk X c → Gd X L W (lv + 1) → Fx X L F g lv → ∀ e, PT X e (tT L F W (cT g n c e))
  w : ∀ (X : Cx) (L : Lk) (W : WX) (c : CK), CkOk X c → Gd X L W (lv + 1) → Fx X L F g lv → ∀ w vs pos, PW X (.BoolOp (if w then .And else .Or) vs pos) (tT L F W (cW g n c w vs))
  i : ∀ (X : Cx) (L : Lk) (W : WX) (c : CK), CkOk X c → Gd X L W (lv + 1) → Fx X L F g lv → ∀ tg e, PI X tg e (tWk L F W (cI g n c e).1 (cI g n c e).2) ∧ (cI g n c e).1 ≠ 1
  cc : ∀ (X : Cx) (L : Lk) (W : WX) (c : CK), CkOk X c → Gd X L W (lv + 1) → Fx X L F g lv → ∀ elt tg iter ifs scope, PartsOk X L F W elt tg iter ifs scope (cC g n c elt tg iter ifs scope)
theorem cAll_zero (F : Fns) (g : GT) (lv : Nat) : CAll F g lv 0 where
  e := fun X L W c _ _ _ e => by unfold cE; exact s_stopE
  es := fun X L W c _ _ _ e => by unfold cEs; exact s_badA
  k := fun X L W c _ _ _ e => by unfold cK; exact s_badK
  o := fun X L W c _ _ _ e => by unfold cO; exact s_badP
  v := fun X L W c _ _ _ w vs pos => by unfold cV; exact s_stopE
  t := fun X L W c _ _ _ e => by unfold cT; exact s_badT
  w := fun X L W c _ _ _ w vs pos => by unfold cW; exact s_badW
  i := fun X L W c _ _ _ tg e => by unfold cI; exact ⟨s_badI, by decide⟩
  cc := fun X L W c _ _ _ elt tg iter ifs scope => by unfold cC; exact .inl rfl
theorem cEs_nil {g : GT} {n : Nat} {c : CK} : [] = ([] : List Expr) → cEs g (n + 1) c [] = [] := fun _ => by unfold cEs; rfl
section
variable {X : Cx} {L : Lk} {F : Fns} {W : WX} {lv : Nat} {g : GT} {c : CK} {n : Nat}
theorem Fx.gcst (A : Fx X L F g lv) {x : PySem.Str} {v : Val} (h : (g.gl.lookup x).bind gvVal = some v) : ∃ u, X.mg x = some u ∧ Cst L u v := by
  obtain ⟨gv, e1, e2⟩ := Option.bind_eq_some_iff.mp h
  cases gv with
  | fn k => cases e2; exact ⟨_, A.fn x k e1, .ref (L.fa k), rfl, fun β H h _ => .fn k⟩
  | cst v' =>
    cases e2
    obtain ⟨u, a, b⟩ := A.cst x v e1
    exact ⟨u, a, b L.pv⟩
  | cls k => cases e2
/-- the arguments of a call -/
theorem args_ok (ihs : ∀ es, PA X es (tIs L F W (cEs g n c es))) (args : List Expr) : PA X args (tIs L F W (match args with
    | [] => []
    | a :: as => cEs g n c (a :: as))) ∧ (args = [] → (match args with
    | [] => []
    | a :: as => cEs g n c (a :: as)) = []) := by
  cases args with
  | nil => exact ⟨s_nil, fun _ => rfl⟩
  | cons a as => exact ⟨ihs _, fun z => by cases z⟩
/-- binary operators -/
theorem binO_ok {op : Operator} {o : Op} (hK : X.K = L.K) (h : binO op = some o) : OpR X (binaryOp op) (rOp L o) := by
  cases op <;> cases h
  · exact o_add X L hK
  · exact o_sub X L
  · exact o_mul X L
  · exact o_mod X L
  · exact o_pow X L
  · exact o_fdiv X L
theorem cmpO_ok (op : CmpOp) (hK : X.K = L.K) (hu : X.A.units + 200 < cLine) : OpR X (compareOp op) (rOp L (cmpO op)) := by
  cases op
  · exact o_eq X L hK hu
  · exact o_ne X L hK hu
  · exact o_lt X L
  · exact o_le X L
  · exact o_gt X L
  · exact o_ge X L
  · exact o_is X L
  · exact o_isnot X L
  · exact o_in X L hK hu
  · exact o_notin X L hK hu
theorem cmpO_is (op : CmpOp) : isCmp (cmpO op) = true := by cases op <;> rfl
/-- the step -/
theorem e_step (A : CAll F g lv n) (O : CkOk X c) (G : Gd X L W (lv + 1)) (T : Fx X L F g lv) (e : Expr) : PE X e (tI L F W (cE g (n + 1) c e)) := by
  have ih := fun e => A.e X L W c O G T e
  have ihs := fun es => A.es X L W c O G T es
  have nil0 : ∀ {es : List Expr}, cEs g n c es = cEs g n c es := fun {_} => rfl
  unfold cE
  split
  · -- a name
    rename_i x p
    split
    · rename_i i hi
      obtain ⟨a, b, d, d2⟩ := slotR_ok O hi
      exact s_var a b d d2
    · split
      · rename_i q
        simp only [Bool.and_eq_true, Bool.not_eq_true'] at q
        split
        · rename_i v hv
          obtain ⟨u, a, b⟩ := T.gcst hv
          exact s_glob (gl_X O q.1) a b (odd_of q.2).1
        · exact s_stopE
      · exact s_stopE
  · exact s_int
  · exact s_bl
  · exact s_non
  · exact s_str
  · exact s_tup (ihs _)
  · exact s_lst _ (ihs _)
  · exact s_dic
  · split
    · rename_i o ho
      exact s_op2 (binO_ok G.hK ho) (ih _) (ih _)
    · exact s_stopE
  · split
    · rename_i hb
      exact s_cmp hb (cmpO_ok _ G.hK G.hu) (ih _) (ih _)
    · exact s_stopE
  · split
    · rename_i hb
      exact s_chain (cmpO_is _) hb (cmpO_ok _ G.hK G.hu) (cmpO_ok _ G.hK G.hu) (ih _) (ih _) (ih _)
    · exact s_stopE
  · exact s_neg (ih _)
  · exact s_not G.hK (ih _)
  · exact A.v X L W c O G T true _ _
  · exact A.v X L W c O G T false _ _
  · exact s_ite (A.t X L W c O G T _) (ih _) (ih _)
  · split
    · rename_i hn
      split
      · rename_i i hi
        have := T.fld _ _ hi
        subst this
        exact s_attr G T.lf hn (ih _) fun c k ic e => T.pl k (T.prop c i k ic e)
      · exact s_stopE
    · exact s_stopE
  · split
    · exact s_slice G.hK _ (ih _) (A.o X L W c O G T _) (A.o X L W c O G T _)
    · split
      · rename_i hp
        exact s_sub G.hK G.hu hp (ih _) (ih _)
      · exact s_stopE
  · -- a call of a name
    rename_i x p args pos
    split
    · rename_i hs
      split
      · rename_i i hi
        split
        · exact s_stopE
        · rename_i a as
          obtain ⟨q1, q2, d, d2⟩ := slotR_ok O hi
          exact s_callV G.dn hs q1 q2 d d2 (fun k hk => T.pl k (T.val k hk)) (ihs _)
      · split
        · rename_i q
          simp only [Bool.and_eq_true, Bool.not_eq_true'] at q
          have hg := gl_X O q.1
          have hd := (odd_of q.2).1
          split
          · rename_i k hk
            split
            · rename_i hp
              obtain ⟨r1, r2⟩ := args_ok ihs args
              exact s_call G.dn r2 hs hg (T.fn x k hk) hd (T.pl k hp) r1
            · split
              · exact s_stopE
              · rename_i a as
                split
                · rename_i b hb
                  split
                  · rename_i hl
                    exact s_callK G.dn hs (ks := []) rfl hl rfl hg (T.fn x k hk) hd (T.kw k _ _ _ hb) (ihs _) s_knil
                  · exact s_stopE
                · exact s_stopE
          · rename_i k hk
            split
            · rename_i f hf
              split
              · rename_i hq
                simp only [Bool.and_eq_true] at hq
                obtain ⟨r1, r2⟩ := args_ok ihs args
                exact s_make G T.lf r2 hs hg (T.cls x k hk) hd (by rw [← T.isC]; exact hq.1) (by rw [← T.init]; exact hf) (T.pl f hq.2) r1
              · exact s_stopE
            · exact s_stopE
          · exact s_stopE
          · split
            · rename_i hb
              have hm := T.blt x hb
              split
              · rename_i f hf
                split
                · exact s_stopE
                · have hx := bfOf_nm hf
                  subst hx
                  exact s_bf G.dn _ hs hg hm (ihs _)
              · split
                · rename_i hx
                  simp only [beq_iff_eq] at hx
                  subst hx
                  split
                  · rename_i a t p2
                    split
                    · rename_i hbt
                      split
                      · rename_i ty hty
                        obtain ⟨z1, z2⟩ := tyOf_nm hty
                        subst z1
                        simp only [bltK, Bool.and_eq_true] at hbt
                        simp only [List.all_cons, Bool.and_eq_true] at hs
                        refine s_isi G.dn ?_ hs.1 hg hm (gl_X O hbt.1) (T.blt _ hbt.2) (ih _)
                        cases ty with
                        | cls k => exact absurd rfl (z2 k)
                        | _ => trivial
                      · exact s_stopE
                    · exact s_stopE
                  · exact s_stopE
                · exact s_stopE
            · exact s_stopE
        · exact s_stopE
    · exact s_stopE
  · -- keywords
    split
    · rename_i q
      simp only [Bool.and_eq_true, Bool.not_eq_true'] at q
      split
      · rename_i k ks hk hks
        split
        · rename_i b hb
          split
          · rename_i hl
            exact s_callK G.dn q.1.1 hks hl.1 hl.2 (gl_X O q.1.2) (T.fn _ k hk) (odd_of q.2).1 (T.kw k _ _ _ hb) (ihs _) (A.k X L W c O G T _)
          · exact s_stopE
        · exact s_stopE
      · exact s_stopE
    · exact s_stopE
  · -- methods
    split
    · rename_i o m apos args pos q
      simp only [Bool.and_eq_true, decide_eq_true_eq] at q
      obtain ⟨r1, r2⟩ := args_ok ihs args
      split
      · rename_i b hb
        obtain ⟨z1, z2⟩ := bmOf_nm hb
        subst z1
        split
        · exact s_stopE
        · rename_i hq
          exact s_bm G.hK z2 q.1.1.1 q.1.1.2 q.1.2 q.2 r2 (ih _) r1 fun z => Classical.byContradiction fun w => hq ⟨z, fun u => w (List.length_eq_zero_iff.mp u)⟩
      · split
        · rename_i i hi
          have := T.fld _ _ hi
          subst this
          exact s_meth G.dn T.lf r2 q.1.1.1 q.1.1.2 q.1.2 q.2 (ih _) r1 fun c k ic e => T.pl k (T.meth c i k ic e)
        · exact s_stopE
    · exact s_stopE
  · -- a comprehension
    rcases A.cc X L W c O G T _ _ _ _ _ with h | ⟨new, me, t, w, it, mifs, own, h, h1, h2, h3, h4, h5, h6, h7, h8⟩
    · rw [h]; exact s_stopE
    · rw [h]; exact s_comp G.calm G.nd h1 h2 h3 h4 h5 h6 h7 h8
  · exact s_stopE
theorem es_step (A : CAll F g lv n) (O : CkOk X c) (G : Gd X L W (lv + 1)) (T : Fx X L F g lv) (es : List Expr) : PA X es (tIs L F W (cEs g (n + 1) c es)) := by
  cases es with
  | nil => unfold cEs; exact s_nil
  | cons e es =>
    unfold cEs
    split
    · rename_i h
      exact s_cons h (A.e X L W c O G T e) (A.es X L W c O G T es)
    · exact s_badA
theorem k_step (A : CAll F g lv n) (O : CkOk X c) (G : Gd X L W (lv + 1)) (T : Fx X L F g lv) (es : List Keyword) : PK X es (tIs L F W (cK g (n + 1) c es)) := by
  cases es with
  | nil => unfold cK; exact s_knil
  | cons e es =>
    obtain ⟨a, e, p⟩ := e
    unfold cK
    exact s_kcons (A.e X L W c O G T e) (A.k X L W c O G T es)
theorem o_step (A : CAll F g lv n) (O : CkOk X c) (G : Gd X L W (lv + 1)) (T : Fx X L F g lv) (e : Option Expr) : PO X e (tPartI L F W (cO g (n + 1) c e)) := by
  cases e with
  | none => unfold cO; exact s_part0
  | some e => unfold cO; exact s_part1 (A.e X L W c O G T e)
theorem v_step (A : CAll F g lv n) (O : CkOk X c) (G : Gd X L W (lv + 1)) (T : Fx X L F g lv) (w : Bool) (vs : List Expr) (pos : Pos) : PE X (.BoolOp (if w then .And else .Or) vs pos) (tI L F W (cV g (n + 1) c w vs)) := by
  cases vs with
  | nil => unfold cV; exact s_stopE
  | cons a r =>
    cases r with
    | nil => unfold cV; exact s_and1 (A.e X L W c O G T a)
    | cons b r =>
      have h := A.v X L W c O G T w (b :: r) pos
      unfold cV
      cases w with
      | true => exact s_and G.hK (A.e X L W c O G T a) h
      | false => exact s_or G.hK (A.e X L W c O G T a) h
theorem w_step (A : CAll F g lv n) (O : CkOk X c) (G : Gd X L W (lv + 1)) (T : Fx X L F g lv) (w : Bool) (vs : List Expr) (pos : Pos) : PW X (.BoolOp (if w then .And else .Or) vs pos) (tT L F W (cW g (n + 1) c w vs)) := by
  cases vs with
  | nil => unfold cW; exact s_badW
  | cons a r =>
    cases r with
    | nil =>
      unfold cW
      cases w with
      | true => exact s_tand1 (A.t X L W c O G T a)
      | false => exact s_tor1 (A.t X L W c O G T a)
    | cons b r =>
      have h := A.w X L W c O G T w (b :: r) pos
      unfold cW
      cases w with
      | true => exact s_tand (A.t X L W c O G T a) h
      | false => exact s_tor (A.t X L W c O G T a) h
theorem t_step (A : CAll F g lv n) (O : CkOk X c) (G : Gd X L W (lv + 1)) (T : Fx X L F g lv) (e : Expr) : PT X e (tT L F W (cT g (n + 1) c e)) := by
  have ih := fun e => A.e X L W c O G T e
  unfold cT
  split
  · exact s_tnot (A.t X L W c O G T _)
  · exact (A.w X L W c O G T true _ _).pt
  · exact (A.w X L W c O G T false _ _).pt
  · split
    · rename_i hb
      exact s_tcmp (cmpO_is _) hb (cmpO_ok _ G.hK G.hu) (ih _) (ih _)
    · exact s_badT
  · split
    · rename_i hb
      exact s_tchain (cmpO_is _) (cmpO_is _) hb (cmpO_ok _ G.hK G.hu) (cmpO_ok _ G.hK G.hu) (ih _) (ih _) (ih _)
    · exact s_badT
  · split
    · rename_i hp
      exact s_tplain G.hK hp (ih _)
    · exact s_badT
theorem n01 : (0 : Nat) ≠ 1 := by decide
theorem n21 : (2 : Nat) ≠ 1 := by decide
theorem n31 : (3 : Nat) ≠ 1 := by decide
theorem i_step (A : CAll F g lv n) (O : CkOk X c) (G : Gd X L W (lv + 1)) (T : Fx X L F g lv) (tg e : Expr) : PI X tg e (tWk L F W (cI g (n + 1) c e).1 (cI g (n + 1) c e).2) ∧ (cI g (n + 1) c e).1 ≠ 1 := by
  have ih := fun e => A.e X L W c O G T e
  unfold cI
  split
  · split
    · rename_i x p a pos q
      simp only [Bool.and_eq_true, beq_iff_eq] at q
      obtain ⟨⟨q1, q2⟩, q3⟩ := q
      subst q1
      simp only [bltK, Bool.and_eq_true] at q2
      refine ⟨?_, n21⟩
      show PI X tg _ (tWk L F W 2 (cEs g n c [a]))
      exact s_w2 q3 (gl_X O q2.1) (T.blt _ q2.2) (A.es X L W c O G T [a])
    · exact ⟨s_w0 G.hK (ih _), n01⟩
  · split
    · rename_i x p a b pos q
      simp only [Bool.and_eq_true, beq_iff_eq] at q
      obtain ⟨⟨⟨q1, q2⟩, q3⟩, q4⟩ := q
      subst q1
      simp only [bltK, Bool.and_eq_true] at q2
      refine ⟨?_, n31⟩
      show PI X tg _ (tWk L F W 3 (cEs g n c [a, b]))
      exact s_w3 q3 q4 (gl_X O q2.1) (T.blt _ q2.2) (A.es X L W c O G T [a, b])
    · exact ⟨s_w0 G.hK (ih _), n01⟩
  · exact ⟨s_w0 G.hK (ih _), n01⟩
theorem cc_step (A : CAll F g lv n) (O : CkOk X c) (G : Gd X L W (lv + 1)) (T : Fx X L F g lv) (elt tg iter : Expr) (ifs : List Expr) (scope : Scope) : PartsOk X L F W elt tg iter ifs scope (cC g (n + 1) c elt tg iter ifs scope) := by
  unfold cC
  split
  · rename_i q
    simp only [Bool.and_eq_true] at q
    have ok : BlkOk X.N X.env.scope scope (ownOf c.N scope.names) := by rw [O.N, O.sc]; exact blkOk_by q.2
    split
    · rename_i t ht
      split
      · rename_i hs
        have hs : ∀ i ∈ tgSlots t, i ∈ (ownOf c.N scope.names).map (·.2) := fun i hi => by
          have := List.all_eq_true.mp hs i hi
          simpa using this
        obtain ⟨w1, w2⟩ := A.i X L W c O G T tg iter
        have hg : ∀ pv Y, Blk X scope Y → PG Y tg (tG (L.pvs pv) t) := fun pv Y hY => tgOf_ok (blk_ok O hY) (blk_gd G hY pv) ht
        have he : ∀ pv Y, Blk X scope Y → PE Y elt (tI (L.pvs pv) F noW (cE g n (blkOf c scope) elt)) := fun pv Y hY => A.e Y _ _ _ (blk_ok O hY) (blk_gd G hY pv) ((blk_fx T hY).pvs pv) elt
        split
        · exact .inr ⟨_, _, t, _, _, [], _, rfl, w2, q.1, hs, w1, ok, hg, .nil, he⟩
        · exact .inr ⟨_, _, t, _, _, [_], _, rfl, w2, q.1, hs, w1, ok, hg, .one fun pv Y hY => A.t Y _ _ _ (blk_ok O hY) (blk_gd G hY pv) ((blk_fx T hY).pvs pv) _, he⟩
        · exact .inl rfl
      · exact .inl rfl
    · exact .inl rfl
  · exact .inl rfl
theorem c_all (F : Fns) (g : GT) (lv : Nat) : ∀ n, CAll F g lv n
  | 0 => cAll_zero F g lv
  | n + 1 => by
    have A := c_all F g lv n
    exact ⟨fun X L W c O G T => e_step A O G T, fun X L W c O G T => es_step A O G T, fun X L W c O G T => k_step A O G T, fun X L W c O G T => o_step A O G T, fun X L W c O G T => v_step A O G T, fun X L W c O G T => t_step A O G T,
      fun X L W c O G T => w_step A O G T, fun X L W c O G T => i_step A O G T, fun X L W c O G T => cc_step A O G T⟩
end
end MP

/-! Mp2c: statements, defs -/
namespace MP
open PySem PySem.Spec PyProof.Rows L2

/-- is the slot of a comprehension's target name used at once -/
def swB (sc scope : Scope) (y : PySem.Str) (py pos : Pos) : Bool := sc.names.lookup y == some NameKind.local && py.line == pos.line && !(scope.names.any fun (n, k) => n == y && (k == .local || k == .cell))
theorem swB_eq {elt : Expr} {gs : List Comprehension} {scope : Scope} {pos py : Pos} {y : PySem.Str} {l : Nat} {env : PySem.Env} (hk : env.scope.kind = .function) : swapsWith (.ListComp elt gs scope pos) (some (.Name y py)) l env = pure (swB env.scope scope y py pos) := by
  have hb : env.blockKind = .function := by unfold PySem.Env.blockKind; rw [hk]; rfl
  have h : swapsWith (.ListComp elt gs scope pos) (some (.Name y py)) l env = pure (env.blockKind == .function && env.kindOf y == some .local && py.line == pos.line && !(scope.names.any fun (n, k) => n == y && (k == .local || k == .cell))) := rfl
  rw [h, hb]
  unfold swB PySem.Env.kindOf
  rfl
def augO : Operator → Option Op
  | .Add => some .add
  | .Sub => some .sub
  | _ => none
theorem augO_ok {op : Operator} {o : Op} (h : augO op = some o) : (op = .Add ∧ o = .add) ∨ (op = .Sub ∧ o = .sub) := by
  cases op <;> cases h
  · exact .inl ⟨rfl, rfl⟩
  · exact .inr ⟨rfl, rfl⟩

variable (g : GT)
/-- an exception class by its name -/
def excK (c : CK) (x : PySem.Str) : Option Nat := if glK c.sc x && !odd x then match g.gl.lookup x with
    | some (.cls k) => some k
    | _ => none
  else none
/-- a test of the caught exception n -/
def hxOf (c : CK) (n : PySem.Str) : Nat → Expr → Option HX
  | 0, _ => none
  | f + 1, e => match e with
    | .UnaryOp .Not a _ => (hxOf c n f a).map .not
    | .BoolOp .Or (a :: r) _ => hxOr c n f a r
    | .Call (.Name x _) [.Name m _, .Name k _] [] _ => if x == Str.ofString "isinstance" && m == n && bltK g c x then (excK g c k).map .isE else none
    | .Compare (.Attribute (.Name m _) l _) [.NotEq] [.Name y _] _ => if m == n && l == Str.ofString "line" then (slotR c y).map .lineNe else none
    | _ => none
where
  hxOr (c : CK) (n : PySem.Str) : Nat → Expr → List Expr → Option HX
  | 0, _, _ => none
  | f + 1, a, r => match r with
    | [] => hxOf c n f a
    | b :: r' => match hxOf c n f a, hxOr c n f b r' with
      | some t, some u => some (.or t u)
      | _, _ => none
def hrOf (n : PySem.Str) (e : Expr) : Option HR := match e with
  | .Attribute (.Name m _) l _ => if m == n && l == Str.ofString "line" then some .line else none
  | e => (cstR e).map fun q => .val q.2
def hsOf (c : CK) (n : PySem.Str) (f : Nat) : List Stmt → Option (List (HX × HR) × HR)
  | [.Return (some e) _] => (hrOf n e).map fun r => ([], r)
  | .If q [.Return (some e) _] [] _ :: rest => match hxOf g c n f q, hrOf n e, hsOf c n f rest with
    | some t, some r, some (ts, last) => some ((t, r) :: ts, last)
    | _, _, _ => none
  | _ => none
/-- an except suite: what is returned -/
def cH (c : CK) : List Stmt → List S
  | [.Return (some e) _] => match e with
    | .Name x _ => match slotR c x with
      | some i => [.ret (.var i)]
      | none => [.stop]
    | e => match cstR e with
      | some (m, _) => [.ret m]
      | none => [.stop]
  | _ => [.stop]
mutual
def cS : Nat → CK → Stmt → S
  | 0, _, _ => .stop
  | n + 1, c, st => match st with
    | .Expr (.Constant (.str _) _ _) _ => .pass
    | .Expr e _ => if notComp e then .expr (cE g n c e) else .stop
    | .Return (some e) _ => .ret (cE g n c e)
    | .Return none _ => .retN
    | .If q a b _ => .ife (cT g n c q) (cB n c a) (cB n c b)
    | .Assign [.Name x py] e spos => match slotW c x with
      | some i => if notComp e then .asg (.name i) (cE g n c e) else match e with
        | .ListComp elt [⟨tg, iter, ifs, 0⟩] scope pos => if swB c.sc scope x py pos then .asg (.name i) (cC g n c elt tg iter ifs scope) else .asg (.name i) (cE g n c e)
        | _ => .stop
      | none => .stop
    | .Assign [.Tuple ts _ _] e _ => match slotsW c ts with
      | some is => if notTup e then .asg (.tup is) (cE g n c e) else .stop
      | none => .stop
    | .AugAssign (.Name x _) op e _ => match slotW c x, augO op with
      | some i, some o => .augN i o (cE g n c e)
      | _, _ => .stop
    | .While q body [] _ => .whl (cT g n c q) (cB n c body)
    | .For tg iter body [] _ => match tgOf c tg with
      | some t => if notSet iter then .loop t (cI g n c iter).1 (cI g n c iter).2 (cB n c body) else .stop
      | none => .stop
    | .Raise (some (.Call (.Name x _) args [] _)) none _ => match excK g c x with
      | some k => match g.exn k, args with
        | some false, [] => .raise k []
        | some false, [e] => if notStar e then .raise k [cE g n c e] else .stop
        | some true, [e] => if notStar e then .raise k [cE g n c e] else .stop
        | _, _ => .stop
      | none => .stop
    | .Try body [.ExceptHandler (some (.Name x _)) none (b0 :: suite) _] [] [] _ => match excK g c x with
      | some k => .try_ (cB n c body) k (cH c (b0 :: suite))
      | none => .stop
    | .Try body [.ExceptHandler (some (.Name x _)) (some m) (b0 :: suite) _] [] [] _ => match excK g c x, slotR c m with
      | some k, some i => if g.xi && c.sc.names.lookup m == some .local then match hsOf g c m 60 (b0 :: suite) with
          | some (ts, last) => .tryAs (cB n c body) k i ts last
          | none => .stop
        else .stop
      | _, _ => .stop
    | .Pass _ => .pass
    | .Break _ => .brk
    | .Continue _ => .cont
    | _ => .stop
def cB : Nat → CK → List Stmt → List S
  | 0, _, _ => [.stop]
  | _ + 1, _, [] => []
  | n + 1, c, s :: r => cS n c s :: cB n c r
end

/-- a def's own context -/
structure Bdy (X : Cx) : Prop where
  kind : X.env.scope.kind = .function
  stk : X.stack = X.env :: X.outer
  frm : X.env.frame = some X.env.locals
structure SAll (F : Fns) (lv n : Nat) : Prop where
  s : ∀ (X : Cx) (L : Lk) (W : WX) (c : CK), CkOk X c → Bdy X → Gd X L W (lv + 2) → Fx X L F g (lv + 1) → ∀ st, PS X st (tS L F W (cS g n c st))
  b : ∀ (X : Cx) (L : Lk) (W : WX) (c : CK), CkOk X c → Bdy X → Gd X L W (lv + 2) → Fx X L F g (lv + 1) → ∀ st, PSs X st (tSs L F W (cB g n c st))
variable {g}
section
variable {X : Cx} {L : Lk} {F : Fns} {lv : Nat} {c : CK} {a : Addr} {i : Nat} {x : Exc} {d : Option Addr} {oe : Obj} {pn : List (Addr × Obj)} {n : PySem.Str}
theorem excK_ok (O : CkOk X c) (T : Fx X L F g lv) {y : PySem.Str} {k : Nat} (h : excK g c y = some k) : Gl X y ∧ X.mg y = some (.ref (L.ca k)) ∧ (y == ("__debug__" : PySem.Str)) = false := by
  unfold excK at h
  split at h
  · rename_i q
    simp only [Bool.and_eq_true, Bool.not_eq_true'] at q
    split at h
    · rename_i k' e
      cases h
      exact ⟨gl_X O q.1, T.cls _ _ e, (odd_of q.2).1⟩
    · cases h
  · cases h
/-- what the suite's context is -/
structure HxOk (X : Cx) (L : Lk) (c : CK) (n : PySem.Str) (i : Nat) : Prop where
  at_ : X.N[i]? = some n
  vis : Vis X.env.scope n
  d1 : (n == ("__debug__" : PySem.Str)) = false
  d2 : (n == ("__classdict__" : PySem.Str)) = false
mutual
theorem hxOf_ok (O : CkOk X c) (hK : X.K = L.K) (hu : X.A.units + 200 < cLine) (T : Fx X L F g lv) (xi : L.T.xi = true) (N : HxOk X L c n i) (hz : Zc (.ref (L.ca x.c)) d oe) (hf : ∃ vs, oe.data = .fields vs) :
    ∀ (f : Nat) (e : Expr) (t : HX), hxOf g c n f e = some t → PT (X.suite a ((a, oe) :: pn)) e (tHX L a i x d t)
  | 0, _, _, h => by unfold hxOf at h; cases h
  | f + 1, e, t, h => by
    unfold hxOf at h
    split at h
    · obtain ⟨u, eu, rfl⟩ := Option.map_eq_some_iff.mp h
      exact hx_not (hxOf_ok O hK hu T xi N hz hf f _ _ eu)
    · exact (hxOr_ok O hK hu T xi N hz hf f _ _ _ _ h).pt
    · split at h
      · rename_i q
        simp only [Bool.and_eq_true, beq_iff_eq, bltK] at q
        obtain ⟨⟨q1, q2⟩, q3, q4⟩ := q
        subst q1 q2
        obtain ⟨k, ek, rfl⟩ := Option.map_eq_some_iff.mp h
        obtain ⟨z1, z2, z3⟩ := excK_ok O T ek
        exact hx_isi hK T.lf xi hz hf N.at_ N.vis N.d1 N.d2 (gl_X O q3) (T.blt _ q4) z1 z2 z3
      · cases h
    · split at h
      · rename_i q
        simp only [Bool.and_eq_true, beq_iff_eq] at q
        obtain ⟨q1, q2⟩ := q
        subst q1 q2
        obtain ⟨j, ej, rfl⟩ := Option.map_eq_some_iff.mp h
        obtain ⟨y1, y2, y3, y4⟩ := slotR_ok O ej
        exact hx_ne hK hu T.lf xi hz hf N.at_ N.vis N.d1 N.d2 y1 y2 y3 y4
      · cases h
    · cases h
theorem hxOr_ok (O : CkOk X c) (hK : X.K = L.K) (hu : X.A.units + 200 < cLine) (T : Fx X L F g lv) (xi : L.T.xi = true) (N : HxOk X L c n i) (hz : Zc (.ref (L.ca x.c)) d oe) (hf : ∃ vs, oe.data = .fields vs) :
    ∀ (f : Nat) (e : Expr) (r : List Expr) (pos : Pos) (t : HX), hxOf.hxOr g c n f e r = some t → PW (X.suite a ((a, oe) :: pn)) (.BoolOp .Or (e :: r) pos) (tHX L a i x d t)
  | 0, _, _, _, _, h => by unfold hxOf.hxOr at h; cases h
  | f + 1, e, [], pos, t, h => by
    unfold hxOf.hxOr at h
    exact hx_or1 (hxOf_ok O hK hu T xi N hz hf f _ _ h)
  | f + 1, e, b :: r, pos, t, h => by
    unfold hxOf.hxOr at h
    simp only at h
    split at h
    · rename_i t1 t2 e1 e2
      cases h
      exact hx_or (hxOf_ok O hK hu T xi N hz hf f _ _ e1) (hxOr_ok O hK hu T xi N hz hf f _ _ _ _ e2)
    · cases h
end
theorem hrOf_ok (T : Fx X L F g lv) (xi : L.T.xi = true) (N : HxOk X L c n i) (hz : Zc (.ref (L.ca x.c)) d oe) (hf : ∃ vs, oe.data = .fields vs) {e : Expr} {r : HR} (h : hrOf n e = some r) : PE (X.suite a ((a, oe) :: pn)) e (tHr L a i x d r) := by
  unfold hrOf at h
  split at h
  · split at h
    · rename_i q
      simp only [Bool.and_eq_true, beq_iff_eq] at q
      obtain ⟨q1, q2⟩ := q
      subst q1 q2
      cases h
      exact hr_line T.lf xi hz hf N.at_ N.vis N.d1 N.d2
    · cases h
  · obtain ⟨⟨m, v⟩, em, rfl⟩ := Option.map_eq_some_iff.mp h
    obtain ⟨r1, r2⟩ := cstR_ok (X := X.suite a ((a, oe) :: pn)) (L := L) (F := F) (W := noW) em
    exact hr_val r1 r2
theorem hsOf_ok (O : CkOk X c) (hK : X.K = L.K) (hu : X.A.units + 200 < cLine) (T : Fx X L F g lv) (xi : L.T.xi = true) (N : HxOk X L c n i) (hz : Zc (.ref (L.ca x.c)) d oe) (hf : ∃ vs, oe.data = .fields vs) (f : Nat) :
    ∀ (st : List Stmt) (ts : List (HX × HR)) (last : HR), hsOf g c n f st = some (ts, last) → PSs (X.suite a ((a, oe) :: pn)) st (tHs L a i x d ts last)
  | [], _, _, h => by unfold hsOf at h; cases h
  | s :: r, ts, last, h => by
    unfold hsOf at h
    split at h
    · rename_i z
      obtain ⟨u, eu, e2⟩ := Option.map_eq_some_iff.mp h
      cases e2
      cases z
      exact hs_last (hrOf_ok T xi N hz hf eu)
    · rename_i z
      cases z
      split at h
      · rename_i t1 r1 ts1 l1 e1 e2 e3
        cases h
        exact hs_if (hxOf_ok O hK hu T xi N hz hf f _ _ e1) (hrOf_ok T xi N hz hf e2) (hsOf_ok O hK hu T xi N hz hf f _ _ _ e3)
      · cases h
    · cases h
theorem s_badH {X' : Cx} {W : WX} {st : List Stmt} {ms : List S} : PSs X' st (tSs L F W (.stop :: ms)) := ⟨fun pins s σ H D I ⟨β, h, ρ, S, R, p⟩ => by
  rw [exB_cons] at p; unfold exS at p; exact p.elim⟩
theorem cH_ok (O : CkOk X c) (st : List Stmt) : PSs (X.suite a ((a, oe) :: pn)) st (tSs L F noW (cH c st)) := by
  unfold cH
  split
  · split
    · split
      · rename_i j hj
        obtain ⟨y1, y2, y3, y4⟩ := slotR_ok O hj
        exact s_scons (s_ret (s_var (X := X.suite a ((a, oe) :: pn)) y1 y2 y3 y4)) s_snil
      · exact s_badH
    · split
      · rename_i m v em
        obtain ⟨r1, r2⟩ := cstR_ok (X := X.suite a ((a, oe) :: pn)) (L := L) (F := F) (W := noW) em
        exact s_scons (s_ret r1) s_snil
      · exact s_badH
  · exact s_badH
end
theorem s_badB {X : Cx} {L : Lk} {F : Fns} {W : WX} {st : List Stmt} {ms : List S} : PSs X st (tSs L F W (.stop :: ms)) := ⟨fun pins s σ H D I ⟨β, h, ρ, S, R, p⟩ => by
  rw [exB_cons] at p; unfold exS at p; exact p.elim⟩
theorem s_step {X : Cx} {L : Lk} {F : Fns} {W : WX} {lv n : Nat} {c : CK} (A : SAll g F lv n) (O : CkOk X c) (K : Bdy X) (G : Gd X L W (lv + 2)) (T : Fx X L F g (lv + 1)) (st : Stmt) : PS X st (tS L F W (cS g (n + 1) c st)) := by
  have C := c_all F g (lv + 1) n
  have ih := fun e => C.e X L W c O G T e
  unfold cS
  split
  · exact s_doc
  · split
    · rename_i h; exact s_expr h (ih _)
    · exact s_stop
  · exact s_ret (ih _)
  · exact s_retN
  · exact s_if (C.t X L W c O G T _) (A.b X L W c O K G T _) (A.b X L W c O K G T _)
  · rename_i x py e spos
    split
    · rename_i i hi
      split
      · rename_i hn
        exact s_set G.nd (slotW_ok O hi) (sw_no hn) (ih _)
      · split
        · rename_i elt tg iter ifs scope pos hnc
          split
          · rename_i hs
            have sx := slotW_ok O hi
            rcases C.cc X L W c O G T elt tg iter ifs scope with h | ⟨new, me, t, w, it, mifs, own, h, h1, h2, h3, h4, h5, h6, h7, h8⟩
            · rw [h]
              refine ⟨fun pins s σ H D I ⟨β, h', ρ, S, R, p⟩ => ?_⟩
              unfold exS evE at p
              exact p.elim
            · rw [h]
              have hl : X.env.scope.names.lookup x = some .local := by
                unfold swB at hs
                simp only [Bool.and_eq_true, beq_iff_eq] at hs
                rw [O.sc]; exact hs.1.1
              refine s_setLc G.calm G.nd h1 h2 h3 sx.at_ hl ?_ h4 h5 h6 h7 h8
              rw [swB_eq K.kind, O.sc, hs]
          · rename_i hs
            refine s_set G.nd (slotW_ok O hi) ?_ (ih _)
            rw [swB_eq K.kind, O.sc]
            rw [Bool.not_eq_true] at hs
            rw [hs]
        · exact s_stop
    · exact s_stop
  · split
    · rename_i is his
      split
      · rename_i hn
        exact s_setT G.hK G.calm G.nd (slotsW_ok O his) hn (ih _)
      · exact s_stop
    · exact s_stop
  · split
    · rename_i i o hi ho
      exact s_augN G.nd (slotW_ok O hi) (augO_ok ho) (ih _)
    · exact s_stop
  · exact s_whl G.pass (C.t X L W c O G T _) (A.b X L W c O K G T _)
  · split
    · rename_i t ht
      split
      · rename_i hn
        obtain ⟨w1, w2⟩ := C.i X L W c O G T _ _
        exact s_for G.pass G.calm w2 hn w1 (tgOf_ok O G ht) (A.b X L W c O K G T _)
      · exact s_stop
    · exact s_stop
  · split
    · rename_i k hk
      obtain ⟨z1, z2, z3⟩ := excK_ok O T hk
      split
      · rename_i e1
        exact s_raise0 G T.lf z1 z2 z3 (by rw [← T.exn]; exact e1)
      · rename_i e e1
        split
        · rename_i hs
          exact s_raise1 G T.lf z1 z2 z3 (by rw [← T.exn]; exact e1) hs (ih _)
        · exact s_stop
      · rename_i e e1
        split
        · rename_i hs
          exact s_raiseL G T.lf z1 z2 z3 (by rw [← T.exn]; exact e1) hs (ih _)
        · exact s_stop
      · exact s_stop
    · exact s_stop
  · split
    · rename_i k hk
      obtain ⟨z1, z2, z3⟩ := excK_ok O T hk
      exact s_try T.lf G.tk K.stk K.frm z1 z2 z3 (fun W' pn xe tk pa => A.b (X.tr pn xe) L W' c ⟨O.N, O.sc, O.st⟩ ⟨K.kind, K.stk, K.frm⟩ ⟨G.hK, G.calm, G.nd, G.hr, tk, pa⟩ ⟨T.lf, T.fn, T.cls, T.cst, T.blt, T.fld, T.pl, T.kw, T.init, T.isC, T.exn, T.xi, T.val, T.meth, T.prop⟩ _) fun a oe pn => cH_ok O _
    · exact s_stop
  · split
    · rename_i k i hk hi
      obtain ⟨z1, z2, z3⟩ := excK_ok O T hk
      obtain ⟨y1, y2, y3, y4⟩ := slotR_ok O hi
      split
      · rename_i q
        simp only [Bool.and_eq_true, beq_iff_eq] at q
        have xi : L.T.xi = true := by rw [← T.xi]; exact q.1
        split
        · rename_i ts last e
          refine s_tryAs T.lf G.tk K.stk K.frm G.nd y1 (by show X.env.scope.names.lookup _ = _; rw [O.sc]; exact q.2) z1 z2 z3 (fun W' pn xe tk pa => A.b (X.tr pn xe) L W' c ⟨O.N, O.sc, O.st⟩ ⟨K.kind, K.stk, K.frm⟩ ⟨G.hK, G.calm, G.nd, G.hr, tk, pa⟩ ⟨T.lf, T.fn, T.cls, T.cst, T.blt, T.fld, T.pl, T.kw, T.init, T.isC, T.exn, T.xi, T.val, T.meth, T.prop⟩ _) fun a oe d x pn hz hf =>
            hsOf_ok O G.hK G.hu T xi ⟨y1, y2, y3, y4⟩ hz hf 60 _ _ _ e
        · exact s_stop
      · exact s_stop
    · exact s_stop
  · exact s_pass
  · exact s_brk
  · exact s_cont
  · exact s_stop
theorem b_step {X : Cx} {L : Lk} {F : Fns} {W : WX} {lv n : Nat} {c : CK} (A : SAll g F lv n) (O : CkOk X c) (K : Bdy X) (G : Gd X L W (lv + 2)) (T : Fx X L F g (lv + 1)) (st : List Stmt) : PSs X st (tSs L F W (cB g (n + 1) c st)) := by
  cases st with
  | nil => unfold cB; exact s_snil
  | cons s r => unfold cB; exact s_scons (A.s X L W c O K G T s) (A.b X L W c O K G T r)
theorem s_all (F : Fns) (lv : Nat) : ∀ n, SAll g F lv n
  | 0 => ⟨fun X L W c _ _ _ _ st => by unfold cS; exact s_stop, fun X L W c _ _ _ _ st => by unfold cB; exact s_badB⟩
  | n + 1 => ⟨fun X L W c O K G T st => s_step (s_all F lv n) O K G T st, fun X L W c O K G T st => b_step (s_all F lv n) O K G T st⟩

/-! ### a def -/
/-- the context of a def's names -/
def ckOf (N : List PySem.Str) (sc : Scope) (nl : Bool) : CK := ⟨N, sc, sc.names, nl⟩
/-- a def of the text: its names, its body in MP -/
structure DefM (K : PySem.W.Frag) (L : Lk) (g : GT) (k : Nat) : Prop where
  ex : ∃ (x qual : PySem.Str) (params : Arguments) (body : List Stmt) (scope : Scope) (dvs : List V) (kws : List (PySem.Str × V)) (fd : FuncData) (N ps : List PySem.Str) (nl : Bool) (n : Nat) (m : FD),
    FunD K x qual params body scope dvs kws (L.fa k) fd ∧ FnScope N ps scope ∧ L.T.fns k = some m ∧ m.np = ps.length ∧ m.ns = N.length ∧ m.body = cB g n (ckOf N scope nl) body
theorem start_er {L : Lk} {β : Bt} {H : Hp} {N : List PySem.Str} {vs : List V} {args : List Val} (r : VRs L β H vs args) (hl : args.length ≤ N.length) : ER L β H (L2.start N vs) (args.map some ++ List.replicate (N.length - args.length) none) := by
  refine ⟨?_, fun i x e => ?_⟩
  · unfold L2.start
    simp only [List.length_append, List.length_map, List.length_replicate, r.length]
  · by_cases hi : i < args.length
    · rw [List.getElem?_append_left (by simpa using hi), List.getElem?_map] at e
      obtain ⟨a, ea, e2⟩ := Option.map_eq_some_iff.mp e
      cases e2
      obtain ⟨v, ev, rv⟩ := r.get ea
      refine ⟨v, ?_, rv⟩
      unfold L2.start
      rw [List.getElem?_append_left (by rw [List.length_map, r.length]; exact hi), List.getElem?_map, ev]
      rfl
    · rw [List.getElem?_append_right (by simpa using hi), List.getElem?_replicate] at e
      split at e <;> cases e
theorem fn_step {P : Program} {w : World} {K : PySem.W.Frag} {mg : PySem.Str → Option Value} {base : PySem.Heap} {L : Lk} {d lv k : Nat} {x qual : PySem.Str} {params : Arguments} {body : List Stmt} {scope : Scope} {dvs : List V} {kws : List (PySem.Str × V)} {fd : FuncData} {N ps : List PySem.Str} {nl : Bool} {n : Nat} {m : FD}
    (hK : K = L.K) (D : FunD K x qual params body scope dvs kws (L.fa k) fd) (Sc : FnScope N ps scope) (hf : L.T.fns k = some m) (hnp : m.np = ps.length) (hns : m.ns = N.length) (hb : m.body = cB g n (ckOf N scope nl) body)
    (T : ∀ (X : Cx), X.prog = P → X.w = w → X.K = K → X.mg = mg → X.base = base → Fx X L (callF L.T d) g (lv + 1)) :
    FnOk P w K mg base (L2.CX P w) (lv + 3) (L.fa k) fd ps (spF L (callF L.T (d + 1)) k) := by
  have hlen : ∀ {pv : Addr → Prop} {β : Bt} {H : Hp} {h : Heap} {args : List Val} {Q : VK} {E : XK}, Pst (L.pvs pv) β H (callF L.T (d + 1) k args h) Q E → args.length = ps.length := fun {pv β H h args Q E} p => by
    simp only [callF, hf] at p
    split at p
    · rename_i hl; rw [hl, hnp]
    · exact p.elim
  have hNp : ps.length ≤ N.length := by
    have := congrArg List.length Sc.pre
    rw [List.length_take] at this
    omega
  refine D.ok Sc (fun vs H Q E ⟨pv, β, h, args, S, r, p⟩ => by rw [r.length]; exact hlen p) fun cdv A outer s H vs Q E hr ⟨pv, β, h, args, S, r, p⟩ => ?_
  have hal := hlen p
  let X := cxOf (L2.CX P w) P w K mg base N qual scope (L.fa k) cdv A outer s H E
  have O : CkOk X (ckOf N scope nl) := ⟨rfl, rfl, fun y hy => ⟨hy, .inl rfl⟩⟩
  have G : Gd X (L.pvs pv) (fun cls d _ H => E cls d H) (lv + 2) := ⟨hK, rfl, Sc.nd, hr, takes_of (X := X) rfl rfl rfl rfl, passes_of (X := X) rfl⟩
  have TX : Fx X (L.pvs pv) (callF L.T d) g (lv + 1) := (T X rfl rfl rfl rfl rfl).pvs pv
  refine ⟨_, (s_all (callF L.T d) lv n).b X (L.pvs pv) _ _ O ⟨Sc.kind, rfl, rfl⟩ G TX body, β, h, args.map some ++ List.replicate (N.length - args.length) none, S, start_er r (by rw [hal]; exact hNp), ?_⟩
  rw [callF_succ L.T d k args h m hf (by rw [hal, hnp]), hb, hns, hnp, ← hal] at p
  have p : Pst (L.pvs pv) β H (retO (exB L.T (callF L.T d) (cB g n (ckOf N scope nl) body) (args.map some ++ List.replicate (N.length - args.length) none) h)) Q E := by
    split at p
    · exact p.folded S
    · exact p
  cases eo : exB L.T (callF L.T d) (cB g n (ckOf N scope nl) body) (args.map some ++ List.replicate (N.length - args.length) none) h with
  | nx ρ h' => rw [eo] at p; exact fun σ' β' H' x s _ => p _ β' H' x s .non
  | rt v h' => rw [eo] at p; exact p
  | bk ρ h' => rw [eo] at p; exact p.elim
  | ct ρ h' => rw [eo] at p; exact p.elim
  | exc x ρ h' => rw [eo] at p; exact fun c d σ' β' H' x s _ e => p c d β' H' x s e
  | bad => rw [eo] at p; exact p.elim
end MP

/-! Mp3: a whole text -/
namespace MP
open PySem PySem.Spec PyProof.Rows L2

/-- a def of the text: where it stands, its slots, its parameters, how it may be called -/
structure DM where
  dd : He.DefD
  N : List PySem.Str
  ps : List PySem.Str
  nl : Bool
  plain : Bool
  /-- what it lays is let go at its end -/
  fz : Bool
  kwb : List ((Nat × List PySem.Str) × List Bd)
abbrev DM.FunP (K : PySem.W.Frag) (d : DM) (fd : FuncData) : Prop := FunD K d.dd.name d.dd.qual d.dd.params d.dd.body d.dd.scope (d.dd.dvs K) (d.dd.kws K) (He.fAd K d.dd.at_) fd
/-- how its arguments are bound -/
structure DM.Ok (d : DM) : Prop where
  plain : d.plain = true → ∀ K fd, d.FunP K fd → Binds K fd d.ps []
  kw : ∀ n ks b, d.kwb.lookup (n, ks) = some b → ∀ K fd, d.FunP K fd → ∃ g gV, KBn K fd d.ps n ks g gV ∧
    ∀ (L : Lk) β H h vs zs args us, Sim L β H h → VRs L β H (vs ++ zs) args → vs.length = n → zs.length = ks.length → bindBd args b = some us → VRs L β H (gV vs zs) us
  sc : C8.scC d.N d.ps d.dd.scope = true
def AllD : List DM → Prop
  | [] => True
  | d :: r => d.Ok ∧ AllD r
theorem AllD.at : ∀ {l : List DM} {k : Nat} {d : DM}, AllD l → l[k]? = some d → d.Ok
  | [], _, _, _, e => by simp at e
  | d :: r, 0, x, h, e => by simp at e; subst e; exact h.1
  | d :: r, k + 1, x, h, e => AllD.at (l := r) (k := k) h.2 (by simpa using e)
/-- names that are numbers -/
def nmOf (l : List PySem.Str) (i : Nat) : PySem.Str := match l[i]? with
  | some s => s
  | none => ⟨#[0, i]⟩
theorem nmOf_inj {l : List PySem.Str} (h : l.Nodup) (h2 : l.all (fun s => s.cps[0]? != some 0) = true) (i j : Nat) (e : nmOf l i = nmOf l j) : i = j := by
  unfold nmOf at e
  have n0 : ∀ {k : Nat} {s : PySem.Str} {m : Nat}, l[k]? = some s → s ≠ ⟨#[0, m]⟩ := fun {k s m} q z => by
    have := List.all_eq_true.mp h2 s (List.mem_of_getElem? q)
    rw [z] at this
    simp at this
  cases e1 : l[i]? with
  | some s =>
    cases e2 : l[j]? with
    | some t =>
      rw [e1, e2] at e
      have e : s = t := e
      subst e
      obtain ⟨hi, ei⟩ := List.getElem?_eq_some_iff.mp e1
      obtain ⟨hj, ej⟩ := List.getElem?_eq_some_iff.mp e2
      have pw := List.pairwise_iff_getElem.mp h
      rcases Nat.lt_trichotomy i j with q | q | q
      · exact absurd (ei.trans ej.symm) (pw i j hi hj q)
      · exact q
      · exact absurd (ej.trans ei.symm) (pw j i hj hi q)
    | none => rw [e1, e2] at e; exact absurd e (n0 e1)
  | none =>
    cases e2 : l[j]? with
    | some t => rw [e1, e2] at e; exact absurd e.symm (n0 e2)
    | none =>
      rw [e1, e2] at e
      have e : (⟨#[0, i]⟩ : PySem.Str) = ⟨#[0, j]⟩ := e
      simpa using e
def fldOf : Nat → List PySem.Str → List (PySem.Str × Nat)
  | _, [] => []
  | i, x :: r => (x, i) :: fldOf (i + 1) r
theorem fldOf_at : ∀ {l : List PySem.Str} {i j : Nat} {x : PySem.Str}, (fldOf i l).lookup x = some j → i ≤ j ∧ l[j - i]? = some x
  | [], _, _, _, h => by cases h
  | y :: r, i, j, x, h => by
    simp only [fldOf, List.lookup_cons] at h
    split at h
    · rename_i e
      cases h
      simp only [beq_iff_eq] at e
      subst e
      exact ⟨Nat.le_refl _, by simp⟩
    · obtain ⟨a, b⟩ := fldOf_at h
      refine ⟨by omega, ?_⟩
      have : j - i = (j - (i + 1)) + 1 := by omega
      rw [this]
      simpa using b

structure TX where
  dm : List DM
  gl : List (PySem.Str × GV)
  fld : List PySem.Str
  blt : List PySem.Str
  cls : List PySem.Str
  init : Nat → Option Nat
  isC : Nat → Bool
  meth : Nat → Nat → Option Nat
  prop : Nat → Nat → Option Nat
  fo : Nat → Nat → Bool
  sub : Nat → Nat → Option Bool
  exn : Nat → Option Bool
  xi : Bool
  val : Nat → Bool
def TX.g (t : TX) : GT where
  gl := t.gl
  fld := fldOf 0 t.fld
  pl := fun k => (t.dm[k]?).any (·.plain)
  kw := fun k n ks => (t.dm[k]?).bind fun d => d.kwb.lookup (n, ks)
  init := t.init
  isC := t.isC
  exn := t.exn
  xi := t.xi
  blt := t.blt
/-- a def's body -/
def TX.fd (t : TX) (d : DM) : FD := ⟨d.ps.length, d.N.length, cB t.g 300 (ckOf d.N d.dd.scope d.nl) d.dd.body⟩
def TX.T (t : TX) : Tb where
  fns := fun k => (t.dm[k]?).map t.fd
  meth := t.meth
  prop := t.prop
  init := t.init
  isC := t.isC
  val := t.val
  fo := t.fo
  sub := t.sub
  exn := t.exn
  xi := t.xi
  fz := fun k => (t.dm[k]?).any (·.fz)
def TX.L (t : TX) (K : PySem.W.Frag) : Lk where
  K := K
  fa := fun k => match t.dm[k]? with
    | some d => He.fAd K d.dd.at_
    | none => 0
  ca := fun c => match t.cls[c]? with
    | some x => He.ga K x
    | none => 0
  nm := nmOf t.fld
  T := t.T
  pv := fun _ => False
/-- what a global stands for -/
def GvOk (t : TX) (K : PySem.W.Frag) (mg : PySem.Str → Option Value) (x : PySem.Str) : GV → Prop
  | .fn k => mg x = some (.ref ((t.L K).fa k))
  | .cls c => mg x = some (.ref ((t.L K).ca c))
  | .cst v => ∃ u, mg x = some u ∧ ∀ pv, Cst ((t.L K).pvs pv) u v
def AllG (t : TX) (K : PySem.W.Frag) (mg : PySem.Str → Option Value) : List (PySem.Str × GV) → Prop
  | [] => True
  | (x, v) :: r => GvOk t K mg x v ∧ AllG t K mg r
theorem AllG.at {t : TX} {K : PySem.W.Frag} {mg : PySem.Str → Option Value} : ∀ {l : List (PySem.Str × GV)} {x : PySem.Str} {v : GV}, AllG t K mg l → l.lookup x = some v → GvOk t K mg x v
  | [], _, _, _, e => by cases e
  | (y, u) :: r, x, v, h, e => by
    rw [List.lookup_cons] at e
    split at e
    · rename_i q
      cases e
      simp only [beq_iff_eq] at q
      subst q
      exact h.1
    · exact AllG.at h.2 e
def AllB (mg : PySem.Str → Option Value) : List PySem.Str → Prop
  | [] => True
  | x :: r => mg x = none ∧ AllB mg r
theorem AllB.at {mg : PySem.Str → Option Value} : ∀ {l : List PySem.Str} {x : PySem.Str}, AllB mg l → l.contains x = true → mg x = none
  | [], _, _, e => by cases e
  | y :: r, x, h, e => by
    rw [List.contains_cons, Bool.or_eq_true] at e
    rcases e with e | e
    · simp only [beq_iff_eq] at e
      subst e
      exact h.1
    · exact AllB.at h.2 e
structure TxOk (t : TX) (K : PySem.W.Frag) (mg : PySem.Str → Option Value) : Prop where
  lf : Lf K (t.L K)
  gl : AllG t K mg t.gl
  blt : AllB mg t.blt
  dm : AllD t.dm
  fd : ∀ (k : Nat) (d : DM), t.dm[k]? = some d → ∃ fd, d.FunP K fd
  val : ∀ k, t.val k = true → t.g.pl k = true
  meth : ∀ c m k, t.isC c = true → t.meth c m = some k → t.g.pl k = true
  prop : ∀ c m k, t.isC c = true → t.prop c m = some k → t.g.pl k = true

theorem cst_int {L : Lk} {i : Int} {u : Value} {tk : Tok} (e : u = .int i tk) : Cst L u (.int i) := ⟨.int i, ⟨tk, e⟩, fun _ _ _ _ => .int i⟩
theorem cst_str {L : Lk} {z : PySem.Str} {u : Value} {tk : Tok} (e : u = .str z tk) : Cst L u (.str z.cps.toList) := ⟨.str z, ⟨tk, e⟩, fun β H _ _ => by
  have := VR.str (L := L) (β := β) (H := H) z.cps.toList
  rwa [show (⟨z.cps.toList.toArray⟩ : PySem.Str) = z by simp] at this⟩

theorem tx_fn {t : TX} {P : Program} {w : World} {K : PySem.W.Frag} {mg : PySem.Str → Option Value} {base : PySem.Heap} (O : TxOk t K mg) (d : Nat)
    (ih : ∀ (X : Cx), X.prog = P → X.w = w → X.K = K → X.mg = mg → X.base = base → Fx X (t.L K) (callF t.T d) t.g (2 * d + 1)) (k : Nat) (m : DM) (hm : t.dm[k]? = some m) :
    ∃ fd, m.FunP K fd ∧ FnOk P w K mg base (L2.CX P w) (2 * d + 3) ((t.L K).fa k) fd m.ps (spF (t.L K) (callF t.T (d + 1)) k) := by
  obtain ⟨fd, F⟩ := O.fd k m hm
  have hfa : (t.L K).fa k = He.fAd K m.dd.at_ := by show (match t.dm[k]? with | some d => He.fAd K d.dd.at_ | none => 0) = _; rw [hm]
  refine ⟨fd, F, ?_⟩
  have F' : FunD K m.dd.name m.dd.qual m.dd.params m.dd.body m.dd.scope (m.dd.dvs K) (m.dd.kws K) ((t.L K).fa k) fd := by rw [hfa]; exact F
  exact fn_step (g := t.g) (L := t.L K) (d := d) (lv := 2 * d) rfl F' (C8.fnScope_by (O.dm.at hm).sc) (m := t.fd m) (by show (t.dm[k]?).map t.fd = _; rw [hm]; rfl) rfl rfl rfl ih
theorem tx_fx {t : TX} {K : PySem.W.Frag} {mg : PySem.Str → Option Value} (O : TxOk t K mg) {X : Cx} {F : Fns} {lv : Nat} (eK : X.K = K) (eM : X.mg = mg)
    (H : ∀ (k : Nat) (m : DM), t.dm[k]? = some m → ∃ fd, m.FunP K fd ∧ FnOk X.prog X.w X.K X.mg X.base (L2.CX X.prog X.w) lv ((t.L K).fa k) fd m.ps (spF (t.L K) F k)) : Fx X (t.L K) F t.g lv := by
  subst eK eM
  have kp : ∀ {k : Nat} {m : DM} {fd : FuncData}, t.dm[k]? = some m → m.FunP X.K fd → PySem.W.keepIn X.K (.ref ((t.L X.K).fa k)) = true := fun {k m fd} hm F => by
    have hfa : (t.L X.K).fa k = He.fAd X.K m.dd.at_ := by show (match t.dm[k]? with | some d => He.fAd X.K d.dd.at_ | none => 0) = _; rw [hm]
    rw [hfa]; exact F.kp
  refine ⟨O.lf, fun x k e => O.gl.at e, fun x k e => O.gl.at e, fun x v e => O.gl.at e, fun x e => O.blt.at e, fun x i e => ?_, fun k e => ?_, fun k n ks b e => ?_, fun _ => rfl, fun _ => rfl, fun _ => rfl, rfl, O.val, O.meth, O.prop⟩
  · obtain ⟨_, h⟩ := fldOf_at (show (fldOf 0 t.fld).lookup x = some i from e)
    show nmOf t.fld i = x
    unfold nmOf
    rw [Nat.sub_zero] at h
    rw [h]
  · have e : (t.dm[k]?).any (·.plain) = true := e
    cases hm : t.dm[k]? with
    | none => rw [hm] at e; cases e
    | some m =>
      rw [hm] at e
      obtain ⟨fd, F1, F2⟩ := H k m hm
      exact ⟨fd, m.ps, F2, (O.dm.at hm).plain e _ _ F1, kp hm F1⟩
  · have e : ((t.dm[k]?).bind fun d => d.kwb.lookup (n, ks)) = some b := e
    cases hm : t.dm[k]? with
    | none => rw [hm] at e; cases e
    | some m =>
      rw [hm] at e
      obtain ⟨fd, F1, F2⟩ := H k m hm
      obtain ⟨gg, gV, h1, h2⟩ := (O.dm.at hm).kw n ks b e _ _ F1
      exact ⟨fd, m.ps, gg, gV, F2, h1, kp hm F1, fun pv β H h vs zs args us S r l1 l2 eb => h2 _ β H h vs zs args us S r l1 l2 eb⟩
theorem tx_all {t : TX} {P : Program} {w : World} {K : PySem.W.Frag} {mg : PySem.Str → Option Value} {base : PySem.Heap} (O : TxOk t K mg) : ∀ (d : Nat) (X : Cx), X.prog = P → X.w = w → X.K = K → X.mg = mg → X.base = base → Fx X (t.L K) (callF t.T d) t.g (2 * d + 1)
  | 0, X, e1, e2, e3, e4, e5 => tx_fx O e3 e4 fun k m hm => by
    obtain ⟨fd, F⟩ := O.fd k m hm
    exact ⟨fd, F, fun vs H Q E ⟨pv, β, h, args, S, r, p⟩ => p.elim, fun A outer s H args us vs Q E _ _ _ _ ⟨pv, β, h, args', S, r, p⟩ => p.elim⟩
  | d + 1, X, e1, e2, e3, e4, e5 => tx_fx O e3 e4 fun k m hm => by
    subst e1 e2 e3 e4 e5
    exact tx_fn (P := X.prog) (w := X.w) (base := X.base) O d (tx_all O d) k m hm
/-- a law's end: what its def gives -/
theorem tx_law {t : TX} {P : Program} {w : World} {K : PySem.W.Frag} {mg : PySem.Str → Option Value} {base : PySem.Heap} (O : TxOk t K mg) (d k : Nat) (m : DM) (hm : t.dm[k]? = some m) :
    ∃ fd, m.FunP K fd ∧ FnOk P w K mg base (L2.CX P w) (2 * d + 3) (He.fAd K m.dd.at_) fd m.ps (spF (t.L K) (callF t.T (d + 1)) k) := by
  have hfa : (t.L K).fa k = He.fAd K m.dd.at_ := by show (match t.dm[k]? with | some d => He.fAd K d.dd.at_ | none => 0) = _; rw [hm]
  rw [← hfa]
  exact tx_fn O d (tx_all O d) k m hm
theorem law_sp {t : TX} {K : PySem.W.Frag} {F : Fns} {k : Nat} {H : Hp} {a : Addr} {ns : List Int} (hS : SqL K H a (ns.map V.int)) (hl : ∃ h', F k [.arr (ns.map Val.int)] Heap.empty = .ok (.bl true) h') :
    spF (t.L K) F k [.ref a] H (fun v _ => v = .bl true) fun _ _ _ => False := by
  obtain ⟨h', e⟩ := hl
  have vs : ∀ {β : Bt} (ns : List Int), VRs ((t.L K).pvs fun _ => False) β H (ns.map V.int) (ns.map Val.int) := fun {β} ns => by
    induction ns with
    | nil => exact .nil
    | cons n ns ih => exact .cons (.int n) ih
  refine ⟨fun _ => False, fun _ => none, Heap.empty, [.arr (ns.map Val.int)], ⟨(fun r c q => by cases q), (fun r a q => by cases q), (fun r q a h1 _ => by cases h1), fun a (q : False) => q.elim⟩, .cons (.arr ?_ (vs ns)) .nil, ?_⟩
  · rcases hS with (hS | ⟨o, hS⟩) | hS
    · exact .inl ⟨hS, fun z => z, fun r q => by cases q⟩
    · exact .inr (.inl ⟨o, hS⟩)
    · exact .inr (.inr hS)
  · rw [e]
    intro u β' H' _ _ r
    cases r
    rfl
/-! ### one keyword-only parameter with its default: how the values lie -/
theorem kw_default {L : Lk} {β : Bt} {H : Hp} {v : V} {x : Val} (d : VR L β H v x) {vs zs : List V} {args us : List Val} (m : Nat) (r : VRs L β H (vs ++ zs) args) (l1 : vs.length = m) (l2 : zs.length = 0) (e : bindBd args ((List.range m).map Bd.pos ++ [.dfl x]) = some us) : VRs L β H (vs ++ [v]) us := by
  have hz : zs = [] := List.length_eq_zero_iff.mp l2
  subst hz
  rw [List.append_nil] at r
  have la : args.length = m := by rw [← r.length, l1]
  have key : ∀ (k : Nat) (us : List Val), k ≤ m → bindBd args (((List.range' (m - k) k)).map Bd.pos ++ [.dfl x]) = some us → us = args.drop (m - k) ++ [x] := by
    intro k
    induction k with
    | zero =>
      intro us _ e
      simp only [List.range'_zero, List.map_nil, List.nil_append, bindBd, Option.map_some] at e
      cases e
      rw [List.drop_of_length_le (by omega)]; rfl
    | succ k ih =>
      intro us hk e
      have hlt : m - (k + 1) < args.length := by omega
      rw [List.range'_succ] at e
      simp only [List.map_cons, List.cons_append, bindBd] at e
      rw [List.getElem?_eq_getElem hlt] at e
      have h1 : m - (k + 1) + 1 = m - k := by omega
      rw [h1] at e
      split at e
      · rename_i a b c e1 e2
        cases e1
        cases e
        rw [ih _ (by omega) e2, List.drop_eq_getElem_cons hlt, h1]
        rfl
      · cases e
  have h := key m us (Nat.le_refl _) (by rw [Nat.sub_self, ← List.range_eq_range']; exact e)
  rw [Nat.sub_self, List.drop_zero] at h
  subst h
  exact r.append (.cons d .nil)
theorem kw_given {L : Lk} {β : Bt} {H : Hp} {vs zs : List V} {args us : List Val} (m : Nat) (r : VRs L β H (vs ++ zs) args) (l1 : vs.length = m) (l2 : zs.length = 1) (e : bindBd args ((List.range (m + 1)).map Bd.pos) = some us) : VRs L β H (vs ++ zs) us := by
  have la : args.length = m + 1 := by rw [← r.length, List.length_append, l1, l2]
  have key : ∀ (k : Nat) (us : List Val), k ≤ m + 1 → bindBd args (((List.range' (m + 1 - k) k)).map Bd.pos) = some us → us = args.drop (m + 1 - k) := by
    intro k
    induction k with
    | zero =>
      intro us _ e
      simp only [List.range'_zero, List.map_nil, bindBd] at e
      cases e
      rw [List.drop_of_length_le (by omega)]
    | succ k ih =>
      intro us hk e
      have hlt : m + 1 - (k + 1) < args.length := by omega
      rw [List.range'_succ] at e
      simp only [List.map_cons, bindBd] at e
      rw [List.getElem?_eq_getElem hlt] at e
      have h1 : m + 1 - (k + 1) + 1 = m + 1 - k := by omega
      rw [h1] at e
      split at e
      · rename_i a b c e1 e2
        cases e1
        cases e
        rw [ih _ (by omega) e2, List.drop_eq_getElem_cons hlt, h1]
      · cases e
  have h := key (m + 1) us (Nat.le_refl _) (by rw [Nat.sub_self, ← List.range_eq_range']; exact e)
  rw [Nat.sub_self, List.drop_zero] at h
  subst h
  exact r
end MP

/-! Mp3b: what the head must tell besides: exceptions -/
namespace MP
open PySem PySem.Spec PyProof.Rows L2

/-- a further fact of the written part -/
inductive Fm where
  /-- an exception class with an own __init__ that keeps its argument as line -/
  | oex (x : PySem.Str)
  /-- an exception class whose instances are looked at -/
  | exi (x : PySem.Str)
  | exk (x y : PySem.Str) (b : Bool)
def oexB (K : PySem.W.Frag) (C : Addr) : Bool := match K.lookup C with
  | some ⟨.type t, _, .cls ⟨_, _, .ref C' :: bm, _, _, hd, _, _, _, _, dl⟩, ⟨[_, _, _, _, some (.builtin n), _]⟩⟩ => decide (t = "type") && (decide (C' = C) && (PySem.HandSPX.refsVE bm && (hd && (!dl && decide (n = "ValueError.__new__")))))
  | _ => false
theorem oexB_ok {K : PySem.W.Frag} {C : Addr} (h : oexB K C = true) : ∃ nm q N bs bm sn sub ab col dd k0 k1 k2 k3 k5, K.lookup C = some (excClassObj nm q C N bs bm true sn sub ab col dd k0 k1 k2 k3 k5 "ValueError.__new__") ∧ PySem.HandSPX.refsVE bm = true := by
  unfold oexB at h
  split at h
  · rename_i t dd nm bs C' bm N q hd sn sub ab col dl k0 k1 k2 k3 n k5 e
    simp only [Bool.and_eq_true, decide_eq_true_eq, Bool.not_eq_true'] at h
    obtain ⟨h1, h2, h3, h4, h5, h6⟩ := h
    subst h1 h2 h4 h5 h6
    exact ⟨nm, q, N, bs, bm, sn, sub, ab, col, dd, k0, k1, k2, k3, k5, e, h3⟩
  · cases h
def eqV (a b : Option (Option Value)) : Bool := decide (a = b)
def eqW (a b : Option Value) : Bool := decide (a = b)
def eqB (a b : Option Bool) : Bool := decide (a = b)
def Fm.ok (K : PySem.W.Frag) : Fm → Bool
  | .oex x => oexB K (He.ga K x) && (eqV (PySem.W.findIn K (.ref (He.ga K x)) "__setattr__") (some (some (.builtin "object.__setattr__"))) && (eqB (PySem.W.subIn K (.ref (He.ga K x)) (.type "BaseException")) (some true) && (eqW (PySem.W.typeIn K (.ref (He.ga K x))) (some (.type "type")) &&
      (PySem.W.keepIn K (.ref (He.ga K x)) && (eqV (PySem.W.findIn K (.ref (He.ga K x)) "line") (some none) && (eqV (PySem.W.findIn K (.ref (He.ga K x)) "__init__") (some (some (.ref (He.ma K (He.ga K x) "__init__")))) && eqW (PySem.W.typeIn K (.ref (He.ma K (He.ga K x) "__init__"))) (some (.type "function"))))))))
  | .exi x => (PySem.W.clsIn K (He.ga K x)).isSome && (eqV (PySem.W.findIn K (.ref (He.ga K x)) "__getattribute__") (some (some (.builtin "BaseException.__getattribute__"))) && (eqV (PySem.W.findIn K (.ref (He.ga K x)) "__getattr__") (some none) && (eqB (PySem.W.subIn K (.ref (He.ga K x)) (.type "BaseException")) (some true) &&
      (PySem.W.hasDictIn K (He.ga K x) && (eqV (PySem.W.findIn K (.ref (He.ga K x)) "__class__") (some (some (.builtin "object.__class__"))) && (eqV (PySem.W.specialIn K (.builtin "object.__class__") "__get__") (some (some (.builtin "getset_descriptor.__get__"))) &&
      (eqB (PySem.W.takesIn K (.builtin "object.__class__")) (some true) && eqB (PySem.W.mroIn K (He.ga K x) (.type "object")) (some true))))))))
  | .exk x y b => eqB (PySem.W.kitOne K (.ref (He.ga K x)) (.ref (He.ga K y))) (some b)
section
variable {K : PySem.W.Frag}
theorem oex_ok {x : PySem.Str} (c : (Fm.oex x).ok K = true) : OexC K (He.ga K x) ∧ PySem.W.findIn K (.ref (He.ga K x)) "line" = some none ∧ PySem.W.findIn K (.ref (He.ga K x)) "__init__" = some (some (.ref (He.fAd K (x, some "__init__")))) ∧
    PySem.W.typeIn K (.ref (He.fAd K (x, some "__init__"))) = some (.type "function") := by
  unfold Fm.ok at c
  simp only [Bool.and_eq_true] at c
  obtain ⟨c1, c2, c3, c4, c5, c6, c7, c8⟩ := c
  exact ⟨⟨oexB_ok c1, of_decide_eq_true c2, of_decide_eq_true c3, of_decide_eq_true c4, c5⟩, of_decide_eq_true c6, of_decide_eq_true c7, of_decide_eq_true c8⟩
theorem exi_ok {x : PySem.Str} (c : (Fm.exi x).ok K = true) : ExI K (He.ga K x) := by
  unfold Fm.ok at c
  simp only [Bool.and_eq_true] at c
  obtain ⟨c1, c2, c3, c4, c5, c6, c7, c8, c9⟩ := c
  exact ⟨c1, of_decide_eq_true c2, of_decide_eq_true c3, of_decide_eq_true c4, c5, of_decide_eq_true c6, of_decide_eq_true c7, of_decide_eq_true c8, of_decide_eq_true c9⟩
theorem exk_ok {x y : PySem.Str} {b : Bool} (c : (Fm.exk x y b).ok K = true) : PySem.W.kitOne K (.ref (He.ga K x)) (.ref (He.ga K y)) = some b := of_decide_eq_true c
end
/-! ### the Hook -/
abbrev AlM : Type := He.AlT × Bool
def obsM (n : Nat) (fa : List He.Fa) (fn : List He.DefD) (ts : List He.Tab) (fm : List Fm) (g : Addr → Option Obj) : AlM := (He.obsT fa fn ts (He.frG g (He.asD g n)), fm.all fun f => f.ok (He.frG g (He.asD g n)))
structure SaysM (fa : List He.Fa) (fn : List He.DefD) (ts : List He.Tab) (fm : List Fm) (w : World) (K : PySem.W.Frag) : Prop where
  t : He.SaysT fa fn ts w K
  m : ∀ f ∈ fm, f.ok K = true
def hookM (n : Nat) (fa : List He.Fa) (fn : List He.DefD) (ts : List He.Tab) (fm : List Fm) : PySem.W.Hook where
  α := AlM
  obs := fun s => obsM n fa fn ts fm s.heap.get?
  val := fun w => (He.valT fn ts w, true)
  says := fun w h => ∃ K : PySem.W.Frag, K.In h ∧ SaysM fa fn ts fm w K
  of := fun _ _ e => ⟨_, He.frG_in, congrArg (fun z : AlM => z.1) e, List.all_eq_true.mp (congrArg (fun z : AlM => z.2) e)⟩
  keeps := fun _ _ _ ⟨K, hK, c⟩ k => ⟨K, PySem.W.Frag.In.keeps hK k, c⟩
theorem obsM_eq {n : Nat} {fa : List He.Fa} {fn : List He.DefD} {ts : List He.Tab} {fm : List Fm} {g : Addr → Option Obj} {s : Shared} (h : ∀ a, g a = s.heap.get? a) : obsM n fa fn ts fm g = (hookM n fa fn ts fm).obs s := by
  have e : g = s.heap.get? := funext h
  rw [e] <;> rfl
theorem SaysM.fm {fa : List He.Fa} {fn : List He.DefD} {ts : List He.Tab} {fm : List Fm} {w : World} {K : PySem.W.Frag} (c : SaysM fa fn ts fm w K) (i : Nat) {f : Fm} (h : fm[i]? = some f) : f.ok K = true := c.m f (List.mem_of_getElem? h)
theorem SaysM.d {fa : List He.Fa} {fn : List He.DefD} {ts : List He.Tab} {fm : List Fm} {w : World} {K : PySem.W.Frag} (c : SaysM fa fn ts fm w K) : He.SaysD fa fn K := c.t.d
end MP
namespace MP
open PySem PySem.Spec PyProof.Rows L2
/-- a table's rows, each with its proof -/
def AllS (P : Nat → Nat → Bool → Prop) : List ((Nat × Nat) × Bool) → Prop
  | [] => True
  | ((a, c), b) :: r => P a c b ∧ AllS P r
theorem AllS.at {P : Nat → Nat → Bool → Prop} : ∀ {l : List ((Nat × Nat) × Bool)} {a c : Nat} {b : Bool}, AllS P l → l.lookup (a, c) = some b → P a c b
  | [], _, _, _, _, e => by cases e
  | ((a', c'), b') :: r, a, c, b, h, e => by
    rw [List.lookup_cons] at e
    split at e
    · rename_i q
      cases e
      cases beq_iff_eq.mp q
      exact h.1
    · exact AllS.at h.2 e
def AllE (P : Nat → Bool → Prop) : List (Nat × Bool) → Prop
  | [] => True
  | (a, b) :: r => P a b ∧ AllE P r
theorem AllE.at {P : Nat → Bool → Prop} : ∀ {l : List (Nat × Bool)} {a : Nat} {b : Bool}, AllE P l → l.lookup a = some b → P a b
  | [], _, _, _, e => by cases e
  | (a', b') :: r, a, b, h, e => by
    rw [List.lookup_cons] at e
    split at e
    · rename_i q
      cases e
      cases beq_iff_eq.mp q
      exact h.1
    · exact AllE.at h.2 e
def ExP (K : PySem.W.Frag) (L : Lk) (c : Nat) : Bool → Prop
  | false => PySem.W.excIn K (L.ca c) He.veBase "ValueError.__new__" = true ∧ PySem.W.keepIn K (.ref (L.ca c)) = true ∧ PySem.W.subIn K (.ref (L.ca c)) (.type "BaseException") = some true ∧ PySem.W.typeIn K (.ref (L.ca c)) = some (.type "type")
  | true => ExnOne K (L.ca c)
def mem (s : Stmt) (j : Nat) : Stmt := match s with
  | .ClassDef _ _ _ body .. => body.getD j (.Pass ⟨0, 0, 0, 0⟩)
  | _ => .Pass ⟨0, 0, 0, 0⟩
end MP

/-! Mp4: MP's meaning as equations that simp can follow (first arguments first) -/
namespace MP
theorem bind_cg {α β : Type} {o o' : Out α} {f : α → Heap → Out β} (e : o = o') : o.bind f = o'.bind f := by rw [e]
theorem stm_cg {α : Type} {o o' : Out α} {ρ : Env} {f : α → Heap → SO} (e : o = o') : o.stm ρ f = o'.stm ρ f := by rw [e]
theorem next_cg {o o' : SO} {f : Env → Heap → SO} (e : o = o') : o.next f = o'.next f := by rw [e]
/-- by a truth value -/
def ifO {α : Type} (b : Option Bool) (t f : Unit → α) (z : α) : α := match b with
  | some true => t ()
  | some false => f ()
  | none => z
theorem ifO_cg {α : Type} {b b' : Option Bool} {t f : Unit → α} {z : α} (e : b = b') : ifO b t f z = ifO b' t f z := by rw [e]
theorem ifO_t {α : Type} (t f : Unit → α) (z : α) : ifO (some true) t f z = t () := Eq.trans rfl rfl
theorem ifO_f {α : Type} (t f : Unit → α) (z : α) : ifO (some false) t f z = f () := Eq.trans rfl rfl
theorem bind_ok' {α β : Type} (a : α) (h : Heap) (f : α → Heap → Out β) : (Out.ok a h).bind f = f a h := Eq.trans rfl rfl
theorem stm_ok' {α : Type} (a : α) (h : Heap) (ρ : Env) (f : α → Heap → SO) : (Out.ok a h).stm ρ f = f a h := Eq.trans rfl rfl
theorem next_nx' (ρ : Env) (h : Heap) (f : Env → Heap → SO) : (SO.nx ρ h).next f = f ρ h := Eq.trans rfl rfl
theorem next_rt' (v : Val) (h : Heap) (f : Env → Heap → SO) : (SO.rt v h).next f = .rt v h := Eq.trans rfl rfl
theorem next_exc' (x : Exc) (ρ : Env) (h : Heap) (f : Env → Heap → SO) : (SO.exc x ρ h).next f = .exc x ρ h := Eq.trans rfl rfl
theorem stm_exc' {α : Type} (x : Exc) (h : Heap) (ρ : Env) (f : α → Heap → SO) : (Out.exc x h : Out α).stm ρ f = .exc x ρ h := Eq.trans rfl rfl
theorem bind_exc' {α β : Type} (x : Exc) (h : Heap) (f : α → Heap → Out β) : (Out.exc x h).bind f = .exc x h := Eq.trans rfl rfl
/-- by an option -/
def opt {α β : Type} (o : Option α) (f : α → β) (z : β) : β := match o with
  | some a => f a
  | none => z
theorem opt_cg {α β : Type} {o o' : Option α} {f : α → β} {z : β} (e : o = o') : opt o f z = opt o' f z := by rw [e]
theorem opt_some {α β : Type} (a : α) (f : α → β) (z : β) : opt (some a) f z = f a := Eq.trans rfl rfl
def varO (v : Option (Option Val)) (h : Heap) : Out Val := match v with
  | some (some v) => .ok v h
  | _ => .bad
theorem varO_some (v : Val) (h : Heap) : varO (some (some v)) h = .ok v h := Eq.trans rfl rfl
/-- a built-in's value: a list is laid -/
def laidV (new : Bool) (v : Option Val) (h : Heap) : Out Val := match v with
  | some (.lst xs) => newL new xs h
  | some v => .ok v h
  | none => .bad
theorem laidV_int (new : Bool) (i : Int) (h : Heap) : laidV new (some (.int i)) h = .ok (.int i) h := Eq.trans rfl rfl
theorem laidV_bl (new : Bool) (i : Bool) (h : Heap) : laidV new (some (.bl i)) h = .ok (.bl i) h := Eq.trans rfl rfl
theorem laidV_str (new : Bool) (i : List Nat) (h : Heap) : laidV new (some (.str i)) h = .ok (.str i) h := Eq.trans rfl rfl
theorem laidV_tup (new : Bool) (i : List Val) (h : Heap) : laidV new (some (.tup i)) h = .ok (.tup i) h := Eq.trans rfl rfl
theorem laidV_lst (new : Bool) (i : List Val) (h : Heap) : laidV new (some (.lst i)) h = newL new i h := Eq.trans rfl rfl
theorem retO_rt (v : Val) (h : Heap) : retO (.rt v h) = .ok v h := Eq.trans rfl rfl
theorem retO_nx (ρ : Env) (h : Heap) : retO (.nx ρ h) = .ok .non h := Eq.trans rfl rfl
theorem retO_exc (x : Exc) (ρ : Env) (h : Heap) : retO (.exc x ρ h) = .exc x h := Eq.trans rfl rfl
section
variable (T : Tb) (F : Fns) (ρ : Env) (h : Heap)
theorem evE_var (i : Nat) : evE T F (.var i) ρ h = varO ρ[i]? h := by
  conv => lhs; unfold evE
  rcases ρ[i]? with _ | _ | x <;> rfl
theorem evE_cst (v : Val) : evE T F (.cst v) ρ h = .ok v h := by (conv => lhs; unfold evE) <;> rfl
theorem evE_tup (es : List E) : evE T F (.tup es) ρ h = (evEs T F es ρ h).bind fun vs h => if vs.length ≤ line then .ok (.tup vs) h else .bad := by (conv => lhs; unfold evE) <;> rfl
theorem evE_lst (n : Bool) (es : List E) : evE T F (.lst n es) ρ h = (evEs T F es ρ h).bind fun vs h => newL n vs h := by (conv => lhs; unfold evE) <;> rfl
theorem evE_dic : evE T F .dic ρ h = .ok (.ref h.n) (h.push (.dic [] false)) := by (conv => lhs; unfold evE) <;> rfl
theorem evE_op (o : Op) (a b : E) : evE T F (.op o a b) ρ h = (evE T F a ρ h).bind fun x h => (evE T F b ρ h).bind fun y h => .ofOpt (opV h o x y) h := by (conv => lhs; unfold evE) <;> rfl
theorem evE_chain (o o' : Op) (a b c : E) : evE T F (.chain o o' a b c) ρ h = (evE T F a ρ h).bind fun x h => (evE T F b ρ h).bind fun y h => match opV h o x y with
    | some (.bl true) => (evE T F c ρ h).bind fun z h => .ofOpt (opV h o' y z) h
    | some (.bl false) => .ok (.bl false) h
    | _ => .bad := by (conv => lhs; unfold evE) <;> rfl
theorem evE_neg (a : E) : evE T F (.neg a) ρ h = (evE T F a ρ h).bind fun x h => match x with
    | .int i => .ok (.int (-i)) h
    | _ => .bad := by (conv => lhs; unfold evE) <;> rfl
theorem evE_not (a : E) : evE T F (.not a) ρ h = (evE T F a ρ h).bind fun x h => opt (truthy h x) (fun b => .ok (.bl (!b)) h) .bad := by
  conv => lhs; unfold evE
  congr 1; funext x h
  cases truthy h x <;> rfl
theorem evE_and (a b : E) : evE T F (.and a b) ρ h = (evE T F a ρ h).bind fun x h => ifO (truthy h x) (fun _ => evE T F b ρ h) (fun _ => .ok x h) .bad := by
  conv => lhs; unfold evE
  congr 1; all_goals funext x h
  all_goals (rcases truthy h x with _ | _ | _ <;> rfl)
theorem evE_or (a b : E) : evE T F (.or a b) ρ h = (evE T F a ρ h).bind fun x h => ifO (truthy h x) (fun _ => .ok x h) (fun _ => evE T F b ρ h) .bad := by
  conv => lhs; unfold evE
  congr 1; all_goals funext x h
  all_goals (rcases truthy h x with _ | _ | _ <;> rfl)
theorem evE_ite (c a b : E) : evE T F (.ite c a b) ρ h = (evE T F c ρ h).bind fun x h => ifO (truthy h x) (fun _ => evE T F a ρ h) (fun _ => evE T F b ρ h) .bad := by
  conv => lhs; unfold evE
  congr 1; all_goals funext x h
  all_goals (rcases truthy h x with _ | _ | _ <;> rfl)
theorem evE_attr (a : E) (f : Nat) : evE T F (.attr a f) ρ h = (evE T F a ρ h).bind fun x h => attrV T F x f h := by (conv => lhs; unfold evE) <;> rfl
theorem evE_sub (a i : E) : evE T F (.sub a i) ρ h = (evE T F a ρ h).bind fun x h => (evE T F i ρ h).bind fun y h => .ofOpt (subV h x y) h := by (conv => lhs; unfold evE) <;> rfl
theorem evE_slice (n : Bool) (a : E) (lo hi : List E) : evE T F (.slice n a lo hi) ρ h = (evE T F a ρ h).bind fun x h => (evEs T F lo ρ h).bind fun l h => opt (intsV l) (fun l => (evEs T F hi ρ h).bind fun u h => opt (intsV u) (fun u => laidV n (sliceV h x l.head? u.head?) h) .bad) .bad := by
  conv => lhs; unfold evE
  congr 1; funext x h
  congr 1; funext l h
  cases intsV l with
  | none => rfl
  | some l =>
    show Out.bind _ _ = Out.bind _ _
    congr 1; funext u h
    cases intsV u with
    | none => rfl
    | some u =>
      show (match sliceV h x l.head? u.head? with | some (.lst xs) => newL n xs h | some v => .ok v h | none => .bad) = laidV n _ h
      cases sliceV h x l.head? u.head? with
      | none => rfl
      | some v => cases v <;> rfl
theorem evE_call (k : Nat) (es : List E) : evE T F (.call k es) ρ h = (evEs T F es ρ h).bind fun vs h => F k vs h := by (conv => lhs; unfold evE) <;> rfl
theorem evE_callK (k : Nat) (es : List E) (b : List Bd) : evE T F (.callK k es b) ρ h = (evEs T F es ρ h).bind fun vs h => opt (bindBd vs b) (fun us => F k us h) .bad := by
  conv => lhs; unfold evE
  congr 1; funext vs h
  cases bindBd vs b <;> rfl
theorem evE_make (c : Nat) (es : List E) : evE T F (.make c es) ρ h = (evEs T F es ρ h).bind fun vs h => makeV T F c vs h := by (conv => lhs; unfold evE) <;> rfl
theorem evE_bm (a : E) (m : Bm) (es : List E) : evE T F (.bm a m es) ρ h = (evE T F a ρ h).bind fun x h => opt (bmK h m x) (fun t => (evEs T F es ρ h).bind fun vs h => if bmK h m x = some t then bmV h m x vs else .bad) .bad := by
  conv => lhs; unfold evE
  congr 1; funext x h
  cases bmK h m x <;> rfl
theorem evE_bf (f : Bf) (n : Bool) (es : List E) : evE T F (.bf f n es) ρ h = (evEs T F es ρ h).bind fun vs h => laidV n (bfV h f vs) h := by
  conv => lhs; unfold evE
  congr 1; all_goals funext vs h
  all_goals (rcases bfV h f vs with _ | v)
  all_goals first | rfl | (cases v <;> rfl)
theorem evE_isi (a : E) (t : Ty) : evE T F (.isi a t) ρ h = (evE T F a ρ h).bind fun x h => .ofOpt ((isiV T h x t).map .bl) h := by (conv => lhs; unfold evE) <;> rfl
theorem exS_asg (tg : Tg) (e : E) : exS T F (.asg tg e) ρ h = (evE T F e ρ h).stm ρ fun v h => opt (bindTg ρ tg v) (fun ρ' => .nx ρ' h) .bad := by
  conv => lhs; unfold exS
  congr 1; funext v h
  cases bindTg ρ tg v <;> rfl
theorem exS_augN (i : Nat) (o : Op) (e : E) : exS T F (.augN i o e) ρ h = (varO ρ[i]? h).stm ρ fun x h => (evE T F e ρ h).stm ρ fun y h => opt (augV o x y) (fun z => .nx (ρ.set i (some z)) h) .bad := by
  conv => lhs; unfold exS
  rcases ρ[i]? with _ | _ | x
  · rfl
  · rfl
  · show _ = Out.stm (.ok x h) ρ _
    rw [Out.stm_ok]
    show Out.stm _ _ _ = Out.stm _ _ _
    congr 1; funext y h
    cases augV o x y <;> rfl
theorem exS_expr (e : E) : exS T F (.expr e) ρ h = (evE T F e ρ h).stm ρ fun _ h => .nx ρ h := by (conv => lhs; unfold exS) <;> rfl
theorem exS_ret (e : E) : exS T F (.ret e) ρ h = (evE T F e ρ h).stm ρ fun v h => .rt v h := by (conv => lhs; unfold exS) <;> rfl
theorem exS_ife (c : E) (a b : List S) : exS T F (.ife c a b) ρ h = (evE T F c ρ h).stm ρ fun x h => ifO (truthy h x) (fun _ => exB T F a ρ h) (fun _ => exB T F b ρ h) .bad := by
  conv => lhs; unfold exS
  congr 1; all_goals funext x h
  all_goals (rcases truthy h x with _ | _ | _ <;> rfl)
theorem exB_nil' : exB T F [] ρ h = .nx ρ h := by unfold exB; rfl
theorem exB_cons' (s : S) (r : List S) : exB T F (s :: r) ρ h = (exS T F s ρ h).next fun ρ h => exB T F r ρ h := by (conv => lhs; unfold exB) <;> rfl
/-- a for over values that no cell gives -/
theorem exS_loop' {tg : Tg} {w : Nat} {it : List E} {body : List S} (hw : w ≠ 1) : exS T F (.loop tg w it body) ρ h = (evEs T F it ρ h).stm ρ fun ws h => opt (walkV h w ws) (fun items => forL (fun h' => stays h h' ws) (fun v ρ h => opt (bindTg ρ tg v) (fun ρ' => exB T F body ρ' h) .bad) items ρ h) .bad := by
  conv => lhs; unfold exS
  dsimp only
  split
  · exact absurd rfl hw
  · congr 1; funext ws h
    cases walkV h w ws with
    | none => rfl
    | some items =>
      show forL _ _ _ _ _ = forL _ _ _ _ _
      congr 1; funext v ρ h
      cases bindTg ρ tg v <;> rfl
/-- a while -/
noncomputable def wStep (c : E) (body : List S) : Env → Heap → WS := fun ρ h => match evE T F c ρ h with
  | .ok x h => match truthy h x with
    | some true => match exB T F body ρ h with
      | .nx ρ h => .again ρ h
      | .ct ρ h => .again ρ h
      | .bk ρ h => .done (.nx ρ h)
      | o => .done o
    | some false => .done (.nx ρ h)
    | none => .done .bad
  | .exc x h => .done (.exc x ρ h)
  | .bad => .done .bad
theorem exS_whl (c : E) (body : List S) : exS T F (.whl c body) ρ h = whileL (wStep T F c body) ρ h := by (conv => lhs; unfold exS) <;> rfl
theorem whl_again {c : E} {body : List S} {v : Val} {h1 h2 : Heap} {ρ2 : Env} (e1 : evE T F c ρ h = .ok v h1) (e2 : truthy h1 v = some true) (e3 : exB T F body ρ h1 = .nx ρ2 h2) : whileL (wStep T F c body) ρ h = whileL (wStep T F c body) ρ2 h2 := by
  rw [whileL_eq]
  unfold wStep
  rw [e1]
  dsimp only
  rw [e2]
  dsimp only
  rw [e3]
theorem whl_done {c : E} {body : List S} {v : Val} {h1 : Heap} (e1 : evE T F c ρ h = .ok v h1) (e2 : truthy h1 v = some false) : whileL (wStep T F c body) ρ h = .nx ρ h1 := by
  rw [whileL_eq]
  unfold wStep
  rw [e1]
  dsimp only
  rw [e2]
end
/-! ### values -/
section
variable (h : Heap)
theorem v_add (i j : Int) : opV h .add (.int i) (.int j) = some (.int (i + j)) := Eq.trans rfl rfl
theorem v_adds {s t : List Nat} (q : s.length + t.length ≤ line) : opV h .add (.str s) (.str t) = some (.str (s ++ t)) := by simp [opV, q]
theorem v_sub (i j : Int) : opV h .sub (.int i) (.int j) = some (.int (i - j)) := Eq.trans rfl rfl
theorem v_mul1 {i j : Int} (q : small64 i) : opV h .mul (.int i) (.int j) = some (.int (i * j)) := by simp [opV, q]
theorem v_mul2 {i j : Int} (q : small64 j) : opV h .mul (.int i) (.int j) = some (.int (i * j)) := by simp [opV, q]
theorem v_fdiv {i j : Int} (q : j ≠ 0 ∧ j.natAbs < bound30) : opV h .fdiv (.int i) (.int j) = some (.int (i.fdiv j)) := by simp [opV, q]
theorem v_mod {i j : Int} (q : j ≠ 0) : opV h .mod (.int i) (.int j) = some (.int (i.fmod j)) := by simp [opV, q]
theorem v_pow {i j : Int} (q : 0 ≤ j ∧ j ≤ 1000000 ∧ i.natAbs < 2 ^ 64) : opV h .pow (.int i) (.int j) = some (.int (i ^ j.toNat)) := by
  show (if _ then _ else _) = _
  rw [if_pos q]
theorem v_lt (i j : Int) : opV h .lt (.int i) (.int j) = some (.bl (decide (i < j))) := Eq.trans rfl rfl
theorem v_le (i j : Int) : opV h .le (.int i) (.int j) = some (.bl (decide (i ≤ j))) := Eq.trans rfl rfl
theorem v_gt (i j : Int) : opV h .gt (.int i) (.int j) = some (.bl (decide (j < i))) := Eq.trans rfl rfl
theorem v_ge (i j : Int) : opV h .ge (.int i) (.int j) = some (.bl (decide (j ≤ i))) := Eq.trans rfl rfl
theorem eq_ii (i j : Int) : eqVal h (.int i) (.int j) = some (i == j) := Eq.trans rfl rfl
theorem v_eqi (i j : Int) : opV h .eq (.int i) (.int j) = some (.bl (i == j)) := Eq.trans rfl rfl
theorem v_nei (i j : Int) : opV h .ne (.int i) (.int j) = some (.bl (!(i == j))) := Eq.trans rfl rfl
def okT (s : List Nat) : Bool := s.all fun c => decide (c < 1114112)
theorem v_eqs {s t : List Nat} (a : okT s = true) (b : okT t = true) : opV h .eq (.str s) (.str t) = some (.bl (s == t)) := by
  unfold okT at a b
  simp [opV, eqVal, toD, a, b, D.eqv]
theorem v_nes {s t : List Nat} (a : okT s = true) (b : okT t = true) : opV h .ne (.str s) (.str t) = some (.bl (!(s == t))) := by
  unfold okT at a b
  simp [opV, eqVal, toD, a, b, D.eqv]
theorem v_ins (s : List Nat) (c : Nat) : opV h .isin (.str [c]) (.str s) = some (.bl (s.contains c)) := Eq.trans rfl rfl
theorem v_notins (s : List Nat) (c : Nat) : opV h .notin (.str [c]) (.str s) = some (.bl (!s.contains c)) := Eq.trans rfl rfl
theorem t_bl (b : Bool) : truthy h (.bl b) = some b := Eq.trans rfl rfl
theorem t_int (i : Int) : truthy h (.int i) = some (i != 0) := Eq.trans rfl rfl
theorem at_nat {α : Type} (xs : List α) (k : Nat) : at_ xs (k : Int) = xs[k]? := by
  unfold at_ place
  rw [if_pos (Int.natCast_nonneg k)]
  split
  · simp
  · rename_i h
    have : xs.length ≤ k := by omega
    simp [List.getElem?_eq_none this]
theorem ofOpt_some' {α : Type} (a : α) : Out.ofOpt (some a) h = .ok a h := Eq.trans rfl rfl
theorem bt_name {ρ : Env} {i : Nat} {v : Val} (q : i < ρ.length) : bindTg ρ (.name i) v = some (ρ.set i (some v)) := by simp [bindTg, setSlots, q]
theorem bf_int (i : Int) : bfV h .int [.int i] = some (.int i) := Eq.trans rfl rfl
theorem bf_intd {s : List Nat} (q : allDig s = true ∧ s.length ≤ 640) : bfV h .int [.str s] = some (.int (digVal s)) := by
  show (if _ then _ else _) = _
  rw [if_pos q]
theorem bf_lens {s : List Nat} (q : s.length ≤ line) : bfV h .len [.str s] = some (.int s.length) := by
  show (if _ then _ else _) = _
  rw [if_pos q]
theorem bf_lent (xs : List Val) : bfV h .len [.tup xs] = some (.int xs.length) := Eq.trans rfl rfl
theorem bf_lenl (xs : List Val) : bfV h .len [.lst xs] = some (.int xs.length) := Eq.trans rfl rfl
theorem bf_lena (xs : List Val) : bfV h .len [.arr xs] = some (.int xs.length) := Eq.trans rfl rfl
theorem bf_lenr {r : Nat} {xs : List Val} (q : h.c r = some (.lst xs)) : bfV h .len [.ref r] = some (.int xs.length) := by simp [bfV, q]
theorem bf_tupr {r : Nat} {xs : List Val} (q : h.c r = some (.lst xs)) : bfV h .tuple [.ref r] = some (.tup xs) := by simp [bfV, seqOf, q]
theorem bf_strs (s : List Nat) : bfV h .str [.str s] = some (.str s) := Eq.trans rfl rfl
theorem bf_stri {i : Int} (q : i.natAbs.log2 < 1920) : bfV h .str [.int i] = some (.str (intText i)) := by
  show (if _ then _ else _) = _
  rw [if_pos q]
theorem sub_t (xs : List Val) (i : Int) : subV h (.tup xs) (.int i) = at_ xs i := Eq.trans rfl rfl
theorem sub_l (xs : List Val) (i : Int) : subV h (.lst xs) (.int i) = at_ xs i := Eq.trans rfl rfl
theorem sub_a (xs : List Val) (i : Int) : subV h (.arr xs) (.int i) = at_ xs i := Eq.trans rfl rfl
theorem sub_r {r : Nat} {xs : List Val} (q : h.c r = some (.lst xs)) (i : Int) : subV h (.ref r) (.int i) = at_ xs i := by simp [subV, q]
theorem sub_s {s : List Nat} (q : s.length ≤ line) (i : Int) : subV h (.str s) (.int i) = (at_ s i).map fun c => .str [c] := by
  show (if _ then _ else _) = _
  rw [if_pos q]
theorem isv_non (x : Val) (q : x ≠ .non) : isVal x .non = some false := by cases x <;> first | rfl | exact absurd rfl q
theorem v_is_non (x : Val) (q : x ≠ .non) : opV h .is x .non = some (.bl false) := by simp [opV, isv_non x q]
theorem v_is_nn : opV h .is .non .non = some (.bl true) := Eq.trans rfl rfl
theorem v_is_bb (a b : Bool) : opV h .is (.bl a) (.bl b) = some (.bl (a == b)) := Eq.trans rfl rfl
theorem v_is_ib (a : Int) (b : Bool) : opV h .is (.int a) (.bl b) = some (.bl false) := Eq.trans rfl rfl
theorem v_is_sb (a : List Nat) (b : Bool) : opV h .is (.str a) (.bl b) = some (.bl false) := Eq.trans rfl rfl
theorem v_is_nb (b : Bool) : opV h .is .non (.bl b) = some (.bl false) := Eq.trans rfl rfl
end
/-! ### comprehensions -/
noncomputable def cTurn (T : Tb) (F : Fns) (elt : E) (tg : Tg) (ifs : List E) (vs : List Nat) (ρ : Env) : Val → Heap → Out (List Val) := fun v h => opt (bindTg (wipeS ρ vs) tg v) (fun ρ' => (evEs T F ifs ρ' h).bind fun bs h => match bs with
    | [] => (evE T F elt ρ' h).bind fun y h => .ok [y] h
    | [b] => ifO (truthy h b) (fun _ => (evE T F elt ρ' h).bind fun y h => .ok [y] h) (fun _ => .ok [] h) .bad
    | _ => .bad) .bad
/-- the comprehension's end -/
def compO (new : Bool) (o : Out (List Val)) : Out Val := match o with
  | .ok ys h => newL new ys h
  | _ => .bad
theorem compO_ok (new : Bool) (ys : List Val) (h : Heap) : compO new (.ok ys h) = newL new ys h := Eq.trans rfl rfl
theorem compO_cg {new : Bool} {o o' : Out (List Val)} (e : o = o') : compO new o = compO new o' := by rw [e]
theorem evE_comp' (T : Tb) (F : Fns) (ρ : Env) (h : Heap) {new : Bool} {elt : E} {tg : Tg} {w : Nat} {it ifs : List E} {vs : List Nat} (hw : w ≠ 1) : evE T F (.comp new elt tg w it ifs vs) ρ h = (evEs T F it ρ h).bind fun ws h => opt (walkV h w ws) (fun items => compO new (compL (fun h' => stays h h' ws) (cTurn T F elt tg ifs vs ρ) items h)) .bad := by
  conv => lhs; unfold evE
  dsimp only
  split
  · exact absurd rfl hw
  · congr 1; funext ws h
    cases walkV h w ws with
    | none => rfl
    | some items =>
      show (match compL _ _ items h with | .ok ys h2 => newL new ys h2 | _ => .bad) = compO new (compL _ _ items h)
      have : ∀ (a b : Val → Heap → Out (List Val)), a = b → (match compL (fun h' => stays h h' ws) a items h with | .ok ys h2 => newL new ys h2 | _ => .bad) = compO new (compL (fun h' => stays h h' ws) b items h) := by
        rintro a _ rfl
        cases compL (fun h' => stays h h' ws) a items h <;> rfl
      apply this
      funext v h
      unfold cTurn
      cases bindTg (wipeS ρ vs) tg v with
      | none => rfl
      | some ρ' =>
        show Out.bind _ _ = Out.bind _ _
        refine congrArg _ (funext fun bs => funext fun h => ?_)
        rcases bs with _ | ⟨b, _ | ⟨c, r⟩⟩
        · rfl
        · show (match truthy h b with | some true => _ | some false => _ | none => _) = ifO (truthy h b) _ _ _
          rcases truthy h b with _ | _ | _ <;> rfl
        · rfl
theorem compL_map {G : Heap → Prop} {step : Val → Heap → Out (List Val)} {f : Val → Val} {h : Heap} (hG : G h) : ∀ {items : List Val}, (∀ x ∈ items, step x h = .ok [f x] h) → compL G step items h = .ok (items.map f) h
  | [], _ => rfl
  | x :: r, hs => by
    unfold compL
    rw [hs x List.mem_cons_self]
    dsimp only
    rw [if_pos hG, compL_map hG fun y hy => hs y (List.mem_cons_of_mem _ hy)]
    rfl
theorem newL_v {xs : List Val} {h : Heap} (q : xs.length ≤ line) : newL false xs h = .ok (.lst xs) h := by
  unfold newL
  rw [if_pos q]
  rfl
theorem newL_n {xs : List Val} {h : Heap} (q : xs.length ≤ line) : newL true xs h = .ok (.ref h.n) (h.push (.lst xs)) := by
  unfold newL
  rw [if_pos q]
  rfl
theorem stays_tup {h h' : Heap} {xs : List Val} : stays h h' [.tup xs] := trivial
theorem stays_str {h h' : Heap} {xs : List Nat} : stays h h' [.str xs] := trivial
theorem stays_int {h h' : Heap} {i : Int} : stays h h' [.int i] := trivial
/-- a for, one turn -/
theorem forL_nx {G : Heap → Prop} {body : Val → Env → Heap → SO} {v : Val} {r : List Val} {ρ ρ' : Env} {h h' : Heap} (e : body v ρ h = .nx ρ' h') (g : G h') : forL G body (v :: r) ρ h = forL G body r ρ' h' := by
  conv => lhs; unfold forL
  rw [e]
  dsimp only
  rw [if_pos g]
theorem forL_rt {G : Heap → Prop} {body : Val → Env → Heap → SO} {v x : Val} {r : List Val} {ρ : Env} {h h' : Heap} (e : body v ρ h = .rt x h') : forL G body (v :: r) ρ h = .rt x h' := by
  conv => lhs; unfold forL
  rw [e]
theorem forL_nil {G : Heap → Prop} {body : Val → Env → Heap → SO} {ρ : Env} {h : Heap} : forL G body [] ρ h = .nx ρ h := rfl
theorem forL_cg {G : Heap → Prop} {b : Val → Env → Heap → SO} {l l' : List Val} {ρ ρ' : Env} {h h' : Heap} (e1 : l = l') (e2 : ρ = ρ') (e3 : h = h') : forL G b l ρ h = forL G b l' ρ' h' := by rw [e1, e2, e3]
theorem compL_cg {G : Heap → Prop} {b : Val → Heap → Out (List Val)} {l l' : List Val} {h h' : Heap} (e1 : l = l') (e3 : h = h') : compL G b l h = compL G b l' h' := by rw [e1, e3]
theorem whileL_cg {b : Env → Heap → WS} {ρ ρ' : Env} {h h' : Heap} (e2 : ρ = ρ') (e3 : h = h') : whileL b ρ h = whileL b ρ' h' := by rw [e2, e3]
theorem loop_of {T : Tb} {F : Fns} {tg : Tg} {w : Nat} {it : List E} {body : List S} {ρ : Env} {h h1 : Heap} {ws items : List Val} {o : SO} (hw : w ≠ 1) (e1 : evEs T F it ρ h = .ok ws h1) (e2 : walkV h1 w ws = some items)
    (e3 : forL (fun h' => stays h1 h' ws) (fun v ρ h => opt (bindTg ρ tg v) (fun ρ' => exB T F body ρ' h) .bad) items ρ h1 = o) : exS T F (.loop tg w it body) ρ h = o := by
  rw [exS_loop' T F ρ h hw, e1, stm_ok', e2, opt_some]
  exact e3
theorem whl_of {T : Tb} {F : Fns} {c : E} {body : List S} {ρ : Env} {h : Heap} {o : SO} (e : whileL (wStep T F c body) ρ h = o) : exS T F (.whl c body) ρ h = o := by
  rw [exS_whl]
  exact e
/-- an error with its line -/
def raiseL (c : Nat) (v : Val) (ρ : Env) (h : Heap) : SO := match v with
  | .int i => .exc ⟨c, [(0, .int i)]⟩ ρ h
  | _ => .bad
theorem raiseL_int (c : Nat) (i : Int) (ρ : Env) (h : Heap) : raiseL c (.int i) ρ h = .exc ⟨c, [(0, .int i)]⟩ ρ h := Eq.trans rfl rfl
theorem exS_raise {T : Tb} (F : Fns) {c : Nat} (e : E) (ρ : Env) (h : Heap) (hx : T.exn c = some true) : exS T F (.raise c [e]) ρ h = (evE T F e ρ h).stm ρ fun v h => raiseL c v ρ h := by
  conv => lhs; unfold exS
  simp only [evEs_cons, evEs_nil, hx]
  cases evE T F e ρ h with
  | ok v h1 =>
    simp only [Out.bind_ok, Out.stm_ok]
    cases v <;> rfl
  | exc x h1 => rfl
  | bad => rfl
theorem exS_raise0 {T : Tb} (F : Fns) {c : Nat} (ρ : Env) (h : Heap) (hx : T.exn c = some false) : exS T F (.raise c []) ρ h = .exc ⟨c, []⟩ ρ h := by
  conv => lhs; unfold exS
  simp only [evEs_nil, hx, Out.stm_ok]
theorem exS_raise1 {T : Tb} (F : Fns) {c : Nat} (e : E) (ρ : Env) (h : Heap) (hx : T.exn c = some false) : exS T F (.raise c [e]) ρ h = (evE T F e ρ h).stm ρ fun _ h => .exc ⟨c, []⟩ ρ h := by
  conv => lhs; unfold exS
  simp only [evEs_cons, evEs_nil, hx]
  cases evE T F e ρ h with
  | ok v h1 => rfl
  | exc x h1 => rfl
  | bad => rfl
theorem whl_exc (T : Tb) (F : Fns) (ρ : Env) (h : Heap) {c : E} {body : List S} {v : Val} {h1 h2 : Heap} {ρ2 : Env} {x : Exc} (e1 : evE T F c ρ h = .ok v h1) (e2 : truthy h1 v = some true) (e3 : exB T F body ρ h1 = .exc x ρ2 h2) : whileL (wStep T F c body) ρ h = .exc x ρ2 h2 := by
  rw [whileL_eq]
  unfold wStep
  rw [e1]
  dsimp only
  rw [e2]
  dsimp only
  rw [e3]
end MP

/-! ### K71: texts, trees: the pure part -/
namespace K71
open MP
mutual
def txt : Val → List Nat
  | .non => [78]
  | .bl b => if b then [84] else [70]
  | .int i => intText i
  | .str s => s
  | .tup xs => 40 :: (txts xs ++ [41])
  | _ => []
def txts : List Val → List Nat
  | [] => []
  | x :: r => match r with
    | [] => txt x
    | y :: r' => txt x ++ 32 :: txts (y :: r')
end
def letter (s : List Nat) : Prop := s ≠ [] ∧ ∀ c ∈ s, 97 ≤ c ∧ c ≤ 122
/-- a tree at most d deep -/
inductive G : Nat → Val → Prop where
  | non (d : Nat) : G d .non
  | bl (d : Nat) (b : Bool) : G d (.bl b)
  | int (d : Nat) (i : Int) : i.natAbs < 10 ^ 20 → G d (.int i)
  | str (d : Nat) (s : List Nat) : letter s → G d (.str s)
  | tup (d : Nat) (xs : List Val) : (∀ x ∈ xs, G d x) → G (d + 1) (.tup xs)
theorem G.up {d : Nat} {v : Val} (g : G d v) : ∀ {e : Nat}, d ≤ e → G e v := by
  induction g with
  | non => exact fun _ => .non _
  | bl => exact fun _ => .bl _ _
  | int d i h => exact fun _ => .int _ _ h
  | str d s h => exact fun _ => .str _ _ h
  | tup d xs h ih =>
    intro e he
    obtain ⟨k, rfl⟩ : ∃ k, e = k + 1 := ⟨e - 1, by omega⟩
    exact .tup k xs fun x hx => ih x hx (by omega)
theorem txts_join : ∀ xs : List Val, txts xs = joinT [32] (xs.map txt)
  | [] => by unfold txts; rfl
  | [x] => by unfold txts; rfl
  | x :: y :: r => by
    have e : txts (x :: y :: r) = txt x ++ 32 :: txts (y :: r) := by conv => lhs; unfold txts
    rw [e, txts_join (y :: r)]
    show _ = txt x ++ [32] ++ joinT [32] ((y :: r).map txt)
    simp
theorem txt_tup (xs : List Val) : txt (.tup xs) = 40 :: (txts xs ++ [41]) := by conv => lhs; unfold txt
theorem txts_one (x : Val) : txts [x] = txt x := by unfold txts; rfl
theorem txts_two (x y : Val) (r : List Val) : txts (x :: y :: r) = txt x ++ 32 :: txts (y :: r) := by conv => lhs; unfold txts
theorem digits_step {n : Nat} (h : ¬ n < 10) : Nat.toDigits 10 n = Nat.toDigits 10 (n / 10) ++ [Nat.digitChar (n % 10)] := by
  have a := Nat.toDigits_append_toDigits (b := 10) (n := n / 10) (d := n % 10) (by decide) (by omega) (by omega)
  rw [Nat.toDigits_of_lt_base (n := n % 10) (by omega)] at a
  rw [a]
  congr 1
  omega
theorem digits_len : ∀ (k n : Nat), n < 10 ^ (k + 1) → (digits n).length ≤ k + 1 := by
  intro k n h
  unfold digits
  rw [List.length_map]
  induction k generalizing n with
  | zero =>
    rw [Nat.toDigits_of_lt_base (by simpa using h)]
    simp
  | succ k ih =>
    by_cases hl : n < 10
    · rw [Nat.toDigits_of_lt_base hl]; simp
    · have := ih (n / 10) (by rw [Nat.pow_succ] at h; exact Nat.div_lt_of_lt_mul (by rw [Nat.mul_comm]; exact h))
      rw [digits_step hl]
      simp
      omega
theorem digits_small {n : Nat} (h : n < 10) : digits n = [(Nat.digitChar (n % 10)).toNat] := by
  unfold digits
  rw [Nat.toDigits_of_lt_base h, Nat.mod_eq_of_lt h]
  rfl
theorem digits_more {n : Nat} (h : ¬ n < 10) : digits n = digits (n / 10) ++ [(Nat.digitChar (n % 10)).toNat] := by
  unfold digits
  rw [digits_step h]
  simp
theorem digit_nat : ∀ r, r < 10 → (Nat.digitChar r).toNat = 48 + r := by decide
theorem digits_all : ∀ n : Nat, digits n ≠ [] ∧ (∀ c ∈ digits n, 48 ≤ c ∧ c ≤ 57) ∧ digVal (digits n) = n := by
  intro n
  induction n using Nat.strongRecOn with
  | ind n ih =>
    have hm := digit_nat (n % 10) (Nat.mod_lt _ (by decide))
    by_cases h : n < 10
    · rw [digits_small h, hm]
      refine ⟨by simp, fun c hc => ?_, ?_⟩
      · cases List.mem_singleton.mp hc; omega
      · show 0 * 10 + (48 + n % 10 - 48) = n
        omega
    · obtain ⟨a, b, c⟩ := ih (n / 10) (by omega)
      rw [digits_more h, hm]
      refine ⟨by simp, fun x hx => ?_, ?_⟩
      · rcases List.mem_append.mp hx with hx | hx
        · exact b x hx
        · cases List.mem_singleton.mp hx; omega
      · unfold digVal at c ⊢
        rw [List.foldl_append, c]
        show n / 10 * 10 + (48 + n % 10 - 48) = n
        omega
/-- no leading zero -/
theorem digits_head : ∀ n : Nat, n ≠ 0 → ∃ c r, digits n = c :: r ∧ c ≠ 48 := by
  intro n
  induction n using Nat.strongRecOn with
  | ind n ih =>
    intro hz
    have hm := digit_nat (n % 10) (Nat.mod_lt _ (by decide))
    by_cases h : n < 10
    · exact ⟨_, [], digits_small h, by omega⟩
    · obtain ⟨c, r, e, hc⟩ := ih (n / 10) (by omega) (by omega)
      exact ⟨c, r ++ [(Nat.digitChar (n % 10)).toNat], by rw [digits_more h, e]; rfl, hc⟩
theorem digits_zero : digits 0 = [48] := by decide
theorem digVal_lt : ∀ (s : List Nat), (∀ c ∈ s, 48 ≤ c ∧ c ≤ 57) → digVal s < 10 ^ s.length := by
  have key : ∀ (s : List Nat) (a : Nat), (∀ c ∈ s, 48 ≤ c ∧ c ≤ 57) → s.foldl (fun a c => a * 10 + (c - 48)) a < (a + 1) * 10 ^ s.length := by
    intro s
    induction s with
    | nil => intro a _; simp
    | cons c s ih =>
      intro a h
      have hc := h c List.mem_cons_self
      have := ih (a * 10 + (c - 48)) fun x hx => h x (List.mem_cons_of_mem _ hx)
      rw [List.foldl_cons, List.length_cons, Nat.pow_succ]
      refine Nat.lt_of_lt_of_le this ?_
      have : a * 10 + (c - 48) + 1 ≤ (a + 1) * 10 := by omega
      calc _ ≤ ((a + 1) * 10) * 10 ^ s.length := Nat.mul_le_mul_right _ this
        _ = _ := by rw [Nat.mul_assoc, Nat.mul_comm 10]
  intro s h
  have := key s 0 h
  simpa [digVal] using this
theorem intText_len {i : Int} (h : i.natAbs < 10 ^ 20) : (intText i).length ≤ 21 := by
  have := digits_len 19 i.natAbs h
  unfold intText
  split <;> simp <;> omega

/-! ### words -/
def letters : List Nat := [97, 98, 99, 100, 101, 102, 103, 104, 105, 106, 107, 108, 109, 110, 111, 112, 113, 114, 115, 116, 117, 118, 119, 120, 121, 122]
def tens : List Nat := [48, 49, 50, 51, 52, 53, 54, 55, 56, 57]
theorem in_letters {c : Nat} : letters.contains c = true ↔ 97 ≤ c ∧ c ≤ 122 := by
  unfold letters
  simp only [List.contains_eq_mem, List.mem_cons, List.not_mem_nil, or_false, decide_eq_true_eq]
  omega
theorem in_tens {c : Nat} : tens.contains c = true ↔ 48 ≤ c ∧ c ≤ 57 := by
  unfold tens
  simp only [List.contains_eq_mem, List.mem_cons, List.not_mem_nil, or_false, decide_eq_true_eq]
  omega
/-- all of these signs, and one at least -/
def allIn (w s : List Nat) : Bool := w.all s.contains && decide (0 < w.length)
def unsigned (w : List Nat) : List Nat := if [45].isPrefixOf w then w.drop 1 else w
def atom1 (w : List Nat) : Option Val :=
  if w = [84] then some (.bl true) else if w = [70] then some (.bl false) else if w = [78] then some .non else if allIn w letters = true then some (.str w) else
  if allIn (unsigned w) tens = false ∨ 20 < (unsigned w).length then none else
  if unsigned w = w then some (.int (digVal (unsigned w))) else some (.int (-(digVal (unsigned w) : Int)))
def atom2 (w : List Nat) : Option Val :=
  if w = [84] then some (.bl true) else if w = [70] then some (.bl false) else if w = [78] then some .non else if allIn w letters = true then some (.str w) else
  if allIn (unsigned w) tens = false ∨ 20 < (unsigned w).length then none else
  if (unsigned w).head? = some 48 ∧ w ≠ [48] then none else
  if unsigned w = w then some (.int (digVal (unsigned w))) else some (.int (-(digVal (unsigned w) : Int)))
theorem atom_mono {w : List Nat} {v : Val} (h : atom2 w = some v) : atom1 w = some v := by
  unfold atom2 at h
  unfold atom1
  split at h
  · rename_i e; rw [if_pos e]; exact h
  · rename_i e1
    rw [if_neg e1]
    split at h
    · rename_i e; rw [if_pos e]; exact h
    · rename_i e2
      rw [if_neg e2]
      split at h
      · rename_i e; rw [if_pos e]; exact h
      · rename_i e3
        rw [if_neg e3]
        split at h
        · rename_i e; rw [if_pos e]; exact h
        · rename_i e4
          rw [if_neg e4]
          split at h
          · cases h
          · rename_i e5
            rw [if_neg e5]
            split at h
            · cases h
            · exact h
theorem all_tens {w : List Nat} (h : allIn w tens = true) : w ≠ [] ∧ ∀ c ∈ w, 48 ≤ c ∧ c ≤ 57 := by
  unfold allIn at h
  simp only [Bool.and_eq_true, decide_eq_true_eq] at h
  exact ⟨fun e => by rw [e] at h; simp at h, fun c hc => in_tens.mp (List.all_eq_true.mp h.1 c hc)⟩
theorem all_letters {w : List Nat} (h : allIn w letters = true) : letter w := by
  unfold allIn at h
  simp only [Bool.and_eq_true, decide_eq_true_eq] at h
  exact ⟨fun e => by rw [e] at h; simp at h, fun c hc => in_letters.mp (List.all_eq_true.mp h.1 c hc)⟩
theorem of_letters {w : List Nat} (h : letter w) : allIn w letters = true := by
  unfold allIn
  simp only [Bool.and_eq_true, decide_eq_true_eq]
  exact ⟨List.all_eq_true.mpr fun c hc => in_letters.mpr (h.2 c hc), List.length_pos_iff.mpr h.1⟩
theorem of_tens {w : List Nat} (h1 : w ≠ []) (h : ∀ c ∈ w, 48 ≤ c ∧ c ≤ 57) : allIn w tens = true := by
  unfold allIn
  simp only [Bool.and_eq_true, decide_eq_true_eq]
  exact ⟨List.all_eq_true.mpr fun c hc => in_tens.mpr (h c hc), List.length_pos_iff.mpr h1⟩
theorem unsigned_len (w : List Nat) : (unsigned w).length ≤ w.length ∧ (unsigned w ≠ w → (unsigned w).length + 1 = w.length) := by
  unfold unsigned
  split
  · rename_i h
    cases w with
    | nil => simp at h
    | cons a r => simp
  · exact ⟨Nat.le_refl _, fun z => absurd rfl z⟩
/-- what an atom is -/
theorem atom1_good {w : List Nat} {v : Val} (h : atom1 w = some v) (d : Nat) : G d v ∧ (txt v).length ≤ w.length := by
  unfold atom1 at h
  split at h
  · rename_i e; cases h; subst e; exact ⟨.bl _ _, by unfold txt; simp⟩
  · split at h
    · rename_i e; cases h; subst e; exact ⟨.bl _ _, by unfold txt; simp⟩
    · split at h
      · rename_i e; cases h; subst e; exact ⟨.non _, by unfold txt; simp⟩
      · split at h
        · rename_i e; cases h; exact ⟨.str _ _ (all_letters e), by unfold txt; exact Nat.le_refl _⟩
        · split at h
          · cases h
          · rename_i q
            have q1 : allIn (unsigned w) tens = true := by
              cases z : allIn (unsigned w) tens with
              | true => rfl
              | false => exact absurd (.inl z) q
            have q2 : (unsigned w).length ≤ 20 := by
              by_cases z : 20 < (unsigned w).length
              · exact absurd (.inr z) q
              · omega
            obtain ⟨q3, q4⟩ := all_tens q1
            have lt := digVal_lt _ q4
            have lt2 : digVal (unsigned w) < 10 ^ 20 := Nat.lt_of_lt_of_le lt (Nat.pow_le_pow_right (by decide) q2)
            have pos : 0 < (unsigned w).length := List.length_pos_iff.mpr q3
            have dl : (digits (digVal (unsigned w))).length ≤ (unsigned w).length := by
              have := digits_len ((unsigned w).length - 1) (digVal (unsigned w)) (by rw [Nat.sub_add_cancel pos]; exact lt)
              omega
            obtain ⟨l1, l2⟩ := unsigned_len w
            split at h
            · rename_i e
              cases h
              refine ⟨.int _ _ (by simpa using lt2), ?_⟩
              unfold txt intText
              rw [if_neg (by omega)]
              simp only [Int.natAbs_natCast]
              omega
            · rename_i e
              cases h
              refine ⟨.int _ _ (by simpa using lt2), ?_⟩
              have := l2 e
              unfold txt intText
              split <;> simp only [Int.natAbs_neg, Int.natAbs_natCast, List.length_cons] <;> omega
/-- an atom's own text is read back -/
theorem atom2_txt {d : Nat} {v : Val} (g : G d v) (nt : ∀ xs, v ≠ .tup xs) : atom2 (txt v) = some v ∧ txt v ≠ [] ∧ ∀ c ∈ txt v, ([40, 41, 32] : List Nat).contains c = false := by
  have nd : ∀ c, 48 ≤ c → ([40, 41, 32] : List Nat).contains c = false := fun c hc => by simp; omega
  cases g with
  | non => unfold txt; exact ⟨by simp [atom2], by decide, by decide⟩
  | bl _ b => cases b <;> (unfold txt; exact ⟨by simp [atom2], by decide, by decide⟩)
  | str _ s h =>
    unfold txt
    refine ⟨?_, h.1, fun c hc => nd c (by have := h.2 c hc; omega)⟩
    have ne : ∀ a, a < 97 → s ≠ [a] := fun a ha e => by
      have := h.2 a (by rw [e]; simp)
      omega
    unfold atom2
    rw [if_neg (ne 84 (by decide)), if_neg (ne 70 (by decide)), if_neg (ne 78 (by decide)), if_pos (of_letters h)]
  | int _ i h =>
    obtain ⟨a1, a2, a3⟩ := digits_all i.natAbs
    have dl := digits_len 19 i.natAbs h
    have nl : ∀ w : List Nat, (∃ c ∈ w, c < 97) → allIn w letters ≠ true := fun w ⟨c, hc, hl⟩ z => by
      have := (all_letters z).2 c hc
      omega
    obtain ⟨c0, r0, e0⟩ : ∃ c r, digits i.natAbs = c :: r := by
      cases z : digits i.natAbs with
      | nil => exact absurd z a1
      | cons c r => exact ⟨c, r, rfl⟩
    have hc0 := a2 c0 (by rw [e0]; simp)
    by_cases hi : i < 0
    · have et : txt (.int i) = 45 :: digits i.natAbs := by unfold txt intText; rw [if_pos hi]
      rw [et]
      refine ⟨?_, by simp, fun c hc => ?_⟩
      · have hu : unsigned (45 :: digits i.natAbs) = digits i.natAbs := by simp [unsigned]
        obtain ⟨c, r, e1, e2⟩ := digits_head i.natAbs (by omega)
        unfold atom2
        rw [if_neg (by simp), if_neg (by simp), if_neg (by simp), if_neg (nl _ ⟨45, by simp, by omega⟩), hu, if_neg (by rw [of_tens a1 a2]; intro z; rcases z with z | z; cases z; omega), if_neg (by rw [e1]; simp; intro z; exact absurd z e2),
          if_neg (by intro z; have := congrArg List.length z; simp at this), a3]
        congr 2
        omega
      · rcases List.mem_cons.mp hc with rfl | hc
        · decide
        · exact nd c (by have := a2 c hc; omega)
    · have et : txt (.int i) = digits i.natAbs := by unfold txt intText; rw [if_neg hi]
      rw [et]
      refine ⟨?_, a1, fun c hc => nd c (by have := a2 c hc; omega)⟩
      have hu : unsigned (digits i.natAbs) = digits i.natAbs := by
        unfold unsigned
        rw [e0]
        rw [if_neg (by simp; omega)]
      have ne : ∀ a, 57 < a → digits i.natAbs ≠ [a] := fun a ha e => by
        have := a2 a (by rw [e]; simp)
        omega
      unfold atom2
      rw [if_neg (ne 84 (by decide)), if_neg (ne 70 (by decide)), if_neg (ne 78 (by decide)), if_neg (nl _ ⟨c0, by rw [e0]; simp, by omega⟩), hu, if_neg (by rw [of_tens a1 a2]; intro z; rcases z with z | z; cases z; omega), if_neg ?_, if_pos rfl, a3]
      · congr 2
        omega
      · rintro ⟨z1, z2⟩
        by_cases hz : i.natAbs = 0
        · rw [hz] at z2; exact z2 digits_zero
        · obtain ⟨c, r, e1, e2⟩ := digits_head i.natAbs hz
          rw [e1] at z1
          cases z1
          exact e2 rfl
  | tup _ xs _ => exact absurd rfl (nt xs)

/-! ### reading, sign by sign -/
def delim (c : Nat) : Bool := ([40, 41, 32] : List Nat).contains c
def flush (A : List Nat → Option Val) (w : List Nat) (tp : List Val) : Option (List Val) := if w = [] then some tp else (A w).map fun v => tp ++ [v]
/-- a sign that ends words; the uppermost row first -/
def sgn (c : Nat) : List (List Val) → Option (List (List Val))
  | tp :: rs => if c = 40 then (if 20 < rs.length + 1 then none else some ([] :: tp :: rs)) else if c = 41 then (match rs with
      | [] => none
      | u :: rs' => some ((u ++ [.tup tp]) :: rs')) else some (tp :: rs)
  | [] => none
def run (A : List Nat → Option Val) : List Nat → List Nat → List (List Val) → Option (List (List Val))
  | [], w, tp :: rs => (flush A w tp).map (· :: rs)
  | c :: s, w, tp :: rs => if delim c = true then (match flush A w tp with
      | some tp' => (match sgn c (tp' :: rs) with
        | some r => run A s [] r
        | none => none)
      | none => none) else run A s (w ++ [c]) (tp :: rs)
  | _, _, [] => none
theorem run_mono {A B : List Nat → Option Val} (h : ∀ w v, A w = some v → B w = some v) : ∀ (s w : List Nat) (r x : List (List Val)), run A s w r = some x → run B s w r = some x
  | [], w, [], x, e => by simp [run] at e
  | [], w, tp :: rs, x, e => by
    simp only [run, flush] at e ⊢
    split at e
    · rename_i z; rw [if_pos z]; exact e
    · rename_i z
      rw [if_neg z]
      cases q : A w with
      | none => rw [q] at e; cases e
      | some v => rw [q] at e; rw [h w v q]; exact e
  | c :: s, w, [], x, e => by simp [run] at e
  | c :: s, w, tp :: rs, x, e => by
    have fl : ∀ tp', flush A w tp = some tp' → flush B w tp = some tp' := fun tp' z => by
      unfold flush at z ⊢
      split at z
      · rename_i q; rw [if_pos q]; exact z
      · rename_i q
        rw [if_neg q]
        cases q2 : A w with
        | none => rw [q2] at z; cases z
        | some v => rw [q2] at z; rw [h w v q2]; exact z
    unfold run at e ⊢
    split at e
    · rename_i hd
      rw [if_pos hd]
      cases q : flush A w tp with
      | none => rw [q] at e; cases e
      | some tp' =>
        rw [q] at e
        rw [fl _ q]
        simp only at e ⊢
        cases q2 : sgn c (tp' :: rs) with
        | none => rw [q2] at e; cases e
        | some r => rw [q2] at e; exact run_mono h s [] r x e
    · rename_i hd
      rw [if_neg hd]
      exact run_mono h s (w ++ [c]) (tp :: rs) x e
/-- a word is gathered -/
theorem run_word (A : List Nat → Option Val) (rs : List (List Val)) (tp : List Val) : ∀ (u w rest : List Nat), (∀ c ∈ u, delim c = false) → run A (u ++ rest) w (tp :: rs) = run A rest (w ++ u) (tp :: rs)
  | [], w, rest, _ => by simp
  | c :: u, w, rest, h => by
    show run A (c :: (u ++ rest)) w (tp :: rs) = _
    conv => lhs; unfold run
    rw [if_neg (by rw [h c List.mem_cons_self]; simp), run_word A rs tp u (w ++ [c]) rest fun x hx => h x (List.mem_cons_of_mem _ hx)]
    simp
/-- a rest that begins behind a word -/
def RestOk (rest : List Nat) : Prop := rest = [] ∨ ∃ c r, rest = c :: r ∧ delim c = true
theorem run_flush (A : List Nat → Option Val) {rest : List Nat} (h : RestOk rest) (w : List Nat) (tp : List Val) (rs : List (List Val)) : run A rest w (tp :: rs) = (flush A w tp).bind fun tp' => run A rest [] (tp' :: rs) := by
  rcases h with rfl | ⟨c, r, rfl, hc⟩
  · simp only [run]
    cases flush A w tp <;> simp [flush]
  · conv => lhs; unfold run
    rw [if_pos hc]
    cases q : flush A w tp with
    | none => rfl
    | some tp' =>
      simp only [Option.bind_some]
      conv => rhs; unfold run
      rw [if_pos hc]
      simp [flush]
theorem run_atom (A : List Nat → Option Val) {u rest : List Nat} (hu : ∀ c ∈ u, delim c = false) (ne : u ≠ []) (h : RestOk rest) (tp : List Val) (rs : List (List Val)) : run A (u ++ rest) [] (tp :: rs) = (A u).bind fun v => run A rest [] ((tp ++ [v]) :: rs) := by
  rw [run_word A rs tp u [] rest hu, List.nil_append, run_flush A h]
  unfold flush
  rw [if_neg ne]
  cases A u <;> rfl
/-- a blank at the end -/
theorem run_blank (A : List Nat → Option Val) : ∀ (s w : List Nat) (r : List (List Val)), run A (s ++ [32]) w r = run A s w r
  | [], w, [] => by simp [run]
  | [], w, tp :: rs => by
    show run A [32] w (tp :: rs) = _
    rw [run_flush A (.inr ⟨32, [], rfl, rfl⟩), run_flush A (.inl rfl) w]
    congr 1
  | c :: s, w, [] => by simp [run]
  | c :: s, w, tp :: rs => by
    show run A (c :: (s ++ [32])) w (tp :: rs) = _
    unfold run
    split
    · cases flush A w tp with
      | none => rfl
      | some tp' =>
        simp only
        cases sgn c (tp' :: rs) with
        | none => rfl
        | some r => exact run_blank A s [] r
    · exact run_blank A s (w ++ [c]) (tp :: rs)
/-! ### what is read is a tree -/
def Gr : List (List Val) → Prop
  | [] => True
  | tp :: rs => (∀ x ∈ tp, G (20 - rs.length) x) ∧ Gr rs
/-- how long the texts are -/
def siz : List Val → Nat
  | [] => 0
  | x :: r => (txt x).length + 1 + siz r
def sizs : List (List Val) → Nat
  | [] => 0
  | tp :: rs => siz tp + 2 + sizs rs
theorem siz_app : ∀ a b : List Val, siz (a ++ b) = siz a + siz b
  | [], b => by simp [siz]
  | x :: a, b => by simp only [List.cons_append, siz, siz_app a b]; omega
theorem txts_len : ∀ xs : List Val, (txts xs).length ≤ siz xs ∧ (xs ≠ [] → (txts xs).length + 1 = siz xs)
  | [] => by unfold txts; simp [siz]
  | [x] => by rw [txts_one]; simp [siz]
  | x :: y :: r => by
    obtain ⟨h1, h2⟩ := txts_len (y :: r)
    have := h2 (by simp)
    rw [txts_two]
    simp only [List.length_append, List.length_cons, siz] at this ⊢
    exact ⟨by omega, fun _ => by omega⟩
theorem tup_len (xs : List Val) : (txt (.tup xs)).length ≤ siz xs + 2 := by
  rw [txt_tup]
  have := (txts_len xs).1
  simp only [List.length_cons, List.length_append, List.length_nil]
  omega
/-- all that a reading keeps -/
structure Ok (r : List (List Val)) : Prop where
  g : Gr r
  few : r.length ≤ 21
theorem Ok.put {tp : List Val} {rs : List (List Val)} (o : Ok (tp :: rs)) {v : Val} (g : G (20 - rs.length) v) : Ok ((tp ++ [v]) :: rs) :=
  ⟨⟨fun x hx => by
    rcases List.mem_append.mp hx with hx | hx
    · exact o.g.1 x hx
    · cases List.mem_singleton.mp hx; exact g, o.g.2⟩, o.few⟩
theorem Ok.opn {tp : List Val} {rs : List (List Val)} (o : Ok (tp :: rs)) (h : ¬ 20 < rs.length + 1) : Ok ([] :: tp :: rs) := ⟨⟨fun x hx => by simp at hx, o.g⟩, by simp; omega⟩
theorem Ok.cls {tp u : List Val} {rs : List (List Val)} (o : Ok (tp :: u :: rs)) : Ok ((u ++ [.tup tp]) :: rs) := by
  have hl : rs.length + 1 ≤ 20 := by have := o.few; simp at this; omega
  have g1 : ∀ x ∈ tp, G (20 - (rs.length + 1)) x := by simpa using o.g.1
  refine Ok.put ⟨o.g.2, by have := o.few; simp at this ⊢; omega⟩ ?_
  have e : 20 - rs.length = 20 - (rs.length + 1) + 1 := by omega
  rw [e]
  exact .tup _ _ g1
theorem run_ok {s : List Nat} : ∀ {w : List Nat} {r x : List (List Val)}, Ok r → run atom1 s w r = some x → Ok x ∧ sizs x ≤ sizs r + 2 * (s.length + w.length) := by
  have fl : ∀ {w : List Nat} {tp tp' : List Val} {rs : List (List Val)}, Ok (tp :: rs) → flush atom1 w tp = some tp' → Ok (tp' :: rs) ∧ siz tp' ≤ siz tp + 2 * w.length := fun {w tp tp' rs} o e => by
    unfold flush at e
    split at e
    · cases e; exact ⟨o, by omega⟩
    · rename_i ne
      obtain ⟨v, ev, rfl⟩ := Option.map_eq_some_iff.mp e
      obtain ⟨g, hl⟩ := atom1_good ev (20 - rs.length)
      have : 0 < w.length := List.length_pos_iff.mpr ne
      refine ⟨o.put g, ?_⟩
      rw [siz_app]
      simp only [siz]
      omega
  induction s with
  | nil =>
    intro w r x o e
    cases r with
    | nil => simp [run] at e
    | cons tp rs =>
      simp only [run] at e
      obtain ⟨tp', e1, rfl⟩ := Option.map_eq_some_iff.mp e
      obtain ⟨o', hl⟩ := fl o e1
      refine ⟨o', ?_⟩
      simp only [sizs, List.length_nil]
      omega
  | cons c s ih =>
    intro w r x o e
    cases r with
    | nil => simp [run] at e
    | cons tp rs =>
      unfold run at e
      split at e
      · cases q : flush atom1 w tp with
        | none => rw [q] at e; cases e
        | some tp' =>
          rw [q] at e
          simp only at e
          obtain ⟨o', hl⟩ := fl o q
          cases q2 : sgn c (tp' :: rs) with
          | none => rw [q2] at e; cases e
          | some r' =>
            rw [q2] at e
            simp only at e
            have key : Ok r' ∧ sizs r' ≤ sizs (tp' :: rs) + 2 := by
              simp only [sgn] at q2
              split at q2
              · split at q2
                · cases q2
                · rename_i h20
                  cases q2
                  exact ⟨o'.opn h20, by simp only [sizs, siz]; omega⟩
              · split at q2
                · cases rs with
                  | nil => cases q2
                  | cons u rs' =>
                    cases q2
                    refine ⟨o'.cls, ?_⟩
                    have := tup_len tp'
                    simp only [sizs, siz_app, siz]
                    omega
                · cases q2
                  exact ⟨o', by omega⟩
            obtain ⟨z1, z2⟩ := ih key.1 e
            refine ⟨z1, ?_⟩
            have := key.2
            simp only [sizs, List.length_cons, List.length_nil] at *
            omega
      · obtain ⟨z1, z2⟩ := ih o e
        refine ⟨z1, ?_⟩
        simp only [List.length_append, List.length_cons, List.length_nil] at z2 ⊢
        omega
theorem run_one {s : List Nat} {xs : List Val} (h : run atom1 s [] [[]] = some [xs]) : (∀ x ∈ xs, G 20 x) ∧ siz xs ≤ 2 * s.length := by
  obtain ⟨o, hl⟩ := run_ok (w := []) (r := [[]]) ⟨⟨fun x hx => by simp at hx, trivial⟩, by simp⟩ h
  refine ⟨o.g.1, ?_⟩
  simp only [sizs, siz, List.length_nil] at hl
  omega
/-! ### a tree's text is read -/
theorem run_txt : ∀ (d : Nat) (v : Val), G d v → ∀ (tp : List Val) (rs : List (List Val)) (rest : List Nat), rs.length + d ≤ 20 → RestOk rest → run atom2 (txt v ++ rest) [] (tp :: rs) = run atom2 rest [] ((tp ++ [v]) :: rs) := by
  have atoms : ∀ (d : Nat) (v : Val), G d v → (∀ xs, v ≠ .tup xs) → ∀ (tp : List Val) (rs : List (List Val)) (rest : List Nat), RestOk rest → run atom2 (txt v ++ rest) [] (tp :: rs) = run atom2 rest [] ((tp ++ [v]) :: rs) := fun d v g nt tp rs rest hr => by
    obtain ⟨a1, a2, a3⟩ := atom2_txt g nt
    rw [run_atom atom2 a3 a2 hr, a1]
    rfl
  intro d
  induction d with
  | zero =>
    intro v g tp rs rest _ hr
    cases g with
    | non => exact atoms 0 _ (.non _) (fun _ => by simp) tp rs rest hr
    | bl _ b => exact atoms 0 _ (.bl _ b) (fun _ => by simp) tp rs rest hr
    | int _ i h => exact atoms 0 _ (.int _ i h) (fun _ => by simp) tp rs rest hr
    | str _ s h => exact atoms 0 _ (.str _ s h) (fun _ => by simp) tp rs rest hr
  | succ d ih =>
    intro v g tp rs rest hd hr
    cases g with
    | non => exact atoms 0 _ (.non _) (fun _ => by simp) tp rs rest hr
    | bl _ b => exact atoms 0 _ (.bl _ b) (fun _ => by simp) tp rs rest hr
    | int _ i h => exact atoms 0 _ (.int _ i h) (fun _ => by simp) tp rs rest hr
    | str _ s h => exact atoms 0 _ (.str _ s h) (fun _ => by simp) tp rs rest hr
    | tup _ xs h =>
      have items : ∀ (ys acc : List Val), (∀ x ∈ ys, G d x) → run atom2 (txts ys ++ 41 :: rest) [] (acc :: tp :: rs) = run atom2 (41 :: rest) [] ((acc ++ ys) :: tp :: rs) := by
        intro ys
        induction ys with
        | nil => intro acc _; unfold txts; simp
        | cons y r ihy =>
          intro acc hy
          cases r with
          | nil =>
            rw [txts_one]
            exact ih y (hy y (by simp)) acc (tp :: rs) _ (by simp; omega) (.inr ⟨41, rest, rfl, rfl⟩)
          | cons z r =>
            rw [txts_two]
            show run atom2 ((txt y ++ 32 :: txts (z :: r)) ++ 41 :: rest) [] _ = _
            rw [List.append_assoc]
            rw [ih y (hy y (by simp)) acc (tp :: rs) (32 :: txts (z :: r) ++ 41 :: rest) (by simp; omega) (.inr ⟨32, _, rfl, rfl⟩)]
            have e32 : ∀ t : List Nat, run atom2 (32 :: t) [] ((acc ++ [y]) :: tp :: rs) = run atom2 t [] ((acc ++ [y]) :: tp :: rs) := fun t => by
              conv => lhs; unfold run
              rw [if_pos (show delim 32 = true from rfl)]
              simp [flush, sgn]
            show run atom2 (32 :: (txts (z :: r) ++ 41 :: rest)) [] _ = _
            rw [e32, ihy (acc ++ [y]) fun x hx => hy x (List.mem_cons_of_mem _ hx)]
            simp
      rw [txt_tup]
      show run atom2 (40 :: ((txts xs ++ [41]) ++ rest)) [] (tp :: rs) = _
      conv => lhs; unfold run
      rw [if_pos (show delim 40 = true from rfl)]
      have h20 : ¬ 20 < rs.length + 1 := by omega
      simp only [flush, if_true, sgn, if_neg h20]
      have := items xs [] h
      rw [List.append_assoc]
      show run atom2 (txts xs ++ 41 :: rest) [] ([] :: tp :: rs) = _
      rw [this]
      conv => lhs; unfold run
      rw [if_pos (show delim 41 = true from rfl)]
      simp [flush, sgn]
/-- the two readers tell the same of every text -/
theorem both (s : List Nat) (v : Val) : (run atom2 s [] [[]] = some [[v]] ∧ txt v = s) ↔ (run atom1 s [] [[]] = some [[v]] ∧ txt v = s) := by
  refine ⟨fun ⟨h1, h2⟩ => ⟨run_mono (fun w v => atom_mono) s [] _ _ h1, h2⟩, fun ⟨h1, h2⟩ => ⟨?_, h2⟩⟩
  have g := (run_one h1).1 v (by simp)
  have := run_txt 20 v g [] [] [] (by simp) (.inl rfl)
  rw [List.append_nil, h2] at this
  rw [this]
  simp [run, flush]
end K71

/-! K71: law k71 over MP -/
namespace K71
open MP
def b0 : List S := [.ife (.isi (.var 0) .tuple) [.ret (.op .add (.op .add (.cst (.str [40])) (.bm (.cst (.str [32])) .join [(.comp false (.call 0 [(.var 1)]) (.name 1) 0 [(.var 0)] [] [1])])) (.cst (.str [41])))] [],
    .ife (.op .is (.var 0) (.cst (.non))) [.ret (.cst (.str [78]))] [],
    .ife (.op .is (.var 0) (.cst (.bl true))) [.ret (.cst (.str [84]))] [],
    .ife (.op .is (.var 0) (.cst (.bl false))) [.ret (.cst (.str [70]))] [],
    .ret (.bf .str true [(.var 0)])]
def b1 : List S := [.loop (.name 2) 0 [(.var 0)] [.ife (.op .notin (.var 2) (.var 1)) [.ret (.cst (.bl false))] []],
    .ret (.op .gt (.bf .len true [(.var 0)]) (.cst (.int 0)))]
def b2 : List S := [.ife (.op .eq (.var 0) (.cst (.str [84]))) [.ret (.cst (.bl true))] [],
    .ife (.op .eq (.var 0) (.cst (.str [70]))) [.ret (.cst (.bl false))] [],
    .ife (.op .eq (.var 0) (.cst (.str [78]))) [.ret (.cst (.non))] [],
    .ife (.call 1 [(.var 0), (.cst (.str [97, 98, 99, 100, 101, 102, 103, 104, 105, 106, 107, 108, 109, 110, 111, 112, 113, 114, 115, 116, 117, 118, 119, 120, 121, 122]))]) [.ret (.var 0)] [],
    .asg (.name 2) (.bm (.var 0) .removeprefix [(.cst (.str [45]))]),
    .ife (.or (.not (.call 1 [(.var 2), (.cst (.str [48, 49, 50, 51, 52, 53, 54, 55, 56, 57]))])) (.op .gt (.bf .len true [(.var 2)]) (.cst (.int 20)))) [.raise 2 [(.var 1)]] [],
    .ife (.op .eq (.var 2) (.var 0)) [.ret (.bf .int true [(.var 2)])] [],
    .ret (.neg (.bf .int true [(.var 2)]))]
def b3 : List S := [.asg (.name 2) (.var 1),
    .whl (.and (.op .lt (.var 2) (.bf .len true [(.var 0)])) (.op .notin (.sub (.var 0) (.var 2)) (.cst (.str [40, 41, 32])))) [.augN 2 .add (.cst (.int 1))],
    .ret (.var 2)]
def b4 : List S := [.asg (.name 2) (.lst true [(.lst true [])]),
    .asg (.name 3) (.cst (.int 0)),
    .whl (.op .lt (.var 3) (.bf .len true [(.var 0)])) [.asg (.name 4) (.sub (.var 0) (.var 3)), .ife (.op .eq (.var 4) (.cst (.str [40]))) [.ife (.op .gt (.bf .len true [(.var 2)]) (.cst (.int 20))) [.raise 2 [(.var 1)]] [], .expr (.bm (.var 2) .append [(.lst true [])])] [.ife (.op .eq (.var 4) (.cst (.str [41]))) [.ife (.op .eq (.bf .len true [(.var 2)]) (.cst (.int 1))) [.raise 2 [(.var 1)]] [], .asg (.name 5) (.bf .tuple true [(.bm (.var 2) .pop [])]), .expr (.bm (.sub (.var 2) (.neg (.cst (.int 1)))) .append [(.var 5)])] [.ife (.op .ne (.var 4) (.cst (.str [32]))) [.asg (.name 6) (.call 3 [(.var 0), (.var 3)]), .expr (.bm (.sub (.var 2) (.neg (.cst (.int 1)))) .append [(.call 2 [(.slice true (.var 0) [(.var 3)] [(.var 6)]), (.var 1)])]), .asg (.name 3) (.op .sub (.var 6) (.cst (.int 1)))] []]], .augN 3 .add (.cst (.int 1))],
    .ife (.op .ne (.bf .len true [(.var 2)]) (.cst (.int 1))) [.raise 2 [(.var 1)]] [],
    .ret (.sub (.var 2) (.cst (.int 0)))]
def b5 : List S := [.asg (.name 2) (.call 4 [(.var 0), (.var 1)]),
    .ife (.or (.op .ne (.bf .len true [(.var 2)]) (.cst (.int 1))) (.op .ne (.call 0 [(.sub (.var 2) (.cst (.int 0)))]) (.var 0))) [.raise 2 [(.var 1)]] [],
    .ret (.sub (.var 2) (.cst (.int 0)))]
def b6 : List S := [.asg (.name 2) (.cst (.int 0)),
    .ife (.op .lt (.var 1) (.bf .len true [(.var 0)])) [.asg (.name 2) (.sub (.var 0) (.var 1))] [],
    .ife (.op .lt (.var 2) (.cst (.int 0))) [.asg (.name 2) (.op .sub (.op .sub (.cst (.int 0)) (.op .mul (.cst (.int 2)) (.var 2))) (.cst (.int 1)))] [],
    .ife (.op .ge (.var 2) (.op .pow (.cst (.int 10)) (.cst (.int 9)))) [.ret (.var 2)] [],
    .asg (.name 3) (.op .mod (.bf .int true [(.op .add (.op .add (.op .mul (.var 2) (.cst (.int 48271))) (.op .mul (.var 1) (.cst (.int 69621)))) (.cst (.int 11)))]) (.cst (.int 2147483647))),
    .asg (.name 3) (.op .mod (.bf .int true [(.op .add (.op .add (.op .mul (.var 3) (.cst (.int 16807))) (.op .mul (.var 1) (.cst (.int 12345)))) (.cst (.int 99991)))]) (.cst (.int 2147483629))),
    .asg (.name 4) (.op .mod (.bf .int true [(.op .add (.op .add (.op .mul (.var 3) (.cst (.int 40692))) (.op .mul (.var 1) (.cst (.int 3791)))) (.var 2))]) (.cst (.int 2147483399))),
    .asg (.name 4) (.op .mod (.bf .int true [(.op .add (.op .mul (.var 4) (.cst (.int 69621))) (.cst (.int 7)))]) (.cst (.int 2147483647))),
    .ret (.op .add (.op .mul (.var 3) (.cst (.int 2147483647))) (.var 4))]
def b7 : List S := [.ife (.isi (.var 0) .tuple) [.ife (.or (.not (.isi (.var 1) .tuple)) (.op .ne (.bf .len true [(.var 0)]) (.bf .len true [(.var 1)]))) [.ret (.cst (.bl false))] [], .ret (.bf .all true [(.comp false (.call 7 [(.sub (.var 0) (.var 2)), (.sub (.var 1) (.var 2))]) (.name 2) 2 [(.bf .len true [(.var 0)])] [] [2])])] [],
    .ife (.op .is (.var 0) (.cst (.non))) [.ret (.op .is (.var 1) (.cst (.non)))] [],
    .ife (.isi (.var 0) .bool) [.ret (.and (.isi (.var 1) .bool) (.op .eq (.var 0) (.var 1)))] [],
    .ife (.isi (.var 0) .str) [.ret (.and (.isi (.var 1) .str) (.op .eq (.var 0) (.var 1)))] [],
    .ret (.and (.isi (.var 1) .int) (.and (.not (.isi (.var 1) .bool)) (.op .eq (.var 0) (.var 1))))]
def b8 : List S := [.asg (.name 2) (.op .mod (.bf .int true [(.var 0)]) (.cst (.int 9))),
    .asg (.name 3) (.op .fdiv (.bf .int true [(.var 0)]) (.cst (.int 9))),
    .ife (.and (.op .lt (.var 2) (.cst (.int 4))) (.op .gt (.var 1) (.cst (.int 0)))) [.asg (.name 4) (.lst true []), .loop (.name 5) 2 [(.op .mod (.bf .int true [(.var 3)]) (.cst (.int 5)))] [.expr (.bm (.var 4) .append [(.call 8 [(.op .fdiv (.bf .int true [(.var 3)]) (.op .add (.cst (.int 5)) (.op .mul (.cst (.int 11)) (.var 5)))), (.op .sub (.var 1) (.cst (.int 1)))])])], .ret (.bf .tuple true [(.var 4)])] [],
    .ife (.op .eq (.var 2) (.cst (.int 4))) [.ret (.sub (.lst true [(.cst (.bl true)), (.cst (.bl false)), (.cst (.non))]) (.op .mod (.bf .int true [(.var 3)]) (.cst (.int 3))))] [],
    .ife (.op .eq (.var 2) (.cst (.int 5))) [.ret (.sub (.lst true [(.cst (.str [112, 97, 121])), (.cst (.str [116])), (.cst (.str [102])), (.cst (.str [111, 112, 101, 110])), (.cst (.str [110, 111, 110, 101])), (.cst (.str [122, 122]))]) (.op .mod (.bf .int true [(.var 3)]) (.cst (.int 6))))] [],
    .ife (.op .eq (.var 2) (.cst (.int 6))) [.ret (.op .sub (.cst (.int 0)) (.op .mod (.bf .int true [(.var 3)]) (.cst (.int 100))))] [],
    .ife (.op .eq (.var 2) (.cst (.int 7))) [.ret (.op .mod (.bf .int true [(.var 3)]) (.op .pow (.cst (.int 10)) (.cst (.int 20))))] [],
    .ret (.op .mod (.bf .int true [(.var 3)]) (.cst (.int 1000)))]
def b9 : List S := [.ife (.isi (.var 0) .tuple) [.asg (.name 2) (.cst (.str [40])), .loop (.name 3) 2 [(.bf .len true [(.var 0)])] [.ife (.op .gt (.var 3) (.cst (.int 0))) [.asg (.name 2) (.op .add (.var 2) (.cst (.str [32])))] [], .asg (.name 2) (.op .add (.var 2) (.call 9 [(.sub (.var 0) (.var 3))]))], .ret (.op .add (.var 2) (.cst (.str [41])))] [],
    .ife (.op .is (.var 0) (.cst (.non))) [.ret (.cst (.str [78]))] [],
    .ife (.op .is (.var 0) (.cst (.bl true))) [.ret (.cst (.str [84]))] [],
    .ife (.op .is (.var 0) (.cst (.bl false))) [.ret (.cst (.str [70]))] [],
    .ife (.isi (.var 0) .str) [.ret (.var 0)] [],
    .ife (.op .lt (.var 0) (.cst (.int 0))) [.ret (.op .add (.cst (.str [45])) (.call 9 [(.op .sub (.cst (.int 0)) (.var 0))]))] [],
    .asg (.name 1) (.sub (.cst (.str [48, 49, 50, 51, 52, 53, 54, 55, 56, 57])) (.op .mod (.bf .int true [(.var 0)]) (.cst (.int 10)))),
    .asg (.name 0) (.op .fdiv (.bf .int true [(.var 0)]) (.cst (.int 10))),
    .whl (.op .gt (.var 0) (.cst (.int 0))) [.asg (.name 1) (.op .add (.sub (.cst (.str [48, 49, 50, 51, 52, 53, 54, 55, 56, 57])) (.op .mod (.bf .int true [(.var 0)]) (.cst (.int 10)))) (.var 1)), .asg (.name 0) (.op .fdiv (.bf .int true [(.var 0)]) (.cst (.int 10)))],
    .ret (.var 1)]
def b10 : List S := [.ife (.op .eq (.var 0) (.cst (.str [84]))) [.ret (.tup [(.cst (.bl true))])] [],
    .ife (.op .eq (.var 0) (.cst (.str [70]))) [.ret (.tup [(.cst (.bl false))])] [],
    .ife (.op .eq (.var 0) (.cst (.str [78]))) [.ret (.tup [(.cst (.non))])] [],
    .asg (.name 1) (.comp false (.var 5) (.name 5) 0 [(.var 0)] [(.op .isin (.var 5) (.cst (.str [97, 98, 99, 100, 101, 102, 103, 104, 105, 106, 107, 108, 109, 110, 111, 112, 113, 114, 115, 116, 117, 118, 119, 120, 121, 122])))] [5]),
    .ife (.and (.op .gt (.bf .len true [(.var 0)]) (.cst (.int 0))) (.op .eq (.bf .len true [(.var 1)]) (.bf .len true [(.var 0)]))) [.ret (.tup [(.var 0)])] [],
    .asg (.name 2) (.var 0),
    .ife (.bm (.var 0) .startswith [(.cst (.str [45]))]) [.asg (.name 2) (.slice true (.var 0) [(.cst (.int 1))] [])] [],
    .asg (.name 3) (.comp false (.var 5) (.name 5) 0 [(.var 2)] [(.op .isin (.var 5) (.cst (.str [48, 49, 50, 51, 52, 53, 54, 55, 56, 57])))] [5]),
    .ife (.or (.op .lt (.bf .len true [(.var 2)]) (.cst (.int 1))) (.or (.op .gt (.bf .len true [(.var 2)]) (.cst (.int 20))) (.op .lt (.bf .len true [(.var 3)]) (.bf .len true [(.var 2)])))) [.ret (.cst (.non))] [],
    .ife (.and (.op .eq (.sub (.var 2) (.cst (.int 0))) (.cst (.str [48]))) (.op .ne (.var 0) (.cst (.str [48])))) [.ret (.cst (.non))] [],
    .asg (.name 4) (.cst (.int 0)),
    .loop (.name 5) 0 [(.var 2)] [.asg (.name 4) (.op .add (.op .mul (.var 4) (.cst (.int 10))) (.bm (.cst (.str [48, 49, 50, 51, 52, 53, 54, 55, 56, 57])) .find [(.var 5)]))],
    .ife (.bm (.var 0) .startswith [(.cst (.str [45]))]) [.ret (.tup [(.op .sub (.cst (.int 0)) (.var 4))])] [],
    .ret (.tup [(.var 4)])]
def b11 : List S := [.asg (.name 1) (.lst true [(.lst true [])]),
    .asg (.name 2) (.cst (.str [])),
    .loop (.name 3) 0 [(.op .add (.var 0) (.cst (.str [32])))] [.ife (.op .isin (.var 3) (.cst (.str [40, 41, 32]))) [.ife (.op .ne (.var 2) (.cst (.str []))) [.asg (.name 4) (.call 10 [(.var 2)]), .ife (.op .is (.var 4) (.cst (.non))) [.ret (.cst (.non))] [], .expr (.bm (.sub (.var 1) (.op .sub (.bf .len true [(.var 1)]) (.cst (.int 1)))) .append [(.sub (.var 4) (.cst (.int 0)))]), .asg (.name 2) (.cst (.str []))] [], .ife (.op .eq (.var 3) (.cst (.str [40]))) [.ife (.op .gt (.bf .len true [(.var 1)]) (.cst (.int 20))) [.ret (.cst (.non))] [], .expr (.bm (.var 1) .append [(.lst true [])])] [], .ife (.op .eq (.var 3) (.cst (.str [41]))) [.ife (.op .lt (.bf .len true [(.var 1)]) (.cst (.int 2))) [.ret (.cst (.non))] [], .asg (.name 5) (.bf .tuple true [(.sub (.var 1) (.op .sub (.bf .len true [(.var 1)]) (.cst (.int 1))))]), .asg (.name 1) (.slice true (.var 1) [] [(.op .sub (.bf .len true [(.var 1)]) (.cst (.int 1)))]), .expr (.bm (.sub (.var 1) (.op .sub (.bf .len true [(.var 1)]) (.cst (.int 1)))) .append [(.var 5)])] []] [.asg (.name 2) (.op .add (.var 2) (.var 3))]],
    .ife (.or (.op .ne (.bf .len true [(.var 1)]) (.cst (.int 1))) (.or (.op .ne (.bf .len true [(.sub (.var 1) (.cst (.int 0)))]) (.cst (.int 1))) (.op .ne (.call 9 [(.sub (.sub (.var 1) (.cst (.int 0))) (.cst (.int 0)))]) (.var 0)))) [.ret (.cst (.non))] [],
    .ret (.tup [(.sub (.sub (.var 1) (.cst (.int 0))) (.cst (.int 0)))])]
def b12 : List S := [.asg (.name 2) (.cst (.str [])),
    .loop (.name 3) 2 [(.var 1)] [.asg (.name 2) (.op .add (.var 2) (.sub (.cst (.str [40, 41, 40, 41, 32, 32, 84, 78, 45, 48, 49, 50, 97, 98, 57])) (.op .mod (.op .fdiv (.bf .int true [(.var 0)]) (.op .add (.cst (.int 3)) (.op .mul (.cst (.int 5)) (.var 3)))) (.cst (.int 15)))))],
    .ret (.var 2)]
def b13 : List S := [.asg (.name 2) (.call 9 [(.call 8 [(.var 0), (.cst (.int 4))])]),
    .asg (.name 3) (.op .mod (.bf .int true [(.var 1)]) (.op .add (.bf .len true [(.var 2)]) (.cst (.int 1)))),
    .asg (.name 4) (.op .mod (.op .fdiv (.bf .int true [(.var 1)]) (.cst (.int 64))) (.cst (.int 6))),
    .asg (.name 5) (.sub (.cst (.str [40, 41, 32, 84, 78, 45, 48, 49, 50, 97, 98, 57])) (.op .mod (.op .fdiv (.bf .int true [(.var 1)]) (.cst (.int 384))) (.cst (.int 12)))),
    .ife (.op .eq (.var 4) (.cst (.int 0))) [.ret (.op .add (.op .add (.slice true (.var 2) [] [(.var 3)]) (.var 5)) (.slice true (.var 2) [(.var 3)] []))] [],
    .ife (.op .eq (.var 4) (.cst (.int 1))) [.ret (.op .add (.slice true (.var 2) [] [(.var 3)]) (.slice true (.var 2) [(.op .add (.var 3) (.cst (.int 1)))] []))] [],
    .ife (.op .eq (.var 4) (.cst (.int 2))) [.ret (.op .add (.op .add (.slice true (.var 2) [] [(.var 3)]) (.var 5)) (.slice true (.var 2) [(.op .add (.var 3) (.cst (.int 1)))] []))] [],
    .ife (.op .eq (.var 4) (.cst (.int 3))) [.ret (.op .add (.cst (.str [49])) (.op .mul (.cst (.str [48])) (.op .add (.cst (.int 18)) (.op .mod (.op .fdiv (.bf .int true [(.var 1)]) (.cst (.int 384))) (.cst (.int 4))))))] [],
    .ife (.op .eq (.var 4) (.cst (.int 4))) [.asg (.name 6) (.op .add (.cst (.int 18)) (.op .mod (.op .fdiv (.bf .int true [(.var 1)]) (.cst (.int 384))) (.cst (.int 6)))), .ret (.op .add (.op .add (.op .mul (.cst (.str [40])) (.var 6)) (.cst (.str [53]))) (.op .mul (.cst (.str [41])) (.var 6)))] [],
    .ret (.var 2)]
def b14 : List S := [.tryAs [.asg (.name 3) (.ite (.op .eq (.var 1) (.cst (.int 1))) (.callK 5 [(.var 0)] [.pos 0, .dfl (.int 1)]) (.callK 5 [(.var 0), (.var 1)] [.pos 0, .pos 1]))] 0 2 [(.or (.not (.isE 2)) (.or (.isE 1) (.lineNe 1)), .val (.tup [.int 0, .int 0]))] (.val (.non)),
    .ret (.tup [(.var 3)])]
def b15 : List S := [.loop (.name 1) 2 [(.cst (.int 6))] [.asg (.name 2) (.call 6 [(.var 0), (.op .mul (.cst (.int 2)) (.var 1))]), .asg (.name 3) (.call 6 [(.var 0), (.op .add (.op .mul (.cst (.int 2)) (.var 1)) (.cst (.int 1)))]), .asg (.name 4) (.call 13 [(.var 2), (.var 3)]), .ife (.op .eq (.var 1) (.cst (.int 0))) [.asg (.name 4) (.call 12 [(.var 2), (.op .mod (.bf .int true [(.var 3)]) (.cst (.int 41)))])] [], .ife (.op .eq (.var 1) (.cst (.int 1))) [.asg (.name 4) (.call 12 [(.var 2), (.op .mod (.bf .int true [(.var 3)]) (.cst (.int 8)))])] [], .asg (.name 5) (.call 11 [(.var 4)]), .asg (.name 6) (.call 14 [(.var 4), (.op .add (.op .mod (.bf .int true [(.var 3)]) (.cst (.int 90))) (.cst (.int 1)))]), .ife (.or (.and (.op .is (.var 5) (.cst (.non))) (.op .isnot (.var 6) (.cst (.non)))) (.and (.op .isnot (.var 5) (.cst (.non))) (.op .is (.var 6) (.cst (.non))))) [.ret (.cst (.bl false))] [], .ife (.and (.op .isnot (.var 5) (.cst (.non))) (.not (.call 7 [(.var 5), (.var 6)]))) [.ret (.cst (.bl false))] []],
    .ret (.cst (.bl true))]
structure Tab (T : Tb) : Prop where
  f0 : T.fns 0 = some ⟨1, 2, b0⟩
  f1 : T.fns 1 = some ⟨2, 3, b1⟩
  f2 : T.fns 2 = some ⟨2, 3, b2⟩
  f3 : T.fns 3 = some ⟨2, 3, b3⟩
  f4 : T.fns 4 = some ⟨2, 7, b4⟩
  f5 : T.fns 5 = some ⟨2, 3, b5⟩
  f6 : T.fns 6 = some ⟨2, 5, b6⟩
  f7 : T.fns 7 = some ⟨2, 3, b7⟩
  f8 : T.fns 8 = some ⟨2, 6, b8⟩
  f9 : T.fns 9 = some ⟨1, 4, b9⟩
  f10 : T.fns 10 = some ⟨1, 6, b10⟩
  f11 : T.fns 11 = some ⟨1, 6, b11⟩
  f12 : T.fns 12 = some ⟨2, 4, b12⟩
  f13 : T.fns 13 = some ⟨2, 7, b13⟩
  f14 : T.fns 14 = some ⟨2, 4, b14⟩
  f15 : T.fns 15 = some ⟨1, 7, b15⟩
  fz : ∀ k, T.fz k = false
  ex : T.exn 2 = some true
  s0 : T.sub 2 0 = some true
  s1 : T.sub 2 1 = some false
  s2 : T.sub 2 2 = some true
section
variable {T : Tb} (B : Tab T)
include B
theorem number (d : Nat) (xs : List Int) (k : Nat) (h : Heap) : ∃ i, callF T (d + 1) 6 [.arr (xs.map .int), .int k] h = .ok (.int i) h := by
  rw [callF_n T d 6 _ h _ B.f6 (B.fz 6) rfl]
  have m1 : ∀ a : Int, opV h .mul (.int a) (.int 48271) = some (.int (a * 48271)) := fun a => v_mul2 h (by decide)
  have m2 : ∀ a : Int, opV h .mul (.int a) (.int 69621) = some (.int (a * 69621)) := fun a => v_mul2 h (by decide)
  have m3 : ∀ a : Int, opV h .mul (.int a) (.int 16807) = some (.int (a * 16807)) := fun a => v_mul2 h (by decide)
  have m4 : ∀ a : Int, opV h .mul (.int a) (.int 12345) = some (.int (a * 12345)) := fun a => v_mul2 h (by decide)
  have m5 : ∀ a : Int, opV h .mul (.int a) (.int 40692) = some (.int (a * 40692)) := fun a => v_mul2 h (by decide)
  have m6 : ∀ a : Int, opV h .mul (.int a) (.int 3791) = some (.int (a * 3791)) := fun a => v_mul2 h (by decide)
  have m7 : ∀ a : Int, opV h .mul (.int a) (.int 2147483647) = some (.int (a * 2147483647)) := fun a => v_mul2 h (by decide)
  have m8 : ∀ a : Int, opV h .mul (.int 2) (.int a) = some (.int (2 * a)) := fun a => v_mul1 h (by decide)
  have q1 : ∀ a : Int, opV h .mod (.int a) (.int 2147483647) = some (.int (a.fmod 2147483647)) := fun a => v_mod h (by decide)
  have q2 : ∀ a : Int, opV h .mod (.int a) (.int 2147483629) = some (.int (a.fmod 2147483629)) := fun a => v_mod h (by decide)
  have q3 : ∀ a : Int, opV h .mod (.int a) (.int 2147483399) = some (.int (a.fmod 2147483399)) := fun a => v_mod h (by decide)
  have p1 : opV h .pow (.int 10) (.int 9) = some (.int (10 ^ 9)) := v_pow h (by decide)
  have rest : ∀ (c : Int), ∃ i, retO (exB T (callF T d) (b6.drop 2) [some (.arr (xs.map .int)), some (.int k), some (.int c), none, none] h) = .ok (.int i) h := fun c => by
    have main : ∀ (c : Int), ∃ i, retO (exB T (callF T d) (b6.drop 3) [some (.arr (xs.map .int)), some (.int k), some (.int c), none, none] h) = .ok (.int i) h := fun c => by
      unfold b6
      simp only [List.drop_succ_cons, List.drop_zero, evE_var, evE_cst, evE_tup, evE_lst, evE_op, evE_neg, evE_not, evE_and, evE_or, evE_ite, evE_sub, evE_slice, evE_call, evE_callK, evE_bm, evE_bf, evE_isi, evEs_nil, evEs_cons, exS_asg, exS_augN, exS_expr, exS_ret, exS_ife, exB_nil', exB_cons', bind_ok', stm_ok', next_nx', next_rt', bind_exc', stm_exc', next_exc', ifO_t, ifO_f, opt_some, varO_some, laidV_int, laidV_bl, laidV_str, laidV_tup, laidV_lst, retO_rt, retO_nx, v_add, v_sub, v_lt, v_le, v_gt, v_ge, v_eqi, v_nei, t_bl, t_int, ofOpt_some', List.getElem?_cons_zero, List.getElem?_cons_succ, List.set_cons_zero, List.set_cons_succ, List.map_cons, List.map_nil, List.cons_append, List.nil_append, List.replicate_succ, List.replicate_zero, bindTg, setSlots, List.length_cons, List.length_nil, Nat.reduceAdd, Nat.reduceSub, Nat.reduceLT, ↓reduceIte, if_true, bf_int, bf_lent, bf_lenl, bf_lena, sub_t, sub_l, sub_a, m1, m2, m3, m4, m5, m6, m7, q1, q2, q3, p1]
      by_cases hc : (10 : Int) ^ 9 ≤ c
      · rw [decide_eq_true hc]
        simp only [evE_var, evE_cst, evE_tup, evE_lst, evE_op, evE_neg, evE_not, evE_and, evE_or, evE_ite, evE_sub, evE_slice, evE_call, evE_callK, evE_bm, evE_bf, evE_isi, evEs_nil, evEs_cons, exS_asg, exS_augN, exS_expr, exS_ret, exS_ife, exB_nil', exB_cons', bind_ok', stm_ok', next_nx', next_rt', bind_exc', stm_exc', next_exc', ifO_t, ifO_f, opt_some, varO_some, laidV_int, laidV_bl, laidV_str, laidV_tup, laidV_lst, retO_rt, retO_nx, v_add, v_sub, v_lt, v_le, v_gt, v_ge, v_eqi, v_nei, t_bl, t_int, ofOpt_some', List.getElem?_cons_zero, List.getElem?_cons_succ, List.set_cons_zero, List.set_cons_succ, List.map_cons, List.map_nil, List.cons_append, List.nil_append, List.replicate_succ, List.replicate_zero, bindTg, setSlots, List.length_cons, List.length_nil, Nat.reduceAdd, Nat.reduceSub, Nat.reduceLT, ↓reduceIte, if_true, bf_int, bf_lent, bf_lenl, bf_lena, sub_t, sub_l, sub_a]
        exact ⟨_, rfl⟩
      · rw [decide_eq_false hc]
        simp only [evE_var, evE_cst, evE_tup, evE_lst, evE_op, evE_neg, evE_not, evE_and, evE_or, evE_ite, evE_sub, evE_slice, evE_call, evE_callK, evE_bm, evE_bf, evE_isi, evEs_nil, evEs_cons, exS_asg, exS_augN, exS_expr, exS_ret, exS_ife, exB_nil', exB_cons', bind_ok', stm_ok', next_nx', next_rt', bind_exc', stm_exc', next_exc', ifO_t, ifO_f, opt_some, varO_some, laidV_int, laidV_bl, laidV_str, laidV_tup, laidV_lst, retO_rt, retO_nx, v_add, v_sub, v_lt, v_le, v_gt, v_ge, v_eqi, v_nei, t_bl, t_int, ofOpt_some', List.getElem?_cons_zero, List.getElem?_cons_succ, List.set_cons_zero, List.set_cons_succ, List.map_cons, List.map_nil, List.cons_append, List.nil_append, List.replicate_succ, List.replicate_zero, bindTg, setSlots, List.length_cons, List.length_nil, Nat.reduceAdd, Nat.reduceSub, Nat.reduceLT, ↓reduceIte, if_true, bf_int, bf_lent, bf_lenl, bf_lena, sub_t, sub_l, sub_a, m1, m2, m3, m4, m5, m6, m7, q1, q2, q3, p1]
        exact ⟨_, rfl⟩
    have e : b6.drop 2 = (b6.getD 2 .stop) :: b6.drop 3 := rfl
    rw [e]
    by_cases hc : c < 0
    · have := main (0 - 2 * c - 1)
      simp only [evE_var, evE_cst, evE_tup, evE_lst, evE_op, evE_neg, evE_not, evE_and, evE_or, evE_ite, evE_sub, evE_slice, evE_call, evE_callK, evE_bm, evE_bf, evE_isi, evEs_nil, evEs_cons, exS_asg, exS_augN, exS_expr, exS_ret, exS_ife, exB_nil', exB_cons', bind_ok', stm_ok', next_nx', next_rt', bind_exc', stm_exc', next_exc', ifO_t, ifO_f, opt_some, varO_some, laidV_int, laidV_bl, laidV_str, laidV_tup, laidV_lst, retO_rt, retO_nx, v_add, v_sub, v_lt, v_le, v_gt, v_ge, v_eqi, v_nei, t_bl, t_int, ofOpt_some', List.getElem?_cons_zero, List.getElem?_cons_succ, List.set_cons_zero, List.set_cons_succ, List.map_cons, List.map_nil, List.cons_append, List.nil_append, List.replicate_succ, List.replicate_zero, bindTg, setSlots, List.length_cons, List.length_nil, Nat.reduceAdd, Nat.reduceSub, Nat.reduceLT, ↓reduceIte, if_true, bf_int, bf_lent, bf_lenl, bf_lena, sub_t, sub_l, sub_a, b6, List.getD_cons_succ, List.getD_cons_zero, decide_eq_true hc, m8] at this ⊢
      exact this
    · have := main c
      simp only [evE_var, evE_cst, evE_tup, evE_lst, evE_op, evE_neg, evE_not, evE_and, evE_or, evE_ite, evE_sub, evE_slice, evE_call, evE_callK, evE_bm, evE_bf, evE_isi, evEs_nil, evEs_cons, exS_asg, exS_augN, exS_expr, exS_ret, exS_ife, exB_nil', exB_cons', bind_ok', stm_ok', next_nx', next_rt', bind_exc', stm_exc', next_exc', ifO_t, ifO_f, opt_some, varO_some, laidV_int, laidV_bl, laidV_str, laidV_tup, laidV_lst, retO_rt, retO_nx, v_add, v_sub, v_lt, v_le, v_gt, v_ge, v_eqi, v_nei, t_bl, t_int, ofOpt_some', List.getElem?_cons_zero, List.getElem?_cons_succ, List.set_cons_zero, List.set_cons_succ, List.map_cons, List.map_nil, List.cons_append, List.nil_append, List.replicate_succ, List.replicate_zero, bindTg, setSlots, List.length_cons, List.length_nil, Nat.reduceAdd, Nat.reduceSub, Nat.reduceLT, ↓reduceIte, if_true, bf_int, bf_lent, bf_lenl, bf_lena, sub_t, sub_l, sub_a, b6, List.getD_cons_succ, List.getD_cons_zero, decide_eq_false hc, m8] at this ⊢
      exact this
  have e : b6 = b6.getD 0 .stop :: b6.getD 1 .stop :: b6.drop 2 := rfl
  rw [e]
  by_cases hk : (k : Int) < (xs.map Val.int).length
  · have hk2 : k < xs.length := by simpa using hk
    have := rest (xs[k])
    simp only [evE_var, evE_cst, evE_tup, evE_lst, evE_op, evE_neg, evE_not, evE_and, evE_or, evE_ite, evE_sub, evE_slice, evE_call, evE_callK, evE_bm, evE_bf, evE_isi, evEs_nil, evEs_cons, exS_asg, exS_augN, exS_expr, exS_ret, exS_ife, exB_nil', exB_cons', bind_ok', stm_ok', next_nx', next_rt', bind_exc', stm_exc', next_exc', ifO_t, ifO_f, opt_some, varO_some, laidV_int, laidV_bl, laidV_str, laidV_tup, laidV_lst, retO_rt, retO_nx, v_add, v_sub, v_lt, v_le, v_gt, v_ge, v_eqi, v_nei, t_bl, t_int, ofOpt_some', List.getElem?_cons_zero, List.getElem?_cons_succ, List.set_cons_zero, List.set_cons_succ, List.map_cons, List.map_nil, List.cons_append, List.nil_append, List.replicate_succ, List.replicate_zero, bindTg, setSlots, List.length_cons, List.length_nil, Nat.reduceAdd, Nat.reduceSub, Nat.reduceLT, ↓reduceIte, if_true, bf_int, bf_lent, bf_lenl, bf_lena, sub_t, sub_l, sub_a, b6, List.getD_cons_succ, List.getD_cons_zero, decide_eq_true hk, at_nat, List.getElem?_map, List.getElem?_eq_getElem hk2, Option.map_some] at this ⊢
    exact this
  · have := rest 0
    simp only [evE_var, evE_cst, evE_tup, evE_lst, evE_op, evE_neg, evE_not, evE_and, evE_or, evE_ite, evE_sub, evE_slice, evE_call, evE_callK, evE_bm, evE_bf, evE_isi, evEs_nil, evEs_cons, exS_asg, exS_augN, exS_expr, exS_ret, exS_ife, exB_nil', exB_cons', bind_ok', stm_ok', next_nx', next_rt', bind_exc', stm_exc', next_exc', ifO_t, ifO_f, opt_some, varO_some, laidV_int, laidV_bl, laidV_str, laidV_tup, laidV_lst, retO_rt, retO_nx, v_add, v_sub, v_lt, v_le, v_gt, v_ge, v_eqi, v_nei, t_bl, t_int, ofOpt_some', List.getElem?_cons_zero, List.getElem?_cons_succ, List.set_cons_zero, List.set_cons_succ, List.map_cons, List.map_nil, List.cons_append, List.nil_append, List.replicate_succ, List.replicate_zero, bindTg, setSlots, List.length_cons, List.length_nil, Nat.reduceAdd, Nat.reduceSub, Nat.reduceLT, ↓reduceIte, if_true, bf_int, bf_lent, bf_lenl, bf_lena, sub_t, sub_l, sub_a, b6, List.getD_cons_succ, List.getD_cons_zero, decide_eq_false hk] at this ⊢
    exact this
omit B in
theorem siz_ge : ∀ xs : List Val, xs.length ≤ siz xs ∧ sumLen (xs.map txt) + xs.length = siz xs ∧ ∀ x ∈ xs, (txt x).length + 1 ≤ siz xs
  | [] => ⟨by simp [siz], by simp [siz, sumLen], fun x hx => by cases hx⟩
  | x :: r => by
    obtain ⟨a, b, c⟩ := siz_ge r
    refine ⟨by simp only [List.length_cons, siz]; omega, ?_, fun y hy => ?_⟩
    · simp only [List.map_cons, sumLen, List.length_cons, siz]; omega
    · simp only [siz]
      rcases List.mem_cons.mp hy with rfl | hy
      · omega
      · have := c y hy; omega
omit B in
theorem tup_ge (xs : List Val) : siz xs ≤ (txt (.tup xs)).length := by
  rw [txt_tup]
  obtain ⟨_, h⟩ := txts_len xs
  simp only [List.length_cons, List.length_append, List.length_nil]
  by_cases z : xs = []
  · subst z; simp [siz]
  · have := h z; omega
omit B in
theorem is_atoms (h : Heap) : (∀ b, opV h .is (.bl b) .non = some (.bl false)) ∧ (∀ i, opV h .is (.int i) .non = some (.bl false)) ∧ (∀ s, opV h .is (.str s) .non = some (.bl false)) :=
  ⟨fun b => v_is_non h _ (by simp), fun b => v_is_non h _ (by simp), fun b => v_is_non h _ (by simp)⟩
omit B in
theorem log_ok {i : Int} (h : i.natAbs < 10 ^ 20) : i.natAbs.log2 < 1920 := by
  by_cases z : i.natAbs = 0
  · rw [z]; decide
  · exact (Nat.log2_lt z).mpr (Nat.lt_trans h (Nat.lt_of_lt_of_le (show 10 ^ 20 < 2 ^ 70 by decide) (Nat.pow_le_pow_right (by decide) (by decide))))
theorem write (m : Nat) : ∀ (d : Nat) (v : Val), G d v → (txt v).length ≤ 8000000 → ∀ h : Heap, callF T (d + m + 1) 0 [v] h = .ok (.str (txt v)) h := by
  intro d
  have lin : line = 16777216 := rfl
  induction d with
  | zero =>
    intro v w hv h
    obtain ⟨n1, n2, n3⟩ := is_atoms h
    rw [callF_n T (0 + m) 0 _ h _ B.f0 (B.fz 0) rfl]
    cases w with
    | non => simp only [b0, evE_var, evE_cst, evE_tup, evE_lst, evE_op, evE_neg, evE_not, evE_and, evE_or, evE_ite, evE_sub, evE_slice, evE_call, evE_callK, evE_bm, evE_bf, evE_isi, evEs_nil, evEs_cons, exS_asg, exS_augN, exS_expr, exS_ret, exS_ife, exB_nil', exB_cons', bind_ok', stm_ok', next_nx', next_rt', bind_exc', stm_exc', next_exc', ifO_t, ifO_f, opt_some, varO_some, laidV_int, laidV_bl, laidV_str, laidV_tup, laidV_lst, retO_rt, retO_nx, v_add, v_sub, v_lt, v_le, v_gt, v_ge, v_eqi, v_nei, t_bl, t_int, ofOpt_some', List.getElem?_cons_zero, List.getElem?_cons_succ, List.set_cons_zero, List.set_cons_succ, List.map_cons, List.map_nil, List.cons_append, List.nil_append, List.replicate_succ, List.replicate_zero, bindTg, setSlots, List.length_cons, List.length_nil, Nat.reduceAdd, Nat.reduceSub, Nat.reduceLT, ↓reduceIte, if_true, bf_int, bf_lent, bf_lenl, bf_lena, sub_t, sub_l, sub_a, isiV, Option.map_some, v_is_nn, txt]
    | bl _ b => cases b <;> simp only [b0, evE_var, evE_cst, evE_tup, evE_lst, evE_op, evE_neg, evE_not, evE_and, evE_or, evE_ite, evE_sub, evE_slice, evE_call, evE_callK, evE_bm, evE_bf, evE_isi, evEs_nil, evEs_cons, exS_asg, exS_augN, exS_expr, exS_ret, exS_ife, exB_nil', exB_cons', bind_ok', stm_ok', next_nx', next_rt', bind_exc', stm_exc', next_exc', ifO_t, ifO_f, opt_some, varO_some, laidV_int, laidV_bl, laidV_str, laidV_tup, laidV_lst, retO_rt, retO_nx, v_add, v_sub, v_lt, v_le, v_gt, v_ge, v_eqi, v_nei, t_bl, t_int, ofOpt_some', List.getElem?_cons_zero, List.getElem?_cons_succ, List.set_cons_zero, List.set_cons_succ, List.map_cons, List.map_nil, List.cons_append, List.nil_append, List.replicate_succ, List.replicate_zero, bindTg, setSlots, List.length_cons, List.length_nil, Nat.reduceAdd, Nat.reduceSub, Nat.reduceLT, ↓reduceIte, if_true, bf_int, bf_lent, bf_lenl, bf_lena, sub_t, sub_l, sub_a, isiV, Option.map_some, n1, v_is_bb, txt, beq_self_eq_true, show (false == true) = false from rfl, Bool.false_eq_true]
    | int _ i hi => simp only [b0, evE_var, evE_cst, evE_tup, evE_lst, evE_op, evE_neg, evE_not, evE_and, evE_or, evE_ite, evE_sub, evE_slice, evE_call, evE_callK, evE_bm, evE_bf, evE_isi, evEs_nil, evEs_cons, exS_asg, exS_augN, exS_expr, exS_ret, exS_ife, exB_nil', exB_cons', bind_ok', stm_ok', next_nx', next_rt', bind_exc', stm_exc', next_exc', ifO_t, ifO_f, opt_some, varO_some, laidV_int, laidV_bl, laidV_str, laidV_tup, laidV_lst, retO_rt, retO_nx, v_add, v_sub, v_lt, v_le, v_gt, v_ge, v_eqi, v_nei, t_bl, t_int, ofOpt_some', List.getElem?_cons_zero, List.getElem?_cons_succ, List.set_cons_zero, List.set_cons_succ, List.map_cons, List.map_nil, List.cons_append, List.nil_append, List.replicate_succ, List.replicate_zero, bindTg, setSlots, List.length_cons, List.length_nil, Nat.reduceAdd, Nat.reduceSub, Nat.reduceLT, ↓reduceIte, if_true, bf_int, bf_lent, bf_lenl, bf_lena, sub_t, sub_l, sub_a, isiV, Option.map_some, n2, v_is_ib, txt, bf_stri h (log_ok hi)]
    | str _ s hs => simp only [b0, evE_var, evE_cst, evE_tup, evE_lst, evE_op, evE_neg, evE_not, evE_and, evE_or, evE_ite, evE_sub, evE_slice, evE_call, evE_callK, evE_bm, evE_bf, evE_isi, evEs_nil, evEs_cons, exS_asg, exS_augN, exS_expr, exS_ret, exS_ife, exB_nil', exB_cons', bind_ok', stm_ok', next_nx', next_rt', bind_exc', stm_exc', next_exc', ifO_t, ifO_f, opt_some, varO_some, laidV_int, laidV_bl, laidV_str, laidV_tup, laidV_lst, retO_rt, retO_nx, v_add, v_sub, v_lt, v_le, v_gt, v_ge, v_eqi, v_nei, t_bl, t_int, ofOpt_some', List.getElem?_cons_zero, List.getElem?_cons_succ, List.set_cons_zero, List.set_cons_succ, List.map_cons, List.map_nil, List.cons_append, List.nil_append, List.replicate_succ, List.replicate_zero, bindTg, setSlots, List.length_cons, List.length_nil, Nat.reduceAdd, Nat.reduceSub, Nat.reduceLT, ↓reduceIte, if_true, bf_int, bf_lent, bf_lenl, bf_lena, sub_t, sub_l, sub_a, isiV, Option.map_some, n3, v_is_sb, txt, bf_strs]
  | succ d ih =>
    intro v w hv h
    obtain ⟨n1, n2, n3⟩ := is_atoms h
    rw [show d + 1 + m + 1 = (d + m + 1) + 1 by omega, callF_n T (d + m + 1) 0 _ h _ B.f0 (B.fz 0) rfl]
    cases w with
    | non => simp only [b0, evE_var, evE_cst, evE_tup, evE_lst, evE_op, evE_neg, evE_not, evE_and, evE_or, evE_ite, evE_sub, evE_slice, evE_call, evE_callK, evE_bm, evE_bf, evE_isi, evEs_nil, evEs_cons, exS_asg, exS_augN, exS_expr, exS_ret, exS_ife, exB_nil', exB_cons', bind_ok', stm_ok', next_nx', next_rt', bind_exc', stm_exc', next_exc', ifO_t, ifO_f, opt_some, varO_some, laidV_int, laidV_bl, laidV_str, laidV_tup, laidV_lst, retO_rt, retO_nx, v_add, v_sub, v_lt, v_le, v_gt, v_ge, v_eqi, v_nei, t_bl, t_int, ofOpt_some', List.getElem?_cons_zero, List.getElem?_cons_succ, List.set_cons_zero, List.set_cons_succ, List.map_cons, List.map_nil, List.cons_append, List.nil_append, List.replicate_succ, List.replicate_zero, bindTg, setSlots, List.length_cons, List.length_nil, Nat.reduceAdd, Nat.reduceSub, Nat.reduceLT, ↓reduceIte, if_true, bf_int, bf_lent, bf_lenl, bf_lena, sub_t, sub_l, sub_a, isiV, Option.map_some, v_is_nn, txt]
    | bl _ b => cases b <;> simp only [b0, evE_var, evE_cst, evE_tup, evE_lst, evE_op, evE_neg, evE_not, evE_and, evE_or, evE_ite, evE_sub, evE_slice, evE_call, evE_callK, evE_bm, evE_bf, evE_isi, evEs_nil, evEs_cons, exS_asg, exS_augN, exS_expr, exS_ret, exS_ife, exB_nil', exB_cons', bind_ok', stm_ok', next_nx', next_rt', bind_exc', stm_exc', next_exc', ifO_t, ifO_f, opt_some, varO_some, laidV_int, laidV_bl, laidV_str, laidV_tup, laidV_lst, retO_rt, retO_nx, v_add, v_sub, v_lt, v_le, v_gt, v_ge, v_eqi, v_nei, t_bl, t_int, ofOpt_some', List.getElem?_cons_zero, List.getElem?_cons_succ, List.set_cons_zero, List.set_cons_succ, List.map_cons, List.map_nil, List.cons_append, List.nil_append, List.replicate_succ, List.replicate_zero, bindTg, setSlots, List.length_cons, List.length_nil, Nat.reduceAdd, Nat.reduceSub, Nat.reduceLT, ↓reduceIte, if_true, bf_int, bf_lent, bf_lenl, bf_lena, sub_t, sub_l, sub_a, isiV, Option.map_some, n1, v_is_bb, txt, beq_self_eq_true, show (false == true) = false from rfl, Bool.false_eq_true]
    | int _ i hi => simp only [b0, evE_var, evE_cst, evE_tup, evE_lst, evE_op, evE_neg, evE_not, evE_and, evE_or, evE_ite, evE_sub, evE_slice, evE_call, evE_callK, evE_bm, evE_bf, evE_isi, evEs_nil, evEs_cons, exS_asg, exS_augN, exS_expr, exS_ret, exS_ife, exB_nil', exB_cons', bind_ok', stm_ok', next_nx', next_rt', bind_exc', stm_exc', next_exc', ifO_t, ifO_f, opt_some, varO_some, laidV_int, laidV_bl, laidV_str, laidV_tup, laidV_lst, retO_rt, retO_nx, v_add, v_sub, v_lt, v_le, v_gt, v_ge, v_eqi, v_nei, t_bl, t_int, ofOpt_some', List.getElem?_cons_zero, List.getElem?_cons_succ, List.set_cons_zero, List.set_cons_succ, List.map_cons, List.map_nil, List.cons_append, List.nil_append, List.replicate_succ, List.replicate_zero, bindTg, setSlots, List.length_cons, List.length_nil, Nat.reduceAdd, Nat.reduceSub, Nat.reduceLT, ↓reduceIte, if_true, bf_int, bf_lent, bf_lenl, bf_lena, sub_t, sub_l, sub_a, isiV, Option.map_some, n2, v_is_ib, txt, bf_stri h (log_ok hi)]
    | str _ s hs => simp only [b0, evE_var, evE_cst, evE_tup, evE_lst, evE_op, evE_neg, evE_not, evE_and, evE_or, evE_ite, evE_sub, evE_slice, evE_call, evE_callK, evE_bm, evE_bf, evE_isi, evEs_nil, evEs_cons, exS_asg, exS_augN, exS_expr, exS_ret, exS_ife, exB_nil', exB_cons', bind_ok', stm_ok', next_nx', next_rt', bind_exc', stm_exc', next_exc', ifO_t, ifO_f, opt_some, varO_some, laidV_int, laidV_bl, laidV_str, laidV_tup, laidV_lst, retO_rt, retO_nx, v_add, v_sub, v_lt, v_le, v_gt, v_ge, v_eqi, v_nei, t_bl, t_int, ofOpt_some', List.getElem?_cons_zero, List.getElem?_cons_succ, List.set_cons_zero, List.set_cons_succ, List.map_cons, List.map_nil, List.cons_append, List.nil_append, List.replicate_succ, List.replicate_zero, bindTg, setSlots, List.length_cons, List.length_nil, Nat.reduceAdd, Nat.reduceSub, Nat.reduceLT, ↓reduceIte, if_true, bf_int, bf_lent, bf_lenl, bf_lena, sub_t, sub_l, sub_a, isiV, Option.map_some, n3, v_is_sb, txt, bf_strs]
    | tup _ xs hx =>
      have sz := tup_ge xs
      obtain ⟨z1, z2, z3⟩ := siz_ge xs
      have ec : evE T (callF T (d + m + 1)) (.comp false (.call 0 [(.var 1)]) (.name 1) 0 [(.var 0)] [] [1]) [some (.tup xs), none] h = .ok (.lst (xs.map fun x => .str (txt x))) h := by
        rw [evE_comp' _ _ _ _ (by decide)]
        simp only [evE_var, evE_cst, evE_tup, evE_lst, evE_op, evE_neg, evE_not, evE_and, evE_or, evE_ite, evE_sub, evE_slice, evE_call, evE_callK, evE_bm, evE_bf, evE_isi, evEs_nil, evEs_cons, exS_asg, exS_augN, exS_expr, exS_ret, exS_ife, exB_nil', exB_cons', bind_ok', stm_ok', next_nx', next_rt', bind_exc', stm_exc', next_exc', ifO_t, ifO_f, opt_some, varO_some, laidV_int, laidV_bl, laidV_str, laidV_tup, laidV_lst, retO_rt, retO_nx, v_add, v_sub, v_lt, v_le, v_gt, v_ge, v_eqi, v_nei, t_bl, t_int, ofOpt_some', List.getElem?_cons_zero, List.getElem?_cons_succ, List.set_cons_zero, List.set_cons_succ, List.map_cons, List.map_nil, List.cons_append, List.nil_append, List.replicate_succ, List.replicate_zero, bindTg, setSlots, List.length_cons, List.length_nil, Nat.reduceAdd, Nat.reduceSub, Nat.reduceLT, ↓reduceIte, if_true, bf_int, bf_lent, bf_lenl, bf_lena, sub_t, sub_l, sub_a, walkV, seqOf]
        rw [compL_map (f := fun x => .str (txt x)) stays_tup fun x hm => ?_]
        · simp only [compO_ok]
          exact newL_v (by rw [List.length_map]; omega)
        · unfold cTurn
          simp only [wipeS, evE_var, evE_cst, evE_tup, evE_lst, evE_op, evE_neg, evE_not, evE_and, evE_or, evE_ite, evE_sub, evE_slice, evE_call, evE_callK, evE_bm, evE_bf, evE_isi, evEs_nil, evEs_cons, exS_asg, exS_augN, exS_expr, exS_ret, exS_ife, exB_nil', exB_cons', bind_ok', stm_ok', next_nx', next_rt', bind_exc', stm_exc', next_exc', ifO_t, ifO_f, opt_some, varO_some, laidV_int, laidV_bl, laidV_str, laidV_tup, laidV_lst, retO_rt, retO_nx, v_add, v_sub, v_lt, v_le, v_gt, v_ge, v_eqi, v_nei, t_bl, t_int, ofOpt_some', List.getElem?_cons_zero, List.getElem?_cons_succ, List.set_cons_zero, List.set_cons_succ, List.map_cons, List.map_nil, List.cons_append, List.nil_append, List.replicate_succ, List.replicate_zero, bindTg, setSlots, List.length_cons, List.length_nil, Nat.reduceAdd, Nat.reduceSub, Nat.reduceLT, ↓reduceIte, if_true, bf_int, bf_lent, bf_lenl, bf_lena, sub_t, sub_l, sub_a, ih x (hx x hm) (by have := z3 x hm; omega) h]
      have tv : ∀ l : List Val, textsV (l.map fun x => Val.str (txt x)) = some (l.map txt) := by
        intro l
        induction l with
        | nil => rfl
        | cons a l ih => simp only [List.map_cons, textsV, ih, Option.map_some]
      have jl : (joinT [32] (xs.map txt)).length ≤ siz xs := by rw [← txts_join]; exact (txts_len xs).1
      have hj : bmV h .join (.str [32]) [.lst (xs.map fun x => .str (txt x))] = .ok (.str (joinT [32] (xs.map txt))) h := by
        simp only [bmV, tv]
        rw [if_pos]
        simp only [List.length_map, List.length_cons, List.length_nil]
        omega
      have hk : bmK h .join (.str [32]) = some 2 := rfl
      have a1 : opV h .add (.str [40]) (.str (joinT [32] (xs.map txt))) = some (.str ([40] ++ joinT [32] (xs.map txt))) := v_adds h (by
        simp only [List.length_cons, List.length_nil]
        omega)
      have a2 : opV h .add (.str ([40] ++ joinT [32] (xs.map txt))) (.str [41]) = some (.str ([40] ++ joinT [32] (xs.map txt) ++ [41])) := v_adds h (by
        simp only [List.length_append, List.length_cons, List.length_nil]
        omega)
      have et : txt (.tup xs) = [40] ++ joinT [32] (xs.map txt) ++ [41] := by
        rw [txt_tup, txts_join]
        rfl
      rw [et]
      simp only [List.cons_append, List.nil_append] at a1 a2 et ⊢
      simp only [b0, evE_var, evE_cst, evE_tup, evE_lst, evE_op, evE_neg, evE_not, evE_and, evE_or, evE_ite, evE_sub, evE_slice, evE_call, evE_callK, evE_bm, evE_bf, evE_isi, evEs_nil, evEs_cons, exS_asg, exS_augN, exS_expr, exS_ret, exS_ife, exB_nil', exB_cons', bind_ok', stm_ok', next_nx', next_rt', bind_exc', stm_exc', next_exc', ifO_t, ifO_f, opt_some, varO_some, laidV_int, laidV_bl, laidV_str, laidV_tup, laidV_lst, retO_rt, retO_nx, v_add, v_sub, v_lt, v_le, v_gt, v_ge, v_eqi, v_nei, t_bl, t_int, ofOpt_some', List.getElem?_cons_zero, List.getElem?_cons_succ, List.set_cons_zero, List.set_cons_succ, List.map_cons, List.map_nil, List.cons_append, List.nil_append, List.replicate_succ, List.replicate_zero, bindTg, setSlots, List.length_cons, List.length_nil, Nat.reduceAdd, Nat.reduceSub, Nat.reduceLT, ↓reduceIte, if_true, bf_int, bf_lent, bf_lenl, bf_lena, sub_t, sub_l, sub_a, isiV, Option.map_some, ec, hk, hj, a1, a2]
/-! ### the same -/
omit B in
theorem okT_of {s : List Nat} (h : ∀ c ∈ s, c ≤ 122) : okT s = true := List.all_eq_true.mpr fun c hc => decide_eq_true (by have := h c hc; omega)
omit B in
theorem v_eqb (h : Heap) (a b : Bool) : opV h .eq (.bl a) (.bl b) = some (.bl (a == b)) := Eq.trans rfl rfl
omit B in
theorem upto_mem : ∀ (n : Nat) (lo : Int) (x : Val), x ∈ upto lo n → ∃ j : Nat, j < n ∧ x = .int (lo + j)
  | 0, _, _, h => by cases h
  | n + 1, lo, x, h => by
    rcases List.mem_cons.mp h with rfl | h
    · exact ⟨0, by omega, by simp⟩
    · obtain ⟨j, a, rfl⟩ := upto_mem n (lo + 1) x h
      exact ⟨j + 1, by omega, by congr 1; omega⟩
omit B in
theorem upto_len : ∀ (n : Nat) (lo : Int), (upto lo n).length = n
  | 0, _ => rfl
  | n + 1, lo => congrArg Nat.succ (upto_len n (lo + 1))
omit B in
theorem all_true (h : Heap) {n : Nat} : bfV h .all [.lst ((upto 0 n).map fun _ => .bl true)] = some (.bl true) := by
  have : ∀ l : List Val, boolsV (l.map fun _ => Val.bl true) = some (l.map fun _ => true) := fun l => by
    induction l with
    | nil => rfl
    | cons a l ih => simp only [List.map_cons, boolsV, ih, Option.map_some]
  have e : bfV h .all [.lst ((upto 0 n).map fun _ => .bl true)] = (boolsV ((upto 0 n).map fun _ => Val.bl true)).map fun bs => .bl (bs.all id) := rfl
  rw [e, this]
  simp
omit B in
theorem walk2 (g : Heap) {i : Int} (q : rngOk i) : walkV g 2 [.int i] = some (upto 0 i.toNat) := by simp only [walkV, if_pos q]
omit B in
theorem rng_ok {n : Nat} (h : n ≤ 16777216) (g : Heap) : walkV g 2 [.int (n : Int)] = some (upto 0 n) := by
  have q : rngOk (n : Int) := by
    unfold rngOk
    have a1 : (16777216 : Int) < 2 ^ 62 := by decide
    generalize (2 : Int) ^ 62 = z at *
    omega
  have e := walk2 g q
  rw [e, Int.toNat_natCast]
omit B in
theorem okT_txt {s : List Nat} (h : letter s) : okT s = true := okT_of fun c hc => (h.2 c hc).2
theorem same (m : Nat) : ∀ (d : Nat) (v : Val), G d v → (txt v).length ≤ 8000000 → ∀ h : Heap, callF T (d + m + 1) 7 [v, v] h = .ok (.bl true) h := by
  intro d
  have lin : line = 16777216 := rfl
  induction d with
  | zero =>
    intro v w hv h
    obtain ⟨n1, n2, n3⟩ := is_atoms h
    rw [callF_n T (0 + m) 7 _ h _ B.f7 (B.fz 7) rfl]
    cases w with
    | non => simp only [b7, evE_var, evE_cst, evE_tup, evE_lst, evE_op, evE_neg, evE_not, evE_and, evE_or, evE_ite, evE_sub, evE_slice, evE_call, evE_callK, evE_bm, evE_bf, evE_isi, evEs_nil, evEs_cons, exS_asg, exS_augN, exS_expr, exS_ret, exS_ife, exB_nil', exB_cons', bind_ok', stm_ok', next_nx', next_rt', bind_exc', stm_exc', next_exc', ifO_t, ifO_f, opt_some, varO_some, laidV_int, laidV_bl, laidV_str, laidV_tup, laidV_lst, retO_rt, retO_nx, v_add, v_sub, v_lt, v_le, v_gt, v_ge, v_eqi, v_nei, t_bl, t_int, ofOpt_some', List.getElem?_cons_zero, List.getElem?_cons_succ, List.set_cons_zero, List.set_cons_succ, List.map_cons, List.map_nil, List.cons_append, List.nil_append, List.replicate_succ, List.replicate_zero, bindTg, setSlots, List.length_cons, List.length_nil, Nat.reduceAdd, Nat.reduceSub, Nat.reduceLT, ↓reduceIte, if_true, bf_int, bf_lent, bf_lenl, bf_lena, sub_t, sub_l, sub_a, isiV, Option.map_some, v_is_nn]
    | bl _ b => simp only [b7, evE_var, evE_cst, evE_tup, evE_lst, evE_op, evE_neg, evE_not, evE_and, evE_or, evE_ite, evE_sub, evE_slice, evE_call, evE_callK, evE_bm, evE_bf, evE_isi, evEs_nil, evEs_cons, exS_asg, exS_augN, exS_expr, exS_ret, exS_ife, exB_nil', exB_cons', bind_ok', stm_ok', next_nx', next_rt', bind_exc', stm_exc', next_exc', ifO_t, ifO_f, opt_some, varO_some, laidV_int, laidV_bl, laidV_str, laidV_tup, laidV_lst, retO_rt, retO_nx, v_add, v_sub, v_lt, v_le, v_gt, v_ge, v_eqi, v_nei, t_bl, t_int, ofOpt_some', List.getElem?_cons_zero, List.getElem?_cons_succ, List.set_cons_zero, List.set_cons_succ, List.map_cons, List.map_nil, List.cons_append, List.nil_append, List.replicate_succ, List.replicate_zero, bindTg, setSlots, List.length_cons, List.length_nil, Nat.reduceAdd, Nat.reduceSub, Nat.reduceLT, ↓reduceIte, if_true, bf_int, bf_lent, bf_lenl, bf_lena, sub_t, sub_l, sub_a, isiV, Option.map_some, n1, v_eqb, beq_self_eq_true]
    | int _ i hi => simp only [b7, evE_var, evE_cst, evE_tup, evE_lst, evE_op, evE_neg, evE_not, evE_and, evE_or, evE_ite, evE_sub, evE_slice, evE_call, evE_callK, evE_bm, evE_bf, evE_isi, evEs_nil, evEs_cons, exS_asg, exS_augN, exS_expr, exS_ret, exS_ife, exB_nil', exB_cons', bind_ok', stm_ok', next_nx', next_rt', bind_exc', stm_exc', next_exc', ifO_t, ifO_f, opt_some, varO_some, laidV_int, laidV_bl, laidV_str, laidV_tup, laidV_lst, retO_rt, retO_nx, v_add, v_sub, v_lt, v_le, v_gt, v_ge, v_eqi, v_nei, t_bl, t_int, ofOpt_some', List.getElem?_cons_zero, List.getElem?_cons_succ, List.set_cons_zero, List.set_cons_succ, List.map_cons, List.map_nil, List.cons_append, List.nil_append, List.replicate_succ, List.replicate_zero, bindTg, setSlots, List.length_cons, List.length_nil, Nat.reduceAdd, Nat.reduceSub, Nat.reduceLT, ↓reduceIte, if_true, bf_int, bf_lent, bf_lenl, bf_lena, sub_t, sub_l, sub_a, isiV, Option.map_some, n2, beq_self_eq_true, Bool.not_false]
    | str _ s hs => simp only [b7, evE_var, evE_cst, evE_tup, evE_lst, evE_op, evE_neg, evE_not, evE_and, evE_or, evE_ite, evE_sub, evE_slice, evE_call, evE_callK, evE_bm, evE_bf, evE_isi, evEs_nil, evEs_cons, exS_asg, exS_augN, exS_expr, exS_ret, exS_ife, exB_nil', exB_cons', bind_ok', stm_ok', next_nx', next_rt', bind_exc', stm_exc', next_exc', ifO_t, ifO_f, opt_some, varO_some, laidV_int, laidV_bl, laidV_str, laidV_tup, laidV_lst, retO_rt, retO_nx, v_add, v_sub, v_lt, v_le, v_gt, v_ge, v_eqi, v_nei, t_bl, t_int, ofOpt_some', List.getElem?_cons_zero, List.getElem?_cons_succ, List.set_cons_zero, List.set_cons_succ, List.map_cons, List.map_nil, List.cons_append, List.nil_append, List.replicate_succ, List.replicate_zero, bindTg, setSlots, List.length_cons, List.length_nil, Nat.reduceAdd, Nat.reduceSub, Nat.reduceLT, ↓reduceIte, if_true, bf_int, bf_lent, bf_lenl, bf_lena, sub_t, sub_l, sub_a, isiV, Option.map_some, n3, v_eqs h (okT_txt hs) (okT_txt hs), beq_self_eq_true]
  | succ d ih =>
    intro v w hv h
    obtain ⟨n1, n2, n3⟩ := is_atoms h
    rw [show d + 1 + m + 1 = (d + m + 1) + 1 by omega, callF_n T (d + m + 1) 7 _ h _ B.f7 (B.fz 7) rfl]
    cases w with
    | non => simp only [b7, evE_var, evE_cst, evE_tup, evE_lst, evE_op, evE_neg, evE_not, evE_and, evE_or, evE_ite, evE_sub, evE_slice, evE_call, evE_callK, evE_bm, evE_bf, evE_isi, evEs_nil, evEs_cons, exS_asg, exS_augN, exS_expr, exS_ret, exS_ife, exB_nil', exB_cons', bind_ok', stm_ok', next_nx', next_rt', bind_exc', stm_exc', next_exc', ifO_t, ifO_f, opt_some, varO_some, laidV_int, laidV_bl, laidV_str, laidV_tup, laidV_lst, retO_rt, retO_nx, v_add, v_sub, v_lt, v_le, v_gt, v_ge, v_eqi, v_nei, t_bl, t_int, ofOpt_some', List.getElem?_cons_zero, List.getElem?_cons_succ, List.set_cons_zero, List.set_cons_succ, List.map_cons, List.map_nil, List.cons_append, List.nil_append, List.replicate_succ, List.replicate_zero, bindTg, setSlots, List.length_cons, List.length_nil, Nat.reduceAdd, Nat.reduceSub, Nat.reduceLT, ↓reduceIte, if_true, bf_int, bf_lent, bf_lenl, bf_lena, sub_t, sub_l, sub_a, isiV, Option.map_some, v_is_nn]
    | bl _ b => simp only [b7, evE_var, evE_cst, evE_tup, evE_lst, evE_op, evE_neg, evE_not, evE_and, evE_or, evE_ite, evE_sub, evE_slice, evE_call, evE_callK, evE_bm, evE_bf, evE_isi, evEs_nil, evEs_cons, exS_asg, exS_augN, exS_expr, exS_ret, exS_ife, exB_nil', exB_cons', bind_ok', stm_ok', next_nx', next_rt', bind_exc', stm_exc', next_exc', ifO_t, ifO_f, opt_some, varO_some, laidV_int, laidV_bl, laidV_str, laidV_tup, laidV_lst, retO_rt, retO_nx, v_add, v_sub, v_lt, v_le, v_gt, v_ge, v_eqi, v_nei, t_bl, t_int, ofOpt_some', List.getElem?_cons_zero, List.getElem?_cons_succ, List.set_cons_zero, List.set_cons_succ, List.map_cons, List.map_nil, List.cons_append, List.nil_append, List.replicate_succ, List.replicate_zero, bindTg, setSlots, List.length_cons, List.length_nil, Nat.reduceAdd, Nat.reduceSub, Nat.reduceLT, ↓reduceIte, if_true, bf_int, bf_lent, bf_lenl, bf_lena, sub_t, sub_l, sub_a, isiV, Option.map_some, n1, v_eqb, beq_self_eq_true]
    | int _ i hi => simp only [b7, evE_var, evE_cst, evE_tup, evE_lst, evE_op, evE_neg, evE_not, evE_and, evE_or, evE_ite, evE_sub, evE_slice, evE_call, evE_callK, evE_bm, evE_bf, evE_isi, evEs_nil, evEs_cons, exS_asg, exS_augN, exS_expr, exS_ret, exS_ife, exB_nil', exB_cons', bind_ok', stm_ok', next_nx', next_rt', bind_exc', stm_exc', next_exc', ifO_t, ifO_f, opt_some, varO_some, laidV_int, laidV_bl, laidV_str, laidV_tup, laidV_lst, retO_rt, retO_nx, v_add, v_sub, v_lt, v_le, v_gt, v_ge, v_eqi, v_nei, t_bl, t_int, ofOpt_some', List.getElem?_cons_zero, List.getElem?_cons_succ, List.set_cons_zero, List.set_cons_succ, List.map_cons, List.map_nil, List.cons_append, List.nil_append, List.replicate_succ, List.replicate_zero, bindTg, setSlots, List.length_cons, List.length_nil, Nat.reduceAdd, Nat.reduceSub, Nat.reduceLT, ↓reduceIte, if_true, bf_int, bf_lent, bf_lenl, bf_lena, sub_t, sub_l, sub_a, isiV, Option.map_some, n2, beq_self_eq_true, Bool.not_false]
    | str _ s hs => simp only [b7, evE_var, evE_cst, evE_tup, evE_lst, evE_op, evE_neg, evE_not, evE_and, evE_or, evE_ite, evE_sub, evE_slice, evE_call, evE_callK, evE_bm, evE_bf, evE_isi, evEs_nil, evEs_cons, exS_asg, exS_augN, exS_expr, exS_ret, exS_ife, exB_nil', exB_cons', bind_ok', stm_ok', next_nx', next_rt', bind_exc', stm_exc', next_exc', ifO_t, ifO_f, opt_some, varO_some, laidV_int, laidV_bl, laidV_str, laidV_tup, laidV_lst, retO_rt, retO_nx, v_add, v_sub, v_lt, v_le, v_gt, v_ge, v_eqi, v_nei, t_bl, t_int, ofOpt_some', List.getElem?_cons_zero, List.getElem?_cons_succ, List.set_cons_zero, List.set_cons_succ, List.map_cons, List.map_nil, List.cons_append, List.nil_append, List.replicate_succ, List.replicate_zero, bindTg, setSlots, List.length_cons, List.length_nil, Nat.reduceAdd, Nat.reduceSub, Nat.reduceLT, ↓reduceIte, if_true, bf_int, bf_lent, bf_lenl, bf_lena, sub_t, sub_l, sub_a, isiV, Option.map_some, n3, v_eqs h (okT_txt hs) (okT_txt hs), beq_self_eq_true]
    | tup _ xs hx =>
      have sz := tup_ge xs
      obtain ⟨z1, z2, z3⟩ := siz_ge xs
      have ec : evE T (callF T (d + m + 1)) (.comp false (.call 7 [(.sub (.var 0) (.var 2)), (.sub (.var 1) (.var 2))]) (.name 2) 2 [(.bf .len true [(.var 0)])] [] [2]) [some (.tup xs), some (.tup xs), none] h = .ok (.lst ((upto 0 xs.length).map fun _ => .bl true)) h := by
        rw [evE_comp' _ _ _ _ (by decide)]
        simp only [evE_var, evE_cst, evE_tup, evE_lst, evE_op, evE_neg, evE_not, evE_and, evE_or, evE_ite, evE_sub, evE_slice, evE_call, evE_callK, evE_bm, evE_bf, evE_isi, evEs_nil, evEs_cons, exS_asg, exS_augN, exS_expr, exS_ret, exS_ife, exB_nil', exB_cons', bind_ok', stm_ok', next_nx', next_rt', bind_exc', stm_exc', next_exc', ifO_t, ifO_f, opt_some, varO_some, laidV_int, laidV_bl, laidV_str, laidV_tup, laidV_lst, retO_rt, retO_nx, v_add, v_sub, v_lt, v_le, v_gt, v_ge, v_eqi, v_nei, t_bl, t_int, ofOpt_some', List.getElem?_cons_zero, List.getElem?_cons_succ, List.set_cons_zero, List.set_cons_succ, List.map_cons, List.map_nil, List.cons_append, List.nil_append, List.replicate_succ, List.replicate_zero, bindTg, setSlots, List.length_cons, List.length_nil, Nat.reduceAdd, Nat.reduceSub, Nat.reduceLT, ↓reduceIte, if_true, bf_int, bf_lent, bf_lenl, bf_lena, sub_t, sub_l, sub_a, rng_ok (show xs.length ≤ 16777216 by omega)]
        rw [compL_map (f := fun _ => .bl true) stays_int fun x hm => ?_]
        · simp only [compO_ok]
          exact newL_v (by rw [List.length_map, upto_len]; omega)
        · obtain ⟨j, hj, rfl⟩ := upto_mem _ _ _ hm
          unfold cTurn
          have ea : at_ xs (0 + (j : Int)) = some xs[j] := by rw [Int.zero_add, at_nat, List.getElem?_eq_getElem hj]
          have hm2 := List.getElem_mem hj
          simp only [wipeS, evE_var, evE_cst, evE_tup, evE_lst, evE_op, evE_neg, evE_not, evE_and, evE_or, evE_ite, evE_sub, evE_slice, evE_call, evE_callK, evE_bm, evE_bf, evE_isi, evEs_nil, evEs_cons, exS_asg, exS_augN, exS_expr, exS_ret, exS_ife, exB_nil', exB_cons', bind_ok', stm_ok', next_nx', next_rt', bind_exc', stm_exc', next_exc', ifO_t, ifO_f, opt_some, varO_some, laidV_int, laidV_bl, laidV_str, laidV_tup, laidV_lst, retO_rt, retO_nx, v_add, v_sub, v_lt, v_le, v_gt, v_ge, v_eqi, v_nei, t_bl, t_int, ofOpt_some', List.getElem?_cons_zero, List.getElem?_cons_succ, List.set_cons_zero, List.set_cons_succ, List.map_cons, List.map_nil, List.cons_append, List.nil_append, List.replicate_succ, List.replicate_zero, bindTg, setSlots, List.length_cons, List.length_nil, Nat.reduceAdd, Nat.reduceSub, Nat.reduceLT, ↓reduceIte, if_true, bf_int, bf_lent, bf_lenl, bf_lena, sub_t, sub_l, sub_a, ea, ih _ (hx _ hm2) (by have := z3 _ hm2; omega) h]
      simp only [b7, evE_var, evE_cst, evE_tup, evE_lst, evE_op, evE_neg, evE_not, evE_and, evE_or, evE_ite, evE_sub, evE_slice, evE_call, evE_callK, evE_bm, evE_bf, evE_isi, evEs_nil, evEs_cons, exS_asg, exS_augN, exS_expr, exS_ret, exS_ife, exB_nil', exB_cons', bind_ok', stm_ok', next_nx', next_rt', bind_exc', stm_exc', next_exc', ifO_t, ifO_f, opt_some, varO_some, laidV_int, laidV_bl, laidV_str, laidV_tup, laidV_lst, retO_rt, retO_nx, v_add, v_sub, v_lt, v_le, v_gt, v_ge, v_eqi, v_nei, t_bl, t_int, ofOpt_some', List.getElem?_cons_zero, List.getElem?_cons_succ, List.set_cons_zero, List.set_cons_succ, List.map_cons, List.map_nil, List.cons_append, List.nil_append, List.replicate_succ, List.replicate_zero, bindTg, setSlots, List.length_cons, List.length_nil, Nat.reduceAdd, Nat.reduceSub, Nat.reduceLT, ↓reduceIte, if_true, bf_int, bf_lent, bf_lenl, bf_lena, sub_t, sub_l, sub_a, isiV, Option.map_some, beq_self_eq_true, Bool.not_true, ec, all_true]
/-! ### the law's text -/
omit B in
theorem ten : ∀ (r : Nat), r < 10 → at_ [48, 49, 50, 51, 52, 53, 54, 55, 56, 57] (r : Int) = some (Nat.digitChar r).toNat := by decide
omit B in
theorem sub_ten (h : Heap) (n : Nat) : subV h (.str [48, 49, 50, 51, 52, 53, 54, 55, 56, 57]) (.int ((n : Int).fmod 10)) = some (.str [(Nat.digitChar (n % 10)).toNat]) := by
  have e : ((n : Int).fmod 10) = ((n % 10 : Nat) : Int) := by rw [Int.fmod_eq_emod_of_nonneg _ (by decide)]; rfl
  rw [e, sub_s h (by decide), ten _ (Nat.mod_lt _ (by decide))]
  rfl
omit B in
theorem fdiv_ten (n : Nat) : (n : Int).fdiv 10 = ((n / 10 : Nat) : Int) := by
  rw [Int.fdiv_eq_ediv_of_nonneg _ (by decide)]; rfl
omit B in
/-- the digits, one after another -/
theorem dig_loop (F : Fns) (h : Heap) : ∀ (m n : Nat) (s : List Nat) (k c : Option Val), n < 10 ^ m → s.length + m ≤ 1000 → ∃ k', whileL (wStep T F (.op .gt (.var 0) (.cst (.int 0))) [.asg (.name 1) (.op .add (.sub (.cst (.str [48, 49, 50, 51, 52, 53, 54, 55, 56, 57])) (.op .mod (.bf .int true [(.var 0)]) (.cst (.int 10)))) (.var 1)), .asg (.name 0) (.op .fdiv (.bf .int true [(.var 0)]) (.cst (.int 10)))]) [some (.int (n : Int)), some (.str s), k, c] h
    = .nx [some k', some (.str (if n = 0 then s else digits n ++ s)), k, c] h := by
  intro m
  have q : ∀ a : Int, opV h .mod (.int a) (.int 10) = some (.int (a.fmod 10)) := fun a => v_mod h (by decide)
  have f : ∀ a : Int, opV h .fdiv (.int a) (.int 10) = some (.int (a.fdiv 10)) := fun a => v_fdiv h (by decide)
  have done : ∀ (s : List Nat) (k c : Option Val), ∃ k', whileL (wStep T F (.op .gt (.var 0) (.cst (.int 0))) [.asg (.name 1) (.op .add (.sub (.cst (.str [48, 49, 50, 51, 52, 53, 54, 55, 56, 57])) (.op .mod (.bf .int true [(.var 0)]) (.cst (.int 10)))) (.var 1)), .asg (.name 0) (.op .fdiv (.bf .int true [(.var 0)]) (.cst (.int 10)))]) [some (.int ((0 : Nat) : Int)), some (.str s), k, c] h
      = .nx [some k', some (.str s), k, c] h := fun s k c => ⟨_, whl_done (v := .bl false) (h1 := h) T F _ h (by
        simp only [evE_var, evE_cst, evE_tup, evE_lst, evE_op, evE_neg, evE_not, evE_and, evE_or, evE_ite, evE_sub, evE_slice, evE_call, evE_callK, evE_bm, evE_bf, evE_isi, evEs_nil, evEs_cons, exS_asg, exS_augN, exS_expr, exS_ret, exS_ife, exB_nil', exB_cons', bind_ok', stm_ok', next_nx', next_rt', bind_exc', stm_exc', next_exc', ifO_t, ifO_f, opt_some, varO_some, laidV_int, laidV_bl, laidV_str, laidV_tup, laidV_lst, retO_rt, retO_nx, v_add, v_sub, v_lt, v_le, v_gt, v_ge, v_eqi, v_nei, t_bl, t_int, ofOpt_some', List.getElem?_cons_zero, List.getElem?_cons_succ, List.set_cons_zero, List.set_cons_succ, List.map_cons, List.map_nil, List.cons_append, List.nil_append, List.replicate_succ, List.replicate_zero, bindTg, setSlots, List.length_cons, List.length_nil, Nat.reduceAdd, Nat.reduceSub, Nat.reduceLT, ↓reduceIte, if_true, bf_int, bf_lent, bf_lenl, bf_lena, sub_t, sub_l, sub_a]
        rfl) rfl⟩
  induction m with
  | zero =>
    intro n s k c hn hs
    have : n = 0 := by simpa using hn
    subst this
    exact done s k c
  | succ m ih =>
    intro n s k c hn hs
    by_cases hz : n = 0
    · subst hz; exact done s k c
    · have hpos : (0 : Int) < (n : Int) := by omega
      have ad : opV h .add (.str [(Nat.digitChar (n % 10)).toNat]) (.str s) = some (.str ([(Nat.digitChar (n % 10)).toNat] ++ s)) := v_adds h (by
        have : line = 16777216 := rfl
        simp only [List.length_cons, List.length_nil]
        omega)
      obtain ⟨k', e⟩ := ih (n / 10) ((Nat.digitChar (n % 10)).toNat :: s) k c (by rw [Nat.pow_succ] at hn; exact Nat.div_lt_of_lt_mul (by rw [Nat.mul_comm]; exact hn)) (by simp only [List.length_cons]; omega)
      refine ⟨k', ?_⟩
      rw [whl_again (v := .bl true) (h1 := h) (h2 := h) (ρ2 := [some (.int ((n / 10 : Nat) : Int)), some (.str ((Nat.digitChar (n % 10)).toNat :: s)), k, c]) T F _ h ?_ rfl ?_, e, if_neg hz]
      · congr 4
        by_cases h10 : n < 10
        · rw [if_pos (by omega), digits_small h10]; rfl
        · rw [if_neg (by omega), digits_more h10]; simp
      · simp only [evE_var, evE_cst, evE_tup, evE_lst, evE_op, evE_neg, evE_not, evE_and, evE_or, evE_ite, evE_sub, evE_slice, evE_call, evE_callK, evE_bm, evE_bf, evE_isi, evEs_nil, evEs_cons, exS_asg, exS_augN, exS_expr, exS_ret, exS_ife, exB_nil', exB_cons', bind_ok', stm_ok', next_nx', next_rt', bind_exc', stm_exc', next_exc', ifO_t, ifO_f, opt_some, varO_some, laidV_int, laidV_bl, laidV_str, laidV_tup, laidV_lst, retO_rt, retO_nx, v_add, v_sub, v_lt, v_le, v_gt, v_ge, v_eqi, v_nei, t_bl, t_int, ofOpt_some', List.getElem?_cons_zero, List.getElem?_cons_succ, List.set_cons_zero, List.set_cons_succ, List.map_cons, List.map_nil, List.cons_append, List.nil_append, List.replicate_succ, List.replicate_zero, bindTg, setSlots, List.length_cons, List.length_nil, Nat.reduceAdd, Nat.reduceSub, Nat.reduceLT, ↓reduceIte, if_true, bf_int, bf_lent, bf_lenl, bf_lena, sub_t, sub_l, sub_a, decide_eq_true hpos]
      · simp only [evE_var, evE_cst, evE_tup, evE_lst, evE_op, evE_neg, evE_not, evE_and, evE_or, evE_ite, evE_sub, evE_slice, evE_call, evE_callK, evE_bm, evE_bf, evE_isi, evEs_nil, evEs_cons, exS_asg, exS_augN, exS_expr, exS_ret, exS_ife, exB_nil', exB_cons', bind_ok', stm_ok', next_nx', next_rt', bind_exc', stm_exc', next_exc', ifO_t, ifO_f, opt_some, varO_some, laidV_int, laidV_bl, laidV_str, laidV_tup, laidV_lst, retO_rt, retO_nx, v_add, v_sub, v_lt, v_le, v_gt, v_ge, v_eqi, v_nei, t_bl, t_int, ofOpt_some', List.getElem?_cons_zero, List.getElem?_cons_succ, List.set_cons_zero, List.set_cons_succ, List.map_cons, List.map_nil, List.cons_append, List.nil_append, List.replicate_succ, List.replicate_zero, bindTg, setSlots, List.length_cons, List.length_nil, Nat.reduceAdd, Nat.reduceSub, Nat.reduceLT, ↓reduceIte, if_true, bf_int, bf_lent, bf_lenl, bf_lena, sub_t, sub_l, sub_a, q, f, sub_ten, ad, fdiv_ten]
theorem text_nat (F : Fns) (h : Heap) (n : Nat) (hn : n < 10 ^ 20) : retO (exB T F b9 [some (.int (n : Int)), none, none, none] h) = .ok (.str (digits n)) h := by
  obtain ⟨n1, n2, n3⟩ := is_atoms h
  have q : ∀ a : Int, opV h .mod (.int a) (.int 10) = some (.int (a.fmod 10)) := fun a => v_mod h (by decide)
  have f : ∀ a : Int, opV h .fdiv (.int a) (.int 10) = some (.int (a.fdiv 10)) := fun a => v_fdiv h (by decide)
  obtain ⟨k', e⟩ := dig_loop (T := T) F h 20 (n / 10) [(Nat.digitChar (n % 10)).toNat] none none (by omega) (by simp)
  have hneg : ¬ ((n : Int) < 0) := by omega
  have ed : (if n / 10 = 0 then [(Nat.digitChar (n % 10)).toNat] else digits (n / 10) ++ [(Nat.digitChar (n % 10)).toNat]) = digits n := by
    by_cases h10 : n < 10
    · rw [if_pos (by omega), digits_small h10]
    · rw [if_neg (by omega), digits_more h10]
  rw [ed] at e
  have e := whl_of e
  simp only [b9, evE_var, evE_cst, evE_tup, evE_lst, evE_op, evE_neg, evE_not, evE_and, evE_or, evE_ite, evE_sub, evE_slice, evE_call, evE_callK, evE_bm, evE_bf, evE_isi, evEs_nil, evEs_cons, exS_asg, exS_augN, exS_expr, exS_ret, exS_ife, exB_nil', exB_cons', bind_ok', stm_ok', next_nx', next_rt', bind_exc', stm_exc', next_exc', ifO_t, ifO_f, opt_some, varO_some, laidV_int, laidV_bl, laidV_str, laidV_tup, laidV_lst, retO_rt, retO_nx, v_add, v_sub, v_lt, v_le, v_gt, v_ge, v_eqi, v_nei, t_bl, t_int, ofOpt_some', List.getElem?_cons_zero, List.getElem?_cons_succ, List.set_cons_zero, List.set_cons_succ, List.map_cons, List.map_nil, List.cons_append, List.nil_append, List.replicate_succ, List.replicate_zero, bindTg, setSlots, List.length_cons, List.length_nil, Nat.reduceAdd, Nat.reduceSub, Nat.reduceLT, ↓reduceIte, if_true, bf_int, bf_lent, bf_lenl, bf_lena, sub_t, sub_l, sub_a, isiV, Option.map_some, n2, v_is_ib, decide_eq_false hneg, q, f, sub_ten, fdiv_ten, e]
def tl : List Val → List Nat
  | [] => []
  | x :: r => 32 :: (txt x ++ tl r)
omit B in
theorem txts_tl : ∀ (x : Val) (r : List Val), txts (x :: r) = txt x ++ tl r
  | x, [] => by conv => lhs; unfold txts
                simp [tl]
  | x, y :: r => by
    have e : txts (x :: y :: r) = txt x ++ 32 :: txts (y :: r) := by conv => lhs; unfold txts
    rw [e, txts_tl y r]
    rfl
omit B in
theorem text_loop (F : Fns) (h : Heap) (xs : List Val) (hF : ∀ x ∈ xs, F 9 [x] h = .ok (.str (txt x)) h) : ∀ (n j : Nat) (acc : List Nat) (k : Option Val), j + n = xs.length → 0 < j → acc.length + (tl (xs.drop j)).length + 10 ≤ line →
    ∃ k', forL (fun h' => stays h h' [.int (xs.length : Int)]) (fun v ρ h => opt (bindTg ρ (.name 3) v) (fun ρ' => exB T F [.ife (.op .gt (.var 3) (.cst (.int 0))) [.asg (.name 2) (.op .add (.var 2) (.cst (.str [32])))] [], .asg (.name 2) (.op .add (.var 2) (.call 9 [(.sub (.var 0) (.var 3))]))] ρ' h) .bad) (upto (j : Int) n) [some (.tup xs), none, some (.str acc), k] h
      = .nx [some (.tup xs), none, some (.str (acc ++ tl (xs.drop j))), k'] h := by
  intro n
  induction n with
  | zero =>
    intro j acc k hj h0 hl
    have : xs.drop j = [] := List.drop_eq_nil_of_le (by omega)
    rw [this]
    exact ⟨k, by simp only [upto, tl, List.append_nil]; exact forL_nil⟩
  | succ n ih =>
    intro j acc k hj h0 hl
    have hlt : j < xs.length := by omega
    have ed : xs.drop j = xs[j] :: xs.drop (j + 1) := List.drop_eq_getElem_cons hlt
    rw [ed] at hl ⊢
    simp only [tl, List.length_cons, List.length_append] at hl
    obtain ⟨k', e⟩ := ih (j + 1) (acc ++ [32] ++ txt xs[j]) (some (.int (j : Int))) (by omega) (by omega) (by
      simp only [List.length_append, List.length_cons, List.length_nil]
      omega)
    refine ⟨k', ?_⟩
    have ea : at_ xs (j : Int) = some xs[j] := by rw [at_nat, List.getElem?_eq_getElem hlt]
    have hp : (0 : Int) < (j : Int) := by omega
    have a1 : opV h .add (.str acc) (.str [32]) = some (.str (acc ++ [32])) := v_adds h (by simp only [List.length_cons, List.length_nil]; omega)
    have a2 : opV h .add (.str (acc ++ [32])) (.str (txt xs[j])) = some (.str (acc ++ [32] ++ txt xs[j])) := v_adds h (by simp only [List.length_append, List.length_cons, List.length_nil]; omega)
    have step : opt (bindTg [some (.tup xs), none, some (.str acc), k] (.name 3) (.int (j : Int))) (fun ρ' => exB T F [.ife (.op .gt (.var 3) (.cst (.int 0))) [.asg (.name 2) (.op .add (.var 2) (.cst (.str [32])))] [], .asg (.name 2) (.op .add (.var 2) (.call 9 [(.sub (.var 0) (.var 3))]))] ρ' h) .bad = .nx [some (.tup xs), none, some (.str (acc ++ [32] ++ txt xs[j])), some (.int (j : Int))] h := by
      simp only [evE_var, evE_cst, evE_tup, evE_lst, evE_op, evE_neg, evE_not, evE_and, evE_or, evE_ite, evE_sub, evE_slice, evE_call, evE_callK, evE_bm, evE_bf, evE_isi, evEs_nil, evEs_cons, exS_asg, exS_augN, exS_expr, exS_ret, exS_ife, exB_nil', exB_cons', bind_ok', stm_ok', next_nx', next_rt', bind_exc', stm_exc', next_exc', ifO_t, ifO_f, opt_some, varO_some, laidV_int, laidV_bl, laidV_str, laidV_tup, laidV_lst, retO_rt, retO_nx, v_add, v_sub, v_lt, v_le, v_gt, v_ge, v_eqi, v_nei, t_bl, t_int, ofOpt_some', List.getElem?_cons_zero, List.getElem?_cons_succ, List.set_cons_zero, List.set_cons_succ, List.map_cons, List.map_nil, List.cons_append, List.nil_append, List.replicate_succ, List.replicate_zero, bindTg, setSlots, List.length_cons, List.length_nil, Nat.reduceAdd, Nat.reduceSub, Nat.reduceLT, ↓reduceIte, if_true, bf_int, bf_lent, bf_lenl, bf_lena, sub_t, sub_l, sub_a, decide_eq_true hp, ea, a1, hF _ (List.getElem_mem hlt), a2]
    have eu : upto (j : Int) (n + 1) = .int (j : Int) :: upto ((j + 1 : Nat) : Int) n := by
      show Val.int (j : Int) :: upto ((j : Int) + 1) n = _
      rfl
    rw [eu, forL_nx step stays_int, e]
    simp [tl]
theorem text (m : Nat) : ∀ (d : Nat) (v : Val), G d v → (txt v).length ≤ 8000000 → ∀ h : Heap, callF T (d + m + 2) 9 [v] h = .ok (.str (txt v)) h := by
  intro d
  have intC : ∀ (d : Nat) (i : Int) (h : Heap), i.natAbs < 10 ^ 20 → callF T (d + m + 2) 9 [.int i] h = .ok (.str (txt (.int i))) h := fun d i h hi => by
    obtain ⟨n1, n2, n3⟩ := is_atoms h
    have et : txt (.int i) = intText i := by unfold txt; rfl
    rw [et]
    by_cases hn : i < 0
    · have e1 : callF T (d + m + 1) 9 [.int (0 - i)] h = .ok (.str (digits i.natAbs)) h := by
        rw [callF_n T (d + m) 9 _ h _ B.f9 (B.fz 9) rfl]
        have : (0 - i) = ((i.natAbs : Nat) : Int) := by omega
        rw [this]
        exact text_nat B _ h _ hi
      have ad : opV h .add (.str [45]) (.str (digits i.natAbs)) = some (.str ([45] ++ digits i.natAbs)) := v_adds h (by
        have := digits_len 19 _ hi
        have : line = 16777216 := rfl
        simp only [List.length_cons, List.length_nil]
        omega)
      have ei : intText i = [45] ++ digits i.natAbs := by unfold intText; rw [if_pos hn]; rfl
      rw [callF_n T (d + m + 1) 9 _ h _ B.f9 (B.fz 9) rfl, ei]
      simp only [List.cons_append, List.nil_append] at ad ⊢
      simp only [b9, evE_var, evE_cst, evE_tup, evE_lst, evE_op, evE_neg, evE_not, evE_and, evE_or, evE_ite, evE_sub, evE_slice, evE_call, evE_callK, evE_bm, evE_bf, evE_isi, evEs_nil, evEs_cons, exS_asg, exS_augN, exS_expr, exS_ret, exS_ife, exB_nil', exB_cons', bind_ok', stm_ok', next_nx', next_rt', bind_exc', stm_exc', next_exc', ifO_t, ifO_f, opt_some, varO_some, laidV_int, laidV_bl, laidV_str, laidV_tup, laidV_lst, retO_rt, retO_nx, v_add, v_sub, v_lt, v_le, v_gt, v_ge, v_eqi, v_nei, t_bl, t_int, ofOpt_some', List.getElem?_cons_zero, List.getElem?_cons_succ, List.set_cons_zero, List.set_cons_succ, List.map_cons, List.map_nil, List.cons_append, List.nil_append, List.replicate_succ, List.replicate_zero, bindTg, setSlots, List.length_cons, List.length_nil, Nat.reduceAdd, Nat.reduceSub, Nat.reduceLT, ↓reduceIte, if_true, bf_int, bf_lent, bf_lenl, bf_lena, sub_t, sub_l, sub_a, isiV, Option.map_some, n2, v_is_ib, decide_eq_true hn, e1, ad]
    · rw [callF_n T (d + m + 1) 9 _ h _ B.f9 (B.fz 9) rfl]
      have : i = ((i.natAbs : Nat) : Int) := by omega
      have ei : intText i = digits i.natAbs := by unfold intText; rw [if_neg hn]
      rw [ei]
      conv => lhs; rw [this]
      exact text_nat B _ h _ hi
  have atoms : ∀ (d : Nat) (v : Val) (h : Heap), G d v → (∀ xs, v ≠ .tup xs) → callF T (d + m + 2) 9 [v] h = .ok (.str (txt v)) h := fun d v h w nt => by
    obtain ⟨n1, n2, n3⟩ := is_atoms h
    cases w with
    | int _ i hi => exact intC d i h hi
    | non =>
      rw [callF_n T (d + m + 1) 9 _ h _ B.f9 (B.fz 9) rfl]
      simp only [b9, evE_var, evE_cst, evE_tup, evE_lst, evE_op, evE_neg, evE_not, evE_and, evE_or, evE_ite, evE_sub, evE_slice, evE_call, evE_callK, evE_bm, evE_bf, evE_isi, evEs_nil, evEs_cons, exS_asg, exS_augN, exS_expr, exS_ret, exS_ife, exB_nil', exB_cons', bind_ok', stm_ok', next_nx', next_rt', bind_exc', stm_exc', next_exc', ifO_t, ifO_f, opt_some, varO_some, laidV_int, laidV_bl, laidV_str, laidV_tup, laidV_lst, retO_rt, retO_nx, v_add, v_sub, v_lt, v_le, v_gt, v_ge, v_eqi, v_nei, t_bl, t_int, ofOpt_some', List.getElem?_cons_zero, List.getElem?_cons_succ, List.set_cons_zero, List.set_cons_succ, List.map_cons, List.map_nil, List.cons_append, List.nil_append, List.replicate_succ, List.replicate_zero, bindTg, setSlots, List.length_cons, List.length_nil, Nat.reduceAdd, Nat.reduceSub, Nat.reduceLT, ↓reduceIte, if_true, bf_int, bf_lent, bf_lenl, bf_lena, sub_t, sub_l, sub_a, isiV, Option.map_some, v_is_nn, txt]
    | bl _ b =>
      rw [callF_n T (d + m + 1) 9 _ h _ B.f9 (B.fz 9) rfl]
      cases b <;> simp only [b9, evE_var, evE_cst, evE_tup, evE_lst, evE_op, evE_neg, evE_not, evE_and, evE_or, evE_ite, evE_sub, evE_slice, evE_call, evE_callK, evE_bm, evE_bf, evE_isi, evEs_nil, evEs_cons, exS_asg, exS_augN, exS_expr, exS_ret, exS_ife, exB_nil', exB_cons', bind_ok', stm_ok', next_nx', next_rt', bind_exc', stm_exc', next_exc', ifO_t, ifO_f, opt_some, varO_some, laidV_int, laidV_bl, laidV_str, laidV_tup, laidV_lst, retO_rt, retO_nx, v_add, v_sub, v_lt, v_le, v_gt, v_ge, v_eqi, v_nei, t_bl, t_int, ofOpt_some', List.getElem?_cons_zero, List.getElem?_cons_succ, List.set_cons_zero, List.set_cons_succ, List.map_cons, List.map_nil, List.cons_append, List.nil_append, List.replicate_succ, List.replicate_zero, bindTg, setSlots, List.length_cons, List.length_nil, Nat.reduceAdd, Nat.reduceSub, Nat.reduceLT, ↓reduceIte, if_true, bf_int, bf_lent, bf_lenl, bf_lena, sub_t, sub_l, sub_a, isiV, Option.map_some, n1, v_is_bb, txt, beq_self_eq_true, show (false == true) = false from rfl, Bool.false_eq_true]
    | str _ s hs =>
      rw [callF_n T (d + m + 1) 9 _ h _ B.f9 (B.fz 9) rfl]
      simp only [b9, evE_var, evE_cst, evE_tup, evE_lst, evE_op, evE_neg, evE_not, evE_and, evE_or, evE_ite, evE_sub, evE_slice, evE_call, evE_callK, evE_bm, evE_bf, evE_isi, evEs_nil, evEs_cons, exS_asg, exS_augN, exS_expr, exS_ret, exS_ife, exB_nil', exB_cons', bind_ok', stm_ok', next_nx', next_rt', bind_exc', stm_exc', next_exc', ifO_t, ifO_f, opt_some, varO_some, laidV_int, laidV_bl, laidV_str, laidV_tup, laidV_lst, retO_rt, retO_nx, v_add, v_sub, v_lt, v_le, v_gt, v_ge, v_eqi, v_nei, t_bl, t_int, ofOpt_some', List.getElem?_cons_zero, List.getElem?_cons_succ, List.set_cons_zero, List.set_cons_succ, List.map_cons, List.map_nil, List.cons_append, List.nil_append, List.replicate_succ, List.replicate_zero, bindTg, setSlots, List.length_cons, List.length_nil, Nat.reduceAdd, Nat.reduceSub, Nat.reduceLT, ↓reduceIte, if_true, bf_int, bf_lent, bf_lenl, bf_lena, sub_t, sub_l, sub_a, isiV, Option.map_some, n3, v_is_sb, txt]
    | tup _ xs _ => exact absurd rfl (nt xs)
  induction d with
  | zero => exact fun v w hv h => atoms 0 v h w (fun xs z => by subst z; cases w)
  | succ d ih =>
    intro v w hv h
    by_cases nt : ∀ xs, v ≠ .tup xs
    · exact atoms (d + 1) v h w nt
    · obtain ⟨xs, rfl⟩ : ∃ xs, v = .tup xs := Classical.byContradiction fun z => nt fun xs e => z ⟨xs, e⟩
      cases w with
      | tup _ _ hx =>
        have tot := hv
        have sz := tup_ge xs
        obtain ⟨z1, z2, z3⟩ := siz_ge xs
        have ln : line = 16777216 := rfl
        have et : txt (.tup xs) = 40 :: (txts xs ++ [41]) := by conv => lhs; unfold txt
        rw [et] at tot ⊢
        simp only [List.length_cons, List.length_append, List.length_nil] at tot
        rw [show d + 1 + m + 2 = (d + m + 2) + 1 by omega, callF_n T (d + m + 2) 9 _ h _ B.f9 (B.fz 9) rfl]
        have hF : ∀ x ∈ xs, callF T (d + m + 2) 9 [x] h = .ok (.str (txt x)) h := fun x hm => ih x (hx x hm) (by have := z3 x hm; omega) h
        have el : ∃ k', forL (fun h' => stays h h' [.int (xs.length : Int)]) (fun v ρ h => opt (bindTg ρ (.name 3) v) (fun ρ' => exB T (callF T (d + m + 2)) [.ife (.op .gt (.var 3) (.cst (.int 0))) [.asg (.name 2) (.op .add (.var 2) (.cst (.str [32])))] [], .asg (.name 2) (.op .add (.var 2) (.call 9 [(.sub (.var 0) (.var 3))]))] ρ' h) .bad) (upto 0 xs.length) [some (.tup xs), none, some (.str [40]), none] h
            = .nx [some (.tup xs), none, some (.str (40 :: txts xs)), k'] h := by
          cases xs with
          | nil => exact ⟨none, by unfold txts; rfl⟩
          | cons x r =>
            have a2 : opV h .add (.str [40]) (.str (txt x)) = some (.str ([40] ++ txt x)) := v_adds h (by
              rw [txts_tl] at tot
              simp only [List.length_append] at tot
              simp only [List.length_cons, List.length_nil]
              omega)
            have ea : at_ (x :: r) 0 = some x := at_nat (x :: r) 0
            have step : opt (bindTg [some (.tup (x :: r)), none, some (.str [40]), none] (.name 3) (.int 0)) (fun ρ' => exB T (callF T (d + m + 2)) [.ife (.op .gt (.var 3) (.cst (.int 0))) [.asg (.name 2) (.op .add (.var 2) (.cst (.str [32])))] [], .asg (.name 2) (.op .add (.var 2) (.call 9 [(.sub (.var 0) (.var 3))]))] ρ' h) .bad = .nx [some (.tup (x :: r)), none, some (.str ([40] ++ txt x)), some (.int 0)] h := by
              simp only [evE_var, evE_cst, evE_tup, evE_lst, evE_op, evE_neg, evE_not, evE_and, evE_or, evE_ite, evE_sub, evE_slice, evE_call, evE_callK, evE_bm, evE_bf, evE_isi, evEs_nil, evEs_cons, exS_asg, exS_augN, exS_expr, exS_ret, exS_ife, exB_nil', exB_cons', bind_ok', stm_ok', next_nx', next_rt', bind_exc', stm_exc', next_exc', ifO_t, ifO_f, opt_some, varO_some, laidV_int, laidV_bl, laidV_str, laidV_tup, laidV_lst, retO_rt, retO_nx, v_add, v_sub, v_lt, v_le, v_gt, v_ge, v_eqi, v_nei, t_bl, t_int, ofOpt_some', List.getElem?_cons_zero, List.getElem?_cons_succ, List.set_cons_zero, List.set_cons_succ, List.map_cons, List.map_nil, List.cons_append, List.nil_append, List.replicate_succ, List.replicate_zero, bindTg, setSlots, List.length_cons, List.length_nil, Nat.reduceAdd, Nat.reduceSub, Nat.reduceLT, ↓reduceIte, if_true, bf_int, bf_lent, bf_lenl, bf_lena, sub_t, sub_l, sub_a, show decide ((0 : Int) < 0) = false from rfl, ea, hF x List.mem_cons_self, a2]
            obtain ⟨k', e⟩ := text_loop (T := T) (callF T (d + m + 2)) h (x :: r) hF r.length 1 ([40] ++ txt x) (some (.int 0)) (by simp; omega) (by omega) (by
              rw [txts_tl] at tot
              simp only [List.length_append] at tot
              simp only [List.length_append, List.length_cons, List.length_nil, List.drop_succ_cons, List.drop_zero]
              omega)
            refine ⟨k', ?_⟩
            have eu : upto 0 (x :: r).length = .int 0 :: upto ((1 : Nat) : Int) r.length := rfl
            rw [eu, forL_nx step stays_int, e, txts_tl]
            simp
        obtain ⟨k', el⟩ := el
        have a3 : opV h .add (.str (40 :: txts xs)) (.str [41]) = some (.str ((40 :: txts xs) ++ [41])) := v_adds h (by
          simp only [List.length_cons, List.length_nil]
          omega)
        have el := loop_of (it := [(.bf .len true [(.var 0)])]) (h := h) (show (2 : Nat) ≠ 1 by decide) (by simp only [evE_var, evE_cst, evE_tup, evE_lst, evE_op, evE_neg, evE_not, evE_and, evE_or, evE_ite, evE_sub, evE_slice, evE_call, evE_callK, evE_bm, evE_bf, evE_isi, evEs_nil, evEs_cons, exS_asg, exS_augN, exS_expr, exS_ret, exS_ife, exB_nil', exB_cons', bind_ok', stm_ok', next_nx', next_rt', bind_exc', stm_exc', next_exc', ifO_t, ifO_f, opt_some, varO_some, laidV_int, laidV_bl, laidV_str, laidV_tup, laidV_lst, retO_rt, retO_nx, v_add, v_sub, v_lt, v_le, v_gt, v_ge, v_eqi, v_nei, t_bl, t_int, ofOpt_some', List.getElem?_cons_zero, List.getElem?_cons_succ, List.set_cons_zero, List.set_cons_succ, List.map_cons, List.map_nil, List.cons_append, List.nil_append, List.replicate_succ, List.replicate_zero, bindTg, setSlots, List.length_cons, List.length_nil, Nat.reduceAdd, Nat.reduceSub, Nat.reduceLT, ↓reduceIte, if_true, bf_int, bf_lent, bf_lenl, bf_lena, sub_t, sub_l, sub_a]) (rng_ok (show xs.length ≤ 16777216 by omega) h) el
        simp only [b9, evE_var, evE_cst, evE_tup, evE_lst, evE_op, evE_neg, evE_not, evE_and, evE_or, evE_ite, evE_sub, evE_slice, evE_call, evE_callK, evE_bm, evE_bf, evE_isi, evEs_nil, evEs_cons, exS_asg, exS_augN, exS_expr, exS_ret, exS_ife, exB_nil', exB_cons', bind_ok', stm_ok', next_nx', next_rt', bind_exc', stm_exc', next_exc', ifO_t, ifO_f, opt_some, varO_some, laidV_int, laidV_bl, laidV_str, laidV_tup, laidV_lst, retO_rt, retO_nx, v_add, v_sub, v_lt, v_le, v_gt, v_ge, v_eqi, v_nei, t_bl, t_int, ofOpt_some', List.getElem?_cons_zero, List.getElem?_cons_succ, List.set_cons_zero, List.set_cons_succ, List.map_cons, List.map_nil, List.cons_append, List.nil_append, List.replicate_succ, List.replicate_zero, bindTg, setSlots, List.length_cons, List.length_nil, Nat.reduceAdd, Nat.reduceSub, Nat.reduceLT, ↓reduceIte, if_true, bf_int, bf_lent, bf_lenl, bf_lena, sub_t, sub_l, sub_a, isiV, Option.map_some, el, a3]
end
inductive Wf : Nat → Val → Prop where
  | non (d : Nat) : Wf d .non
  | bl (d : Nat) (b : Bool) : Wf d (.bl b)
  | int (d : Nat) (i : Int) : i.natAbs < 10 ^ 20 → Wf d (.int i)
  | str (d : Nat) (s : List Nat) : letter s ∧ s.length ≤ 20 → Wf d (.str s)
  | tup (d : Nat) (xs : List Val) : xs.length ≤ 4 → (∀ x ∈ xs, Wf d x) → Wf (d + 1) (.tup xs)
theorem Wf.g {d : Nat} {v : Val} (w : Wf d v) : G d v := by
  induction w with
  | non => exact .non _
  | bl => exact .bl _ _
  | int d i h => exact .int _ _ h
  | str d s h => exact .str _ _ h.1
  | tup d xs _ _ ih => exact .tup _ _ ih
def Lb (d : Nat) : Nat := 22 * 6 ^ d
theorem Lb_pos (d : Nat) : 22 ≤ Lb d := by
  unfold Lb
  have : 0 < 6 ^ d := Nat.pos_of_ne_zero (by simp)
  omega
theorem join_len (n : Nat) : ∀ ts : List (List Nat), (∀ t ∈ ts, t.length ≤ n) → sumLen ts ≤ ts.length * n ∧ (joinT [32] ts).length ≤ ts.length * (n + 1)
  | [], _ => by simp [sumLen, joinT]
  | [x], h => by
    have := h x (by simp)
    simp [sumLen, joinT]
    omega
  | x :: y :: r, h => by
    have hx := h x (by simp)
    obtain ⟨a, b⟩ := join_len n (y :: r) fun t ht => h t (List.mem_cons_of_mem _ ht)
    have e1 : sumLen (x :: y :: r) = x.length + sumLen (y :: r) := rfl
    have e2 : (joinT [32] (x :: y :: r)).length = x.length + 1 + (joinT [32] (y :: r)).length := by
      show (x ++ [32] ++ joinT [32] (y :: r)).length = _
      simp
      omega
    have e3 : (x :: y :: r).length = (y :: r).length + 1 := rfl
    rw [e1, e2, e3, Nat.succ_mul, Nat.succ_mul]
    omega
theorem txt_len : ∀ (d : Nat) (v : Val), Wf d v → (txt v).length + 1 ≤ Lb d
  | d, _, .non _ => by unfold txt; have := Lb_pos d; simp; omega
  | d, _, .bl _ b => by unfold txt; have := Lb_pos d; cases b <;> simp <;> omega
  | d, _, .int _ i h => by unfold txt; have := Lb_pos d; have := intText_len h; omega
  | d, _, .str _ s h => by unfold txt; have := Lb_pos d; have := h.2; omega
  | d + 1, _, .tup _ xs hl hx => by
    have ih : ∀ t ∈ xs.map txt, t.length ≤ Lb d - 1 := fun t ht => by
      obtain ⟨x, hm, rfl⟩ := List.mem_map.mp ht
      have := txt_len d x (hx x hm)
      omega
    obtain ⟨_, b⟩ := join_len (Lb d - 1) (xs.map txt) ih
    rw [txt_tup, txts_join]
    have p := Lb_pos d
    have e : Lb (d + 1) = 6 * Lb d := by unfold Lb; rw [Nat.pow_succ]; omega
    rw [List.length_map] at b
    have : xs.length * (Lb d - 1 + 1) ≤ 4 * Lb d := by
      rw [Nat.sub_add_cancel (by omega)]
      exact Nat.mul_le_mul_right _ hl
    simp only [List.length_cons, List.length_append, List.length_nil]
    omega
theorem Lb_line {d : Nat} (h : d ≤ 6) : Lb d ≤ 2000000 := by
  have : 6 ^ d ≤ 6 ^ 6 := Nat.pow_le_pow_right (by decide) h
  unfold Lb
  have e : (6 : Nat) ^ 6 = 46656 := by decide
  omega
section
variable {T : Tb} (B : Tab T)
include B
/-! ### drawn trees -/
/-- old cells stay -/
def Fr (h h' : Heap) : Prop := h.n ≤ h'.n ∧ ∀ q, q < h.n → h'.c q = h.c q
omit B in
theorem Fr.refl (h : Heap) : Fr h h := ⟨Nat.le_refl _, fun _ _ => rfl⟩
omit B in
theorem Fr.trans {a b c : Heap} (x : Fr a b) (y : Fr b c) : Fr a c := ⟨Nat.le_trans x.1 y.1, fun q hq => (y.2 q (Nat.lt_of_lt_of_le hq x.1)).trans (x.2 q hq)⟩
omit B in
theorem Fr.push (h : Heap) (x : Cell) : Fr h (h.push x) := ⟨Nat.le_succ _, fun q hq => if_neg (Nat.ne_of_lt hq)⟩
omit B in
theorem push_at (h : Heap) (x : Cell) : (h.push x).c h.n = some x := if_pos rfl
omit B in
theorem tree_loop (F : Fns) (i dp : Int) (r : Nat) (P : Val → Prop) (a b c : Option Val) (hF : ∀ (e : Int) (h : Heap), ∃ v h', F 8 [.int e, .int dp] h = .ok v h' ∧ P v ∧ Fr h h') (ha : b = some (.int (dp + 1))) : ∀ (n j : Nat) (acc : List Val) (k : Option Val) (h0 h : Heap) (ws : Int), j + n ≤ 4 → acc.length = j → r < h.n → h.c r = some (.lst acc) → (∀ x ∈ acc, P x) →
    ∃ k' ys h', forL (fun h' => stays h0 h' [.int ws]) (fun v ρ h => opt (bindTg ρ (.name 5) v) (fun ρ' => exB T F [.expr (.bm (.var 4) .append [(.call 8 [(.op .fdiv (.bf .int true [(.var 3)]) (.op .add (.cst (.int 5)) (.op .mul (.cst (.int 11)) (.var 5)))), (.op .sub (.var 1) (.cst (.int 1)))])])] ρ' h) .bad) (upto (j : Int) n) [a, b, c, some (.int i), some (.ref r), k] h
      = .nx [a, b, c, some (.int i), some (.ref r), k'] h' ∧ h'.c r = some (.lst ys) ∧ ys.length = j + n ∧ (∀ x ∈ ys, P x) ∧ h.n ≤ h'.n ∧ ∀ q, q < r → h'.c q = h.c q := by
  intro n
  induction n with
  | zero =>
    intro j acc k h0 h ws hj hl hr hc hp
    exact ⟨k, acc, h, forL_nil, hc, by omega, hp, Nat.le_refl _, fun _ _ => rfl⟩
  | succ n ih =>
    intro j acc k h0 h ws hj hl hr hc hp
    obtain ⟨v, h1, ev, pv, f1⟩ := hF (i.fdiv (5 + 11 * (j : Int))) h
    have hc1 : h1.c r = some (.lst acc) := (f1.2 r hr).trans hc
    obtain ⟨k', ys, h', e, q1, q2, q3, q4, q5⟩ := ih (j + 1) (acc ++ [v]) (some (.int (j : Int))) h0 (h1.set r (.lst (acc ++ [v]))) ws (by omega) (by simp; omega) (Nat.lt_of_lt_of_le hr f1.1) (if_pos rfl) (fun x hx => by
      rcases List.mem_append.mp hx with hx | hx
      · exact hp x hx
      · cases List.mem_singleton.mp hx; exact pv)
    refine ⟨k', ys, h', ?_, q1, by omega, q3, Nat.le_trans f1.1 q4, fun q hq => (q5 q hq).trans ?_⟩
    · have eu : upto (j : Int) (n + 1) = .int (j : Int) :: upto ((j + 1 : Nat) : Int) n := rfl
      have m1 : opV h .mul (.int 11) (.int (j : Int)) = some (.int (11 * (j : Int))) := v_mul1 h (by decide)
      have d1 : opV h .fdiv (.int i) (.int (5 + 11 * (j : Int))) = some (.int (i.fdiv (5 + 11 * (j : Int)))) := v_fdiv h ⟨by omega, by unfold bound30; omega⟩
      have hk : bmK h .append (.ref r) = some 0 := by simp [bmK, kindV, hc, bmHas]
      have hk1 : bmK h1 .append (.ref r) = some 0 := by simp [bmK, kindV, hc1, bmHas]
      have hb : bmV h1 .append (.ref r) [v] = .ok .non (h1.set r (.lst (acc ++ [v]))) := by
        simp only [bmV, hc1]
        rw [if_pos]
        have : line = 16777216 := rfl
        omega
      have step : opt (bindTg [a, b, c, some (.int i), some (.ref r), k] (.name 5) (.int (j : Int))) (fun ρ' => exB T F [.expr (.bm (.var 4) .append [(.call 8 [(.op .fdiv (.bf .int true [(.var 3)]) (.op .add (.cst (.int 5)) (.op .mul (.cst (.int 11)) (.var 5)))), (.op .sub (.var 1) (.cst (.int 1)))])])] ρ' h) .bad = .nx [a, b, c, some (.int i), some (.ref r), some (.int (j : Int))] (h1.set r (.lst (acc ++ [v]))) := by
        subst ha
        have es : dp + 1 - 1 = dp := by omega
        simp only [evE_var, evE_cst, evE_tup, evE_lst, evE_op, evE_neg, evE_not, evE_and, evE_or, evE_ite, evE_sub, evE_slice, evE_call, evE_callK, evE_bm, evE_bf, evE_isi, evEs_nil, evEs_cons, exS_asg, exS_augN, exS_expr, exS_ret, exS_ife, exB_nil', exB_cons', bind_ok', stm_ok', next_nx', next_rt', bind_exc', stm_exc', next_exc', ifO_t, ifO_f, opt_some, varO_some, laidV_int, laidV_bl, laidV_str, laidV_tup, laidV_lst, retO_rt, retO_nx, v_add, v_sub, v_lt, v_le, v_gt, v_ge, v_eqi, v_nei, t_bl, t_int, ofOpt_some', List.getElem?_cons_zero, List.getElem?_cons_succ, List.set_cons_zero, List.set_cons_succ, List.map_cons, List.map_nil, List.cons_append, List.nil_append, List.replicate_succ, List.replicate_zero, bindTg, setSlots, List.length_cons, List.length_nil, Nat.reduceAdd, Nat.reduceSub, Nat.reduceLT, ↓reduceIte, if_true, bf_int, bf_lent, bf_lenl, bf_lena, sub_t, sub_l, sub_a, hk, m1, d1, es, ev, hk1, hb]
      rw [eu, forL_nx step stays_int, e]
    · show (if q = r then _ else _) = _
      rw [if_neg (Nat.ne_of_lt hq)]
      exact f1.2 q (Nat.lt_trans hq hr)
theorem tree (m : Nat) : ∀ (d : Nat) (i : Int) (h : Heap), ∃ v h', callF T (d + m + 1) 8 [.int i, .int (d : Int)] h = .ok v h' ∧ Wf d v ∧ Fr h h' := by
  intro d
  have q9 : ∀ (h : Heap) (a : Int), opV h .mod (.int a) (.int 9) = some (.int (a.fmod 9)) := fun h a => v_mod h (by decide)
  have f9 : ∀ (h : Heap) (a : Int), opV h .fdiv (.int a) (.int 9) = some (.int (a.fdiv 9)) := fun h a => v_fdiv h (by decide)
  have q5 : ∀ (h : Heap) (a : Int), opV h .mod (.int a) (.int 5) = some (.int (a.fmod 5)) := fun h a => v_mod h (by decide)
  have q3 : ∀ (h : Heap) (a : Int), opV h .mod (.int a) (.int 3) = some (.int (a.fmod 3)) := fun h a => v_mod h (by decide)
  have q6 : ∀ (h : Heap) (a : Int), opV h .mod (.int a) (.int 6) = some (.int (a.fmod 6)) := fun h a => v_mod h (by decide)
  have q100 : ∀ (h : Heap) (a : Int), opV h .mod (.int a) (.int 100) = some (.int (a.fmod 100)) := fun h a => v_mod h (by decide)
  have q1000 : ∀ (h : Heap) (a : Int), opV h .mod (.int a) (.int 1000) = some (.int (a.fmod 1000)) := fun h a => v_mod h (by decide)
  have qb : ∀ (h : Heap) (a : Int), opV h .mod (.int a) (.int (10 ^ 20)) = some (.int (a.fmod (10 ^ 20))) := fun h a => v_mod h (by decide)
  have p20 : ∀ (h : Heap), opV h .pow (.int 10) (.int 20) = some (.int (10 ^ 20)) := fun h => v_pow h (by decide)
  have atoms : ∀ (F : Fns) (d : Nat) (i : Int) (h : Heap), ∃ v h', retO (exB T F (b8.drop 3) [some (.int i), some (.int (d : Int)), some (.int (i.fmod 9)), some (.int (i.fdiv 9)), none, none] h) = .ok v h' ∧ Wf d v ∧ Fr h h' := fun F d i h => by
    generalize hk : i.fmod 9 = k
    generalize hr : i.fdiv 9 = r
    by_cases c4 : k = 4
    · subst c4
      have e3 : ((r.fmod 3) : Int) = ((r.fmod 3).toNat : Nat) := by rw [Int.fmod_eq_emod_of_nonneg _ (by decide)]; omega
      have l3 : (r.fmod 3).toNat < 3 := by rw [Int.fmod_eq_emod_of_nonneg _ (by decide)]; omega
      have hs : ∃ v, at_ [Val.bl true, .bl false, .non] (r.fmod 3) = some v ∧ Wf d v := by
        rw [e3, at_nat]
        generalize (r.fmod 3).toNat = z at *
        match z, l3 with
        | 0, _ => exact ⟨_, rfl, .bl d _⟩
        | 1, _ => exact ⟨_, rfl, .bl d _⟩
        | 2, _ => exact ⟨_, rfl, .non d⟩
      obtain ⟨v, ev, wv⟩ := hs
      refine ⟨v, h.push (.lst [.bl true, .bl false, .non]), ?_, wv, Fr.push _ _⟩
      have eq : ((4 : Int) == 4) = true := rfl
      simp only [b8, List.drop_succ_cons, List.drop_zero, evE_var, evE_cst, evE_tup, evE_lst, evE_op, evE_neg, evE_not, evE_and, evE_or, evE_ite, evE_sub, evE_slice, evE_call, evE_callK, evE_bm, evE_bf, evE_isi, evEs_nil, evEs_cons, exS_asg, exS_augN, exS_expr, exS_ret, exS_ife, exB_nil', exB_cons', bind_ok', stm_ok', next_nx', next_rt', bind_exc', stm_exc', next_exc', ifO_t, ifO_f, opt_some, varO_some, laidV_int, laidV_bl, laidV_str, laidV_tup, laidV_lst, retO_rt, retO_nx, v_add, v_sub, v_lt, v_le, v_gt, v_ge, v_eqi, v_nei, t_bl, t_int, ofOpt_some', List.getElem?_cons_zero, List.getElem?_cons_succ, List.set_cons_zero, List.set_cons_succ, List.map_cons, List.map_nil, List.cons_append, List.nil_append, List.replicate_succ, List.replicate_zero, bindTg, setSlots, List.length_cons, List.length_nil, Nat.reduceAdd, Nat.reduceSub, Nat.reduceLT, ↓reduceIte, if_true, bf_int, bf_lent, bf_lenl, bf_lena, sub_t, sub_l, sub_a, eq, newL_n (show [Val.bl true, .bl false, .non].length ≤ line by decide), q3, sub_r _ (push_at h (.lst [.bl true, .bl false, .non])), ev]
    · have n4 : (k == 4) = false := by simpa using c4
      by_cases c5 : k = 5
      · subst c5
        have e6 : ((r.fmod 6) : Int) = ((r.fmod 6).toNat : Nat) := by rw [Int.fmod_eq_emod_of_nonneg _ (by decide)]; omega
        have l6 : (r.fmod 6).toNat < 6 := by rw [Int.fmod_eq_emod_of_nonneg _ (by decide)]; omega
        have hs : ∃ v, at_ [Val.str [112, 97, 121], .str [116], .str [102], .str [111, 112, 101, 110], .str [110, 111, 110, 101], .str [122, 122]] (r.fmod 6) = some v ∧ Wf d v := by
          rw [e6, at_nat]
          generalize (r.fmod 6).toNat = z at *
          match z, l6 with
          | 0, _ => exact ⟨_, rfl, .str d _ ⟨⟨by decide, by decide⟩, by decide⟩⟩
          | 1, _ => exact ⟨_, rfl, .str d _ ⟨⟨by decide, by decide⟩, by decide⟩⟩
          | 2, _ => exact ⟨_, rfl, .str d _ ⟨⟨by decide, by decide⟩, by decide⟩⟩
          | 3, _ => exact ⟨_, rfl, .str d _ ⟨⟨by decide, by decide⟩, by decide⟩⟩
          | 4, _ => exact ⟨_, rfl, .str d _ ⟨⟨by decide, by decide⟩, by decide⟩⟩
          | 5, _ => exact ⟨_, rfl, .str d _ ⟨⟨by decide, by decide⟩, by decide⟩⟩
        obtain ⟨v, ev, wv⟩ := hs
        refine ⟨v, h.push (.lst [.str [112, 97, 121], .str [116], .str [102], .str [111, 112, 101, 110], .str [110, 111, 110, 101], .str [122, 122]]), ?_, wv, Fr.push _ _⟩
        have eq : ((5 : Int) == 5) = true := rfl
        simp only [b8, List.drop_succ_cons, List.drop_zero, evE_var, evE_cst, evE_tup, evE_lst, evE_op, evE_neg, evE_not, evE_and, evE_or, evE_ite, evE_sub, evE_slice, evE_call, evE_callK, evE_bm, evE_bf, evE_isi, evEs_nil, evEs_cons, exS_asg, exS_augN, exS_expr, exS_ret, exS_ife, exB_nil', exB_cons', bind_ok', stm_ok', next_nx', next_rt', bind_exc', stm_exc', next_exc', ifO_t, ifO_f, opt_some, varO_some, laidV_int, laidV_bl, laidV_str, laidV_tup, laidV_lst, retO_rt, retO_nx, v_add, v_sub, v_lt, v_le, v_gt, v_ge, v_eqi, v_nei, t_bl, t_int, ofOpt_some', List.getElem?_cons_zero, List.getElem?_cons_succ, List.set_cons_zero, List.set_cons_succ, List.map_cons, List.map_nil, List.cons_append, List.nil_append, List.replicate_succ, List.replicate_zero, bindTg, setSlots, List.length_cons, List.length_nil, Nat.reduceAdd, Nat.reduceSub, Nat.reduceLT, ↓reduceIte, if_true, bf_int, bf_lent, bf_lenl, bf_lena, sub_t, sub_l, sub_a, n4, eq, newL_n (show [Val.str [112, 97, 121], .str [116], .str [102], .str [111, 112, 101, 110], .str [110, 111, 110, 101], .str [122, 122]].length ≤ line by decide), q6, sub_r _ (push_at h (.lst [.str [112, 97, 121], .str [116], .str [102], .str [111, 112, 101, 110], .str [110, 111, 110, 101], .str [122, 122]])), ev]
      · have n5 : (k == 5) = false := by simpa using c5
        by_cases c6 : k = 6
        · subst c6
          have eq : ((6 : Int) == 6) = true := rfl
          refine ⟨.int (0 - r.fmod 100), h, ?_, .int d _ ?_, Fr.refl h⟩
          · simp only [b8, List.drop_succ_cons, List.drop_zero, evE_var, evE_cst, evE_tup, evE_lst, evE_op, evE_neg, evE_not, evE_and, evE_or, evE_ite, evE_sub, evE_slice, evE_call, evE_callK, evE_bm, evE_bf, evE_isi, evEs_nil, evEs_cons, exS_asg, exS_augN, exS_expr, exS_ret, exS_ife, exB_nil', exB_cons', bind_ok', stm_ok', next_nx', next_rt', bind_exc', stm_exc', next_exc', ifO_t, ifO_f, opt_some, varO_some, laidV_int, laidV_bl, laidV_str, laidV_tup, laidV_lst, retO_rt, retO_nx, v_add, v_sub, v_lt, v_le, v_gt, v_ge, v_eqi, v_nei, t_bl, t_int, ofOpt_some', List.getElem?_cons_zero, List.getElem?_cons_succ, List.set_cons_zero, List.set_cons_succ, List.map_cons, List.map_nil, List.cons_append, List.nil_append, List.replicate_succ, List.replicate_zero, bindTg, setSlots, List.length_cons, List.length_nil, Nat.reduceAdd, Nat.reduceSub, Nat.reduceLT, ↓reduceIte, if_true, bf_int, bf_lent, bf_lenl, bf_lena, sub_t, sub_l, sub_a, n4, n5, eq, q100]
          · rw [Int.fmod_eq_emod_of_nonneg _ (by decide)]
            have : (10 : Nat) ^ 20 = 100000000000000000000 := by decide
            omega
        · have n6 : (k == 6) = false := by simpa using c6
          by_cases c7 : k = 7
          · subst c7
            have eq : ((7 : Int) == 7) = true := rfl
            refine ⟨.int (r.fmod (10 ^ 20)), h, ?_, .int d _ ?_, Fr.refl h⟩
            · simp only [b8, List.drop_succ_cons, List.drop_zero, evE_var, evE_cst, evE_tup, evE_lst, evE_op, evE_neg, evE_not, evE_and, evE_or, evE_ite, evE_sub, evE_slice, evE_call, evE_callK, evE_bm, evE_bf, evE_isi, evEs_nil, evEs_cons, exS_asg, exS_augN, exS_expr, exS_ret, exS_ife, exB_nil', exB_cons', bind_ok', stm_ok', next_nx', next_rt', bind_exc', stm_exc', next_exc', ifO_t, ifO_f, opt_some, varO_some, laidV_int, laidV_bl, laidV_str, laidV_tup, laidV_lst, retO_rt, retO_nx, v_add, v_sub, v_lt, v_le, v_gt, v_ge, v_eqi, v_nei, t_bl, t_int, ofOpt_some', List.getElem?_cons_zero, List.getElem?_cons_succ, List.set_cons_zero, List.set_cons_succ, List.map_cons, List.map_nil, List.cons_append, List.nil_append, List.replicate_succ, List.replicate_zero, bindTg, setSlots, List.length_cons, List.length_nil, Nat.reduceAdd, Nat.reduceSub, Nat.reduceLT, ↓reduceIte, if_true, bf_int, bf_lent, bf_lenl, bf_lena, sub_t, sub_l, sub_a, n4, n5, n6, eq, p20, qb]
            · rw [Int.fmod_eq_emod_of_nonneg _ (by decide)]
              have a1 := Int.emod_nonneg r (show (10 : Int) ^ 20 ≠ 0 by decide)
              have a2 := Int.emod_lt_of_pos r (show (0 : Int) < 10 ^ 20 by decide)
              have a3 : ((10 : Int) ^ 20) = ((10 ^ 20 : Nat) : Int) := by decide
              rw [a3] at a1 a2 ⊢
              generalize (10 : Nat) ^ 20 = z at *
              omega
          · have n7 : (k == 7) = false := by simpa using c7
            refine ⟨.int (r.fmod 1000), h, ?_, .int d _ ?_, Fr.refl h⟩
            · simp only [b8, List.drop_succ_cons, List.drop_zero, evE_var, evE_cst, evE_tup, evE_lst, evE_op, evE_neg, evE_not, evE_and, evE_or, evE_ite, evE_sub, evE_slice, evE_call, evE_callK, evE_bm, evE_bf, evE_isi, evEs_nil, evEs_cons, exS_asg, exS_augN, exS_expr, exS_ret, exS_ife, exB_nil', exB_cons', bind_ok', stm_ok', next_nx', next_rt', bind_exc', stm_exc', next_exc', ifO_t, ifO_f, opt_some, varO_some, laidV_int, laidV_bl, laidV_str, laidV_tup, laidV_lst, retO_rt, retO_nx, v_add, v_sub, v_lt, v_le, v_gt, v_ge, v_eqi, v_nei, t_bl, t_int, ofOpt_some', List.getElem?_cons_zero, List.getElem?_cons_succ, List.set_cons_zero, List.set_cons_succ, List.map_cons, List.map_nil, List.cons_append, List.nil_append, List.replicate_succ, List.replicate_zero, bindTg, setSlots, List.length_cons, List.length_nil, Nat.reduceAdd, Nat.reduceSub, Nat.reduceLT, ↓reduceIte, if_true, bf_int, bf_lent, bf_lenl, bf_lena, sub_t, sub_l, sub_a, n4, n5, n6, n7, q1000]
            · rw [Int.fmod_eq_emod_of_nonneg _ (by decide)]
              have : (10 : Nat) ^ 20 = 100000000000000000000 := by decide
              omega
  have e8 : b8 = b8.getD 0 .stop :: b8.getD 1 .stop :: b8.getD 2 .stop :: b8.drop 3 := rfl
  induction d with
  | zero =>
    intro i h
    obtain ⟨v, h', e, w, f⟩ := atoms (callF T (0 + m)) 0 i h
    refine ⟨v, h', ?_, w, f⟩
    rw [callF_n T (0 + m) 8 _ h _ B.f8 (B.fz 8) rfl, e8]
    rw [← e]
    by_cases c : i.fmod 9 < 4
    · have z0 : decide ((0 : Int) < 0) = false := rfl
      simp only [b8, List.getD_cons_succ, List.getD_cons_zero, evE_var, evE_cst, evE_tup, evE_lst, evE_op, evE_neg, evE_not, evE_and, evE_or, evE_ite, evE_sub, evE_slice, evE_call, evE_callK, evE_bm, evE_bf, evE_isi, evEs_nil, evEs_cons, exS_asg, exS_augN, exS_expr, exS_ret, exS_ife, exB_nil', exB_cons', bind_ok', stm_ok', next_nx', next_rt', bind_exc', stm_exc', next_exc', ifO_t, ifO_f, opt_some, varO_some, laidV_int, laidV_bl, laidV_str, laidV_tup, laidV_lst, retO_rt, retO_nx, v_add, v_sub, v_lt, v_le, v_gt, v_ge, v_eqi, v_nei, t_bl, t_int, ofOpt_some', List.getElem?_cons_zero, List.getElem?_cons_succ, List.set_cons_zero, List.set_cons_succ, List.map_cons, List.map_nil, List.cons_append, List.nil_append, List.replicate_succ, List.replicate_zero, bindTg, setSlots, List.length_cons, List.length_nil, Nat.reduceAdd, Nat.reduceSub, Nat.reduceLT, ↓reduceIte, if_true, bf_int, bf_lent, bf_lenl, bf_lena, sub_t, sub_l, sub_a, q9, f9, decide_eq_true c, z0, Int.natCast_zero]
    · simp only [b8, List.getD_cons_succ, List.getD_cons_zero, evE_var, evE_cst, evE_tup, evE_lst, evE_op, evE_neg, evE_not, evE_and, evE_or, evE_ite, evE_sub, evE_slice, evE_call, evE_callK, evE_bm, evE_bf, evE_isi, evEs_nil, evEs_cons, exS_asg, exS_augN, exS_expr, exS_ret, exS_ife, exB_nil', exB_cons', bind_ok', stm_ok', next_nx', next_rt', bind_exc', stm_exc', next_exc', ifO_t, ifO_f, opt_some, varO_some, laidV_int, laidV_bl, laidV_str, laidV_tup, laidV_lst, retO_rt, retO_nx, v_add, v_sub, v_lt, v_le, v_gt, v_ge, v_eqi, v_nei, t_bl, t_int, ofOpt_some', List.getElem?_cons_zero, List.getElem?_cons_succ, List.set_cons_zero, List.set_cons_succ, List.map_cons, List.map_nil, List.cons_append, List.nil_append, List.replicate_succ, List.replicate_zero, bindTg, setSlots, List.length_cons, List.length_nil, Nat.reduceAdd, Nat.reduceSub, Nat.reduceLT, ↓reduceIte, if_true, bf_int, bf_lent, bf_lenl, bf_lena, sub_t, sub_l, sub_a, q9, f9, decide_eq_false c]
  | succ d ih =>
    intro i h
    rw [show d + 1 + m + 1 = (d + m + 1) + 1 by omega]
    by_cases c : i.fmod 9 < 4
    · obtain ⟨n, hn, hn4⟩ : ∃ n : Nat, (i.fdiv 9).fmod 5 = (n : Int) ∧ n ≤ 4 := by
        refine ⟨((i.fdiv 9).fmod 5).toNat, ?_, ?_⟩
        · rw [Int.fmod_eq_emod_of_nonneg _ (by decide)]; omega
        · rw [Int.fmod_eq_emod_of_nonneg _ (by decide)]; omega
      obtain ⟨k', ys, h', e, w1, w2, w3, w4, w5⟩ := tree_loop (T := T) (callF T (d + m + 1)) (i.fdiv 9) (d : Int) h.n (Wf d) (some (.int i)) (some (.int ((d : Int) + 1))) (some (.int (i.fmod 9))) (fun e h => ih e h) rfl n 0 [] none (h.push (.lst [])) (h.push (.lst [])) n (by omega) rfl (Nat.lt_succ_self _) (push_at h _) (fun x hx => by cases hx)
      refine ⟨.tup ys, h', ?_, .tup d ys (by omega) w3, Nat.le_trans (Nat.le_succ _) w4, fun q hq => (w5 q hq).trans ((Fr.push h _).2 q hq)⟩
      rw [callF_n T (d + m + 1) 8 _ h _ B.f8 (B.fz 8) rfl]
      have z1 : ((d + 1 : Nat) : Int) = (d : Int) + 1 := rfl
      have z0 : decide ((0 : Int) < (d : Int) + 1) = true := decide_eq_true (by omega)
      have e0 : newL true [] h = .ok (.ref h.n) (h.push (.lst [])) := newL_n (by decide)
      have e : forL (fun h' => stays (h.push (.lst [])) h' [.int n]) (fun v ρ h => opt (bindTg ρ (.name 5) v) (fun ρ' => exB T (callF T (d + m + 1)) [.expr (.bm (.var 4) .append [(.call 8 [(.op .fdiv (.bf .int true [(.var 3)]) (.op .add (.cst (.int 5)) (.op .mul (.cst (.int 11)) (.var 5)))), (.op .sub (.var 1) (.cst (.int 1)))])])] ρ' h) .bad) (upto 0 n) [some (.int i), some (.int ((d : Int) + 1)), some (.int (i.fmod 9)), some (.int (i.fdiv 9)), some (.ref h.n), none] (h.push (.lst [])) = _ := e
      have e := loop_of (it := [(.op .mod (.bf .int true [(.var 3)]) (.cst (.int 5)))]) (h := h.push (.lst [])) (show (2 : Nat) ≠ 1 by decide) (by simp only [evE_var, evE_cst, evE_tup, evE_lst, evE_op, evE_neg, evE_not, evE_and, evE_or, evE_ite, evE_sub, evE_slice, evE_call, evE_callK, evE_bm, evE_bf, evE_isi, evEs_nil, evEs_cons, exS_asg, exS_augN, exS_expr, exS_ret, exS_ife, exB_nil', exB_cons', bind_ok', stm_ok', next_nx', next_rt', bind_exc', stm_exc', next_exc', ifO_t, ifO_f, opt_some, varO_some, laidV_int, laidV_bl, laidV_str, laidV_tup, laidV_lst, retO_rt, retO_nx, v_add, v_sub, v_lt, v_le, v_gt, v_ge, v_eqi, v_nei, t_bl, t_int, ofOpt_some', List.getElem?_cons_zero, List.getElem?_cons_succ, List.set_cons_zero, List.set_cons_succ, List.map_cons, List.map_nil, List.cons_append, List.nil_append, List.replicate_succ, List.replicate_zero, bindTg, setSlots, List.length_cons, List.length_nil, Nat.reduceAdd, Nat.reduceSub, Nat.reduceLT, ↓reduceIte, if_true, bf_int, bf_lent, bf_lenl, bf_lena, sub_t, sub_l, sub_a, q5, hn]) (rng_ok (show n ≤ 16777216 by omega) (h.push (.lst []))) e
      simp only [b8, z1, evE_var, evE_cst, evE_tup, evE_lst, evE_op, evE_neg, evE_not, evE_and, evE_or, evE_ite, evE_sub, evE_slice, evE_call, evE_callK, evE_bm, evE_bf, evE_isi, evEs_nil, evEs_cons, exS_asg, exS_augN, exS_expr, exS_ret, exS_ife, exB_nil', exB_cons', bind_ok', stm_ok', next_nx', next_rt', bind_exc', stm_exc', next_exc', ifO_t, ifO_f, opt_some, varO_some, laidV_int, laidV_bl, laidV_str, laidV_tup, laidV_lst, retO_rt, retO_nx, v_add, v_sub, v_lt, v_le, v_gt, v_ge, v_eqi, v_nei, t_bl, t_int, ofOpt_some', List.getElem?_cons_zero, List.getElem?_cons_succ, List.set_cons_zero, List.set_cons_succ, List.map_cons, List.map_nil, List.cons_append, List.nil_append, List.replicate_succ, List.replicate_zero, bindTg, setSlots, List.length_cons, List.length_nil, Nat.reduceAdd, Nat.reduceSub, Nat.reduceLT, ↓reduceIte, if_true, bf_int, bf_lent, bf_lenl, bf_lena, sub_t, sub_l, sub_a, q9, f9, decide_eq_true c, z0, e0, e, bf_tupr h' w1]
    · obtain ⟨v, h', e, w, f⟩ := atoms (callF T (d + m + 1)) (d + 1) i h
      refine ⟨v, h', ?_, w, f⟩
      rw [callF_n T (d + m + 1) 8 _ h _ B.f8 (B.fz 8) rfl, e8]
      rw [← e]
      simp only [b8, List.getD_cons_succ, List.getD_cons_zero, evE_var, evE_cst, evE_tup, evE_lst, evE_op, evE_neg, evE_not, evE_and, evE_or, evE_ite, evE_sub, evE_slice, evE_call, evE_callK, evE_bm, evE_bf, evE_isi, evEs_nil, evEs_cons, exS_asg, exS_augN, exS_expr, exS_ret, exS_ife, exB_nil', exB_cons', bind_ok', stm_ok', next_nx', next_rt', bind_exc', stm_exc', next_exc', ifO_t, ifO_f, opt_some, varO_some, laidV_int, laidV_bl, laidV_str, laidV_tup, laidV_lst, retO_rt, retO_nx, v_add, v_sub, v_lt, v_le, v_gt, v_ge, v_eqi, v_nei, t_bl, t_int, ofOpt_some', List.getElem?_cons_zero, List.getElem?_cons_succ, List.set_cons_zero, List.set_cons_succ, List.map_cons, List.map_nil, List.cons_append, List.nil_append, List.replicate_succ, List.replicate_zero, bindTg, setSlots, List.length_cons, List.length_nil, Nat.reduceAdd, Nat.reduceSub, Nat.reduceLT, ↓reduceIte, if_true, bf_int, bf_lent, bf_lenl, bf_lena, sub_t, sub_l, sub_a, q9, f9, decide_eq_false c]
/-! ### words -/
omit B in
theorem cons_loop (F : Fns) (h h0 : Heap) (s : List Nat) (ws : List Nat) : ∀ (w : List Nat) (a k : Option Val), ∃ k', forL (fun h' => stays h0 h' [.str ws]) (fun v ρ h => opt (bindTg ρ (.name 2) v) (fun ρ' => exB T F [.ife (.op .notin (.var 2) (.var 1)) [.ret (.cst (.bl false))] []] ρ' h) .bad) (w.map fun c => .str [c]) [a, some (.str s), k] h
    = if w.all s.contains then .nx [a, some (.str s), k'] h else .rt (.bl false) h
  | [], a, k => ⟨k, rfl⟩
  | c :: w, a, k => by
    obtain ⟨k', e⟩ := cons_loop F h h0 s ws w a (some (.str [c]))
    cases hc : s.contains c with
    | true =>
      have step : opt (bindTg [a, some (.str s), k] (.name 2) (.str [c])) (fun ρ' => exB T F [.ife (.op .notin (.var 2) (.var 1)) [.ret (.cst (.bl false))] []] ρ' h) .bad = .nx [a, some (.str s), some (.str [c])] h := by
        simp only [evE_var, evE_cst, evE_tup, evE_lst, evE_op, evE_neg, evE_not, evE_and, evE_or, evE_ite, evE_sub, evE_slice, evE_call, evE_callK, evE_bm, evE_bf, evE_isi, evEs_nil, evEs_cons, exS_asg, exS_augN, exS_expr, exS_ret, exS_ife, exB_nil', exB_cons', bind_ok', stm_ok', next_nx', next_rt', bind_exc', stm_exc', next_exc', ifO_t, ifO_f, opt_some, varO_some, laidV_int, laidV_bl, laidV_str, laidV_tup, laidV_lst, retO_rt, retO_nx, v_add, v_sub, v_lt, v_le, v_gt, v_ge, v_eqi, v_nei, t_bl, t_int, ofOpt_some', List.getElem?_cons_zero, List.getElem?_cons_succ, List.set_cons_zero, List.set_cons_succ, List.map_cons, List.map_nil, List.cons_append, List.nil_append, List.replicate_succ, List.replicate_zero, bindTg, setSlots, List.length_cons, List.length_nil, Nat.reduceAdd, Nat.reduceSub, Nat.reduceLT, ↓reduceIte, if_true, bf_int, bf_lent, bf_lenl, bf_lena, sub_t, sub_l, sub_a, v_notins, hc, Bool.not_true]
      refine ⟨k', ?_⟩
      rw [List.map_cons, forL_nx step stays_str, e, List.all_cons, hc, Bool.true_and]
    | false =>
      have step : opt (bindTg [a, some (.str s), k] (.name 2) (.str [c])) (fun ρ' => exB T F [.ife (.op .notin (.var 2) (.var 1)) [.ret (.cst (.bl false))] []] ρ' h) .bad = .rt (.bl false) h := by
        simp only [evE_var, evE_cst, evE_tup, evE_lst, evE_op, evE_neg, evE_not, evE_and, evE_or, evE_ite, evE_sub, evE_slice, evE_call, evE_callK, evE_bm, evE_bf, evE_isi, evEs_nil, evEs_cons, exS_asg, exS_augN, exS_expr, exS_ret, exS_ife, exB_nil', exB_cons', bind_ok', stm_ok', next_nx', next_rt', bind_exc', stm_exc', next_exc', ifO_t, ifO_f, opt_some, varO_some, laidV_int, laidV_bl, laidV_str, laidV_tup, laidV_lst, retO_rt, retO_nx, v_add, v_sub, v_lt, v_le, v_gt, v_ge, v_eqi, v_nei, t_bl, t_int, ofOpt_some', List.getElem?_cons_zero, List.getElem?_cons_succ, List.set_cons_zero, List.set_cons_succ, List.map_cons, List.map_nil, List.cons_append, List.nil_append, List.replicate_succ, List.replicate_zero, bindTg, setSlots, List.length_cons, List.length_nil, Nat.reduceAdd, Nat.reduceSub, Nat.reduceLT, ↓reduceIte, if_true, bf_int, bf_lent, bf_lenl, bf_lena, sub_t, sub_l, sub_a, v_notins, hc, Bool.not_false]
      refine ⟨k, ?_⟩
      rw [List.map_cons, forL_rt step, List.all_cons, hc, Bool.false_and]
      rfl
theorem cons_of (d : Nat) (h : Heap) (w s : List Nat) (hl : w.length ≤ line) : callF T (d + 1) 1 [.str w, .str s] h = .ok (.bl (w.all s.contains && decide (0 < w.length))) h := by
  rw [callF_n T d 1 _ h _ B.f1 (B.fz 1) rfl]
  obtain ⟨k', e⟩ := cons_loop (T := T) (callF T d) h h s w w (some (.str w)) none
  have ew : walkV h 0 [.str w] = some (w.map fun c => .str [c]) := rfl
  cases hc : w.all s.contains with
  | true =>
    rw [hc] at e
    simp only [if_true] at e
    have p : decide ((0 : Int) < (w.length : Int)) = decide (0 < w.length) := by
      by_cases z : 0 < w.length
      · rw [decide_eq_true z, decide_eq_true (by omega)]
      · rw [decide_eq_false z, decide_eq_false (by omega)]
    have e := loop_of (it := [(.var 0)]) (h := h) (show (0 : Nat) ≠ 1 by decide) (by simp only [evE_var, evE_cst, evE_tup, evE_lst, evE_op, evE_neg, evE_not, evE_and, evE_or, evE_ite, evE_sub, evE_slice, evE_call, evE_callK, evE_bm, evE_bf, evE_isi, evEs_nil, evEs_cons, exS_asg, exS_augN, exS_expr, exS_ret, exS_ife, exB_nil', exB_cons', bind_ok', stm_ok', next_nx', next_rt', bind_exc', stm_exc', next_exc', ifO_t, ifO_f, opt_some, varO_some, laidV_int, laidV_bl, laidV_str, laidV_tup, laidV_lst, retO_rt, retO_nx, v_add, v_sub, v_lt, v_le, v_gt, v_ge, v_eqi, v_nei, t_bl, t_int, ofOpt_some', List.getElem?_cons_zero, List.getElem?_cons_succ, List.set_cons_zero, List.set_cons_succ, List.map_cons, List.map_nil, List.cons_append, List.nil_append, List.replicate_succ, List.replicate_zero, bindTg, setSlots, List.length_cons, List.length_nil, Nat.reduceAdd, Nat.reduceSub, Nat.reduceLT, ↓reduceIte, if_true, bf_int, bf_lent, bf_lenl, bf_lena, sub_t, sub_l, sub_a]) ew e
    simp only [b1, evE_var, evE_cst, evE_tup, evE_lst, evE_op, evE_neg, evE_not, evE_and, evE_or, evE_ite, evE_sub, evE_slice, evE_call, evE_callK, evE_bm, evE_bf, evE_isi, evEs_nil, evEs_cons, exS_asg, exS_augN, exS_expr, exS_ret, exS_ife, exB_nil', exB_cons', bind_ok', stm_ok', next_nx', next_rt', bind_exc', stm_exc', next_exc', ifO_t, ifO_f, opt_some, varO_some, laidV_int, laidV_bl, laidV_str, laidV_tup, laidV_lst, retO_rt, retO_nx, v_add, v_sub, v_lt, v_le, v_gt, v_ge, v_eqi, v_nei, t_bl, t_int, ofOpt_some', List.getElem?_cons_zero, List.getElem?_cons_succ, List.set_cons_zero, List.set_cons_succ, List.map_cons, List.map_nil, List.cons_append, List.nil_append, List.replicate_succ, List.replicate_zero, bindTg, setSlots, List.length_cons, List.length_nil, Nat.reduceAdd, Nat.reduceSub, Nat.reduceLT, ↓reduceIte, if_true, bf_int, bf_lent, bf_lenl, bf_lena, sub_t, sub_l, sub_a, e, bf_lens h hl, p, Bool.true_and]
  | false =>
    rw [hc] at e
    simp only [Bool.false_eq_true, if_false] at e
    have e := loop_of (it := [(.var 0)]) (h := h) (show (0 : Nat) ≠ 1 by decide) (by simp only [evE_var, evE_cst, evE_tup, evE_lst, evE_op, evE_neg, evE_not, evE_and, evE_or, evE_ite, evE_sub, evE_slice, evE_call, evE_callK, evE_bm, evE_bf, evE_isi, evEs_nil, evEs_cons, exS_asg, exS_augN, exS_expr, exS_ret, exS_ife, exB_nil', exB_cons', bind_ok', stm_ok', next_nx', next_rt', bind_exc', stm_exc', next_exc', ifO_t, ifO_f, opt_some, varO_some, laidV_int, laidV_bl, laidV_str, laidV_tup, laidV_lst, retO_rt, retO_nx, v_add, v_sub, v_lt, v_le, v_gt, v_ge, v_eqi, v_nei, t_bl, t_int, ofOpt_some', List.getElem?_cons_zero, List.getElem?_cons_succ, List.set_cons_zero, List.set_cons_succ, List.map_cons, List.map_nil, List.cons_append, List.nil_append, List.replicate_succ, List.replicate_zero, bindTg, setSlots, List.length_cons, List.length_nil, Nat.reduceAdd, Nat.reduceSub, Nat.reduceLT, ↓reduceIte, if_true, bf_int, bf_lent, bf_lenl, bf_lena, sub_t, sub_l, sub_a]) ew e
    simp only [b1, evE_var, evE_cst, evE_tup, evE_lst, evE_op, evE_neg, evE_not, evE_and, evE_or, evE_ite, evE_sub, evE_slice, evE_call, evE_callK, evE_bm, evE_bf, evE_isi, evEs_nil, evEs_cons, exS_asg, exS_augN, exS_expr, exS_ret, exS_ife, exB_nil', exB_cons', bind_ok', stm_ok', next_nx', next_rt', bind_exc', stm_exc', next_exc', ifO_t, ifO_f, opt_some, varO_some, laidV_int, laidV_bl, laidV_str, laidV_tup, laidV_lst, retO_rt, retO_nx, v_add, v_sub, v_lt, v_le, v_gt, v_ge, v_eqi, v_nei, t_bl, t_int, ofOpt_some', List.getElem?_cons_zero, List.getElem?_cons_succ, List.set_cons_zero, List.set_cons_succ, List.map_cons, List.map_nil, List.cons_append, List.nil_append, List.replicate_succ, List.replicate_zero, bindTg, setSlots, List.length_cons, List.length_nil, Nat.reduceAdd, Nat.reduceSub, Nat.reduceLT, ↓reduceIte, if_true, bf_int, bf_lent, bf_lenl, bf_lena, sub_t, sub_l, sub_a, e, Bool.false_and]
end
end K71

/-! K71: words, rows, reading -/
namespace K71
open MP
section
variable {T : Tb} (B : Tab T)
include B
omit B in
theorem all_iff {w s : List Nat} : (w.all s.contains && decide (0 < w.length)) = allIn w s := rfl
omit B in
theorem digs {w : List Nat} (h : allIn w tens = true) : allDig w = true := by
  obtain ⟨a, b⟩ := all_tens h
  unfold allDig
  rw [Bool.and_eq_true]
  refine ⟨by simpa using a, List.all_eq_true.mpr fun c hc => ?_⟩
  have := b c hc
  simp [this]
omit B in
theorem unsigned_ok {w : List Nat} (h : ∀ c ∈ w, c ≤ 122) : ∀ c ∈ unsigned w, c ≤ 122 := fun c hc => by
  unfold unsigned at hc
  split at hc
  · exact h c (List.mem_of_mem_drop hc)
  · exact h c hc
/-- an atom is read, or the text is invalid -/
theorem atomR (d : Nat) (h : Heap) (w : List Nat) (ln : Int) (hl : w.length ≤ line) (hw : ∀ c ∈ w, c ≤ 122) :
    callF T (d + 2) 2 [.str w, .int ln] h = match atom1 w with
      | some v => .ok v h
      | none => .exc ⟨2, [(0, .int ln)]⟩ h := by
  have c2 := fun (w : List Nat) (hl : w.length ≤ line) => cons_of B d h w letters hl
  have c3 := fun (w : List Nat) (hl : w.length ≤ line) => cons_of B d h w tens hl
  simp only [all_iff] at c2 c3
  have lin : line = 16777216 := rfl
  have hkp : ∀ s : List Nat, bmK h .removeprefix (.str s) = some 2 := fun s => rfl
  have hrp : ∀ s : List Nat, s.length ≤ line → bmV h .removeprefix (.str s) [.str [45]] = .ok (.str (unsigned s)) h := fun s hs => by
    simp only [bmV]
    rw [if_pos hs]
    rfl
  rw [callF_n T (d + 1) 2 _ h _ B.f2 (B.fz 2) rfl]
  have o84 : okT [84] = true := rfl
  have o70 : okT [70] = true := rfl
  have o78 : okT [78] = true := rfl
  have ow := okT_of hw
  have ou := okT_of (unsigned_ok hw)
  unfold letters at c2
  unfold tens at c3
  have lu : (unsigned w).length ≤ line := Nat.le_trans (unsigned_len w).1 hl
  have eb : ∀ x, (w == [x]) = decide (w = [x]) := fun x => by by_cases e : w = [x] <;> simp [e]
  unfold atom1
  by_cases k1 : w = [84]
  · rw [if_pos k1]
    subst k1
    have x1 : (([84] : List Nat) == [84]) = true := rfl
    simp only [b2, evE_var, evE_cst, evE_tup, evE_lst, evE_op, evE_neg, evE_not, evE_and, evE_or, evE_ite, evE_sub, evE_slice, evE_call, evE_callK, evE_bm, evE_bf, evE_isi, evEs_nil, evEs_cons, exS_asg, exS_augN, exS_expr, exS_ret, exS_ife, exB_nil', exB_cons', bind_ok', stm_ok', next_nx', next_rt', bind_exc', stm_exc', next_exc', ifO_t, ifO_f, opt_some, varO_some, laidV_int, laidV_bl, laidV_str, laidV_tup, laidV_lst, retO_rt, retO_nx, v_add, v_sub, v_lt, v_le, v_gt, v_ge, v_eqi, v_nei, t_bl, t_int, ofOpt_some', List.getElem?_cons_zero, List.getElem?_cons_succ, List.set_cons_zero, List.set_cons_succ, List.map_cons, List.map_nil, List.cons_append, List.nil_append, List.replicate_succ, List.replicate_zero, bindTg, setSlots, List.length_cons, List.length_nil, Nat.reduceAdd, Nat.reduceSub, Nat.reduceLT, ↓reduceIte, if_true, bf_int, bf_lent, bf_lenl, bf_lena, sub_t, sub_l, sub_a, v_eqs h o84 o84, x1]
  rw [if_neg k1]
  by_cases k2 : w = [70]
  · rw [if_pos k2]
    subst k2
    have x1 : (([70] : List Nat) == [84]) = false := rfl
    have x2 : (([70] : List Nat) == [70]) = true := rfl
    simp only [b2, evE_var, evE_cst, evE_tup, evE_lst, evE_op, evE_neg, evE_not, evE_and, evE_or, evE_ite, evE_sub, evE_slice, evE_call, evE_callK, evE_bm, evE_bf, evE_isi, evEs_nil, evEs_cons, exS_asg, exS_augN, exS_expr, exS_ret, exS_ife, exB_nil', exB_cons', bind_ok', stm_ok', next_nx', next_rt', bind_exc', stm_exc', next_exc', ifO_t, ifO_f, opt_some, varO_some, laidV_int, laidV_bl, laidV_str, laidV_tup, laidV_lst, retO_rt, retO_nx, v_add, v_sub, v_lt, v_le, v_gt, v_ge, v_eqi, v_nei, t_bl, t_int, ofOpt_some', List.getElem?_cons_zero, List.getElem?_cons_succ, List.set_cons_zero, List.set_cons_succ, List.map_cons, List.map_nil, List.cons_append, List.nil_append, List.replicate_succ, List.replicate_zero, bindTg, setSlots, List.length_cons, List.length_nil, Nat.reduceAdd, Nat.reduceSub, Nat.reduceLT, ↓reduceIte, if_true, bf_int, bf_lent, bf_lenl, bf_lena, sub_t, sub_l, sub_a, v_eqs h o70 o84, v_eqs h o70 o70, x1, x2]
  rw [if_neg k2]
  by_cases k3 : w = [78]
  · rw [if_pos k3]
    subst k3
    have x1 : (([78] : List Nat) == [84]) = false := rfl
    have x2 : (([78] : List Nat) == [70]) = false := rfl
    have x3 : (([78] : List Nat) == [78]) = true := rfl
    simp only [b2, evE_var, evE_cst, evE_tup, evE_lst, evE_op, evE_neg, evE_not, evE_and, evE_or, evE_ite, evE_sub, evE_slice, evE_call, evE_callK, evE_bm, evE_bf, evE_isi, evEs_nil, evEs_cons, exS_asg, exS_augN, exS_expr, exS_ret, exS_ife, exB_nil', exB_cons', bind_ok', stm_ok', next_nx', next_rt', bind_exc', stm_exc', next_exc', ifO_t, ifO_f, opt_some, varO_some, laidV_int, laidV_bl, laidV_str, laidV_tup, laidV_lst, retO_rt, retO_nx, v_add, v_sub, v_lt, v_le, v_gt, v_ge, v_eqi, v_nei, t_bl, t_int, ofOpt_some', List.getElem?_cons_zero, List.getElem?_cons_succ, List.set_cons_zero, List.set_cons_succ, List.map_cons, List.map_nil, List.cons_append, List.nil_append, List.replicate_succ, List.replicate_zero, bindTg, setSlots, List.length_cons, List.length_nil, Nat.reduceAdd, Nat.reduceSub, Nat.reduceLT, ↓reduceIte, if_true, bf_int, bf_lent, bf_lenl, bf_lena, sub_t, sub_l, sub_a, v_eqs h o78 o84, v_eqs h o78 o70, v_eqs h o78 o78, x1, x2, x3]
  rw [if_neg k3]
  have e1 := (eb 84).trans (decide_eq_false k1)
  have e2 := (eb 70).trans (decide_eq_false k2)
  have e3 := (eb 78).trans (decide_eq_false k3)
  by_cases k4 : allIn w letters = true
  · rw [if_pos k4]
    unfold letters at k4
    simp only [b2, evE_var, evE_cst, evE_tup, evE_lst, evE_op, evE_neg, evE_not, evE_and, evE_or, evE_ite, evE_sub, evE_slice, evE_call, evE_callK, evE_bm, evE_bf, evE_isi, evEs_nil, evEs_cons, exS_asg, exS_augN, exS_expr, exS_ret, exS_ife, exB_nil', exB_cons', bind_ok', stm_ok', next_nx', next_rt', bind_exc', stm_exc', next_exc', ifO_t, ifO_f, opt_some, varO_some, laidV_int, laidV_bl, laidV_str, laidV_tup, laidV_lst, retO_rt, retO_nx, v_add, v_sub, v_lt, v_le, v_gt, v_ge, v_eqi, v_nei, t_bl, t_int, ofOpt_some', List.getElem?_cons_zero, List.getElem?_cons_succ, List.set_cons_zero, List.set_cons_succ, List.map_cons, List.map_nil, List.cons_append, List.nil_append, List.replicate_succ, List.replicate_zero, bindTg, setSlots, List.length_cons, List.length_nil, Nat.reduceAdd, Nat.reduceSub, Nat.reduceLT, ↓reduceIte, if_true, bf_int, bf_lent, bf_lenl, bf_lena, sub_t, sub_l, sub_a, v_eqs h ow o84, v_eqs h ow o70, v_eqs h ow o78, e1, e2, e3, c2 w hl, k4]
  rw [if_neg k4]
  have k4' : allIn w letters = false := by simpa using k4
  unfold letters at k4'
  have rs : ∀ (x : Exc) (ρ : Env), retO (.exc x ρ h) = .exc x h := fun _ _ => retO_exc _ _ _
  by_cases k5 : allIn (unsigned w) tens = false ∨ 20 < (unsigned w).length
  · rw [if_pos k5]
    rcases k5 with k5 | k5
    · unfold tens at k5
      simp only [b2, evE_var, evE_cst, evE_tup, evE_lst, evE_op, evE_neg, evE_not, evE_and, evE_or, evE_ite, evE_sub, evE_slice, evE_call, evE_callK, evE_bm, evE_bf, evE_isi, evEs_nil, evEs_cons, exS_asg, exS_augN, exS_expr, exS_ret, exS_ife, exB_nil', exB_cons', bind_ok', stm_ok', next_nx', next_rt', bind_exc', stm_exc', next_exc', ifO_t, ifO_f, opt_some, varO_some, laidV_int, laidV_bl, laidV_str, laidV_tup, laidV_lst, retO_rt, retO_nx, v_add, v_sub, v_lt, v_le, v_gt, v_ge, v_eqi, v_nei, t_bl, t_int, ofOpt_some', List.getElem?_cons_zero, List.getElem?_cons_succ, List.set_cons_zero, List.set_cons_succ, List.map_cons, List.map_nil, List.cons_append, List.nil_append, List.replicate_succ, List.replicate_zero, bindTg, setSlots, List.length_cons, List.length_nil, Nat.reduceAdd, Nat.reduceSub, Nat.reduceLT, ↓reduceIte, if_true, bf_int, bf_lent, bf_lenl, bf_lena, sub_t, sub_l, sub_a, v_eqs h ow o84, v_eqs h ow o70, v_eqs h ow o78, e1, e2, e3, c2 w hl, k4', hkp, hrp w hl, c3 _ lu, k5, Bool.not_false, exS_raise _ _ _ _ B.ex, raiseL_int, rs]
    · have d20 : decide ((20 : Int) < ((unsigned w).length : Int)) = true := decide_eq_true (by omega)
      cases k6 : allIn (unsigned w) tens with
      | true =>
        unfold tens at k6
        simp only [b2, evE_var, evE_cst, evE_tup, evE_lst, evE_op, evE_neg, evE_not, evE_and, evE_or, evE_ite, evE_sub, evE_slice, evE_call, evE_callK, evE_bm, evE_bf, evE_isi, evEs_nil, evEs_cons, exS_asg, exS_augN, exS_expr, exS_ret, exS_ife, exB_nil', exB_cons', bind_ok', stm_ok', next_nx', next_rt', bind_exc', stm_exc', next_exc', ifO_t, ifO_f, opt_some, varO_some, laidV_int, laidV_bl, laidV_str, laidV_tup, laidV_lst, retO_rt, retO_nx, v_add, v_sub, v_lt, v_le, v_gt, v_ge, v_eqi, v_nei, t_bl, t_int, ofOpt_some', List.getElem?_cons_zero, List.getElem?_cons_succ, List.set_cons_zero, List.set_cons_succ, List.map_cons, List.map_nil, List.cons_append, List.nil_append, List.replicate_succ, List.replicate_zero, bindTg, setSlots, List.length_cons, List.length_nil, Nat.reduceAdd, Nat.reduceSub, Nat.reduceLT, ↓reduceIte, if_true, bf_int, bf_lent, bf_lenl, bf_lena, sub_t, sub_l, sub_a, v_eqs h ow o84, v_eqs h ow o70, v_eqs h ow o78, e1, e2, e3, c2 w hl, k4', hkp, hrp w hl, c3 _ lu, k6, Bool.not_true, bf_lens h lu, d20, exS_raise _ _ _ _ B.ex, raiseL_int, rs]
      | false =>
        unfold tens at k6
        simp only [b2, evE_var, evE_cst, evE_tup, evE_lst, evE_op, evE_neg, evE_not, evE_and, evE_or, evE_ite, evE_sub, evE_slice, evE_call, evE_callK, evE_bm, evE_bf, evE_isi, evEs_nil, evEs_cons, exS_asg, exS_augN, exS_expr, exS_ret, exS_ife, exB_nil', exB_cons', bind_ok', stm_ok', next_nx', next_rt', bind_exc', stm_exc', next_exc', ifO_t, ifO_f, opt_some, varO_some, laidV_int, laidV_bl, laidV_str, laidV_tup, laidV_lst, retO_rt, retO_nx, v_add, v_sub, v_lt, v_le, v_gt, v_ge, v_eqi, v_nei, t_bl, t_int, ofOpt_some', List.getElem?_cons_zero, List.getElem?_cons_succ, List.set_cons_zero, List.set_cons_succ, List.map_cons, List.map_nil, List.cons_append, List.nil_append, List.replicate_succ, List.replicate_zero, bindTg, setSlots, List.length_cons, List.length_nil, Nat.reduceAdd, Nat.reduceSub, Nat.reduceLT, ↓reduceIte, if_true, bf_int, bf_lent, bf_lenl, bf_lena, sub_t, sub_l, sub_a, v_eqs h ow o84, v_eqs h ow o70, v_eqs h ow o78, e1, e2, e3, c2 w hl, k4', hkp, hrp w hl, c3 _ lu, k6, Bool.not_false, exS_raise _ _ _ _ B.ex, raiseL_int, rs]
  rw [if_neg k5]
  have k6 : allIn (unsigned w) tens = true := by
    cases z : allIn (unsigned w) tens with
    | true => rfl
    | false => exact absurd (.inl z) k5
  have k7 : (unsigned w).length ≤ 20 := by
    by_cases z : 20 < (unsigned w).length
    · exact absurd (.inr z) k5
    · omega
  have d20 : decide ((20 : Int) < ((unsigned w).length : Int)) = false := decide_eq_false (by omega)
  have ad : allDig (unsigned w) = true ∧ (unsigned w).length ≤ 640 := ⟨digs k6, by omega⟩
  unfold tens at k6
  by_cases k8 : unsigned w = w
  · rw [if_pos k8]
    have x : (unsigned w == w) = true := by rw [k8]; exact beq_self_eq_true w
    simp only [b2, evE_var, evE_cst, evE_tup, evE_lst, evE_op, evE_neg, evE_not, evE_and, evE_or, evE_ite, evE_sub, evE_slice, evE_call, evE_callK, evE_bm, evE_bf, evE_isi, evEs_nil, evEs_cons, exS_asg, exS_augN, exS_expr, exS_ret, exS_ife, exB_nil', exB_cons', bind_ok', stm_ok', next_nx', next_rt', bind_exc', stm_exc', next_exc', ifO_t, ifO_f, opt_some, varO_some, laidV_int, laidV_bl, laidV_str, laidV_tup, laidV_lst, retO_rt, retO_nx, v_add, v_sub, v_lt, v_le, v_gt, v_ge, v_eqi, v_nei, t_bl, t_int, ofOpt_some', List.getElem?_cons_zero, List.getElem?_cons_succ, List.set_cons_zero, List.set_cons_succ, List.map_cons, List.map_nil, List.cons_append, List.nil_append, List.replicate_succ, List.replicate_zero, bindTg, setSlots, List.length_cons, List.length_nil, Nat.reduceAdd, Nat.reduceSub, Nat.reduceLT, ↓reduceIte, if_true, bf_int, bf_lent, bf_lenl, bf_lena, sub_t, sub_l, sub_a, v_eqs h ow o84, v_eqs h ow o70, v_eqs h ow o78, e1, e2, e3, c2 w hl, k4', hkp, hrp w hl, c3 _ lu, k6, Bool.not_true, bf_lens h lu, d20, v_eqs h ou ow, x, bf_intd h ad]
  · rw [if_neg k8]
    have x : (unsigned w == w) = false := by rw [beq_eq_false_iff_ne]; exact k8
    simp only [b2, evE_var, evE_cst, evE_tup, evE_lst, evE_op, evE_neg, evE_not, evE_and, evE_or, evE_ite, evE_sub, evE_slice, evE_call, evE_callK, evE_bm, evE_bf, evE_isi, evEs_nil, evEs_cons, exS_asg, exS_augN, exS_expr, exS_ret, exS_ife, exB_nil', exB_cons', bind_ok', stm_ok', next_nx', next_rt', bind_exc', stm_exc', next_exc', ifO_t, ifO_f, opt_some, varO_some, laidV_int, laidV_bl, laidV_str, laidV_tup, laidV_lst, retO_rt, retO_nx, v_add, v_sub, v_lt, v_le, v_gt, v_ge, v_eqi, v_nei, t_bl, t_int, ofOpt_some', List.getElem?_cons_zero, List.getElem?_cons_succ, List.set_cons_zero, List.set_cons_succ, List.map_cons, List.map_nil, List.cons_append, List.nil_append, List.replicate_succ, List.replicate_zero, bindTg, setSlots, List.length_cons, List.length_nil, Nat.reduceAdd, Nat.reduceSub, Nat.reduceLT, ↓reduceIte, if_true, bf_int, bf_lent, bf_lenl, bf_lena, sub_t, sub_l, sub_a, v_eqs h ow o84, v_eqs h ow o70, v_eqs h ow o78, e1, e2, e3, c2 w hl, k4', hkp, hrp w hl, c3 _ lu, k6, Bool.not_true, bf_lens h lu, d20, v_eqs h ou ow, x, bf_intd h ad]
/-! ### reading -/
def plainC (c : Nat) : Prop := delim c = false
omit B in
theorem we_loop (F : Fns) (h : Heap) (s : List Nat) (hl : s.length ≤ line) (st : Option Val) : ∀ (w rest : List Nat) (p : Nat), s.drop p = w ++ rest → (∀ c ∈ w, plainC c) → (rest = [] ∨ ∃ c r, rest = c :: r ∧ ([40, 41, 32] : List Nat).contains c = true) →
    whileL (wStep T F (.and (.op .lt (.var 2) (.bf .len true [(.var 0)])) (.op .notin (.sub (.var 0) (.var 2)) (.cst (.str [40, 41, 32])))) [.augN 2 .add (.cst (.int 1))]) [some (.str s), st, some (.int (p : Int))] h
      = .nx [some (.str s), st, some (.int ((p + w.length : Nat) : Int))] h := by
  intro w
  induction w with
  | nil =>
    intro rest p hd _ hr
    refine whl_done (v := .bl false) T F _ h ?_ rfl
    rcases hr with rfl | ⟨c, r, rfl, hc⟩
    · have hp : s.length ≤ p := by
        have := congrArg List.length hd
        simp at this
        omega
      have d : decide ((p : Int) < (s.length : Int)) = false := decide_eq_false (by omega)
      simp only [evE_var, evE_cst, evE_tup, evE_lst, evE_op, evE_neg, evE_not, evE_and, evE_or, evE_ite, evE_sub, evE_slice, evE_call, evE_callK, evE_bm, evE_bf, evE_isi, evEs_nil, evEs_cons, exS_asg, exS_augN, exS_expr, exS_ret, exS_ife, exB_nil', exB_cons', bind_ok', stm_ok', next_nx', next_rt', bind_exc', stm_exc', next_exc', ifO_t, ifO_f, opt_some, varO_some, laidV_int, laidV_bl, laidV_str, laidV_tup, laidV_lst, retO_rt, retO_nx, v_add, v_sub, v_lt, v_le, v_gt, v_ge, v_eqi, v_nei, t_bl, t_int, ofOpt_some', List.getElem?_cons_zero, List.getElem?_cons_succ, List.set_cons_zero, List.set_cons_succ, List.map_cons, List.map_nil, List.cons_append, List.nil_append, List.replicate_succ, List.replicate_zero, bindTg, setSlots, List.length_cons, List.length_nil, Nat.reduceAdd, Nat.reduceSub, Nat.reduceLT, ↓reduceIte, if_true, bf_int, bf_lent, bf_lenl, bf_lena, sub_t, sub_l, sub_a, bf_lens h hl, d]
    · have hp : s[p]? = some c := by
        have : (s.drop p)[0]? = some c := by rw [hd]; rfl
        rwa [List.getElem?_drop, Nat.add_zero] at this
      have hlt := (List.getElem?_eq_some_iff.mp hp).1
      have d : decide ((p : Int) < (s.length : Int)) = true := decide_eq_true (by omega)
      simp only [evE_var, evE_cst, evE_tup, evE_lst, evE_op, evE_neg, evE_not, evE_and, evE_or, evE_ite, evE_sub, evE_slice, evE_call, evE_callK, evE_bm, evE_bf, evE_isi, evEs_nil, evEs_cons, exS_asg, exS_augN, exS_expr, exS_ret, exS_ife, exB_nil', exB_cons', bind_ok', stm_ok', next_nx', next_rt', bind_exc', stm_exc', next_exc', ifO_t, ifO_f, opt_some, varO_some, laidV_int, laidV_bl, laidV_str, laidV_tup, laidV_lst, retO_rt, retO_nx, v_add, v_sub, v_lt, v_le, v_gt, v_ge, v_eqi, v_nei, t_bl, t_int, ofOpt_some', List.getElem?_cons_zero, List.getElem?_cons_succ, List.set_cons_zero, List.set_cons_succ, List.map_cons, List.map_nil, List.cons_append, List.nil_append, List.replicate_succ, List.replicate_zero, bindTg, setSlots, List.length_cons, List.length_nil, Nat.reduceAdd, Nat.reduceSub, Nat.reduceLT, ↓reduceIte, if_true, bf_int, bf_lent, bf_lenl, bf_lena, sub_t, sub_l, sub_a, bf_lens h hl, d, sub_s h hl, at_nat, hp, Option.map_some, v_notins, hc, Bool.not_true]
  | cons c w ih =>
    intro rest p hd hw hr
    have hp : s[p]? = some c := by
      have : (s.drop p)[0]? = some c := by rw [hd]; rfl
      rwa [List.getElem?_drop, Nat.add_zero] at this
    have hlt := (List.getElem?_eq_some_iff.mp hp).1
    have d : decide ((p : Int) < (s.length : Int)) = true := decide_eq_true (by omega)
    have hc : ([40, 41, 32] : List Nat).contains c = false := hw c List.mem_cons_self
    have hd2 : s.drop (p + 1) = w ++ rest := by
      have := congrArg (List.drop 1) hd
      rw [List.drop_drop] at this
      exact this
    have e := ih rest (p + 1) hd2 (fun x hx => hw x (List.mem_cons_of_mem _ hx)) hr
    rw [whl_again (v := .bl true) (h1 := h) (h2 := h) (ρ2 := [some (.str s), st, some (.int ((p + 1 : Nat) : Int))]) T F _ h ?_ rfl ?_, e]
    · congr 6
      simp only [List.length_cons]
      omega
    · simp only [evE_var, evE_cst, evE_tup, evE_lst, evE_op, evE_neg, evE_not, evE_and, evE_or, evE_ite, evE_sub, evE_slice, evE_call, evE_callK, evE_bm, evE_bf, evE_isi, evEs_nil, evEs_cons, exS_asg, exS_augN, exS_expr, exS_ret, exS_ife, exB_nil', exB_cons', bind_ok', stm_ok', next_nx', next_rt', bind_exc', stm_exc', next_exc', ifO_t, ifO_f, opt_some, varO_some, laidV_int, laidV_bl, laidV_str, laidV_tup, laidV_lst, retO_rt, retO_nx, v_add, v_sub, v_lt, v_le, v_gt, v_ge, v_eqi, v_nei, t_bl, t_int, ofOpt_some', List.getElem?_cons_zero, List.getElem?_cons_succ, List.set_cons_zero, List.set_cons_succ, List.map_cons, List.map_nil, List.cons_append, List.nil_append, List.replicate_succ, List.replicate_zero, bindTg, setSlots, List.length_cons, List.length_nil, Nat.reduceAdd, Nat.reduceSub, Nat.reduceLT, ↓reduceIte, if_true, bf_int, bf_lent, bf_lenl, bf_lena, sub_t, sub_l, sub_a, bf_lens h hl, d, sub_s h hl, at_nat, hp, Option.map_some, v_notins, hc, Bool.not_false]
    · have : ((p : Int) + 1) = ((p + 1 : Nat) : Int) := rfl
      simp only [evE_var, evE_cst, evE_tup, evE_lst, evE_op, evE_neg, evE_not, evE_and, evE_or, evE_ite, evE_sub, evE_slice, evE_call, evE_callK, evE_bm, evE_bf, evE_isi, evEs_nil, evEs_cons, exS_asg, exS_augN, exS_expr, exS_ret, exS_ife, exB_nil', exB_cons', bind_ok', stm_ok', next_nx', next_rt', bind_exc', stm_exc', next_exc', ifO_t, ifO_f, opt_some, varO_some, laidV_int, laidV_bl, laidV_str, laidV_tup, laidV_lst, retO_rt, retO_nx, v_add, v_sub, v_lt, v_le, v_gt, v_ge, v_eqi, v_nei, t_bl, t_int, ofOpt_some', List.getElem?_cons_zero, List.getElem?_cons_succ, List.set_cons_zero, List.set_cons_succ, List.map_cons, List.map_nil, List.cons_append, List.nil_append, List.replicate_succ, List.replicate_zero, bindTg, setSlots, List.length_cons, List.length_nil, Nat.reduceAdd, Nat.reduceSub, Nat.reduceLT, ↓reduceIte, if_true, bf_int, bf_lent, bf_lenl, bf_lena, sub_t, sub_l, sub_a, augV, this]
theorem we (d : Nat) (h : Heap) (s : List Nat) (hl : s.length ≤ line) (w rest : List Nat) (p : Nat) (hd : s.drop p = w ++ rest) (hw : ∀ c ∈ w, plainC c) (hr : rest = [] ∨ ∃ c r, rest = c :: r ∧ ([40, 41, 32] : List Nat).contains c = true) :
    callF T (d + 1) 3 [.str s, .int (p : Int)] h = .ok (.int ((p + w.length : Nat) : Int)) h := by
  rw [callF_n T d 3 _ h _ B.f3 (B.fz 3) rfl]
  have e := we_loop (T := T) (callF T d) h s hl (some (.int (p : Int))) w rest p hd hw hr
  have e := whl_of e
  simp only [b3, evE_var, evE_cst, evE_tup, evE_lst, evE_op, evE_neg, evE_not, evE_and, evE_or, evE_ite, evE_sub, evE_slice, evE_call, evE_callK, evE_bm, evE_bf, evE_isi, evEs_nil, evEs_cons, exS_asg, exS_augN, exS_expr, exS_ret, exS_ife, exB_nil', exB_cons', bind_ok', stm_ok', next_nx', next_rt', bind_exc', stm_exc', next_exc', ifO_t, ifO_f, opt_some, varO_some, laidV_int, laidV_bl, laidV_str, laidV_tup, laidV_lst, retO_rt, retO_nx, v_add, v_sub, v_lt, v_le, v_gt, v_ge, v_eqi, v_nei, t_bl, t_int, ofOpt_some', List.getElem?_cons_zero, List.getElem?_cons_succ, List.set_cons_zero, List.set_cons_succ, List.map_cons, List.map_nil, List.cons_append, List.nil_append, List.replicate_succ, List.replicate_zero, bindTg, setSlots, List.length_cons, List.length_nil, Nat.reduceAdd, Nat.reduceSub, Nat.reduceLT, ↓reduceIte, if_true, bf_int, bf_lent, bf_lenl, bf_lena, sub_t, sub_l, sub_a, e]
/-- the rows that are open: their cells, their items; the last one is the innermost -/
structure Stk (h : Heap) (r0 : Nat) (st : List (Nat × List Val)) : Prop where
  top : h.c r0 = some (.lst (st.map fun p => .ref p.1))
  rows : ∀ p ∈ st, h.c p.1 = some (.lst p.2)
  nd : (r0 :: st.map (·.1)).Nodup
  lt : ∀ q ∈ r0 :: st.map (·.1), q < h.n
def wC : E := .op .lt (.var 3) (.bf .len true [(.var 0)])
def wB : List S := [.asg (.name 4) (.sub (.var 0) (.var 3)), .ife (.op .eq (.var 4) (.cst (.str [40]))) [.ife (.op .gt (.bf .len true [(.var 2)]) (.cst (.int 20))) [.raise 2 [(.var 1)]] [], .expr (.bm (.var 2) .append [(.lst true [])])] [.ife (.op .eq (.var 4) (.cst (.str [41]))) [.ife (.op .eq (.bf .len true [(.var 2)]) (.cst (.int 1))) [.raise 2 [(.var 1)]] [], .asg (.name 5) (.bf .tuple true [(.bm (.var 2) .pop [])]), .expr (.bm (.sub (.var 2) (.neg (.cst (.int 1)))) .append [(.var 5)])] [.ife (.op .ne (.var 4) (.cst (.str [32]))) [.asg (.name 6) (.call 3 [(.var 0), (.var 3)]), .expr (.bm (.sub (.var 2) (.neg (.cst (.int 1)))) .append [(.call 2 [(.slice true (.var 0) [(.var 3)] [(.var 6)]), (.var 1)])]), .asg (.name 3) (.op .sub (.var 6) (.cst (.int 1)))] []]], .augN 3 .add (.cst (.int 1))]
omit B in
theorem Stk.opn {h : Heap} {r0 : Nat} {st : List (Nat × List Val)} (S : Stk h r0 st) : Stk ((h.push (.lst [])).set r0 (.lst (st.map (fun p => .ref p.1) ++ [.ref h.n]))) r0 (st ++ [(h.n, [])]) where
  top := by
    show (if r0 = r0 then _ else _) = _
    rw [if_pos rfl, List.map_append]
    rfl
  rows := fun p hp => by
    have ne : ∀ q ∈ st, q.1 ≠ r0 := fun q hq z => (List.nodup_cons.mp S.nd).1 (List.mem_map.mpr ⟨q, hq, z⟩)
    rcases List.mem_append.mp hp with hp | hp
    · show (if p.1 = r0 then _ else (if p.1 = h.n then _ else _)) = _
      have := S.lt p.1 (List.mem_cons_of_mem _ (List.mem_map.mpr ⟨p, hp, rfl⟩))
      rw [if_neg (ne p hp), if_neg (by omega)]
      exact S.rows p hp
    · cases List.mem_singleton.mp hp
      show (if h.n = r0 then _ else (if h.n = h.n then _ else _)) = _
      have := S.lt r0 List.mem_cons_self
      rw [if_neg (by omega), if_pos rfl]
  nd := by
    have := S.nd
    rw [List.map_append, ← List.cons_append, List.nodup_append]
    refine ⟨this, by simp, fun a ha b hb z => ?_⟩
    have := S.lt a ha
    simp at hb
    omega
  lt := fun q hq => by
    show q < h.n + 1
    rw [List.map_append, ← List.cons_append] at hq
    rcases List.mem_append.mp hq with hq | hq
    · have := S.lt q hq; omega
    · simp at hq; omega
omit B in
theorem Stk.put {h : Heap} {r0 q : Nat} {st : List (Nat × List Val)} {i : List Val} (S : Stk h r0 (st ++ [(q, i)])) (v : Val) : Stk (h.set q (.lst (i ++ [v]))) r0 (st ++ [(q, i ++ [v])]) where
  top := by
    have nd := S.nd
    have : r0 ≠ q := fun z => (List.nodup_cons.mp nd).1 (by rw [z]; simp)
    show (if r0 = q then _ else _) = _
    rw [if_neg this, S.top]
    simp
  rows := fun p hp => by
    show (if p.1 = q then _ else _) = _
    rcases List.mem_append.mp hp with hp | hp
    · have nd := (List.nodup_cons.mp S.nd).2
      rw [List.map_append, List.nodup_append] at nd
      have : p.1 ≠ q := nd.2.2 p.1 (List.mem_map.mpr ⟨p, hp, rfl⟩) q (by simp)
      rw [if_neg this]
      exact S.rows p (List.mem_append_left _ hp)
    · cases List.mem_singleton.mp hp
      rw [if_pos rfl]
  nd := by
    have := S.nd
    simpa using this
  lt := fun x hx => S.lt x (by simpa using hx)
omit B in
theorem Stk.drp {h : Heap} {r0 q : Nat} {st : List (Nat × List Val)} {i : List Val} (S : Stk h r0 (st ++ [(q, i)])) : Stk (h.set r0 (.lst (st.map fun p => .ref p.1))) r0 st where
  top := if_pos rfl
  rows := fun p hp => by
    have ne : p.1 ≠ r0 := fun z => (List.nodup_cons.mp S.nd).1 (List.mem_map.mpr ⟨p, List.mem_append_left _ hp, z⟩)
    show (if p.1 = r0 then _ else _) = _
    rw [if_neg ne]
    exact S.rows p (List.mem_append_left _ hp)
  nd := by
    have := S.nd
    rw [List.map_append, ← List.cons_append, List.nodup_append] at this
    exact this.1
  lt := fun x hx => S.lt x (by
    rw [List.map_append, ← List.cons_append]
    exact List.mem_append_left _ hx)
omit B in
theorem at_last {α : Type} (xs : List α) (z : α) : at_ (xs ++ [z]) (-1) = some z := by
  unfold at_ place
  simp only [List.length_append, List.length_cons, List.length_nil]
  rw [if_neg (by decide), if_pos (by omega)]
  have : ((-1 : Int) + ((xs.length + (0 + 1) : Nat) : Int)).toNat = xs.length := by omega
  rw [this]
  simp
section
variable (F : Fns) (s : List Nat) (ln : Int) (r0 : Nat) (hl : s.length ≤ line) (os : okT s = true)
include hl
omit B
theorem chr {p c : Nat} (hp : s[p]? = some c) (h : Heap) : decide ((p : Int) < (s.length : Int)) = true ∧ subV h (.str s) (.int (p : Int)) = some (.str [c]) := by
  have hlt := (List.getElem?_eq_some_iff.mp hp).1
  refine ⟨decide_eq_true (by omega), ?_⟩
  rw [sub_s h hl, at_nat, hp]
  rfl
omit hl in
theorem okc {c : Nat} (h : c ≤ 122) : okT [c] = true := okT_of fun x hx => by cases List.mem_singleton.mp hx; exact h
noncomputable abbrev Lp (p : Nat) (a b c : Option Val) (h : Heap) : SO := whileL (wStep T F wC wB) [some (.str s), some (.int ln), some (.ref r0), some (.int (p : Int)), a, b, c] h
theorem st_space {p : Nat} (hp : s[p]? = some 32) (a b c : Option Val) (h : Heap) : Lp (T := T) F s ln r0 p a b c h = Lp (T := T) F s ln r0 (p + 1) (some (.str [32])) b c h := by
  obtain ⟨q1, q2⟩ := chr s hl hp h
  have e1 : (([32] : List Nat) == [40]) = false := rfl
  have e2 : (([32] : List Nat) == [41]) = false := rfl
  have e3 : (([32] : List Nat) == [32]) = true := rfl
  refine whl_again (v := .bl true) (h1 := h) (h2 := h) T F _ h ?_ rfl ?_
  · simp only [wC, evE_var, evE_cst, evE_tup, evE_lst, evE_op, evE_neg, evE_not, evE_and, evE_or, evE_ite, evE_sub, evE_slice, evE_call, evE_callK, evE_bm, evE_bf, evE_isi, evEs_nil, evEs_cons, exS_asg, exS_augN, exS_expr, exS_ret, exS_ife, exB_nil', exB_cons', bind_ok', stm_ok', next_nx', next_rt', bind_exc', stm_exc', next_exc', ifO_t, ifO_f, opt_some, varO_some, laidV_int, laidV_bl, laidV_str, laidV_tup, laidV_lst, retO_rt, retO_nx, v_add, v_sub, v_lt, v_le, v_gt, v_ge, v_eqi, v_nei, t_bl, t_int, ofOpt_some', List.getElem?_cons_zero, List.getElem?_cons_succ, List.set_cons_zero, List.set_cons_succ, List.map_cons, List.map_nil, List.cons_append, List.nil_append, List.replicate_succ, List.replicate_zero, bindTg, setSlots, List.length_cons, List.length_nil, Nat.reduceAdd, Nat.reduceSub, Nat.reduceLT, ↓reduceIte, if_true, bf_int, bf_lent, bf_lenl, bf_lena, sub_t, sub_l, sub_a, bf_lens h hl, q1]
  · have : ((p : Int) + 1) = ((p + 1 : Nat) : Int) := rfl
    simp only [wB, evE_var, evE_cst, evE_tup, evE_lst, evE_op, evE_neg, evE_not, evE_and, evE_or, evE_ite, evE_sub, evE_slice, evE_call, evE_callK, evE_bm, evE_bf, evE_isi, evEs_nil, evEs_cons, exS_asg, exS_augN, exS_expr, exS_ret, exS_ife, exB_nil', exB_cons', bind_ok', stm_ok', next_nx', next_rt', bind_exc', stm_exc', next_exc', ifO_t, ifO_f, opt_some, varO_some, laidV_int, laidV_bl, laidV_str, laidV_tup, laidV_lst, retO_rt, retO_nx, v_add, v_sub, v_lt, v_le, v_gt, v_ge, v_eqi, v_nei, t_bl, t_int, ofOpt_some', List.getElem?_cons_zero, List.getElem?_cons_succ, List.set_cons_zero, List.set_cons_succ, List.map_cons, List.map_nil, List.cons_append, List.nil_append, List.replicate_succ, List.replicate_zero, bindTg, setSlots, List.length_cons, List.length_nil, Nat.reduceAdd, Nat.reduceSub, Nat.reduceLT, ↓reduceIte, if_true, bf_int, bf_lent, bf_lenl, bf_lena, sub_t, sub_l, sub_a, q2, v_eqs h (okc (show 32 ≤ 122 by decide)) (okc (show 40 ≤ 122 by decide)), v_eqs h (okc (show 32 ≤ 122 by decide)) (okc (show 41 ≤ 122 by decide)), v_nes h (okc (show 32 ≤ 122 by decide)) (okc (show 32 ≤ 122 by decide)), e1, e2, e3, Bool.not_true, augV, this]
theorem st_open {p : Nat} (hp : s[p]? = some 40) {st : List (Nat × List Val)} {h : Heap} (S : Stk h r0 st) (hs : st.length ≤ 20) (a b c : Option Val) : Lp (T := T) F s ln r0 p a b c h = Lp (T := T) F s ln r0 (p + 1) (some (.str [40])) b c ((h.push (.lst [])).set r0 (.lst (st.map (fun p => .ref p.1) ++ [.ref h.n]))) := by
  obtain ⟨q1, q2⟩ := chr s hl hp h
  have e1 : (([40] : List Nat) == [40]) = true := rfl
  have lin : line = 16777216 := rfl
  have hk : bmK h .append (.ref r0) = some 0 := by simp [bmK, kindV, S.top, bmHas]
  have t1 : (h.push (.lst [])).c r0 = some (.lst (st.map fun p => .ref p.1)) := ((Fr.push h (.lst [])).2 r0 (S.lt r0 List.mem_cons_self)).trans S.top
  have hk1 : bmK (h.push (.lst [])) .append (.ref r0) = some 0 := by simp [bmK, kindV, t1, bmHas]
  have hb : bmV (h.push (.lst [])) .append (.ref r0) [.ref h.n] = .ok .non ((h.push (.lst [])).set r0 (.lst (st.map (fun p => .ref p.1) ++ [.ref h.n]))) := by
    simp only [bmV, t1]
    rw [if_pos (by rw [List.length_map]; omega)]
  have e0 : newL true [] h = .ok (.ref h.n) (h.push (.lst [])) := newL_n (by decide)
  have d : decide ((20 : Int) < ((st.map fun p => Val.ref p.1).length : Int)) = false := decide_eq_false (by rw [List.length_map]; omega)
  refine whl_again (v := .bl true) (h1 := h) T F _ h ?_ rfl ?_
  · simp only [wC, evE_var, evE_cst, evE_tup, evE_lst, evE_op, evE_neg, evE_not, evE_and, evE_or, evE_ite, evE_sub, evE_slice, evE_call, evE_callK, evE_bm, evE_bf, evE_isi, evEs_nil, evEs_cons, exS_asg, exS_augN, exS_expr, exS_ret, exS_ife, exB_nil', exB_cons', bind_ok', stm_ok', next_nx', next_rt', bind_exc', stm_exc', next_exc', ifO_t, ifO_f, opt_some, varO_some, laidV_int, laidV_bl, laidV_str, laidV_tup, laidV_lst, retO_rt, retO_nx, v_add, v_sub, v_lt, v_le, v_gt, v_ge, v_eqi, v_nei, t_bl, t_int, ofOpt_some', List.getElem?_cons_zero, List.getElem?_cons_succ, List.set_cons_zero, List.set_cons_succ, List.map_cons, List.map_nil, List.cons_append, List.nil_append, List.replicate_succ, List.replicate_zero, bindTg, setSlots, List.length_cons, List.length_nil, Nat.reduceAdd, Nat.reduceSub, Nat.reduceLT, ↓reduceIte, if_true, bf_int, bf_lent, bf_lenl, bf_lena, sub_t, sub_l, sub_a, bf_lens h hl, q1]
  · have : ((p : Int) + 1) = ((p + 1 : Nat) : Int) := rfl
    simp only [wB, evE_var, evE_cst, evE_tup, evE_lst, evE_op, evE_neg, evE_not, evE_and, evE_or, evE_ite, evE_sub, evE_slice, evE_call, evE_callK, evE_bm, evE_bf, evE_isi, evEs_nil, evEs_cons, exS_asg, exS_augN, exS_expr, exS_ret, exS_ife, exB_nil', exB_cons', bind_ok', stm_ok', next_nx', next_rt', bind_exc', stm_exc', next_exc', ifO_t, ifO_f, opt_some, varO_some, laidV_int, laidV_bl, laidV_str, laidV_tup, laidV_lst, retO_rt, retO_nx, v_add, v_sub, v_lt, v_le, v_gt, v_ge, v_eqi, v_nei, t_bl, t_int, ofOpt_some', List.getElem?_cons_zero, List.getElem?_cons_succ, List.set_cons_zero, List.set_cons_succ, List.map_cons, List.map_nil, List.cons_append, List.nil_append, List.replicate_succ, List.replicate_zero, bindTg, setSlots, List.length_cons, List.length_nil, Nat.reduceAdd, Nat.reduceSub, Nat.reduceLT, ↓reduceIte, if_true, bf_int, bf_lent, bf_lenl, bf_lena, sub_t, sub_l, sub_a, q2, v_eqs h (okc (show 40 ≤ 122 by decide)) (okc (show 40 ≤ 122 by decide)), e1, bf_lenr h S.top, d, hk, e0, hk1, hb, augV, this]
theorem st_close {p : Nat} (hp : s[p]? = some 41) {st : List (Nat × List Val)} {q1 q2 : Nat} {i1 i2 : List Val} {h : Heap} (S : Stk h r0 (st ++ [(q1, i1)] ++ [(q2, i2)])) (hi : i1.length < line) (a b c : Option Val) : ∃ b' h', Lp (T := T) F s ln r0 p a b c h = Lp (T := T) F s ln r0 (p + 1) (some (.str [41])) b' c h' ∧ Stk h' r0 (st ++ [(q1, i1 ++ [.tup i2])]) := by
  obtain ⟨z1, z2⟩ := chr s hl hp h
  have e1 : (([41] : List Nat) == [40]) = false := rfl
  have e2 : (([41] : List Nat) == [41]) = true := rfl
  obtain ⟨h1, eh⟩ : ∃ h1, h1 = h.set r0 (.lst ((st ++ [(q1, i1)]).map fun p => .ref p.1)) := ⟨_, rfl⟩
  have S1 := S.drp
  have c2 : (h.set r0 (.lst ((st ++ [(q1, i1)]).map fun p => .ref p.1))).c q2 = some (.lst i2) := by
    have : q2 ≠ r0 := fun z => (List.nodup_cons.mp S.nd).1 (by rw [← z]; simp)
    show (if q2 = r0 then _ else _) = _
    rw [if_neg this]
    exact S.rows (q2, i2) (by simp)
  rw [← eh] at S1 c2
  have S2 := S1.put (.tup i2)
  have hk : bmK h .pop (.ref r0) = some 0 := by simp [bmK, kindV, S.top, bmHas]
  have hb : bmV h .pop (.ref r0) [] = .ok (.ref q2) h1 := by
    have t : h.c r0 = some (.lst ((st ++ [(q1, i1)]).map (fun p => Val.ref p.1) ++ [.ref q2])) := by rw [S.top, List.map_append]; rfl
    rw [eh]
    simp only [bmV, t, List.getLast?_concat, List.dropLast_concat]
  have l1 : at_ ((st ++ [(q1, i1)]).map fun p => Val.ref p.1) (-1) = some (.ref q1) := by
    rw [List.map_append]
    exact at_last _ _
  have c1 : h1.c q1 = some (.lst i1) := S1.rows (q1, i1) (by simp)
  have hk1 : bmK h1 .append (.ref q1) = some 0 := by simp [bmK, kindV, c1, bmHas]
  have hb1 : bmV h1 .append (.ref q1) [.tup i2] = .ok .non (h1.set q1 (.lst (i1 ++ [.tup i2]))) := by
    simp only [bmV, c1]
    rw [if_pos hi]
  have d : (((List.map (fun p => Val.ref p.1) (st ++ [(q1, i1)] ++ [(q2, i2)])).length : Int) == 1) = false := by
    rw [beq_eq_false_iff_ne]
    simp only [List.length_map, List.length_append, List.length_cons, List.length_nil]
    omega
  refine ⟨some (.tup i2), _, whl_again (v := .bl true) (h1 := h) T F _ h ?_ rfl ?_, S2⟩
  · simp only [wC, evE_var, evE_cst, evE_tup, evE_lst, evE_op, evE_neg, evE_not, evE_and, evE_or, evE_ite, evE_sub, evE_slice, evE_call, evE_callK, evE_bm, evE_bf, evE_isi, evEs_nil, evEs_cons, exS_asg, exS_augN, exS_expr, exS_ret, exS_ife, exB_nil', exB_cons', bind_ok', stm_ok', next_nx', next_rt', bind_exc', stm_exc', next_exc', ifO_t, ifO_f, opt_some, varO_some, laidV_int, laidV_bl, laidV_str, laidV_tup, laidV_lst, retO_rt, retO_nx, v_add, v_sub, v_lt, v_le, v_gt, v_ge, v_eqi, v_nei, t_bl, t_int, ofOpt_some', List.getElem?_cons_zero, List.getElem?_cons_succ, List.set_cons_zero, List.set_cons_succ, List.map_cons, List.map_nil, List.cons_append, List.nil_append, List.replicate_succ, List.replicate_zero, bindTg, setSlots, List.length_cons, List.length_nil, Nat.reduceAdd, Nat.reduceSub, Nat.reduceLT, ↓reduceIte, if_true, bf_int, bf_lent, bf_lenl, bf_lena, sub_t, sub_l, sub_a, bf_lens h hl, z1]
  · have : ((p : Int) + 1) = ((p + 1 : Nat) : Int) := rfl
    simp only [wB, evE_var, evE_cst, evE_tup, evE_lst, evE_op, evE_neg, evE_not, evE_and, evE_or, evE_ite, evE_sub, evE_slice, evE_call, evE_callK, evE_bm, evE_bf, evE_isi, evEs_nil, evEs_cons, exS_asg, exS_augN, exS_expr, exS_ret, exS_ife, exB_nil', exB_cons', bind_ok', stm_ok', next_nx', next_rt', bind_exc', stm_exc', next_exc', ifO_t, ifO_f, opt_some, varO_some, laidV_int, laidV_bl, laidV_str, laidV_tup, laidV_lst, retO_rt, retO_nx, v_add, v_sub, v_lt, v_le, v_gt, v_ge, v_eqi, v_nei, t_bl, t_int, ofOpt_some', List.getElem?_cons_zero, List.getElem?_cons_succ, List.set_cons_zero, List.set_cons_succ, List.map_cons, List.map_nil, List.cons_append, List.nil_append, List.replicate_succ, List.replicate_zero, bindTg, setSlots, List.length_cons, List.length_nil, Nat.reduceAdd, Nat.reduceSub, Nat.reduceLT, ↓reduceIte, if_true, bf_int, bf_lent, bf_lenl, bf_lena, sub_t, sub_l, sub_a, z2, v_eqs h (okc (show 41 ≤ 122 by decide)) (okc (show 40 ≤ 122 by decide)), v_eqs h (okc (show 41 ≤ 122 by decide)) (okc (show 41 ≤ 122 by decide)), e1, e2, bf_lenr h S.top, ↓d, hk, hb, bf_tupr _ c2, sub_r _ S1.top, l1, hk1, hb1, augV, this]
theorem st_atom {p n : Nat} {ch : Nat} (hp : s[p]? = some ch) (hc : plainC ch) (hch : ch ≤ 122) {st : List (Nat × List Val)} {q1 : Nat} {i1 : List Val} {h : Heap} {v : Val} (S : Stk h r0 (st ++ [(q1, i1)])) (hi : i1.length < line)
    (e3 : F 3 [.str s, .int (p : Int)] h = .ok (.int (n : Int)) h) (e2 : F 2 [.str (cut s (some (p : Int)) (some (n : Int))), .int ln] h = .ok v h) (a b c : Option Val) : ∃ a' c', Lp (T := T) F s ln r0 p a b c h = Lp (T := T) F s ln r0 n a' b c' (h.set q1 (.lst (i1 ++ [v]))) := by
  obtain ⟨z1, z2⟩ := chr s hl hp h
  unfold plainC at hc
  unfold delim at hc
  simp only [List.contains_cons, List.contains_nil, Bool.or_false, Bool.or_eq_false_iff] at hc
  obtain ⟨x1, x2, x3⟩ := hc
  have e1 : (([ch] : List Nat) == [40]) = false := by simpa using x1
  have e4 : (([ch] : List Nat) == [41]) = false := by simpa using x2
  have e5 : (([ch] : List Nat) == [32]) = false := by simpa using x3
  have l1 : at_ ((st ++ [(q1, i1)]).map fun p => Val.ref p.1) (-1) = some (.ref q1) := by
    rw [List.map_append]
    exact at_last _ _
  have c1 : h.c q1 = some (.lst i1) := S.rows (q1, i1) (by simp)
  have hk1 : bmK h .append (.ref q1) = some 0 := by simp [bmK, kindV, c1, bmHas]
  have hb1 : bmV h .append (.ref q1) [v] = .ok .non (h.set q1 (.lst (i1 ++ [v]))) := by
    simp only [bmV, c1]
    rw [if_pos hi]
  have sl : sliceV h (.str s) (some (p : Int)) (some (n : Int)) = some (.str (cut s (some (p : Int)) (some (n : Int)))) := by
    show (if _ then _ else _) = _
    rw [if_pos hl]
  refine ⟨some (.str [ch]), some (.int (n : Int)), whl_again (v := .bl true) (h1 := h) T F _ h ?_ rfl ?_⟩
  · simp only [wC, evE_var, evE_cst, evE_tup, evE_lst, evE_op, evE_neg, evE_not, evE_and, evE_or, evE_ite, evE_sub, evE_slice, evE_call, evE_callK, evE_bm, evE_bf, evE_isi, evEs_nil, evEs_cons, exS_asg, exS_augN, exS_expr, exS_ret, exS_ife, exB_nil', exB_cons', bind_ok', stm_ok', next_nx', next_rt', bind_exc', stm_exc', next_exc', ifO_t, ifO_f, opt_some, varO_some, laidV_int, laidV_bl, laidV_str, laidV_tup, laidV_lst, retO_rt, retO_nx, v_add, v_sub, v_lt, v_le, v_gt, v_ge, v_eqi, v_nei, t_bl, t_int, ofOpt_some', List.getElem?_cons_zero, List.getElem?_cons_succ, List.set_cons_zero, List.set_cons_succ, List.map_cons, List.map_nil, List.cons_append, List.nil_append, List.replicate_succ, List.replicate_zero, bindTg, setSlots, List.length_cons, List.length_nil, Nat.reduceAdd, Nat.reduceSub, Nat.reduceLT, ↓reduceIte, if_true, bf_int, bf_lent, bf_lenl, bf_lena, sub_t, sub_l, sub_a, bf_lens h hl, z1]
  · have : ((n : Int) - 1 + 1) = (n : Int) := by omega
    have i1 : ∀ i : Int, intsV [Val.int i] = some [i] := fun i => rfl
    have hd : ∀ i : Int, [i].head? = some i := fun i => rfl
    simp only [wB, evE_var, evE_cst, evE_tup, evE_lst, evE_op, evE_neg, evE_not, evE_and, evE_or, evE_ite, evE_sub, evE_slice, evE_call, evE_callK, evE_bm, evE_bf, evE_isi, evEs_nil, evEs_cons, exS_asg, exS_augN, exS_expr, exS_ret, exS_ife, exB_nil', exB_cons', bind_ok', stm_ok', next_nx', next_rt', bind_exc', stm_exc', next_exc', ifO_t, ifO_f, opt_some, varO_some, laidV_int, laidV_bl, laidV_str, laidV_tup, laidV_lst, retO_rt, retO_nx, v_add, v_sub, v_lt, v_le, v_gt, v_ge, v_eqi, v_nei, t_bl, t_int, ofOpt_some', List.getElem?_cons_zero, List.getElem?_cons_succ, List.set_cons_zero, List.set_cons_succ, List.map_cons, List.map_nil, List.cons_append, List.nil_append, List.replicate_succ, List.replicate_zero, bindTg, setSlots, List.length_cons, List.length_nil, Nat.reduceAdd, Nat.reduceSub, Nat.reduceLT, ↓reduceIte, if_true, bf_int, bf_lent, bf_lenl, bf_lena, sub_t, sub_l, sub_a, z2, v_eqs h (okc hch) (okc (show 40 ≤ 122 by decide)), v_eqs h (okc hch) (okc (show 41 ≤ 122 by decide)), v_nes h (okc hch) (okc (show 32 ≤ 122 by decide)), e1, e4, e5, Bool.not_false, e3, sub_r _ S.top, l1, hk1, i1, hd, sl, e2, hb1, augV, this]
theorem st_openF (B : Tab T) {p : Nat} (hp : s[p]? = some 40) {st : List (Nat × List Val)} {h : Heap} (S : Stk h r0 st) (hs : 20 < st.length) (a b c : Option Val) : ∃ ρ, Lp (T := T) F s ln r0 p a b c h = .exc ⟨2, [(0, .int ln)]⟩ ρ h := by
  obtain ⟨q1, q2⟩ := chr s hl hp h
  have e1 : (([40] : List Nat) == [40]) = true := rfl
  have d : decide ((20 : Int) < ((st.map fun p => Val.ref p.1).length : Int)) = true := decide_eq_true (by rw [List.length_map]; omega)
  refine ⟨[some (.str s), some (.int ln), some (.ref r0), some (.int (p : Int)), some (.str [40]), b, c], whl_exc (v := .bl true) (h1 := h) T F _ h ?_ rfl ?_⟩
  · simp only [wC, evE_var, evE_cst, evE_tup, evE_lst, evE_op, evE_neg, evE_not, evE_and, evE_or, evE_ite, evE_sub, evE_slice, evE_call, evE_callK, evE_bm, evE_bf, evE_isi, evEs_nil, evEs_cons, exS_asg, exS_augN, exS_expr, exS_ret, exS_ife, exB_nil', exB_cons', bind_ok', stm_ok', next_nx', next_rt', bind_exc', stm_exc', next_exc', ifO_t, ifO_f, opt_some, varO_some, laidV_int, laidV_bl, laidV_str, laidV_tup, laidV_lst, retO_rt, retO_nx, v_add, v_sub, v_lt, v_le, v_gt, v_ge, v_eqi, v_nei, t_bl, t_int, ofOpt_some', List.getElem?_cons_zero, List.getElem?_cons_succ, List.set_cons_zero, List.set_cons_succ, List.map_cons, List.map_nil, List.cons_append, List.nil_append, List.replicate_succ, List.replicate_zero, bindTg, setSlots, List.length_cons, List.length_nil, Nat.reduceAdd, Nat.reduceSub, Nat.reduceLT, ↓reduceIte, if_true, bf_int, bf_lent, bf_lenl, bf_lena, sub_t, sub_l, sub_a, bf_lens h hl, q1]
  · simp only [wB, evE_var, evE_cst, evE_tup, evE_lst, evE_op, evE_neg, evE_not, evE_and, evE_or, evE_ite, evE_sub, evE_slice, evE_call, evE_callK, evE_bm, evE_bf, evE_isi, evEs_nil, evEs_cons, exS_asg, exS_augN, exS_expr, exS_ret, exS_ife, exB_nil', exB_cons', bind_ok', stm_ok', next_nx', next_rt', bind_exc', stm_exc', next_exc', ifO_t, ifO_f, opt_some, varO_some, laidV_int, laidV_bl, laidV_str, laidV_tup, laidV_lst, retO_rt, retO_nx, v_add, v_sub, v_lt, v_le, v_gt, v_ge, v_eqi, v_nei, t_bl, t_int, ofOpt_some', List.getElem?_cons_zero, List.getElem?_cons_succ, List.set_cons_zero, List.set_cons_succ, List.map_cons, List.map_nil, List.cons_append, List.nil_append, List.replicate_succ, List.replicate_zero, bindTg, setSlots, List.length_cons, List.length_nil, Nat.reduceAdd, Nat.reduceSub, Nat.reduceLT, ↓reduceIte, if_true, bf_int, bf_lent, bf_lenl, bf_lena, sub_t, sub_l, sub_a, q2, v_eqs h (okc (show 40 ≤ 122 by decide)) (okc (show 40 ≤ 122 by decide)), e1, bf_lenr h S.top, d, exS_raise _ _ _ _ B.ex, raiseL_int]
theorem st_closeF (B : Tab T) {p : Nat} (hp : s[p]? = some 41) {q1 : Nat} {i1 : List Val} {h : Heap} (S : Stk h r0 [(q1, i1)]) (a b c : Option Val) : ∃ ρ, Lp (T := T) F s ln r0 p a b c h = .exc ⟨2, [(0, .int ln)]⟩ ρ h := by
  obtain ⟨z1, z2⟩ := chr s hl hp h
  have e1 : (([41] : List Nat) == [40]) = false := rfl
  have e2 : (([41] : List Nat) == [41]) = true := rfl
  have d : (((List.map (fun p => Val.ref p.1) [(q1, i1)]).length : Int) == 1) = true := rfl
  refine ⟨[some (.str s), some (.int ln), some (.ref r0), some (.int (p : Int)), some (.str [41]), b, c], whl_exc (v := .bl true) (h1 := h) T F _ h ?_ rfl ?_⟩
  · simp only [wC, evE_var, evE_cst, evE_tup, evE_lst, evE_op, evE_neg, evE_not, evE_and, evE_or, evE_ite, evE_sub, evE_slice, evE_call, evE_callK, evE_bm, evE_bf, evE_isi, evEs_nil, evEs_cons, exS_asg, exS_augN, exS_expr, exS_ret, exS_ife, exB_nil', exB_cons', bind_ok', stm_ok', next_nx', next_rt', bind_exc', stm_exc', next_exc', ifO_t, ifO_f, opt_some, varO_some, laidV_int, laidV_bl, laidV_str, laidV_tup, laidV_lst, retO_rt, retO_nx, v_add, v_sub, v_lt, v_le, v_gt, v_ge, v_eqi, v_nei, t_bl, t_int, ofOpt_some', List.getElem?_cons_zero, List.getElem?_cons_succ, List.set_cons_zero, List.set_cons_succ, List.map_cons, List.map_nil, List.cons_append, List.nil_append, List.replicate_succ, List.replicate_zero, bindTg, setSlots, List.length_cons, List.length_nil, Nat.reduceAdd, Nat.reduceSub, Nat.reduceLT, ↓reduceIte, if_true, bf_int, bf_lent, bf_lenl, bf_lena, sub_t, sub_l, sub_a, bf_lens h hl, z1]
  · simp only [wB, evE_var, evE_cst, evE_tup, evE_lst, evE_op, evE_neg, evE_not, evE_and, evE_or, evE_ite, evE_sub, evE_slice, evE_call, evE_callK, evE_bm, evE_bf, evE_isi, evEs_nil, evEs_cons, exS_asg, exS_augN, exS_expr, exS_ret, exS_ife, exB_nil', exB_cons', bind_ok', stm_ok', next_nx', next_rt', bind_exc', stm_exc', next_exc', ifO_t, ifO_f, opt_some, varO_some, laidV_int, laidV_bl, laidV_str, laidV_tup, laidV_lst, retO_rt, retO_nx, v_add, v_sub, v_lt, v_le, v_gt, v_ge, v_eqi, v_nei, t_bl, t_int, ofOpt_some', List.getElem?_cons_zero, List.getElem?_cons_succ, List.set_cons_zero, List.set_cons_succ, List.map_cons, List.map_nil, List.cons_append, List.nil_append, List.replicate_succ, List.replicate_zero, bindTg, setSlots, List.length_cons, List.length_nil, Nat.reduceAdd, Nat.reduceSub, Nat.reduceLT, ↓reduceIte, if_true, bf_int, bf_lent, bf_lenl, bf_lena, sub_t, sub_l, sub_a, z2, v_eqs h (okc (show 41 ≤ 122 by decide)) (okc (show 40 ≤ 122 by decide)), v_eqs h (okc (show 41 ≤ 122 by decide)) (okc (show 41 ≤ 122 by decide)), e1, e2, bf_lenr h S.top, ↓d, exS_raise _ _ _ _ B.ex, raiseL_int]
    rfl
theorem st_atomF {p n : Nat} {ch : Nat} (hp : s[p]? = some ch) (hc : plainC ch) (hch : ch ≤ 122) {st : List (Nat × List Val)} {q1 : Nat} {i1 : List Val} {h : Heap} {x : Exc} (S : Stk h r0 (st ++ [(q1, i1)]))
    (e3 : F 3 [.str s, .int (p : Int)] h = .ok (.int (n : Int)) h) (e2 : F 2 [.str (cut s (some (p : Int)) (some (n : Int))), .int ln] h = .exc x h) (a b c : Option Val) : ∃ ρ, Lp (T := T) F s ln r0 p a b c h = .exc x ρ h := by
  obtain ⟨z1, z2⟩ := chr s hl hp h
  unfold plainC at hc
  unfold delim at hc
  simp only [List.contains_cons, List.contains_nil, Bool.or_false, Bool.or_eq_false_iff] at hc
  obtain ⟨x1, x2, x3⟩ := hc
  have e1 : (([ch] : List Nat) == [40]) = false := by simpa using x1
  have e4 : (([ch] : List Nat) == [41]) = false := by simpa using x2
  have e5 : (([ch] : List Nat) == [32]) = false := by simpa using x3
  have l1 : at_ ((st ++ [(q1, i1)]).map fun p => Val.ref p.1) (-1) = some (.ref q1) := by
    rw [List.map_append]
    exact at_last _ _
  have c1 : h.c q1 = some (.lst i1) := S.rows (q1, i1) (by simp)
  have hk1 : bmK h .append (.ref q1) = some 0 := by simp [bmK, kindV, c1, bmHas]
  have sl : sliceV h (.str s) (some (p : Int)) (some (n : Int)) = some (.str (cut s (some (p : Int)) (some (n : Int)))) := by
    show (if _ then _ else _) = _
    rw [if_pos hl]
  refine ⟨[some (.str s), some (.int ln), some (.ref r0), some (.int (p : Int)), some (.str [ch]), b, some (.int (n : Int))], whl_exc (v := .bl true) (h1 := h) T F _ h ?_ rfl ?_⟩
  · simp only [wC, evE_var, evE_cst, evE_tup, evE_lst, evE_op, evE_neg, evE_not, evE_and, evE_or, evE_ite, evE_sub, evE_slice, evE_call, evE_callK, evE_bm, evE_bf, evE_isi, evEs_nil, evEs_cons, exS_asg, exS_augN, exS_expr, exS_ret, exS_ife, exB_nil', exB_cons', bind_ok', stm_ok', next_nx', next_rt', bind_exc', stm_exc', next_exc', ifO_t, ifO_f, opt_some, varO_some, laidV_int, laidV_bl, laidV_str, laidV_tup, laidV_lst, retO_rt, retO_nx, v_add, v_sub, v_lt, v_le, v_gt, v_ge, v_eqi, v_nei, t_bl, t_int, ofOpt_some', List.getElem?_cons_zero, List.getElem?_cons_succ, List.set_cons_zero, List.set_cons_succ, List.map_cons, List.map_nil, List.cons_append, List.nil_append, List.replicate_succ, List.replicate_zero, bindTg, setSlots, List.length_cons, List.length_nil, Nat.reduceAdd, Nat.reduceSub, Nat.reduceLT, ↓reduceIte, if_true, bf_int, bf_lent, bf_lenl, bf_lena, sub_t, sub_l, sub_a, bf_lens h hl, z1]
  · have i1 : ∀ i : Int, intsV [Val.int i] = some [i] := fun i => rfl
    have hd : ∀ i : Int, [i].head? = some i := fun i => rfl
    simp only [wB, evE_var, evE_cst, evE_tup, evE_lst, evE_op, evE_neg, evE_not, evE_and, evE_or, evE_ite, evE_sub, evE_slice, evE_call, evE_callK, evE_bm, evE_bf, evE_isi, evEs_nil, evEs_cons, exS_asg, exS_augN, exS_expr, exS_ret, exS_ife, exB_nil', exB_cons', bind_ok', stm_ok', next_nx', next_rt', bind_exc', stm_exc', next_exc', ifO_t, ifO_f, opt_some, varO_some, laidV_int, laidV_bl, laidV_str, laidV_tup, laidV_lst, retO_rt, retO_nx, v_add, v_sub, v_lt, v_le, v_gt, v_ge, v_eqi, v_nei, t_bl, t_int, ofOpt_some', List.getElem?_cons_zero, List.getElem?_cons_succ, List.set_cons_zero, List.set_cons_succ, List.map_cons, List.map_nil, List.cons_append, List.nil_append, List.replicate_succ, List.replicate_zero, bindTg, setSlots, List.length_cons, List.length_nil, Nat.reduceAdd, Nat.reduceSub, Nat.reduceLT, ↓reduceIte, if_true, bf_int, bf_lent, bf_lenl, bf_lena, sub_t, sub_l, sub_a, z2, v_eqs h (okc hch) (okc (show 40 ≤ 122 by decide)), v_eqs h (okc hch) (okc (show 41 ≤ 122 by decide)), v_nes h (okc hch) (okc (show 32 ≤ 122 by decide)), e1, e4, e5, Bool.not_false, e3, sub_r _ S.top, l1, hk1, i1, hd, sl, e2]
omit hl in
theorem cut_of {p : Nat} {w rest : List Nat} (hd : s.drop p = w ++ rest) (hp : p ≤ s.length) : cut s (some (p : Int)) (some ((p + w.length : Nat) : Int)) = w := by
  have hlen := congrArg List.length hd
  simp only [List.length_drop, List.length_append] at hlen
  unfold cut clip
  dsimp only
  rw [if_neg (by omega), if_neg (by omega)]
  simp only [Int.toNat_natCast]
  rw [Nat.min_eq_left hp, Nat.min_eq_left (by omega), hd]
  have : p + w.length - p = w.length := by omega
  rw [this, List.take_left]
omit hl in
theorem drop_more {p : Nat} {w rest : List Nat} (hd : s.drop p = w ++ rest) : s.drop (p + w.length) = rest := by
  have := congrArg (List.drop w.length) hd
  rw [List.drop_drop, List.drop_left] at this
  exact this
omit hl in
theorem head_at {p c : Nat} {r : List Nat} (hd : s.drop p = c :: r) : s[p]? = some c := by
  have : (s.drop p)[0]? = some c := by rw [hd]; rfl
  rwa [List.getElem?_drop, Nat.add_zero] at this
omit hl in
/-- a word behind a place -/
theorem span (l : List Nat) : ∃ w rest, l = w ++ rest ∧ (∀ c ∈ w, delim c = false) ∧ RestOk rest := by
  induction l with
  | nil => exact ⟨[], [], rfl, (fun c hc => by cases hc), .inl rfl⟩
  | cons a l ih =>
    cases e : delim a with
    | true => exact ⟨[], a :: l, rfl, (fun c hc => by cases hc), .inr ⟨a, l, rfl, e⟩⟩
    | false =>
      obtain ⟨w, rest, h1, h2, h3⟩ := ih
      refine ⟨a :: w, rest, by rw [h1]; rfl, fun c hc => ?_, h3⟩
      rcases List.mem_cons.mp hc with rfl | hc
      · exact e
      · exact h2 c hc
def rowsOf (st : List (Nat × List Val)) : List (List Val) := (st.map (·.2)).reverse
omit hl in
theorem rowsOf_app (st : List (Nat × List Val)) (q : Nat) (i : List Val) : rowsOf (st ++ [(q, i)]) = i :: rowsOf st := by simp [rowsOf]
omit hl in
theorem delim_cases {c : Nat} (h : delim c = true) : c = 40 ∨ c = 41 ∨ c = 32 := by simpa [delim] using h
theorem loopR (B : Tab T) (d : Nat) (hs : ∀ c ∈ s, c ≤ 122) : ∀ (m : Nat) (p : Nat) (rest : List Nat), rest.length ≤ m → s.drop p = rest → p ≤ s.length → ∀ (st : List (Nat × List Val)) (q1 : Nat) (i1 : List Val) (h : Heap) (a b c : Option Val),
    Stk h r0 (st ++ [(q1, i1)]) → st.length ≤ 20 → (∀ q ∈ st ++ [(q1, i1)], q.2.length + rest.length ≤ 8000000) →
    match run atom1 rest [] (rowsOf (st ++ [(q1, i1)])) with
    | some r' => ∃ a' b' c' h' st', Lp (T := T) (callF T (d + 2)) s ln r0 p a b c h = .nx [some (.str s), some (.int ln), some (.ref r0), some (.int (s.length : Int)), a', b', c'] h' ∧ Stk h' r0 st' ∧ rowsOf st' = r'
    | none => ∃ ρ h', Lp (T := T) (callF T (d + 2)) s ln r0 p a b c h = .exc ⟨2, [(0, .int ln)]⟩ ρ h' := by
  have lin : line = 16777216 := rfl
  intro m
  induction m with
  | zero =>
    intro p rest hm hd hp st q1 i1 h a b c S h20 hb
    have : rest = [] := List.length_eq_zero_iff.mp (by omega)
    subst this
    have hp2 : p = s.length := by
      have := congrArg List.length hd
      simp at this
      omega
    rw [rowsOf_app]
    simp only [run, flush, if_true, Option.map_some]
    subst hp2
    refine ⟨a, b, c, h, st ++ [(q1, i1)], whl_done (v := .bl false) (h1 := h) T _ _ h ?_ rfl, S, rowsOf_app _ _ _⟩
    have dd : decide ((s.length : Int) < (s.length : Int)) = false := decide_eq_false (by omega)
    simp only [wC, evE_var, evE_cst, evE_tup, evE_lst, evE_op, evE_neg, evE_not, evE_and, evE_or, evE_ite, evE_sub, evE_slice, evE_call, evE_callK, evE_bm, evE_bf, evE_isi, evEs_nil, evEs_cons, exS_asg, exS_augN, exS_expr, exS_ret, exS_ife, exB_nil', exB_cons', bind_ok', stm_ok', next_nx', next_rt', bind_exc', stm_exc', next_exc', ifO_t, ifO_f, opt_some, varO_some, laidV_int, laidV_bl, laidV_str, laidV_tup, laidV_lst, retO_rt, retO_nx, v_add, v_sub, v_lt, v_le, v_gt, v_ge, v_eqi, v_nei, t_bl, t_int, ofOpt_some', List.getElem?_cons_zero, List.getElem?_cons_succ, List.set_cons_zero, List.set_cons_succ, List.map_cons, List.map_nil, List.cons_append, List.nil_append, List.replicate_succ, List.replicate_zero, bindTg, setSlots, List.length_cons, List.length_nil, Nat.reduceAdd, Nat.reduceSub, Nat.reduceLT, ↓reduceIte, if_true, bf_int, bf_lent, bf_lenl, bf_lena, sub_t, sub_l, sub_a, bf_lens h hl, dd]
  | succ m ih =>
    intro p rest hm hd hp st q1 i1 h a b c S h20 hb
    cases rest with
    | nil =>
      have hp2 : p = s.length := by
        have := congrArg List.length hd
        simp at this
        omega
      rw [rowsOf_app]
      simp only [run, flush, if_true, Option.map_some]
      subst hp2
      refine ⟨a, b, c, h, st ++ [(q1, i1)], whl_done (v := .bl false) (h1 := h) T _ _ h ?_ rfl, S, rowsOf_app _ _ _⟩
      have dd : decide ((s.length : Int) < (s.length : Int)) = false := decide_eq_false (by omega)
      simp only [wC, evE_var, evE_cst, evE_tup, evE_lst, evE_op, evE_neg, evE_not, evE_and, evE_or, evE_ite, evE_sub, evE_slice, evE_call, evE_callK, evE_bm, evE_bf, evE_isi, evEs_nil, evEs_cons, exS_asg, exS_augN, exS_expr, exS_ret, exS_ife, exB_nil', exB_cons', bind_ok', stm_ok', next_nx', next_rt', bind_exc', stm_exc', next_exc', ifO_t, ifO_f, opt_some, varO_some, laidV_int, laidV_bl, laidV_str, laidV_tup, laidV_lst, retO_rt, retO_nx, v_add, v_sub, v_lt, v_le, v_gt, v_ge, v_eqi, v_nei, t_bl, t_int, ofOpt_some', List.getElem?_cons_zero, List.getElem?_cons_succ, List.set_cons_zero, List.set_cons_succ, List.map_cons, List.map_nil, List.cons_append, List.nil_append, List.replicate_succ, List.replicate_zero, bindTg, setSlots, List.length_cons, List.length_nil, Nat.reduceAdd, Nat.reduceSub, Nat.reduceLT, ↓reduceIte, if_true, bf_int, bf_lent, bf_lenl, bf_lena, sub_t, sub_l, sub_a, bf_lens h hl, dd]
    | cons ch r =>
      have hat := head_at s hd
      have hlt := (List.getElem?_eq_some_iff.mp hat).1
      have hdr : s.drop (p + 1) = r := drop_more s (w := [ch]) hd
      have hr : r.length ≤ m := by simpa using hm
      cases ed : delim ch with
      | true =>
        rcases delim_cases ed with rfl | rfl | rfl
        · -- an opening
          by_cases hd20 : 20 < (st ++ [(q1, i1)]).length
          · have e : run atom1 (40 :: r) [] (rowsOf (st ++ [(q1, i1)])) = none := by
              rw [rowsOf_app]
              conv => lhs; unfold run
              rw [if_pos ed]
              have : 20 < (rowsOf st).length + 1 := by simp [rowsOf] at hd20 ⊢; omega
              simp [flush, sgn, this]
            rw [e]
            obtain ⟨ρ, e⟩ := st_openF (T := T) (callF T (d + 2)) s ln r0 hl B hat S hd20 a b c
            exact ⟨ρ, h, e⟩
          · have e : run atom1 (40 :: r) [] (rowsOf (st ++ [(q1, i1)])) = run atom1 r [] (rowsOf ((st ++ [(q1, i1)]) ++ [(h.n, [])])) := by
              rw [rowsOf_app, rowsOf_app, rowsOf_app]
              conv => lhs; unfold run
              rw [if_pos ed]
              have : ¬ 20 < (rowsOf st).length + 1 := by simp [rowsOf] at hd20 ⊢; omega
              simp [flush, sgn, this]
            rw [e]
            have e2 := st_open (T := T) (callF T (d + 2)) s ln r0 hl hat S (by omega) a b c
            have := ih (p + 1) r hr hdr hlt (st ++ [(q1, i1)]) h.n [] _ (some (.str [40])) b c S.opn (by omega) (fun q hq => by
              rcases List.mem_append.mp hq with hq | hq
              · have := hb q hq; simp at this; omega
              · cases List.mem_singleton.mp hq
                have := hb (q1, i1) (by simp)
                simp at this ⊢; omega)
            simp only [e2]
            exact this
        · -- a closing
          rcases List.eq_nil_or_concat st with rfl | ⟨st2, ⟨q2, i2⟩, rfl⟩
          · have e : run atom1 (41 :: r) [] (rowsOf ([] ++ [(q1, i1)])) = none := by
              rw [rowsOf_app]
              conv => lhs; unfold run
              rw [if_pos ed]
              simp [flush, sgn, rowsOf]
            rw [e]
            obtain ⟨ρ, e⟩ := st_closeF (T := T) (callF T (d + 2)) s ln r0 hl B hat S a b c
            exact ⟨ρ, h, e⟩
          · rw [List.concat_eq_append] at S h20 hb ⊢
            have e : run atom1 (41 :: r) [] (rowsOf (st2 ++ [(q2, i2)] ++ [(q1, i1)])) = run atom1 r [] (rowsOf (st2 ++ [(q2, i2 ++ [.tup i1])])) := by
              rw [rowsOf_app, rowsOf_app, rowsOf_app]
              conv => lhs; unfold run
              rw [if_pos ed]
              simp [flush, sgn]
            rw [e]
            have l2 := hb (q2, i2) (by simp)
            obtain ⟨b', h', e2, S'⟩ := st_close (T := T) (callF T (d + 2)) s ln r0 hl hat S (by simp at l2; omega) a b c
            have := ih (p + 1) r hr hdr hlt st2 q2 (i2 ++ [.tup i1]) h' (some (.str [41])) b' c S' (by simp at h20; omega) (fun q hq => by
              rcases List.mem_append.mp hq with hq | hq
              · have := hb q (by simp [hq]); simp at this; omega
              · cases List.mem_singleton.mp hq
                simp at l2 ⊢; omega)
            simp only [e2]
            exact this
        · -- a blank
          have e : run atom1 (32 :: r) [] (rowsOf (st ++ [(q1, i1)])) = run atom1 r [] (rowsOf (st ++ [(q1, i1)])) := by
            rw [rowsOf_app]
            conv => lhs; unfold run
            rw [if_pos ed]
            simp [flush, sgn]
          rw [e]
          have e2 := st_space (T := T) (callF T (d + 2)) s ln r0 hl hat a b c h
          have := ih (p + 1) r hr hdr hlt st q1 i1 h (some (.str [32])) b c S h20 (fun q hq => by
            have := hb q hq; simp at this; omega)
          simp only [e2]
          exact this
      | false =>
        obtain ⟨w, rest, h1, h2, h3⟩ := span (ch :: r)
        have wne : w ≠ [] := by
          intro z
          subst z
          rcases h3 with rfl | ⟨c', r', rfl, hc'⟩
          · cases h1
          · cases h1; rw [ed] at hc'; cases hc'
        have hd2 : s.drop p = w ++ rest := by rw [hd, h1]
        have e3 := we B (d + 1) h s hl w rest p hd2 h2 h3
        have hcut := cut_of s hd2 hp
        have wl : w.length ≤ s.length := by
          have := congrArg List.length hd2
          simp at this
          omega
        have wc : ∀ c ∈ w, c ≤ 122 := fun c hc => hs c (List.mem_of_mem_drop (by rw [hd2]; exact List.mem_append_left _ hc))
        have e2 := atomR B d h w ln (by omega) wc
        have hrest : rest.length ≤ m := by
          have := congrArg List.length h1
          have : 0 < w.length := List.length_pos_iff.mpr wne
          simp at *
          omega
        have tot : rest.length + 1 ≤ (ch :: r).length := by
          have := congrArg List.length h1
          have : 0 < w.length := List.length_pos_iff.mpr wne
          simp at *
          omega
        rw [h1, rowsOf_app, run_atom atom1 h2 wne h3]
        cases ea : atom1 w with
        | none =>
          rw [ea] at e2
          rw [← hcut] at e2
          obtain ⟨ρ, e⟩ := st_atomF (T := T) (callF T (d + 2)) s ln r0 hl (n := p + w.length) hat ed (hs ch (List.mem_of_getElem? hat)) S e3 e2 a b c
          exact ⟨ρ, h, e⟩
        | some v =>
          rw [ea] at e2
          rw [← hcut] at e2
          have l1 := hb (q1, i1) (by simp)
          obtain ⟨a', c', e⟩ := st_atom (T := T) (callF T (d + 2)) s ln r0 hl (n := p + w.length) hat ed (hs ch (List.mem_of_getElem? hat)) S (by simp at l1; omega) e3 e2 a b c
          have := ih (p + w.length) rest hrest (drop_more s hd2) (by
            have := congrArg List.length hd2
            simp at this
            omega) st q1 (i1 ++ [v]) _ a' b c' (S.put v) h20 (fun q hq => by
            rcases List.mem_append.mp hq with hq | hq
            · have := hb q (by simp [hq]); omega
            · cases List.mem_singleton.mp hq
              simp at l1 tot ⊢; omega)
          rw [rowsOf_app] at this
          simp only [e, Option.bind_some]
          exact this
end
end
end K71

/-! K71: reading a text, and the second reader -/
namespace K71
open MP
theorem txt_okG : ∀ (d : Nat) (v : Val), G d v → ∀ c ∈ txt v, c ≤ 122 := by
  intro d v g
  induction g with
  | non => unfold txt; exact fun c hc => by cases List.mem_singleton.mp hc; decide
  | bl _ b => unfold txt; cases b <;> exact fun c hc => by simp at hc; omega
  | int _ i h =>
    unfold txt intText
    have := (digits_all i.natAbs).2.1
    split
    · intro c hc
      rcases List.mem_cons.mp hc with rfl | hc
      · decide
      · have := this c hc; omega
    · intro c hc
      have := this c hc; omega
  | str _ s h => unfold txt; exact fun c hc => (h.2 c hc).2
  | tup _ xs _ ih =>
    rw [txt_tup, txts_join]
    have key : ∀ ts : List (List Nat), (∀ t ∈ ts, ∀ c ∈ t, c ≤ 122) → ∀ c ∈ joinT [32] ts, c ≤ 122 := by
      intro ts
      induction ts with
      | nil => intro _ c hc; cases hc
      | cons t r ihr =>
        intro ht c hc
        cases r with
        | nil => exact ht t (by simp) c hc
        | cons u r =>
          have : c ∈ t ++ [32] ++ joinT [32] (u :: r) := hc
          simp only [List.mem_append] at this
          rcases this with (this | this) | this
          · exact ht t (by simp) c this
          · cases List.mem_singleton.mp this; decide
          · exact ihr (fun t ht' => ht t (List.mem_cons_of_mem _ ht')) c this
    intro c hc
    rcases List.mem_cons.mp hc with rfl | hc
    · decide
    · rcases List.mem_append.mp hc with hc | hc
      · exact key _ (fun t ht c hc => by
          obtain ⟨x, hx, rfl⟩ := List.mem_map.mp ht
          exact ih x hx c hc) c hc
      · cases List.mem_singleton.mp hc; decide
section
variable {T : Tb} (B : Tab T)
include B
theorem itemsR (m : Nat) (s : List Nat) (ln : Int) (hl : s.length ≤ 4000000) (hs : ∀ c ∈ s, c ≤ 122) (h : Heap) :
    (∃ xs q h', run atom1 s [] [[]] = some [xs] ∧ callF T (m + 3) 4 [.str s, .int ln] h = .ok (.ref q) h' ∧ h'.c q = some (.lst xs)) ∨
    ((∀ xs, run atom1 s [] [[]] ≠ some [xs]) ∧ ∃ h', callF T (m + 3) 4 [.str s, .int ln] h = .exc ⟨2, [(0, .int ln)]⟩ h') := by
  have lin : line = 16777216 := rfl
  have hl' : s.length ≤ line := by omega
  have e0 : newL true [] h = .ok (.ref h.n) (h.push (.lst [])) := newL_n (by decide)
  have e1 : newL true [.ref h.n] (h.push (.lst [])) = .ok (.ref (h.n + 1)) ((h.push (.lst [])).push (.lst [.ref h.n])) := newL_n (by show 1 ≤ line; decide)
  have S : Stk ((h.push (.lst [])).push (.lst [.ref h.n])) (h.n + 1) ([] ++ [(h.n, [])]) := by
    refine ⟨push_at (h.push (.lst [])) _, fun p hp => ?_, by simp, fun q hq => ?_⟩
    · cases List.mem_singleton.mp hp
      exact ((Fr.push (h.push (.lst [])) (.lst [.ref h.n])).2 h.n (Nat.lt_succ_self _)).trans (push_at h _)
    · show q < h.n + 1 + 1
      simp at hq
      omega
  have L := loopR (T := T) s ln (h.n + 1) hl' B m hs s.length 0 s (Nat.le_refl _) rfl (Nat.zero_le _) [] h.n [] _ none none none S (by decide) (fun q hq => by
    cases List.mem_singleton.mp hq
    show 0 + s.length ≤ _
    omega)
  have er : rowsOf ([] ++ [(h.n, ([] : List Val))]) = [[]] := rfl
  rw [er] at L
  have rs : ∀ (x : Exc) (ρ : Env) (h : Heap), retO (.exc x ρ h) = .exc x h := fun _ _ _ => retO_exc _ _ _
  rw [callF_n T (m + 2) 4 _ h _ B.f4 (B.fz 4) rfl]
  cases er : run atom1 s [] [[]] with
  | none =>
    rw [er] at L
    obtain ⟨ρ, h', e⟩ := L
    refine .inr ⟨(fun xs z => by cases z), h', ?_⟩
    have e : whileL (wStep T (callF T (m + 2)) wC wB) [some (.str s), some (.int ln), some (.ref (h.n + 1)), some (.int 0), none, none, none] ((h.push (.lst [])).push (.lst [.ref h.n])) = _ := e
    unfold wC wB at e
    have e := whl_of e
    simp only [b4, evE_var, evE_cst, evE_tup, evE_lst, evE_op, evE_neg, evE_not, evE_and, evE_or, evE_ite, evE_sub, evE_slice, evE_call, evE_callK, evE_bm, evE_bf, evE_isi, evEs_nil, evEs_cons, exS_asg, exS_augN, exS_expr, exS_ret, exS_ife, exB_nil', exB_cons', bind_ok', stm_ok', next_nx', next_rt', bind_exc', stm_exc', next_exc', ifO_t, ifO_f, opt_some, varO_some, laidV_int, laidV_bl, laidV_str, laidV_tup, laidV_lst, retO_rt, retO_nx, v_add, v_sub, v_lt, v_le, v_gt, v_ge, v_eqi, v_nei, t_bl, t_int, ofOpt_some', List.getElem?_cons_zero, List.getElem?_cons_succ, List.set_cons_zero, List.set_cons_succ, List.map_cons, List.map_nil, List.cons_append, List.nil_append, List.replicate_succ, List.replicate_zero, bindTg, setSlots, List.length_cons, List.length_nil, Nat.reduceAdd, Nat.reduceSub, Nat.reduceLT, ↓reduceIte, if_true, bf_int, bf_lent, bf_lenl, bf_lena, sub_t, sub_l, sub_a, e0, e1, e, rs]
  | some r' =>
    rw [er] at L
    obtain ⟨a', b', c', h', st, e, S', hr⟩ := L
    have e : whileL (wStep T (callF T (m + 2)) wC wB) [some (.str s), some (.int ln), some (.ref (h.n + 1)), some (.int 0), none, none, none] ((h.push (.lst [])).push (.lst [.ref h.n])) = _ := e
    unfold wC wB at e
    have e := whl_of e
    have bl := bf_lenr h' S'.top
    by_cases hst : st.length = 1
    · obtain ⟨⟨q, xs⟩, rfl⟩ := List.length_eq_one_iff.mp hst
      refine .inl ⟨xs, q, h', ?_, ?_, S'.rows (q, xs) (by simp)⟩
      · rw [← hr]; rfl
      · have top : h'.c (h.n + 1) = some (.lst [.ref q]) := S'.top
        have bl := bf_lenr h' top
        simp only [List.length_cons, List.length_nil] at bl
        have d1 : (((1 : Nat) : Int) == 1) = true := rfl
        have l0 : at_ [Val.ref q] 0 = some (.ref q) := at_nat [Val.ref q] 0
        simp only [b4, evE_var, evE_cst, evE_tup, evE_lst, evE_op, evE_neg, evE_not, evE_and, evE_or, evE_ite, evE_sub, evE_slice, evE_call, evE_callK, evE_bm, evE_bf, evE_isi, evEs_nil, evEs_cons, exS_asg, exS_augN, exS_expr, exS_ret, exS_ife, exB_nil', exB_cons', bind_ok', stm_ok', next_nx', next_rt', bind_exc', stm_exc', next_exc', ifO_t, ifO_f, opt_some, varO_some, laidV_int, laidV_bl, laidV_str, laidV_tup, laidV_lst, retO_rt, retO_nx, v_add, v_sub, v_lt, v_le, v_gt, v_ge, v_eqi, v_nei, t_bl, t_int, ofOpt_some', List.getElem?_cons_zero, List.getElem?_cons_succ, List.set_cons_zero, List.set_cons_succ, List.map_cons, List.map_nil, List.cons_append, List.nil_append, List.replicate_succ, List.replicate_zero, bindTg, setSlots, List.length_cons, List.length_nil, Nat.reduceAdd, Nat.reduceSub, Nat.reduceLT, ↓reduceIte, if_true, bf_int, bf_lent, bf_lenl, bf_lena, sub_t, sub_l, sub_a, e0, e1, e, bl, d1, Bool.not_true, sub_r _ top, l0]
    · refine .inr ⟨fun xs z => ?_, h', ?_⟩
      · cases z
        have := congrArg List.length hr
        simp [rowsOf] at this
        exact hst this
      · have d1 : ((st.length : Int) == 1) = false := by rw [beq_eq_false_iff_ne]; omega
        rw [List.length_map] at bl
        simp only [b4, evE_var, evE_cst, evE_tup, evE_lst, evE_op, evE_neg, evE_not, evE_and, evE_or, evE_ite, evE_sub, evE_slice, evE_call, evE_callK, evE_bm, evE_bf, evE_isi, evEs_nil, evEs_cons, exS_asg, exS_augN, exS_expr, exS_ret, exS_ife, exB_nil', exB_cons', bind_ok', stm_ok', next_nx', next_rt', bind_exc', stm_exc', next_exc', ifO_t, ifO_f, opt_some, varO_some, laidV_int, laidV_bl, laidV_str, laidV_tup, laidV_lst, retO_rt, retO_nx, v_add, v_sub, v_lt, v_le, v_gt, v_ge, v_eqi, v_nei, t_bl, t_int, ofOpt_some', List.getElem?_cons_zero, List.getElem?_cons_succ, List.set_cons_zero, List.set_cons_succ, List.map_cons, List.map_nil, List.cons_append, List.nil_append, List.replicate_succ, List.replicate_zero, bindTg, setSlots, List.length_cons, List.length_nil, Nat.reduceAdd, Nat.reduceSub, Nat.reduceLT, ↓reduceIte, if_true, bf_int, bf_lent, bf_lenl, bf_lena, sub_t, sub_l, sub_a, e0, e1, e, bl, d1, Bool.not_false, exS_raise _ _ _ _ B.ex, raiseL_int, rs]
theorem readR (m : Nat) (s : List Nat) (ln : Int) (hl : s.length ≤ 4000000) (hs : ∀ c ∈ s, c ≤ 122) (h : Heap) :
    (∃ v h', run atom1 s [] [[]] = some [[v]] ∧ txt v = s ∧ callF T (m + 22) 5 [.str s, .int ln] h = .ok v h') ∨
    ((∀ v, ¬ (run atom1 s [] [[]] = some [[v]] ∧ txt v = s)) ∧ ∃ h', callF T (m + 22) 5 [.str s, .int ln] h = .exc ⟨2, [(0, .int ln)]⟩ h') := by
  have rs : ∀ (x : Exc) (ρ : Env) (h : Heap), retO (.exc x ρ h) = .exc x h := fun _ _ _ => retO_exc _ _ _
  rw [callF_n T (m + 21) 5 _ h _ B.f5 (B.fz 5) rfl]
  rcases itemsR B (m + 18) s ln hl hs h with ⟨xs, q, h', er, e, hq⟩ | ⟨no, h', e⟩
  · have bl := bf_lenr h' hq
    by_cases hx : xs.length = 1
    · obtain ⟨v, rfl⟩ := List.length_eq_one_iff.mp hx
      obtain ⟨gv, sz⟩ := run_one er
      have g := gv v (by simp)
      simp only [siz] at sz
      have ew := write B m 20 v g (by omega) h'
      have ew : callF T (m + 21) 0 [v] h' = .ok (.str (txt v)) h' := by rwa [show 20 + m + 1 = m + 21 by omega] at ew
      have l0 : at_ [v] 0 = some v := at_nat [v] 0
      have d1 : (((1 : Nat) : Int) == 1) = true := rfl
      simp only [List.length_cons, List.length_nil] at bl
      have ot := okT_of (txt_okG 20 v g)
      have os := okT_of hs
      by_cases et : txt v = s
      · refine .inl ⟨v, h', er, et, ?_⟩
        have ee : (txt v == s) = true := by rw [et]; exact beq_self_eq_true s
        simp only [b5, evE_var, evE_cst, evE_tup, evE_lst, evE_op, evE_neg, evE_not, evE_and, evE_or, evE_ite, evE_sub, evE_slice, evE_call, evE_callK, evE_bm, evE_bf, evE_isi, evEs_nil, evEs_cons, exS_asg, exS_augN, exS_expr, exS_ret, exS_ife, exB_nil', exB_cons', bind_ok', stm_ok', next_nx', next_rt', bind_exc', stm_exc', next_exc', ifO_t, ifO_f, opt_some, varO_some, laidV_int, laidV_bl, laidV_str, laidV_tup, laidV_lst, retO_rt, retO_nx, v_add, v_sub, v_lt, v_le, v_gt, v_ge, v_eqi, v_nei, t_bl, t_int, ofOpt_some', List.getElem?_cons_zero, List.getElem?_cons_succ, List.set_cons_zero, List.set_cons_succ, List.map_cons, List.map_nil, List.cons_append, List.nil_append, List.replicate_succ, List.replicate_zero, bindTg, setSlots, List.length_cons, List.length_nil, Nat.reduceAdd, Nat.reduceSub, Nat.reduceLT, ↓reduceIte, if_true, bf_int, bf_lent, bf_lenl, bf_lena, sub_t, sub_l, sub_a, e, bl, d1, Bool.not_true, sub_r _ hq, l0, ew, v_nes h' ot os, ee]
      · have ee : (txt v == s) = false := by rw [beq_eq_false_iff_ne]; exact et
        refine .inr ⟨fun w ⟨z1, z2⟩ => ?_, h', ?_⟩
        · rw [er] at z1
          cases z1
          exact et z2
        · simp only [b5, evE_var, evE_cst, evE_tup, evE_lst, evE_op, evE_neg, evE_not, evE_and, evE_or, evE_ite, evE_sub, evE_slice, evE_call, evE_callK, evE_bm, evE_bf, evE_isi, evEs_nil, evEs_cons, exS_asg, exS_augN, exS_expr, exS_ret, exS_ife, exB_nil', exB_cons', bind_ok', stm_ok', next_nx', next_rt', bind_exc', stm_exc', next_exc', ifO_t, ifO_f, opt_some, varO_some, laidV_int, laidV_bl, laidV_str, laidV_tup, laidV_lst, retO_rt, retO_nx, v_add, v_sub, v_lt, v_le, v_gt, v_ge, v_eqi, v_nei, t_bl, t_int, ofOpt_some', List.getElem?_cons_zero, List.getElem?_cons_succ, List.set_cons_zero, List.set_cons_succ, List.map_cons, List.map_nil, List.cons_append, List.nil_append, List.replicate_succ, List.replicate_zero, bindTg, setSlots, List.length_cons, List.length_nil, Nat.reduceAdd, Nat.reduceSub, Nat.reduceLT, ↓reduceIte, if_true, bf_int, bf_lent, bf_lenl, bf_lena, sub_t, sub_l, sub_a, e, bl, d1, Bool.not_true, sub_r _ hq, l0, ew, v_nes h' ot os, ee, Bool.not_false, exS_raise _ _ _ _ B.ex, raiseL_int, rs]
    · have d1 : ((xs.length : Int) == 1) = false := by rw [beq_eq_false_iff_ne]; omega
      refine .inr ⟨fun w ⟨z1, z2⟩ => ?_, h', ?_⟩
      · rw [er] at z1
        cases z1
        exact hx rfl
      · simp only [b5, evE_var, evE_cst, evE_tup, evE_lst, evE_op, evE_neg, evE_not, evE_and, evE_or, evE_ite, evE_sub, evE_slice, evE_call, evE_callK, evE_bm, evE_bf, evE_isi, evEs_nil, evEs_cons, exS_asg, exS_augN, exS_expr, exS_ret, exS_ife, exB_nil', exB_cons', bind_ok', stm_ok', next_nx', next_rt', bind_exc', stm_exc', next_exc', ifO_t, ifO_f, opt_some, varO_some, laidV_int, laidV_bl, laidV_str, laidV_tup, laidV_lst, retO_rt, retO_nx, v_add, v_sub, v_lt, v_le, v_gt, v_ge, v_eqi, v_nei, t_bl, t_int, ofOpt_some', List.getElem?_cons_zero, List.getElem?_cons_succ, List.set_cons_zero, List.set_cons_succ, List.map_cons, List.map_nil, List.cons_append, List.nil_append, List.replicate_succ, List.replicate_zero, bindTg, setSlots, List.length_cons, List.length_nil, Nat.reduceAdd, Nat.reduceSub, Nat.reduceLT, ↓reduceIte, if_true, bf_int, bf_lent, bf_lenl, bf_lena, sub_t, sub_l, sub_a, e, bl, d1, Bool.not_false, exS_raise _ _ _ _ B.ex, raiseL_int, rs]
  · refine .inr ⟨fun w ⟨z1, z2⟩ => no [w] z1, h', ?_⟩
    simp only [b5, evE_var, evE_cst, evE_tup, evE_lst, evE_op, evE_neg, evE_not, evE_and, evE_or, evE_ite, evE_sub, evE_slice, evE_call, evE_callK, evE_bm, evE_bf, evE_isi, evEs_nil, evEs_cons, exS_asg, exS_augN, exS_expr, exS_ret, exS_ife, exB_nil', exB_cons', bind_ok', stm_ok', next_nx', next_rt', bind_exc', stm_exc', next_exc', ifO_t, ifO_f, opt_some, varO_some, laidV_int, laidV_bl, laidV_str, laidV_tup, laidV_lst, retO_rt, retO_nx, v_add, v_sub, v_lt, v_le, v_gt, v_ge, v_eqi, v_nei, t_bl, t_int, ofOpt_some', List.getElem?_cons_zero, List.getElem?_cons_succ, List.set_cons_zero, List.set_cons_succ, List.map_cons, List.map_nil, List.cons_append, List.nil_append, List.replicate_succ, List.replicate_zero, bindTg, setSlots, List.length_cons, List.length_nil, Nat.reduceAdd, Nat.reduceSub, Nat.reduceLT, ↓reduceIte, if_true, bf_int, bf_lent, bf_lenl, bf_lena, sub_t, sub_l, sub_a, e, rs]
end
end K71

/-! K71: the second reader's words -/
namespace K71
open MP
def sgnL (w : List Nat) : List Val := w.map fun c => .str [c]
theorem compL_fil {G : Heap → Prop} {step : Val → Heap → Out (List Val)} {p : Nat → Bool} {h : Heap} (hG : G h) : ∀ {w : List Nat}, (∀ c ∈ w, step (.str [c]) h = .ok (if p c = true then [.str [c]] else []) h) → compL G step (sgnL w) h = .ok (sgnL (w.filter p)) h
  | [], _ => rfl
  | c :: r, hs => by
    show compL G step (.str [c] :: sgnL r) h = _
    unfold compL
    rw [hs c List.mem_cons_self]
    dsimp only
    rw [if_pos hG, compL_fil hG fun y hy => hs y (List.mem_cons_of_mem _ hy)]
    by_cases e : p c = true
    · simp [e, sgnL]
    · simp [e, sgnL]
theorem walk_str (w : List Nat) (h : Heap) : walkV h 0 [.str w] = some (sgnL w) := rfl
theorem fil_all (w s : List Nat) : decide ((w.length : Int) ≤ ((w.filter s.contains).length : Int)) = w.all s.contains := by
  rw [Bool.eq_iff_iff, decide_eq_true_eq, List.all_eq_true, ← List.filter_eq_self]
  have := List.length_filter_le s.contains w
  constructor
  · intro q
    exact List.filter_sublist.eq_of_length (by omega)
  · intro q
    rw [q]
    omega
theorem fil_eq (w s : List Nat) : (((w.filter s.contains).length : Int) == (w.length : Int)) = w.all s.contains := by
  rw [← fil_all, Bool.eq_iff_iff, beq_iff_eq, decide_eq_true_eq]
  have := List.length_filter_le s.contains w
  omega
theorem fil_lt (w s : List Nat) : decide (((w.filter s.contains).length : Int) < (w.length : Int)) = !(w.all s.contains) := by
  rw [← fil_all]
  rw [Bool.eq_iff_iff]
  simp only [Bool.not_eq_true', decide_eq_true_eq, decide_eq_false_iff_not]
  omega
theorem fil_len (w s : List Nat) : (sgnL (w.filter s.contains)).length = (w.filter s.contains).length := List.length_map ..
theorem find_ten (h : Heap) : ∀ c, 48 ≤ c → c ≤ 57 → bmV h .find (.str [48, 49, 50, 51, 52, 53, 54, 55, 56, 57]) [.str [c]] = .ok (.int ((c - 48 : Nat) : Int)) h := by
  intro c h1 h2
  obtain ⟨k, rfl⟩ : ∃ k, c = 48 + k := ⟨c - 48, by omega⟩
  have hk : k < 10 := by omega
  have e : 48 + k - 48 = k := by omega
  rw [e]
  have : ∀ k, k < 10 → ([48, 49, 50, 51, 52, 53, 54, 55, 56, 57] : List Nat).findIdx? (· == 48 + k) = some k := by decide
  simp only [bmV, this k hk]
section
variable {T : Tb} (B : Tab T)
include B
omit B in
theorem comp_in (F : Fns) (h : Heap) (s w : List Nat) (hw : w.length ≤ line) (k : Nat) (hk : k < 5) (a b c d e : Option Val) (he : [a, b, c, d, e, none][k]? = some (some (.str w))) :
    evE T F (.comp false (.var 5) (.name 5) 0 [(.var k)] [(.op .isin (.var 5) (.cst (.str s)))] [5]) [a, b, c, d, e, none] h = .ok (.lst (sgnL (w.filter s.contains))) h := by
  rw [evE_comp' _ _ _ _ (by decide)]
  simp only [evEs_cons, evEs_nil, evE_var, he, varO_some, bind_ok', walk_str, opt_some]
  rw [compL_fil (p := s.contains) stays_str fun x hm => ?_]
  · simp only [compO_ok]
    exact newL_v (by rw [fil_len]; exact Nat.le_trans (List.length_filter_le _ _) hw)
  · unfold cTurn
    have e1 : wipeS [a, b, c, d, e, none] [5] = [a, b, c, d, e, none] := rfl
    rw [e1]
    simp only [evE_var, evE_cst, evE_tup, evE_lst, evE_op, evE_neg, evE_not, evE_and, evE_or, evE_ite, evE_sub, evE_slice, evE_call, evE_callK, evE_bm, evE_bf, evE_isi, evEs_nil, evEs_cons, exS_asg, exS_augN, exS_expr, exS_ret, exS_ife, exB_nil', exB_cons', bind_ok', stm_ok', next_nx', next_rt', bind_exc', stm_exc', next_exc', ifO_t, ifO_f, opt_some, varO_some, laidV_int, laidV_bl, laidV_str, laidV_tup, laidV_lst, retO_rt, retO_nx, v_add, v_sub, v_lt, v_le, v_gt, v_ge, v_eqi, v_nei, t_bl, t_int, ofOpt_some', List.getElem?_cons_zero, List.getElem?_cons_succ, List.set_cons_zero, List.set_cons_succ, List.map_cons, List.map_nil, List.cons_append, List.nil_append, List.replicate_succ, List.replicate_zero, bindTg, setSlots, List.length_cons, List.length_nil, Nat.reduceAdd, Nat.reduceSub, Nat.reduceLT, ↓reduceIte, if_true, bf_int, bf_lent, bf_lenl, bf_lena, sub_t, sub_l, sub_a, v_ins]
    cases s.contains x <;> rfl
omit B in
theorem val_loop (F : Fns) (h h0 : Heap) (ws : List Nat) (a b c d : Option Val) : ∀ (w : List Nat) (v : Nat) (k : Option Val), (∀ c ∈ w, 48 ≤ c ∧ c ≤ 57) → ∃ k', forL (fun h' => stays h0 h' [.str ws]) (fun v ρ h => opt (bindTg ρ (.name 5) v) (fun ρ' => exB T F [.asg (.name 4) (.op .add (.op .mul (.var 4) (.cst (.int 10))) (.bm (.cst (.str [48, 49, 50, 51, 52, 53, 54, 55, 56, 57])) .find [(.var 5)]))] ρ' h) .bad) (sgnL w) [a, b, c, d, some (.int (v : Int)), k] h
    = .nx [a, b, c, d, some (.int ((w.foldl (fun a c => a * 10 + (c - 48)) v : Nat) : Int)), k'] h := by
  intro w
  induction w with
  | nil => exact fun v k _ => ⟨k, rfl⟩
  | cons x r ih =>
    intro v k hw
    obtain ⟨k', e⟩ := ih (v * 10 + (x - 48)) (some (.str [x])) fun c hc => hw c (List.mem_cons_of_mem _ hc)
    refine ⟨k', ?_⟩
    have hx := hw x List.mem_cons_self
    have m1 : opV h .mul (.int (v : Int)) (.int 10) = some (.int ((v : Int) * 10)) := v_mul2 h (by decide)
    have hk : bmK h .find (.str [48, 49, 50, 51, 52, 53, 54, 55, 56, 57]) = some 2 := rfl
    show forL _ _ (.str [x] :: sgnL r) _ _ = _
    rw [forL_nx (ρ' := [a, b, c, d, some (.int ((v * 10 + (x - 48) : Nat) : Int)), some (.str [x])]) (h' := h) ?_ stays_str, e]
    · rfl
    · simp only [evE_var, evE_cst, evE_tup, evE_lst, evE_op, evE_neg, evE_not, evE_and, evE_or, evE_ite, evE_sub, evE_slice, evE_call, evE_callK, evE_bm, evE_bf, evE_isi, evEs_nil, evEs_cons, exS_asg, exS_augN, exS_expr, exS_ret, exS_ife, exB_nil', exB_cons', bind_ok', stm_ok', next_nx', next_rt', bind_exc', stm_exc', next_exc', ifO_t, ifO_f, opt_some, varO_some, laidV_int, laidV_bl, laidV_str, laidV_tup, laidV_lst, retO_rt, retO_nx, v_add, v_sub, v_lt, v_le, v_gt, v_ge, v_eqi, v_nei, t_bl, t_int, ofOpt_some', List.getElem?_cons_zero, List.getElem?_cons_succ, List.set_cons_zero, List.set_cons_succ, List.map_cons, List.map_nil, List.cons_append, List.nil_append, List.replicate_succ, List.replicate_zero, bindTg, setSlots, List.length_cons, List.length_nil, Nat.reduceAdd, Nat.reduceSub, Nat.reduceLT, ↓reduceIte, if_true, bf_int, bf_lent, bf_lenl, bf_lena, sub_t, sub_l, sub_a, m1, hk, find_ten h x hx.1 hx.2]
      congr 1
omit B in
theorem exB_app (F : Fns) : ∀ (a b : List S) (ρ : Env) (h : Heap), exB T F (a ++ b) ρ h = (exB T F a ρ h).next fun ρ h => exB T F b ρ h
  | [], b, ρ, h => by rw [exB_nil']; rfl
  | x :: a, b, ρ, h => by
    show exB T F (x :: (a ++ b)) ρ h = _
    rw [exB_cons', exB_cons']
    cases exS T F x ρ h with
    | nx ρ' h' => exact exB_app F a b ρ' h'
    | _ => rfl
omit B in
theorem tailR (F : Fns) (h : Heap) (w u : List Nat) (X : Option Val) (hl : w.length ≤ 4000000) (hw : ∀ c ∈ w, c ≤ 122) (hu : u = unsigned w) :
    exB T F (b10.drop 7) [some (.str w), X, some (.str u), none, none, none] h = .rt (if allIn u tens = false ∨ 20 < u.length then .non else
      if u.head? = some 48 ∧ w ≠ [48] then .non else if u = w then .tup [.int (digVal u)] else .tup [.int (-(digVal u : Int))]) h := by
  have lin : line = 16777216 := rfl
  have hl' : w.length ≤ line := by omega
  have lu : u.length ≤ line := by rw [hu]; exact Nat.le_trans (unsigned_len w).1 hl'
  have one : (1 ≤ line) = True := eq_true (by decide)
  have ow := okT_of hw
  have o48 : okT [48] = true := rfl
  have eb : ∀ x, (w == [x]) = decide (w = [x]) := fun x => by by_cases e : w = [x] <;> simp [e]
  have c3 := comp_in (T := T) F h tens u lu 2 (by decide) (some (.str w)) X (some (.str u)) none none rfl
  have f3 := fil_lt u tens
  have ed : b10.drop 7 = [.asg (.name 3) (.comp false (.var 5) (.name 5) 0 [(.var 2)] [(.op .isin (.var 5) (.cst (.str tens)))] [5]),
    .ife (.or (.op .lt (.bf .len true [(.var 2)]) (.cst (.int 1))) (.or (.op .gt (.bf .len true [(.var 2)]) (.cst (.int 20))) (.op .lt (.bf .len true [(.var 3)]) (.bf .len true [(.var 2)])))) [.ret (.cst (.non))] [],
    .ife (.and (.op .eq (.sub (.var 2) (.cst (.int 0))) (.cst (.str [48]))) (.op .ne (.var 0) (.cst (.str [48])))) [.ret (.cst (.non))] [],
    .asg (.name 4) (.cst (.int 0)),
    .loop (.name 5) 0 [(.var 2)] [.asg (.name 4) (.op .add (.op .mul (.var 4) (.cst (.int 10))) (.bm (.cst (.str [48, 49, 50, 51, 52, 53, 54, 55, 56, 57])) .find [(.var 5)]))],
    .ife (.bm (.var 0) .startswith [(.cst (.str [45]))]) [.ret (.tup [(.op .sub (.cst (.int 0)) (.var 4))])] [],
    .ret (.tup [(.var 4)])] := rfl
  rw [ed]
  have hal : allIn u tens = (u.all tens.contains && decide (0 < u.length)) := rfl
  cases u with
  | nil =>
    rw [if_pos (.inl rfl)]
    have d1 : decide (((([] : List Nat).length : Int)) < 1) = true := rfl
    simp only [evE_var, evE_cst, evE_tup, evE_lst, evE_op, evE_neg, evE_not, evE_and, evE_or, evE_ite, evE_sub, evE_slice, evE_call, evE_callK, evE_bm, evE_bf, evE_isi, evEs_nil, evEs_cons, exS_asg, exS_augN, exS_expr, exS_ret, exS_ife, exB_nil', exB_cons', bind_ok', stm_ok', next_nx', next_rt', bind_exc', stm_exc', next_exc', ifO_t, ifO_f, opt_some, varO_some, laidV_int, laidV_bl, laidV_str, laidV_tup, laidV_lst, retO_rt, retO_nx, v_add, v_sub, v_lt, v_le, v_gt, v_ge, v_eqi, v_nei, t_bl, t_int, ofOpt_some', List.getElem?_cons_zero, List.getElem?_cons_succ, List.set_cons_zero, List.set_cons_succ, List.map_cons, List.map_nil, List.cons_append, List.nil_append, List.replicate_succ, List.replicate_zero, bindTg, setSlots, List.length_cons, List.length_nil, Nat.reduceAdd, Nat.reduceSub, Nat.reduceLT, ↓reduceIte, if_true, bf_int, bf_lent, bf_lenl, bf_lena, sub_t, sub_l, sub_a, c3, bf_lens h lu, d1]
    rfl
  | cons a r =>
    have d1 : decide ((((a :: r).length : Int)) < 1) = false := by rw [decide_eq_false_iff_not]; simp only [List.length_cons]; omega
    generalize hlen : (a :: r).length = L at *
    by_cases k5 : allIn (a :: r) tens = false ∨ 20 < L
    · rw [if_pos k5]
      by_cases k20 : 20 < L
      · have d2 : decide ((20 : Int) < (L : Int)) = true := decide_eq_true (by omega)
        simp only [evE_var, evE_cst, evE_tup, evE_lst, evE_op, evE_neg, evE_not, evE_and, evE_or, evE_ite, evE_sub, evE_slice, evE_call, evE_callK, evE_bm, evE_bf, evE_isi, evEs_nil, evEs_cons, exS_asg, exS_augN, exS_expr, exS_ret, exS_ife, exB_nil', exB_cons', bind_ok', stm_ok', next_nx', next_rt', bind_exc', stm_exc', next_exc', ifO_t, ifO_f, opt_some, varO_some, laidV_int, laidV_bl, laidV_str, laidV_tup, laidV_lst, retO_rt, retO_nx, v_add, v_sub, v_lt, v_le, v_gt, v_ge, v_eqi, v_nei, t_bl, t_int, ofOpt_some', List.getElem?_cons_zero, List.getElem?_cons_succ, List.set_cons_zero, List.set_cons_succ, List.map_cons, List.map_nil, List.cons_append, List.nil_append, List.replicate_succ, List.replicate_zero, bindTg, setSlots, List.length_cons, List.length_nil, Nat.reduceAdd, Nat.reduceSub, Nat.reduceLT, ↓reduceIte, if_true, bf_int, bf_lent, bf_lenl, bf_lena, sub_t, sub_l, sub_a, c3, bf_lens h (s := a :: r) (by rw [hlen]; exact lu), hlen, d1, d2]
      · have k6 : (a :: r).all tens.contains = false := by
          rcases k5 with k5 | k5
          · rw [hal] at k5
            have : decide (0 < L) = true := decide_eq_true (by rw [← hlen]; simp)
            rw [this, Bool.and_true] at k5
            exact k5
          · exact absurd k5 k20
        rw [k6] at f3
        have d2 : decide ((20 : Int) < (L : Int)) = false := decide_eq_false (by omega)
        simp only [evE_var, evE_cst, evE_tup, evE_lst, evE_op, evE_neg, evE_not, evE_and, evE_or, evE_ite, evE_sub, evE_slice, evE_call, evE_callK, evE_bm, evE_bf, evE_isi, evEs_nil, evEs_cons, exS_asg, exS_augN, exS_expr, exS_ret, exS_ife, exB_nil', exB_cons', bind_ok', stm_ok', next_nx', next_rt', bind_exc', stm_exc', next_exc', ifO_t, ifO_f, opt_some, varO_some, laidV_int, laidV_bl, laidV_str, laidV_tup, laidV_lst, retO_rt, retO_nx, v_add, v_sub, v_lt, v_le, v_gt, v_ge, v_eqi, v_nei, t_bl, t_int, ofOpt_some', List.getElem?_cons_zero, List.getElem?_cons_succ, List.set_cons_zero, List.set_cons_succ, List.map_cons, List.map_nil, List.cons_append, List.nil_append, List.replicate_succ, List.replicate_zero, bindTg, setSlots, List.length_cons, List.length_nil, Nat.reduceAdd, Nat.reduceSub, Nat.reduceLT, ↓reduceIte, if_true, bf_int, bf_lent, bf_lenl, bf_lena, sub_t, sub_l, sub_a, c3, bf_lens h (s := a :: r) (by rw [hlen]; exact lu), hlen, d1, d2, fil_len, f3, Bool.not_false]
    · rw [if_neg k5]
      have k6 : allIn (a :: r) tens = true := by
        cases z : allIn (a :: r) tens with
        | true => rfl
        | false => exact absurd (.inl z) k5
      have k20 : ¬ 20 < L := fun z => k5 (.inr z)
      have k7 := (all_tens k6).2
      have k8 : (a :: r).all tens.contains = true := by
        rw [hal, Bool.and_eq_true] at k6
        exact k6.1
      rw [k8] at f3
      have d2 : decide ((20 : Int) < (L : Int)) = false := decide_eq_false (by omega)
      have ha := k7 a (by simp)
      have oa : okT [a] = true := okT_of fun c hc => by cases List.mem_singleton.mp hc; omega
      have l0 : at_ (a :: r) 0 = some a := at_nat (a :: r) 0
      have sa : subV h (.str (a :: r)) (.int 0) = some (.str [a]) := by rw [sub_s h (by rw [hlen]; exact lu), l0]; rfl
      have ea : ([a] == [48]) = decide (a = 48) := by by_cases e : a = 48 <;> simp [e]
      obtain ⟨k', ev⟩ := val_loop (T := T) F h h (a :: r) (some (.str w)) X (some (.str (a :: r))) (some (.lst (sgnL ((a :: r).filter tens.contains)))) (a :: r) 0 none k7
      have ev := loop_of (T := T) (F := F) (tg := .name 5) (w := 0) (it := [.var 2]) (ρ := [some (.str w), X, some (.str (a :: r)), some (.lst (sgnL ((a :: r).filter tens.contains))), some (.int 0), none]) (h := h) (ws := [.str (a :: r)]) (items := sgnL (a :: r)) (by decide) (by simp only [evE_var, evE_cst, evE_tup, evE_lst, evE_op, evE_neg, evE_not, evE_and, evE_or, evE_ite, evE_sub, evE_slice, evE_call, evE_callK, evE_bm, evE_bf, evE_isi, evEs_nil, evEs_cons, exS_asg, exS_augN, exS_expr, exS_ret, exS_ife, exB_nil', exB_cons', bind_ok', stm_ok', next_nx', next_rt', bind_exc', stm_exc', next_exc', ifO_t, ifO_f, opt_some, varO_some, laidV_int, laidV_bl, laidV_str, laidV_tup, laidV_lst, retO_rt, retO_nx, v_add, v_sub, v_lt, v_le, v_gt, v_ge, v_eqi, v_nei, t_bl, t_int, ofOpt_some', List.getElem?_cons_zero, List.getElem?_cons_succ, List.set_cons_zero, List.set_cons_succ, List.map_cons, List.map_nil, List.cons_append, List.nil_append, List.replicate_succ, List.replicate_zero, bindTg, setSlots, List.length_cons, List.length_nil, Nat.reduceAdd, Nat.reduceSub, Nat.reduceLT, ↓reduceIte, if_true, bf_int, bf_lent, bf_lenl, bf_lena, sub_t, sub_l, sub_a]) rfl ev
      have hk : bmK h .startswith (.str w) = some 2 := rfl
      have hs : bmV h .startswith (.str w) [.str [45]] = .ok (.bl ([45].isPrefixOf w)) h := rfl
      have hp : ([45].isPrefixOf w = true ∧ ¬ (a :: r) = w) ∨ ([45].isPrefixOf w = false ∧ (a :: r) = w) := by
        rw [hu]
        unfold unsigned
        cases q : [45].isPrefixOf w with
        | false => exact .inr ⟨rfl, if_neg (by simp)⟩
        | true =>
          refine .inl ⟨rfl, fun z => ?_⟩
          rw [if_pos rfl] at z
          cases w with
          | nil => cases q
          | cons x y =>
            have := congrArg List.length z
            simp at this
      have dv : ((a :: r).foldl (fun a c => a * 10 + (c - 48)) 0) = digVal (a :: r) := rfl
      rw [dv] at ev
      have n1 : (0 : Int) - (digVal (a :: r) : Int) = -(digVal (a :: r) : Int) := by omega
      by_cases z1 : a = 48
      · by_cases z2 : w = [48]
        · rw [if_neg (by rintro ⟨_, q⟩; exact q z2)]
          have e3 := (eb 48).trans (decide_eq_true z2)
          have e4 := ea.trans (decide_eq_true z1)
          rcases hp with ⟨p1, p2⟩ | ⟨p1, p2⟩
          · rw [if_neg p2]
            simp only [evE_var, evE_cst, evE_tup, evE_lst, evE_op, evE_neg, evE_not, evE_and, evE_or, evE_ite, evE_sub, evE_slice, evE_call, evE_callK, evE_bm, evE_bf, evE_isi, evEs_nil, evEs_cons, exS_asg, exS_augN, exS_expr, exS_ret, exS_ife, exB_nil', exB_cons', bind_ok', stm_ok', next_nx', next_rt', bind_exc', stm_exc', next_exc', ifO_t, ifO_f, opt_some, varO_some, laidV_int, laidV_bl, laidV_str, laidV_tup, laidV_lst, retO_rt, retO_nx, v_add, v_sub, v_lt, v_le, v_gt, v_ge, v_eqi, v_nei, t_bl, t_int, ofOpt_some', List.getElem?_cons_zero, List.getElem?_cons_succ, List.set_cons_zero, List.set_cons_succ, List.map_cons, List.map_nil, List.cons_append, List.nil_append, List.replicate_succ, List.replicate_zero, bindTg, setSlots, List.length_cons, List.length_nil, Nat.reduceAdd, Nat.reduceSub, Nat.reduceLT, ↓reduceIte, if_true, bf_int, bf_lent, bf_lenl, bf_lena, sub_t, sub_l, sub_a, c3, bf_lens h (s := a :: r) (by rw [hlen]; exact lu), hlen, d1, d2, fil_len, f3, Bool.not_true, sa, v_eqs h oa o48, e4, v_nes h ow o48, e3, ev, hk, hs, p1, n1, one]
          · rw [if_pos p2]
            simp only [evE_var, evE_cst, evE_tup, evE_lst, evE_op, evE_neg, evE_not, evE_and, evE_or, evE_ite, evE_sub, evE_slice, evE_call, evE_callK, evE_bm, evE_bf, evE_isi, evEs_nil, evEs_cons, exS_asg, exS_augN, exS_expr, exS_ret, exS_ife, exB_nil', exB_cons', bind_ok', stm_ok', next_nx', next_rt', bind_exc', stm_exc', next_exc', ifO_t, ifO_f, opt_some, varO_some, laidV_int, laidV_bl, laidV_str, laidV_tup, laidV_lst, retO_rt, retO_nx, v_add, v_sub, v_lt, v_le, v_gt, v_ge, v_eqi, v_nei, t_bl, t_int, ofOpt_some', List.getElem?_cons_zero, List.getElem?_cons_succ, List.set_cons_zero, List.set_cons_succ, List.map_cons, List.map_nil, List.cons_append, List.nil_append, List.replicate_succ, List.replicate_zero, bindTg, setSlots, List.length_cons, List.length_nil, Nat.reduceAdd, Nat.reduceSub, Nat.reduceLT, ↓reduceIte, if_true, bf_int, bf_lent, bf_lenl, bf_lena, sub_t, sub_l, sub_a, c3, bf_lens h (s := a :: r) (by rw [hlen]; exact lu), hlen, d1, d2, fil_len, f3, Bool.not_true, sa, v_eqs h oa o48, e4, v_nes h ow o48, e3, ev, hk, hs, p1, one]
        · rw [if_pos ⟨by rw [z1]; rfl, z2⟩]
          have e3 := (eb 48).trans (decide_eq_false z2)
          have e4 := ea.trans (decide_eq_true z1)
          simp only [evE_var, evE_cst, evE_tup, evE_lst, evE_op, evE_neg, evE_not, evE_and, evE_or, evE_ite, evE_sub, evE_slice, evE_call, evE_callK, evE_bm, evE_bf, evE_isi, evEs_nil, evEs_cons, exS_asg, exS_augN, exS_expr, exS_ret, exS_ife, exB_nil', exB_cons', bind_ok', stm_ok', next_nx', next_rt', bind_exc', stm_exc', next_exc', ifO_t, ifO_f, opt_some, varO_some, laidV_int, laidV_bl, laidV_str, laidV_tup, laidV_lst, retO_rt, retO_nx, v_add, v_sub, v_lt, v_le, v_gt, v_ge, v_eqi, v_nei, t_bl, t_int, ofOpt_some', List.getElem?_cons_zero, List.getElem?_cons_succ, List.set_cons_zero, List.set_cons_succ, List.map_cons, List.map_nil, List.cons_append, List.nil_append, List.replicate_succ, List.replicate_zero, bindTg, setSlots, List.length_cons, List.length_nil, Nat.reduceAdd, Nat.reduceSub, Nat.reduceLT, ↓reduceIte, if_true, bf_int, bf_lent, bf_lenl, bf_lena, sub_t, sub_l, sub_a, c3, bf_lens h (s := a :: r) (by rw [hlen]; exact lu), hlen, d1, d2, fil_len, f3, Bool.not_true, Bool.not_false, sa, v_eqs h oa o48, e4, v_nes h ow o48, e3]
      · rw [if_neg (by rintro ⟨q, _⟩; cases q; exact z1 rfl)]
        have e4 := ea.trans (decide_eq_false z1)
        rcases hp with ⟨p1, p2⟩ | ⟨p1, p2⟩
        · rw [if_neg p2]
          simp only [evE_var, evE_cst, evE_tup, evE_lst, evE_op, evE_neg, evE_not, evE_and, evE_or, evE_ite, evE_sub, evE_slice, evE_call, evE_callK, evE_bm, evE_bf, evE_isi, evEs_nil, evEs_cons, exS_asg, exS_augN, exS_expr, exS_ret, exS_ife, exB_nil', exB_cons', bind_ok', stm_ok', next_nx', next_rt', bind_exc', stm_exc', next_exc', ifO_t, ifO_f, opt_some, varO_some, laidV_int, laidV_bl, laidV_str, laidV_tup, laidV_lst, retO_rt, retO_nx, v_add, v_sub, v_lt, v_le, v_gt, v_ge, v_eqi, v_nei, t_bl, t_int, ofOpt_some', List.getElem?_cons_zero, List.getElem?_cons_succ, List.set_cons_zero, List.set_cons_succ, List.map_cons, List.map_nil, List.cons_append, List.nil_append, List.replicate_succ, List.replicate_zero, bindTg, setSlots, List.length_cons, List.length_nil, Nat.reduceAdd, Nat.reduceSub, Nat.reduceLT, ↓reduceIte, if_true, bf_int, bf_lent, bf_lenl, bf_lena, sub_t, sub_l, sub_a, c3, bf_lens h (s := a :: r) (by rw [hlen]; exact lu), hlen, d1, d2, fil_len, f3, Bool.not_true, sa, v_eqs h oa o48, e4, ev, hk, hs, p1, n1, one]
        · rw [if_pos p2]
          simp only [evE_var, evE_cst, evE_tup, evE_lst, evE_op, evE_neg, evE_not, evE_and, evE_or, evE_ite, evE_sub, evE_slice, evE_call, evE_callK, evE_bm, evE_bf, evE_isi, evEs_nil, evEs_cons, exS_asg, exS_augN, exS_expr, exS_ret, exS_ife, exB_nil', exB_cons', bind_ok', stm_ok', next_nx', next_rt', bind_exc', stm_exc', next_exc', ifO_t, ifO_f, opt_some, varO_some, laidV_int, laidV_bl, laidV_str, laidV_tup, laidV_lst, retO_rt, retO_nx, v_add, v_sub, v_lt, v_le, v_gt, v_ge, v_eqi, v_nei, t_bl, t_int, ofOpt_some', List.getElem?_cons_zero, List.getElem?_cons_succ, List.set_cons_zero, List.set_cons_succ, List.map_cons, List.map_nil, List.cons_append, List.nil_append, List.replicate_succ, List.replicate_zero, bindTg, setSlots, List.length_cons, List.length_nil, Nat.reduceAdd, Nat.reduceSub, Nat.reduceLT, ↓reduceIte, if_true, bf_int, bf_lent, bf_lenl, bf_lena, sub_t, sub_l, sub_a, c3, bf_lens h (s := a :: r) (by rw [hlen]; exact lu), hlen, d1, d2, fil_len, f3, Bool.not_true, sa, v_eqs h oa o48, e4, ev, hk, hs, p1, one]
theorem wordR (d : Nat) (h : Heap) (w : List Nat) (hl : w.length ≤ 4000000) (hw : ∀ c ∈ w, c ≤ 122) :
    callF T (d + 1) 10 [.str w] h = .ok (match atom2 w with
      | some v => .tup [v]
      | none => .non) h := by
  have lin : line = 16777216 := rfl
  have hl' : w.length ≤ line := by omega
  rw [callF_n T d 10 _ h _ B.f10 (B.fz 10) rfl]
  have o84 : okT [84] = true := rfl
  have o70 : okT [70] = true := rfl
  have o78 : okT [78] = true := rfl
  have o48 : okT [48] = true := rfl
  have ow := okT_of hw
  have lu : (unsigned w).length ≤ line := Nat.le_trans (unsigned_len w).1 hl'
  have eb : ∀ x, (w == [x]) = decide (w = [x]) := fun x => by by_cases e : w = [x] <;> simp [e]
  unfold atom2
  by_cases k1 : w = [84]
  · rw [if_pos k1]
    subst k1
    have x1 : (([84] : List Nat) == [84]) = true := rfl
    simp only [b10, evE_var, evE_cst, evE_tup, evE_lst, evE_op, evE_neg, evE_not, evE_and, evE_or, evE_ite, evE_sub, evE_slice, evE_call, evE_callK, evE_bm, evE_bf, evE_isi, evEs_nil, evEs_cons, exS_asg, exS_augN, exS_expr, exS_ret, exS_ife, exB_nil', exB_cons', bind_ok', stm_ok', next_nx', next_rt', bind_exc', stm_exc', next_exc', ifO_t, ifO_f, opt_some, varO_some, laidV_int, laidV_bl, laidV_str, laidV_tup, laidV_lst, retO_rt, retO_nx, v_add, v_sub, v_lt, v_le, v_gt, v_ge, v_eqi, v_nei, t_bl, t_int, ofOpt_some', List.getElem?_cons_zero, List.getElem?_cons_succ, List.set_cons_zero, List.set_cons_succ, List.map_cons, List.map_nil, List.cons_append, List.nil_append, List.replicate_succ, List.replicate_zero, bindTg, setSlots, List.length_cons, List.length_nil, Nat.reduceAdd, Nat.reduceSub, Nat.reduceLT, ↓reduceIte, if_true, bf_int, bf_lent, bf_lenl, bf_lena, sub_t, sub_l, sub_a, v_eqs h o84 o84, x1]
    rfl
  rw [if_neg k1]
  by_cases k2 : w = [70]
  · rw [if_pos k2]
    subst k2
    have x1 : (([70] : List Nat) == [84]) = false := rfl
    have x2 : (([70] : List Nat) == [70]) = true := rfl
    simp only [b10, evE_var, evE_cst, evE_tup, evE_lst, evE_op, evE_neg, evE_not, evE_and, evE_or, evE_ite, evE_sub, evE_slice, evE_call, evE_callK, evE_bm, evE_bf, evE_isi, evEs_nil, evEs_cons, exS_asg, exS_augN, exS_expr, exS_ret, exS_ife, exB_nil', exB_cons', bind_ok', stm_ok', next_nx', next_rt', bind_exc', stm_exc', next_exc', ifO_t, ifO_f, opt_some, varO_some, laidV_int, laidV_bl, laidV_str, laidV_tup, laidV_lst, retO_rt, retO_nx, v_add, v_sub, v_lt, v_le, v_gt, v_ge, v_eqi, v_nei, t_bl, t_int, ofOpt_some', List.getElem?_cons_zero, List.getElem?_cons_succ, List.set_cons_zero, List.set_cons_succ, List.map_cons, List.map_nil, List.cons_append, List.nil_append, List.replicate_succ, List.replicate_zero, bindTg, setSlots, List.length_cons, List.length_nil, Nat.reduceAdd, Nat.reduceSub, Nat.reduceLT, ↓reduceIte, if_true, bf_int, bf_lent, bf_lenl, bf_lena, sub_t, sub_l, sub_a, v_eqs h o70 o84, v_eqs h o70 o70, x1, x2]
    rfl
  rw [if_neg k2]
  by_cases k3 : w = [78]
  · rw [if_pos k3]
    subst k3
    have x1 : (([78] : List Nat) == [84]) = false := rfl
    have x2 : (([78] : List Nat) == [70]) = false := rfl
    have x3 : (([78] : List Nat) == [78]) = true := rfl
    simp only [b10, evE_var, evE_cst, evE_tup, evE_lst, evE_op, evE_neg, evE_not, evE_and, evE_or, evE_ite, evE_sub, evE_slice, evE_call, evE_callK, evE_bm, evE_bf, evE_isi, evEs_nil, evEs_cons, exS_asg, exS_augN, exS_expr, exS_ret, exS_ife, exB_nil', exB_cons', bind_ok', stm_ok', next_nx', next_rt', bind_exc', stm_exc', next_exc', ifO_t, ifO_f, opt_some, varO_some, laidV_int, laidV_bl, laidV_str, laidV_tup, laidV_lst, retO_rt, retO_nx, v_add, v_sub, v_lt, v_le, v_gt, v_ge, v_eqi, v_nei, t_bl, t_int, ofOpt_some', List.getElem?_cons_zero, List.getElem?_cons_succ, List.set_cons_zero, List.set_cons_succ, List.map_cons, List.map_nil, List.cons_append, List.nil_append, List.replicate_succ, List.replicate_zero, bindTg, setSlots, List.length_cons, List.length_nil, Nat.reduceAdd, Nat.reduceSub, Nat.reduceLT, ↓reduceIte, if_true, bf_int, bf_lent, bf_lenl, bf_lena, sub_t, sub_l, sub_a, v_eqs h o78 o84, v_eqs h o78 o70, v_eqs h o78 o78, x1, x2, x3]
    rfl
  rw [if_neg k3]
  have e1 := (eb 84).trans (decide_eq_false k1)
  have e2 := (eb 70).trans (decide_eq_false k2)
  have e3 := (eb 78).trans (decide_eq_false k3)
  have c1 := comp_in (T := T) (callF T d) h letters w hl' 0 (by decide) (some (.str w)) none none none none rfl
  have g1 : decide ((0 : Int) < (w.length : Int)) = decide (0 < w.length) := by
    rw [Bool.eq_iff_iff]; simp
  have ll : ∀ s : List Nat, bfV h .len [.lst (sgnL (w.filter s.contains))] = some (.int ((w.filter s.contains).length : Int)) := fun s => by rw [bf_lenl, fil_len]
  unfold letters at c1
  have one : (1 ≤ line) = True := eq_true (by decide)
  by_cases k4 : allIn w letters = true
  · rw [if_pos k4]
    unfold allIn at k4
    rw [Bool.and_eq_true] at k4
    have f1 := (fil_eq w letters).trans k4.1
    unfold letters at f1
    simp only [b10, evE_var, evE_cst, evE_tup, evE_lst, evE_op, evE_neg, evE_not, evE_and, evE_or, evE_ite, evE_sub, evE_slice, evE_call, evE_callK, evE_bm, evE_bf, evE_isi, evEs_nil, evEs_cons, exS_asg, exS_augN, exS_expr, exS_ret, exS_ife, exB_nil', exB_cons', bind_ok', stm_ok', next_nx', next_rt', bind_exc', stm_exc', next_exc', ifO_t, ifO_f, opt_some, varO_some, laidV_int, laidV_bl, laidV_str, laidV_tup, laidV_lst, retO_rt, retO_nx, v_add, v_sub, v_lt, v_le, v_gt, v_ge, v_eqi, v_nei, t_bl, t_int, ofOpt_some', List.getElem?_cons_zero, List.getElem?_cons_succ, List.set_cons_zero, List.set_cons_succ, List.map_cons, List.map_nil, List.cons_append, List.nil_append, List.replicate_succ, List.replicate_zero, bindTg, setSlots, List.length_cons, List.length_nil, Nat.reduceAdd, Nat.reduceSub, Nat.reduceLT, ↓reduceIte, if_true, bf_int, bf_lent, bf_lenl, bf_lena, sub_t, sub_l, sub_a, v_eqs h ow o84, v_eqs h ow o70, v_eqs h ow o78, e1, e2, e3, c1, bf_lens h hl', g1, k4.2, fil_len, f1, one]
  rw [if_neg k4]
  have f0 : (decide (0 < w.length) = true ∧ w.all letters.contains = false) ∨ decide (0 < w.length) = false := by
    unfold allIn at k4
    cases z : decide (0 < w.length) with
    | false => exact .inr rfl
    | true =>
      refine .inl ⟨rfl, ?_⟩
      rw [z] at k4
      simpa using k4
  have f1 := fil_eq w letters
  unfold letters at f0 f1
  have hk : bmK h .startswith (.str w) = some 2 := rfl
  have hs : bmV h .startswith (.str w) [.str [45]] = .ok (.bl ([45].isPrefixOf w)) h := rfl
  have sl : sliceV h (.str w) (some 1) none = some (.str (w.drop 1)) := by
    show (if _ then _ else _) = _
    rw [if_pos hl']
    congr 2
    have q1 : clip w.length 0 (some 1) = min 1 w.length := by simp [clip]
    have q2 : clip w.length w.length none = w.length := rfl
    unfold cut
    rw [q1, q2]
    cases w with
    | nil => rfl
    | cons x y =>
      rw [Nat.min_eq_left (by simp)]
      simp
  have i1 : intsV [Val.int 1] = some [1] := rfl
  have i0 : intsV [] = some [] := rfl
  have hd1 : ([1] : List Int).head? = some 1 := rfl
  have hd0 : ([] : List Int).head? = none := rfl
  have st : ∃ X, exB T (callF T d) (b10.take 7) [some (.str w), none, none, none, none, none] h = .nx [some (.str w), X, some (.str (unsigned w)), none, none, none] h := by
    unfold unsigned
    refine ⟨some (.lst (sgnL (w.filter letters.contains))), ?_⟩
    unfold letters
    · have et : b10.take 7 = [b10[0], b10[1], b10[2], b10[3], b10[4], b10[5], b10[6]] := rfl
      rw [et]
      rcases f0 with ⟨q1, q2⟩ | q1
      · cases q3 : [45].isPrefixOf w <;> simp only [b10, List.getElem_cons_zero, List.getElem_cons_succ, evE_var, evE_cst, evE_tup, evE_lst, evE_op, evE_neg, evE_not, evE_and, evE_or, evE_ite, evE_sub, evE_slice, evE_call, evE_callK, evE_bm, evE_bf, evE_isi, evEs_nil, evEs_cons, exS_asg, exS_augN, exS_expr, exS_ret, exS_ife, exB_nil', exB_cons', bind_ok', stm_ok', next_nx', next_rt', bind_exc', stm_exc', next_exc', ifO_t, ifO_f, opt_some, varO_some, laidV_int, laidV_bl, laidV_str, laidV_tup, laidV_lst, retO_rt, retO_nx, v_add, v_sub, v_lt, v_le, v_gt, v_ge, v_eqi, v_nei, t_bl, t_int, ofOpt_some', List.getElem?_cons_zero, List.getElem?_cons_succ, List.set_cons_zero, List.set_cons_succ, List.map_cons, List.map_nil, List.cons_append, List.nil_append, List.replicate_succ, List.replicate_zero, bindTg, setSlots, List.length_cons, List.length_nil, Nat.reduceAdd, Nat.reduceSub, Nat.reduceLT, ↓reduceIte, if_true, bf_int, bf_lent, bf_lenl, bf_lena, sub_t, sub_l, sub_a, v_eqs h ow o84, v_eqs h ow o70, v_eqs h ow o78, e1, e2, e3, c1, bf_lens h hl', g1, fil_len, f1, q1, q2, hk, hs, q3, sl, i1, i0, hd1, hd0, Bool.false_eq_true]
      · cases q3 : [45].isPrefixOf w <;> simp only [b10, List.getElem_cons_zero, List.getElem_cons_succ, evE_var, evE_cst, evE_tup, evE_lst, evE_op, evE_neg, evE_not, evE_and, evE_or, evE_ite, evE_sub, evE_slice, evE_call, evE_callK, evE_bm, evE_bf, evE_isi, evEs_nil, evEs_cons, exS_asg, exS_augN, exS_expr, exS_ret, exS_ife, exB_nil', exB_cons', bind_ok', stm_ok', next_nx', next_rt', bind_exc', stm_exc', next_exc', ifO_t, ifO_f, opt_some, varO_some, laidV_int, laidV_bl, laidV_str, laidV_tup, laidV_lst, retO_rt, retO_nx, v_add, v_sub, v_lt, v_le, v_gt, v_ge, v_eqi, v_nei, t_bl, t_int, ofOpt_some', List.getElem?_cons_zero, List.getElem?_cons_succ, List.set_cons_zero, List.set_cons_succ, List.map_cons, List.map_nil, List.cons_append, List.nil_append, List.replicate_succ, List.replicate_zero, bindTg, setSlots, List.length_cons, List.length_nil, Nat.reduceAdd, Nat.reduceSub, Nat.reduceLT, ↓reduceIte, if_true, bf_int, bf_lent, bf_lenl, bf_lena, sub_t, sub_l, sub_a, v_eqs h ow o84, v_eqs h ow o70, v_eqs h ow o78, e1, e2, e3, c1, bf_lens h hl', g1, fil_len, f1, q1, hk, hs, q3, sl, i1, i0, hd1, hd0, Bool.false_eq_true]
  obtain ⟨X, st⟩ := st
  show retO (exB T (callF T d) (b10.take 7 ++ b10.drop 7) _ h) = _
  rw [exB_app]
  show retO ((exB T (callF T d) (b10.take 7) [some (.str w), none, none, none, none, none] h).next _) = _
  rw [st, next_nx', tailR (T := T) _ h w (unsigned w) X hl hw rfl]
  split
  · rfl
  · split
    · rfl
    · split <;> rfl
end
end K71

/-! K71: the second reader -/
namespace K71
open MP
/-- one sign -/
def stp (c : Nat) (w : List Nat) : List (List Val) → Option (List Nat × List (List Val))
  | tp :: rs => if delim c = true then (match flush atom2 w tp with
      | some tp' => (sgn c (tp' :: rs)).map fun r => ([], r)
      | none => none) else some (w ++ [c], tp :: rs)
  | [] => none
theorem stp_cons (c : Nat) (w : List Nat) (tp : List Val) (rs : List (List Val)) : stp c w (tp :: rs) = if delim c = true then (match flush atom2 w tp with
      | some tp' => (sgn c (tp' :: rs)).map fun r => ([], r)
      | none => none) else some (w ++ [c], tp :: rs) := rfl
theorem run_stp (c : Nat) (s w : List Nat) (r : List (List Val)) : run atom2 (c :: s) w r = match stp c w r with
    | some (w', r') => run atom2 s w' r'
    | none => none := by
  cases r with
  | nil => rfl
  | cons tp rs =>
    conv => lhs; unfold run
    have es : stp c w (tp :: rs) = if delim c = true then (match flush atom2 w tp with
      | some tp' => (sgn c (tp' :: rs)).map fun r => ([], r)
      | none => none) else some (w ++ [c], tp :: rs) := rfl
    rw [es]
    by_cases hd : delim c = true
    · rw [if_pos hd, if_pos hd]
      cases flush atom2 w tp with
      | none => rfl
      | some tp' =>
        dsimp only
        cases sgn c (tp' :: rs) <;> rfl
    · rw [if_neg hd, if_neg hd]
theorem at_len {α : Type} (xs : List α) (z : α) : at_ (xs ++ [z]) (((xs ++ [z]).length : Int) - 1) = some z := by
  have e : (((xs ++ [z]).length : Int) - 1) = (xs.length : Int) := by simp only [List.length_append, List.length_cons, List.length_nil]; omega
  rw [e, at_nat]
  simp
theorem cut_len {α : Type} (xs : List α) (z : α) : cut (xs ++ [z]) none (some (((xs ++ [z]).length : Int) - 1)) = xs := by
  have e : (((xs ++ [z]).length : Int) - 1) = (xs.length : Int) := by simp only [List.length_append, List.length_cons, List.length_nil]; omega
  rw [e]
  have c1 : clip (xs ++ [z]).length (xs ++ [z]).length (some (xs.length : Int)) = xs.length := by
    unfold clip
    simp only
    rw [if_neg (by omega), Int.toNat_natCast, Nat.min_eq_left (by simp)]
  have c0 : clip (xs ++ [z]).length 0 none = 0 := rfl
  unfold cut
  rw [c1, c0]
  simp
/-- the uppermost row is left out of a new list -/
theorem Stk.cpy {h : Heap} {r0 q : Nat} {st : List (Nat × List Val)} {i : List Val} (S : Stk h r0 (st ++ [(q, i)])) : Stk (h.push (.lst (st.map fun p => .ref p.1))) h.n st where
  top := if_pos rfl
  rows := fun p hp => by
    have := S.lt p.1 (List.mem_cons_of_mem _ (List.mem_map.mpr ⟨p, List.mem_append_left _ hp, rfl⟩))
    show (if p.1 = h.n then _ else _) = _
    rw [if_neg (by omega)]
    exact S.rows p (List.mem_append_left _ hp)
  nd := by
    have nd := (List.nodup_cons.mp S.nd).2
    rw [List.map_append, List.nodup_append] at nd
    refine List.nodup_cons.mpr ⟨fun z => ?_, nd.1⟩
    obtain ⟨p, hp, e⟩ := List.mem_map.mp z
    have := S.lt p.1 (List.mem_cons_of_mem _ (List.mem_map.mpr ⟨p, List.mem_append_left _ hp, rfl⟩))
    omega
  lt := fun x hx => by
    show x < h.n + 1
    rcases List.mem_cons.mp hx with rfl | hx
    · omega
    · obtain ⟨p, hp, rfl⟩ := List.mem_map.mp hx
      have := S.lt p.1 (List.mem_cons_of_mem _ (List.mem_map.mpr ⟨p, List.mem_append_left _ hp, rfl⟩))
      omega
def rF : S := .ife (.op .ne (.var 2) (.cst (.str []))) [.asg (.name 4) (.call 10 [(.var 2)]), .ife (.op .is (.var 4) (.cst (.non))) [.ret (.cst (.non))] [], .expr (.bm (.sub (.var 1) (.op .sub (.bf .len true [(.var 1)]) (.cst (.int 1)))) .append [(.sub (.var 4) (.cst (.int 0)))]), .asg (.name 2) (.cst (.str []))] []
def rO : S := .ife (.op .eq (.var 3) (.cst (.str [40]))) [.ife (.op .gt (.bf .len true [(.var 1)]) (.cst (.int 20))) [.ret (.cst (.non))] [], .expr (.bm (.var 1) .append [(.lst true [])])] []
def rC : S := .ife (.op .eq (.var 3) (.cst (.str [41]))) [.ife (.op .lt (.bf .len true [(.var 1)]) (.cst (.int 2))) [.ret (.cst (.non))] [], .asg (.name 5) (.bf .tuple true [(.sub (.var 1) (.op .sub (.bf .len true [(.var 1)]) (.cst (.int 1))))]), .asg (.name 1) (.slice true (.var 1) [] [(.op .sub (.bf .len true [(.var 1)]) (.cst (.int 1)))]), .expr (.bm (.sub (.var 1) (.op .sub (.bf .len true [(.var 1)]) (.cst (.int 1)))) .append [(.var 5)])] []
def rB : List S := [.ife (.op .isin (.var 3) (.cst (.str [40, 41, 32]))) [rF, rO, rC] [.asg (.name 2) (.op .add (.var 2) (.var 3))]]
section
variable {T : Tb} (F : Fns) (s : List Nat)
theorem last_ref {h : Heap} {r q1 : Nat} {st : List (Nat × List Val)} {i1 : List Val} (S : Stk h r (st ++ [(q1, i1)])) : bfV h .len [.ref r] = some (.int (((st ++ [(q1, i1)]).map fun p => Val.ref p.1).length : Int)) ∧
    subV h (.ref r) (.int ((((st ++ [(q1, i1)]).map fun p => Val.ref p.1).length : Int) - 1)) = some (.ref q1) ∧ h.c q1 = some (.lst i1) ∧ bmK h .append (.ref q1) = some 0 := by
  have c1 : h.c q1 = some (.lst i1) := S.rows (q1, i1) (by simp)
  refine ⟨bf_lenr h S.top, ?_, c1, by simp [bmK, kindV, c1, bmHas]⟩
  rw [sub_r h S.top, List.map_append]
  exact at_len _ _
theorem put_ref {h : Heap} {q1 : Nat} {i1 : List Val} (c1 : h.c q1 = some (.lst i1)) (hi : i1.length < line) (v : Val) : bmV h .append (.ref q1) [v] = .ok .non (h.set q1 (.lst (i1 ++ [v]))) := by
  simp only [bmV, c1]
  rw [if_pos hi]
theorem fl2 (hF : ∀ (w : List Nat) (h : Heap), w.length ≤ 4000000 → (∀ c ∈ w, c ≤ 122) → F 10 [.str w] h = .ok (match atom2 w with
      | some v => .tup [v]
      | none => .non) h) {w : List Nat} (hl : w.length ≤ 4000000) (hw : ∀ c ∈ w, c ≤ 122) {st : List (Nat × List Val)} {r q1 : Nat} {i1 : List Val} {h : Heap} (S : Stk h r (st ++ [(q1, i1)])) (hi : i1.length < line) (x : Nat) (b c : Option Val) :
    match flush atom2 w i1 with
    | none => exS T F rF [some (.str s), some (.ref r), some (.str w), some (.str [x]), b, c] h = .rt .non h
    | some i1' => ∃ b' h', exS T F rF [some (.str s), some (.ref r), some (.str w), some (.str [x]), b, c] h = .nx [some (.str s), some (.ref r), some (.str []), some (.str [x]), b', c] h' ∧ Stk h' r (st ++ [(q1, i1')]) ∧ i1'.length ≤ i1.length + 1 := by
  have ow := okT_of hw
  have o0 : okT [] = true := rfl
  have e10 := hF w h hl hw
  obtain ⟨l1, l2, l3, l4⟩ := last_ref S
  unfold flush
  by_cases hw0 : w = []
  · rw [if_pos hw0]
    subst hw0
    have x1 : (([] : List Nat) == []) = true := rfl
    refine ⟨b, h, ?_, S, by omega⟩
    simp only [rF, evE_var, evE_cst, evE_tup, evE_lst, evE_op, evE_neg, evE_not, evE_and, evE_or, evE_ite, evE_sub, evE_slice, evE_call, evE_callK, evE_bm, evE_bf, evE_isi, evEs_nil, evEs_cons, exS_asg, exS_augN, exS_expr, exS_ret, exS_ife, exB_nil', exB_cons', bind_ok', stm_ok', next_nx', next_rt', bind_exc', stm_exc', next_exc', ifO_t, ifO_f, opt_some, varO_some, laidV_int, laidV_bl, laidV_str, laidV_tup, laidV_lst, retO_rt, retO_nx, v_add, v_sub, v_lt, v_le, v_gt, v_ge, v_eqi, v_nei, t_bl, t_int, ofOpt_some', List.getElem?_cons_zero, List.getElem?_cons_succ, List.set_cons_zero, List.set_cons_succ, List.map_cons, List.map_nil, List.cons_append, List.nil_append, List.replicate_succ, List.replicate_zero, bindTg, setSlots, List.length_cons, List.length_nil, Nat.reduceAdd, Nat.reduceSub, Nat.reduceLT, ↓reduceIte, if_true, bf_int, bf_lent, bf_lenl, bf_lena, sub_t, sub_l, sub_a, v_nes h o0 o0, x1, Bool.not_true]
  · rw [if_neg hw0]
    have x1 : (w == []) = false := by rw [beq_eq_false_iff_ne]; exact hw0
    cases ea : atom2 w with
    | none =>
      rw [ea] at e10
      simp only [Option.map_none]
      simp only [rF, evE_var, evE_cst, evE_tup, evE_lst, evE_op, evE_neg, evE_not, evE_and, evE_or, evE_ite, evE_sub, evE_slice, evE_call, evE_callK, evE_bm, evE_bf, evE_isi, evEs_nil, evEs_cons, exS_asg, exS_augN, exS_expr, exS_ret, exS_ife, exB_nil', exB_cons', bind_ok', stm_ok', next_nx', next_rt', bind_exc', stm_exc', next_exc', ifO_t, ifO_f, opt_some, varO_some, laidV_int, laidV_bl, laidV_str, laidV_tup, laidV_lst, retO_rt, retO_nx, v_add, v_sub, v_lt, v_le, v_gt, v_ge, v_eqi, v_nei, t_bl, t_int, ofOpt_some', List.getElem?_cons_zero, List.getElem?_cons_succ, List.set_cons_zero, List.set_cons_succ, List.map_cons, List.map_nil, List.cons_append, List.nil_append, List.replicate_succ, List.replicate_zero, bindTg, setSlots, List.length_cons, List.length_nil, Nat.reduceAdd, Nat.reduceSub, Nat.reduceLT, ↓reduceIte, if_true, bf_int, bf_lent, bf_lenl, bf_lena, sub_t, sub_l, sub_a, v_nes h ow o0, x1, Bool.not_false, e10, v_is_nn]
    | some v =>
      rw [ea] at e10
      simp only [Option.map_some]
      have l0 : at_ [v] 0 = some v := at_nat [v] 0
      have tn := v_is_non h (.tup [v]) (by simp)
      refine ⟨some (.tup [v]), _, ?_, S.put v, by simp⟩
      simp only [rF, evE_var, evE_cst, evE_op, evE_sub, evE_call, evE_bm, evE_bf, evEs_nil, evEs_cons, exS_asg, exS_expr, exS_ret, exS_ife, exB_nil', exB_cons', bind_ok', stm_ok', next_nx', ifO_t, ifO_f, opt_some, varO_some, laidV_int, v_sub, t_bl, ofOpt_some', List.getElem?_cons_zero, List.getElem?_cons_succ, List.set_cons_zero, List.set_cons_succ, bindTg, setSlots, List.length_cons, List.length_nil, Nat.reduceAdd, Nat.reduceLT, if_true, sub_t, v_nes h ow o0, x1, Bool.not_false, e10, tn, l1, l2, l4, l0, put_ref l3 hi]
theorem sg2 {x : Nat} (hx : delim x = true) {st : List (Nat × List Val)} {r q1 : Nat} {i1 : List Val} {h : Heap} (S : Stk h r (st ++ [(q1, i1)])) (hi : ∀ q ∈ st, q.2.length < 10000000) (h20 : st.length ≤ 20) (b c : Option Val) :
    match sgn x (rowsOf (st ++ [(q1, i1)])) with
    | none => ∃ h', exB T F [rO, rC] [some (.str s), some (.ref r), some (.str []), some (.str [x]), b, c] h = .rt .non h'
    | some r' => ∃ r1 c' h' st' q' i', exB T F [rO, rC] [some (.str s), some (.ref r), some (.str []), some (.str [x]), b, c] h = .nx [some (.str s), some (.ref r1), some (.str []), some (.str [x]), b, c'] h' ∧ Stk h' r1 (st' ++ [(q', i')]) ∧ rowsOf (st' ++ [(q', i')]) = r' ∧
        (∀ n, (∀ q ∈ st ++ [(q1, i1)], q.2.length + 1 ≤ n) → ∀ q ∈ st' ++ [(q', i')], q.2.length ≤ n) ∧ st'.length ≤ 20 := by
  have lin : line = 16777216 := rfl
  have o40 : okT [40] = true := rfl
  have o41 : okT [41] = true := rfl
  have o32 : okT [32] = true := rfl
  obtain ⟨l1, l2, l3, l4⟩ := last_ref S
  rw [rowsOf_app]
  rcases delim_cases hx with rfl | rfl | rfl
  · have e1 : (([40] : List Nat) == [40]) = true := rfl
    have e2 : (([40] : List Nat) == [41]) = false := rfl
    by_cases h20' : 20 < (rowsOf st).length + 1
    · simp only [sgn, if_true, if_pos h20']
      have hst : 20 < st.length + 1 := by simpa [rowsOf] using h20'
      have d : decide ((20 : Int) < (((st ++ [(q1, i1)]).map fun p => Val.ref p.1).length : Int)) = true := decide_eq_true (by simp only [List.length_map, List.length_append, List.length_cons, List.length_nil]; omega)
      refine ⟨h, ?_⟩
      simp only [rO, evE_var, evE_cst, evE_tup, evE_lst, evE_op, evE_neg, evE_not, evE_and, evE_or, evE_ite, evE_sub, evE_slice, evE_call, evE_callK, evE_bm, evE_bf, evE_isi, evEs_nil, evEs_cons, exS_asg, exS_augN, exS_expr, exS_ret, exS_ife, exB_nil', exB_cons', bind_ok', stm_ok', next_nx', next_rt', bind_exc', stm_exc', next_exc', ifO_t, ifO_f, opt_some, varO_some, laidV_int, laidV_bl, laidV_str, laidV_tup, laidV_lst, retO_rt, retO_nx, v_add, v_sub, v_lt, v_le, v_gt, v_ge, v_eqi, v_nei, t_bl, t_int, ofOpt_some', List.getElem?_cons_zero, List.getElem?_cons_succ, List.set_cons_zero, List.set_cons_succ, List.map_cons, List.map_nil, List.cons_append, List.nil_append, List.replicate_succ, List.replicate_zero, bindTg, setSlots, List.length_cons, List.length_nil, Nat.reduceAdd, Nat.reduceSub, Nat.reduceLT, ↓reduceIte, if_true, bf_int, bf_lent, bf_lenl, bf_lena, sub_t, sub_l, sub_a, v_eqs h o40 o40, e1, l1, ↓d]
    · simp only [sgn, if_true, if_neg h20']
      have hst : st.length + 1 ≤ 20 := by simp [rowsOf] at h20'; omega
      have d : decide ((20 : Int) < (((st ++ [(q1, i1)]).map fun p => Val.ref p.1).length : Int)) = false := decide_eq_false (by simp only [List.length_map, List.length_append, List.length_cons, List.length_nil]; omega)
      have hk : bmK h .append (.ref r) = some 0 := by simp [bmK, kindV, S.top, bmHas]
      have t1 : (h.push (.lst [])).c r = some (.lst ((st ++ [(q1, i1)]).map fun p => .ref p.1)) := ((Fr.push h (.lst [])).2 r (S.lt r List.mem_cons_self)).trans S.top
      have hk1 : bmK (h.push (.lst [])) .append (.ref r) = some 0 := by simp [bmK, kindV, t1, bmHas]
      have e0 : newL true [] h = .ok (.ref h.n) (h.push (.lst [])) := newL_n (by decide)
      have hb : bmV (h.push (.lst [])) .append (.ref r) [.ref h.n] = .ok .non ((h.push (.lst [])).set r (.lst ((st ++ [(q1, i1)]).map (fun p => .ref p.1) ++ [.ref h.n]))) := by
        simp only [bmV, t1]
        rw [if_pos (by simp only [List.length_map, List.length_append, List.length_cons, List.length_nil]; omega)]
      refine ⟨r, c, _, st ++ [(q1, i1)], h.n, [], ?_, S.opn, by rw [rowsOf_app, rowsOf_app], fun n hn q hq => ?_, by simp only [List.length_append, List.length_cons, List.length_nil]; omega⟩
      · have v1 := fun h => v_eqs (h := h) o40 o41
        simp only [rO, rC, evE_var, evE_cst, evE_tup, evE_lst, evE_op, evE_neg, evE_not, evE_and, evE_or, evE_ite, evE_sub, evE_slice, evE_call, evE_callK, evE_bm, evE_bf, evE_isi, evEs_nil, evEs_cons, exS_asg, exS_augN, exS_expr, exS_ret, exS_ife, exB_nil', exB_cons', bind_ok', stm_ok', next_nx', next_rt', bind_exc', stm_exc', next_exc', ifO_t, ifO_f, opt_some, varO_some, laidV_int, laidV_bl, laidV_str, laidV_tup, laidV_lst, retO_rt, retO_nx, v_add, v_sub, v_lt, v_le, v_gt, v_ge, v_eqi, v_nei, t_bl, t_int, ofOpt_some', List.getElem?_cons_zero, List.getElem?_cons_succ, List.set_cons_zero, List.set_cons_succ, List.map_cons, List.map_nil, List.cons_append, List.nil_append, List.replicate_succ, List.replicate_zero, bindTg, setSlots, List.length_cons, List.length_nil, Nat.reduceAdd, Nat.reduceSub, Nat.reduceLT, ↓reduceIte, if_true, bf_int, bf_lent, bf_lenl, bf_lena, sub_t, sub_l, sub_a, v_eqs _ o40 o40, v_eqs _ o40 o41, e1, e2, l1, ↓d, hk, e0, hk1, hb]
      · rcases List.mem_append.mp hq with hq | hq
        · have := hn q hq; omega
        · cases List.mem_singleton.mp hq
          simp
  · have e1 : (([41] : List Nat) == [40]) = false := rfl
    have e2 : (([41] : List Nat) == [41]) = true := rfl
    rcases List.eq_nil_or_concat st with rfl | ⟨st2, ⟨q2, i2⟩, rfl⟩
    · have d : decide ((((([] : List (Nat × List Val)) ++ [(q1, i1)]).map fun p => Val.ref p.1).length : Int) < 2) = true := rfl
      have hs : sgn 41 (i1 :: rowsOf []) = none := rfl
      rw [hs]
      refine ⟨h, ?_⟩
      simp only [rO, rC, evE_var, evE_cst, evE_tup, evE_lst, evE_op, evE_neg, evE_not, evE_and, evE_or, evE_ite, evE_sub, evE_slice, evE_call, evE_callK, evE_bm, evE_bf, evE_isi, evEs_nil, evEs_cons, exS_asg, exS_augN, exS_expr, exS_ret, exS_ife, exB_nil', exB_cons', bind_ok', stm_ok', next_nx', next_rt', bind_exc', stm_exc', next_exc', ifO_t, ifO_f, opt_some, varO_some, laidV_int, laidV_bl, laidV_str, laidV_tup, laidV_lst, retO_rt, retO_nx, v_add, v_sub, v_lt, v_le, v_gt, v_ge, v_eqi, v_nei, t_bl, t_int, ofOpt_some', List.getElem?_cons_zero, List.getElem?_cons_succ, List.set_cons_zero, List.set_cons_succ, List.map_cons, List.map_nil, List.cons_append, List.nil_append, List.replicate_succ, List.replicate_zero, bindTg, setSlots, List.length_cons, List.length_nil, Nat.reduceAdd, Nat.reduceSub, Nat.reduceLT, ↓reduceIte, if_true, bf_int, bf_lent, bf_lenl, bf_lena, sub_t, sub_l, sub_a, v_eqs _ o41 o40, v_eqs _ o41 o41, e1, e2, l1, ↓d]
      rfl
    · rw [List.concat_eq_append] at S hi h20 l1 l2 ⊢
      have d : decide ((((st2 ++ [(q2, i2)] ++ [(q1, i1)]).map fun p => Val.ref p.1).length : Int) < 2) = false := decide_eq_false (by simp only [List.length_map, List.length_append, List.length_cons, List.length_nil]; omega)
      have hs : sgn 41 (i1 :: rowsOf (st2 ++ [(q2, i2)])) = some ((i2 ++ [.tup i1]) :: rowsOf st2) := by rw [rowsOf_app]; rfl
      rw [hs]
      obtain ⟨h1, eh⟩ : ∃ h1, h1 = h.push (.lst ((st2 ++ [(q2, i2)]).map fun p => Val.ref p.1)) := ⟨_, rfl⟩
      have S1 := S.cpy
      have sl : sliceV h (.ref r) none (some ((((st2 ++ [(q2, i2)] ++ [(q1, i1)]).map fun p => Val.ref p.1).length : Int) - 1)) = some (.lst ((st2 ++ [(q2, i2)]).map fun p => Val.ref p.1)) := by
        show (seqOf h (.ref r)).map _ = _
        have : seqOf h (.ref r) = some ((st2 ++ [(q2, i2)] ++ [(q1, i1)]).map fun p => Val.ref p.1) := by simp [seqOf, S.top]
        rw [this, Option.map_some, List.map_append]
        congr 2
        exact cut_len _ _
      have nl : newL true ((st2 ++ [(q2, i2)]).map fun p => Val.ref p.1) h = .ok (.ref h.n) h1 := by
        rw [eh]
        exact newL_n (by simp only [List.length_map, List.length_append, List.length_cons, List.length_nil] at h20 ⊢; omega)
      rw [← eh] at S1
      obtain ⟨m1, m2, m3, m4⟩ := last_ref S1
      have hi2 : i2.length < line := by have := hi (q2, i2) (by simp); simp at this; omega
      have ix : ∀ i : Int, intsV [Val.int i] = some [i] := fun i => rfl
      have i0 : intsV [] = some [] := rfl
      have hd : ∀ i : Int, [i].head? = some i := fun i => rfl
      have hd0 : ([] : List Int).head? = none := rfl
      refine ⟨h.n, some (.tup i1), _, st2, q2, i2 ++ [.tup i1], ?_, S1.put (.tup i1), by rw [rowsOf_app], fun n hn q hq => ?_, by simp at h20; omega⟩
      · simp only [rO, rC, evE_var, evE_cst, evE_op, evE_sub, evE_slice, evE_bm, evE_bf, evEs_nil, evEs_cons, exS_asg, exS_expr, exS_ife, exB_nil', exB_cons', bind_ok', stm_ok', next_nx', ifO_t, ifO_f, opt_some, varO_some, laidV_int, laidV_tup, laidV_lst, v_sub, v_lt, t_bl, ofOpt_some', List.getElem?_cons_zero, List.getElem?_cons_succ, List.set_cons_zero, List.set_cons_succ, bindTg, setSlots, List.length_cons, List.length_nil, Nat.reduceAdd, Nat.reduceLT, if_true, v_eqs _ o41 o40, v_eqs _ o41 o41, e1, e2, l1, l2, d, bf_tupr _ l3, ix, i0, hd, hd0, sl, nl, m1, m2, m4, put_ref m3 hi2]
      · rcases List.mem_append.mp hq with hq | hq
        · have := hn q (by simp [hq]); omega
        · cases List.mem_singleton.mp hq
          have := hn (q2, i2) (by simp)
          simp at this ⊢
          omega
  · have e1 : (([32] : List Nat) == [40]) = false := rfl
    have e2 : (([32] : List Nat) == [41]) = false := rfl
    have hs : sgn 32 (i1 :: rowsOf st) = some (i1 :: rowsOf st) := rfl
    rw [hs]
    refine ⟨r, c, h, st, q1, i1, ?_, S, rowsOf_app _ _ _, fun n hn q hq => by have := hn q hq; omega, h20⟩
    simp only [rO, rC, evE_var, evE_cst, evE_tup, evE_lst, evE_op, evE_neg, evE_not, evE_and, evE_or, evE_ite, evE_sub, evE_slice, evE_call, evE_callK, evE_bm, evE_bf, evE_isi, evEs_nil, evEs_cons, exS_asg, exS_augN, exS_expr, exS_ret, exS_ife, exB_nil', exB_cons', bind_ok', stm_ok', next_nx', next_rt', bind_exc', stm_exc', next_exc', ifO_t, ifO_f, opt_some, varO_some, laidV_int, laidV_bl, laidV_str, laidV_tup, laidV_lst, retO_rt, retO_nx, v_add, v_sub, v_lt, v_le, v_gt, v_ge, v_eqi, v_nei, t_bl, t_int, ofOpt_some', List.getElem?_cons_zero, List.getElem?_cons_succ, List.set_cons_zero, List.set_cons_succ, List.map_cons, List.map_nil, List.cons_append, List.nil_append, List.replicate_succ, List.replicate_zero, bindTg, setSlots, List.length_cons, List.length_nil, Nat.reduceAdd, Nat.reduceSub, Nat.reduceLT, ↓reduceIte, if_true, bf_int, bf_lent, bf_lenl, bf_lena, sub_t, sub_l, sub_a, v_eqs _ o32 o40, v_eqs _ o32 o41, e1, e2]
/-- one sign of the text -/
theorem turn2 (hF : ∀ (w : List Nat) (h : Heap), w.length ≤ 4000000 → (∀ c ∈ w, c ≤ 122) → F 10 [.str w] h = .ok (match atom2 w with
      | some v => .tup [v]
      | none => .non) h) {w : List Nat} (hl : w.length < 4000000) (hw : ∀ c ∈ w, c ≤ 122) {st : List (Nat × List Val)} {r q1 : Nat} {i1 : List Val} {h : Heap} (S : Stk h r (st ++ [(q1, i1)])) (hi : ∀ q ∈ st ++ [(q1, i1)], q.2.length < 10000000) (h20 : st.length ≤ 20) {x : Nat} (a b c : Option Val) :
    match stp x w (rowsOf (st ++ [(q1, i1)])) with
    | none => ∃ h', opt (bindTg [some (.str s), some (.ref r), some (.str w), a, b, c] (.name 3) (.str [x])) (fun ρ' => exB T F rB ρ' h) .bad = .rt .non h'
    | some (w', r') => ∃ r1 b' c' h' st' q' i', opt (bindTg [some (.str s), some (.ref r), some (.str w), a, b, c] (.name 3) (.str [x])) (fun ρ' => exB T F rB ρ' h) .bad = .nx [some (.str s), some (.ref r1), some (.str w'), some (.str [x]), b', c'] h' ∧ Stk h' r1 (st' ++ [(q', i')]) ∧ rowsOf (st' ++ [(q', i')]) = r' ∧
        (∀ n, (∀ q ∈ st ++ [(q1, i1)], q.2.length + 2 ≤ n) → ∀ q ∈ st' ++ [(q', i')], q.2.length ≤ n) ∧ st'.length ≤ 20 := by
  have lin : line = 16777216 := rfl
  rw [rowsOf_app]
  unfold stp
  have vi : opV h .isin (.str [x]) (.str [40, 41, 32]) = some (.bl (delim x)) := v_ins h [40, 41, 32] x
  cases hd : delim x with
  | false =>
    rw [hd] at vi
    simp only [Bool.false_eq_true, if_false]
    have av : opV h .add (.str w) (.str [x]) = some (.str (w ++ [x])) := v_adds h (by simp only [List.length_cons, List.length_nil]; omega)
    refine ⟨r, b, c, h, st, q1, i1, ?_, S, rowsOf_app _ _ _, fun n hn q hq => by have := hn q hq; omega, h20⟩
    simp only [rB, evE_var, evE_cst, evE_tup, evE_lst, evE_op, evE_neg, evE_not, evE_and, evE_or, evE_ite, evE_sub, evE_slice, evE_call, evE_callK, evE_bm, evE_bf, evE_isi, evEs_nil, evEs_cons, exS_asg, exS_augN, exS_expr, exS_ret, exS_ife, exB_nil', exB_cons', bind_ok', stm_ok', next_nx', next_rt', bind_exc', stm_exc', next_exc', ifO_t, ifO_f, opt_some, varO_some, laidV_int, laidV_bl, laidV_str, laidV_tup, laidV_lst, retO_rt, retO_nx, v_add, v_sub, v_lt, v_le, v_gt, v_ge, v_eqi, v_nei, t_bl, t_int, ofOpt_some', List.getElem?_cons_zero, List.getElem?_cons_succ, List.set_cons_zero, List.set_cons_succ, List.map_cons, List.map_nil, List.cons_append, List.nil_append, List.replicate_succ, List.replicate_zero, bindTg, setSlots, List.length_cons, List.length_nil, Nat.reduceAdd, Nat.reduceSub, Nat.reduceLT, ↓reduceIte, if_true, bf_int, bf_lent, bf_lenl, bf_lena, sub_t, sub_l, sub_a, vi, av]
  | true =>
    rw [hd] at vi
    simp only [if_true]
    have hf := fl2 (T := T) F s hF (Nat.le_of_lt hl) hw S (by have := hi (q1, i1) (by simp); simp at this; omega) x b c
    cases ef : flush atom2 w i1 with
    | none =>
      rw [ef] at hf
      refine ⟨h, ?_⟩
      simp only [rB, evE_var, evE_cst, evE_tup, evE_lst, evE_op, evE_neg, evE_not, evE_and, evE_or, evE_ite, evE_sub, evE_slice, evE_call, evE_callK, evE_bm, evE_bf, evE_isi, evEs_nil, evEs_cons, exS_asg, exS_augN, exS_expr, exS_ret, exS_ife, exB_nil', exB_cons', bind_ok', stm_ok', next_nx', next_rt', bind_exc', stm_exc', next_exc', ifO_t, ifO_f, opt_some, varO_some, laidV_int, laidV_bl, laidV_str, laidV_tup, laidV_lst, retO_rt, retO_nx, v_add, v_sub, v_lt, v_le, v_gt, v_ge, v_eqi, v_nei, t_bl, t_int, ofOpt_some', List.getElem?_cons_zero, List.getElem?_cons_succ, List.set_cons_zero, List.set_cons_succ, List.map_cons, List.map_nil, List.cons_append, List.nil_append, List.replicate_succ, List.replicate_zero, bindTg, setSlots, List.length_cons, List.length_nil, Nat.reduceAdd, Nat.reduceSub, Nat.reduceLT, ↓reduceIte, if_true, bf_int, bf_lent, bf_lenl, bf_lena, sub_t, sub_l, sub_a, vi, hf]
    | some i1' =>
      rw [ef] at hf
      obtain ⟨b', h1, e1, S1, hl1⟩ := hf
      have hs := sg2 (T := T) F s hd S1 (fun q hq => hi q (List.mem_append_left _ hq)) h20 b' c
      rw [rowsOf_app] at hs
      simp only at hs ⊢
      cases es : sgn x (i1' :: rowsOf st) with
      | none =>
        rw [es] at hs
        obtain ⟨h2, e2⟩ := hs
        refine ⟨h2, ?_⟩
        rw [exB_cons'] at e2
        simp only [rB, evE_var, evE_cst, evE_op, evE_bf, exS_ife, exB_nil', exB_cons', bind_ok', stm_ok', next_nx', ifO_t, opt_some, varO_some, t_bl, ofOpt_some', List.getElem?_cons_zero, List.getElem?_cons_succ, List.set_cons_zero, List.set_cons_succ, bindTg, setSlots, List.length_cons, List.length_nil, Nat.reduceAdd, Nat.reduceLT, if_true, vi, e1]
        simp only [exB_cons', exB_nil'] at e2
        rw [e2]
        rfl
      | some r' =>
        rw [es] at hs
        obtain ⟨r1, c', h2, st', q', i', e2, S2, hr, hn2, h20'⟩ := hs
        refine ⟨r1, b', c', h2, st', q', i', ?_, S2, hr, fun n hn q hq => hn2 n (fun q hq => ?_) q hq, h20'⟩
        · rw [exB_cons'] at e2
          simp only [rB, evE_var, evE_cst, evE_op, evE_bf, exS_ife, exB_nil', exB_cons', bind_ok', stm_ok', next_nx', ifO_t, opt_some, varO_some, t_bl, ofOpt_some', List.getElem?_cons_zero, List.getElem?_cons_succ, List.set_cons_zero, List.set_cons_succ, bindTg, setSlots, List.length_cons, List.length_nil, Nat.reduceAdd, Nat.reduceLT, if_true, vi, e1]
          simp only [exB_cons', exB_nil'] at e2
          rw [e2]
          rfl
        · rcases List.mem_append.mp hq with hq | hq
          · have := hn q (List.mem_append_left _ hq); omega
          · cases List.mem_singleton.mp hq
            have := hn (q1, i1) (by simp)
            simp only at this ⊢
            omega
theorem loop2 (hF : ∀ (w : List Nat) (h : Heap), w.length ≤ 4000000 → (∀ c ∈ w, c ≤ 122) → F 10 [.str w] h = .ok (match atom2 w with
      | some v => .tup [v]
      | none => .non) h) (h0 : Heap) (ws : List Nat) : ∀ (y w : List Nat) (st : List (Nat × List Val)) (r q1 : Nat) (i1 : List Val) (h : Heap) (a b c : Option Val), w.length + y.length < 4000000 → (∀ c ∈ w ++ y, c ≤ 122) → Stk h r (st ++ [(q1, i1)]) → (∀ q ∈ st ++ [(q1, i1)], q.2.length + 2 * y.length + 2 < 10000000) → st.length ≤ 20 →
    match run atom2 (y ++ [32]) w (rowsOf (st ++ [(q1, i1)])) with
    | none => ∃ h', forL (fun h' => stays h0 h' [.str ws]) (fun v ρ h => opt (bindTg ρ (.name 3) v) (fun ρ' => exB T F rB ρ' h) .bad) (sgnL (y ++ [32])) [some (.str s), some (.ref r), some (.str w), a, b, c] h = .rt .non h'
    | some r' => ∃ r1 w' a' b' c' h' st' q' i', forL (fun h' => stays h0 h' [.str ws]) (fun v ρ h => opt (bindTg ρ (.name 3) v) (fun ρ' => exB T F rB ρ' h) .bad) (sgnL (y ++ [32])) [some (.str s), some (.ref r), some (.str w), a, b, c] h = .nx [some (.str s), some (.ref r1), some (.str w'), a', b', c'] h' ∧ Stk h' r1 (st' ++ [(q', i')]) ∧ rowsOf (st' ++ [(q', i')]) = r' := by
  intro y
  induction y with
  | nil =>
    intro w st r q1 i1 h a b c hl hc S hi h20
    have ht := turn2 (T := T) F s hF (w := w) (by simpa using hl) (fun c hc' => hc c (List.mem_append_left _ hc')) S (fun q hq => by have := hi q hq; omega) h20 (x := 32) a b c
    show match run atom2 (32 :: []) w _ with | none => _ | some r' => _
    rw [run_stp]
    cases e : stp 32 w (rowsOf (st ++ [(q1, i1)])) with
    | none =>
      rw [e] at ht
      obtain ⟨h', ht⟩ := ht
      exact ⟨h', forL_rt ht⟩
    | some p =>
      obtain ⟨w', r'⟩ := p
      rw [e] at ht
      obtain ⟨r1, b', c', h', st', q', i', ht, S', hr, _, _⟩ := ht
      have hw' : w' = [] := by
        rw [rowsOf_app, stp_cons] at e
        rw [if_pos (show delim 32 = true from rfl)] at e
        cases ef : flush atom2 w i1 with
        | none => rw [ef] at e; cases e
        | some i1' =>
          rw [ef] at e
          obtain ⟨z, _, hz⟩ := Option.map_eq_some_iff.mp e
          exact (congrArg Prod.fst hz).symm
      subst hw'
      have er : run atom2 [] [] r' = some r' := by
        rw [← hr, rowsOf_app]
        simp [run, flush]
      dsimp only
      rw [er]
      exact ⟨r1, [], _, b', c', h', st', q', i', (forL_nx ht stays_str).trans forL_nil, S', hr⟩
  | cons x y ih =>
    intro w st r q1 i1 h a b c hl hc S hi h20
    simp only [List.length_cons] at hl hi
    have ht := turn2 (T := T) F s hF (w := w) (by omega) (fun c hc' => hc c (List.mem_append_left _ hc')) S (fun q hq => by have := hi q hq; omega) h20 (x := x) a b c
    show match run atom2 (x :: (y ++ [32])) w _ with | none => _ | some r' => _
    rw [run_stp]
    cases e : stp x w (rowsOf (st ++ [(q1, i1)])) with
    | none =>
      rw [e] at ht
      obtain ⟨h', ht⟩ := ht
      exact ⟨h', forL_rt ht⟩
    | some p =>
      obtain ⟨w', r'⟩ := p
      rw [e] at ht
      obtain ⟨r1, b', c', h', st', q', i', ht, S', hr, hn, h20'⟩ := ht
      have hw' : w' = [] ∨ w' = w ++ [x] := by
        rw [rowsOf_app, stp_cons] at e
        split at e
        · cases ef : flush atom2 w i1 with
          | none => rw [ef] at e; cases e
          | some i1' =>
            rw [ef] at e
            obtain ⟨z, _, hz⟩ := Option.map_eq_some_iff.mp e
            exact .inl (congrArg Prod.fst hz).symm
        · cases e
          exact .inr rfl
      have hwl : w'.length + y.length < 4000000 ∧ ∀ c ∈ w' ++ y, c ≤ 122 := by
        rcases hw' with rfl | rfl
        · exact ⟨by simp; omega, fun c hc' => hc c (by simp at hc' ⊢; exact .inr (.inr hc'))⟩
        · refine ⟨by simp only [List.length_append, List.length_cons, List.length_nil]; omega, fun c hc' => hc c ?_⟩
          simp only [List.mem_append, List.mem_cons, List.not_mem_nil, or_false] at hc' ⊢
          rcases hc' with (hc' | hc') | hc'
          · exact .inl hc'
          · exact .inr (.inl hc')
          · exact .inr (.inr hc')
      have := ih w' st' r1 q' i' h' (some (.str [x])) b' c' hwl.1 hwl.2 S' (fun q hq => by
        have := hn (9999997 - 2 * y.length) (fun q hq => by have := hi q hq; omega) q hq
        have : 2 * y.length + 2 < 9999998 := by
          have := hi (q1, i1) (by simp)
          omega
        omega) h20'
      rw [hr] at this
      dsimp only
      have ef : ∀ ρ, forL (fun h' => stays h0 h' [.str ws]) (fun v ρ h => opt (bindTg ρ (.name 3) v) (fun ρ' => exB T F rB ρ' h) .bad) (sgnL (x :: (y ++ [32]))) [some (.str s), some (.ref r), some (.str w), a, b, c] h = ρ ↔ forL (fun h' => stays h0 h' [.str ws]) (fun v ρ h => opt (bindTg ρ (.name 3) v) (fun ρ' => exB T F rB ρ' h) .bad) (sgnL (y ++ [32])) [some (.str s), some (.ref r1), some (.str w'), some (.str [x]), b', c'] h' = ρ := fun ρ => by
        show forL _ _ (.str [x] :: sgnL (y ++ [32])) _ _ = ρ ↔ _
        rw [forL_nx ht stays_str]
      show match run atom2 (y ++ [32]) w' r' with | none => _ | some r' => _
      cases e2 : run atom2 (y ++ [32]) w' r' with
      | none =>
        rw [e2] at this
        obtain ⟨h2, e3⟩ := this
        exact ⟨h2, (ef _).mpr e3⟩
      | some r2 =>
        rw [e2] at this
        obtain ⟨r3, w3, a3, b3, c3, h3, st3, q3, i3, e3, S3, hr3⟩ := this
        exact ⟨r3, w3, a3, b3, c3, h3, st3, q3, i3, (ef _).mpr e3, S3, hr3⟩
end
end K71

/-! K71: both readers on a text -/
namespace K71
open MP
/-- a text that is a tree's -/
def IsT (s : List Nat) (v : Val) : Prop := run atom1 s [] [[]] = some [[v]] ∧ txt v = s
theorem isnot_nn (h : Heap) : opV h .isnot .non .non = some (.bl false) := Eq.trans rfl rfl
theorem isnot_x (h : Heap) (x : Val) (q : x ≠ .non) : opV h .isnot x .non = some (.bl true) := by simp [opV, isv_non x q]
section
variable {T : Tb} (B : Tab T)
include B
theorem told (m : Nat) (s : List Nat) (ln : Int) (hl : s.length ≤ 4000000) (hs : ∀ c ∈ s, c ≤ 122) (h : Heap) :
    (∃ v h', IsT s v ∧ callF T (m + 23) 14 [.str s, .int ln] h = .ok (.tup [v]) h') ∨ ((∀ v, ¬ IsT s v) ∧ ∃ h', callF T (m + 23) 14 [.str s, .int ln] h = .ok .non h') := by
  have rs : ∀ (x : Exc) (ρ : Env) (h : Heap), retO (.exc x ρ h) = .exc x h := fun _ _ _ => retO_exc _ _ _
  have one : (1 ≤ line) = True := eq_true (by decide)
  have b1 : ∀ x : Val, bindBd [x] [.pos 0, .dfl (.int 1)] = some [x, .int 1] := fun x => rfl
  have b2 : ∀ x y : Val, bindBd [x, y] [.pos 0, .pos 1] = some [x, y] := fun x y => rfl
  rw [callF_n T (m + 22) 14 _ h _ B.f14 (B.fz 14) rfl]
  rcases readR B m s ln hl hs h with ⟨v, h', e1, e2, e⟩ | ⟨no, h', e⟩
  · refine .inl ⟨v, h', ⟨e1, e2⟩, ?_⟩
    have eb : exB T (callF T (m + 22)) [.asg (.name 3) (.ite (.op .eq (.var 1) (.cst (.int 1))) (.callK 5 [(.var 0)] [.pos 0, .dfl (.int 1)]) (.callK 5 [(.var 0), (.var 1)] [.pos 0, .pos 1]))] [some (.str s), some (.int ln), none, none] h = .nx [some (.str s), some (.int ln), none, some v] h' := by
      by_cases h1 : ln = 1
      · subst h1
        have d1 : ((1 : Int) == 1) = true := rfl
        simp only [evE_var, evE_cst, evE_tup, evE_lst, evE_op, evE_neg, evE_not, evE_and, evE_or, evE_ite, evE_sub, evE_slice, evE_call, evE_callK, evE_bm, evE_bf, evE_isi, evEs_nil, evEs_cons, exS_asg, exS_augN, exS_expr, exS_ret, exS_ife, exB_nil', exB_cons', bind_ok', stm_ok', next_nx', next_rt', bind_exc', stm_exc', next_exc', ifO_t, ifO_f, opt_some, varO_some, laidV_int, laidV_bl, laidV_str, laidV_tup, laidV_lst, retO_rt, retO_nx, v_add, v_sub, v_lt, v_le, v_gt, v_ge, v_eqi, v_nei, t_bl, t_int, ofOpt_some', List.getElem?_cons_zero, List.getElem?_cons_succ, List.set_cons_zero, List.set_cons_succ, List.map_cons, List.map_nil, List.cons_append, List.nil_append, List.replicate_succ, List.replicate_zero, bindTg, setSlots, List.length_cons, List.length_nil, Nat.reduceAdd, Nat.reduceSub, Nat.reduceLT, ↓reduceIte, if_true, bf_int, bf_lent, bf_lenl, bf_lena, sub_t, sub_l, sub_a, d1, b1, e]
      · have d1 : (ln == 1) = false := by rw [beq_eq_false_iff_ne]; exact h1
        simp only [evE_var, evE_cst, evE_tup, evE_lst, evE_op, evE_neg, evE_not, evE_and, evE_or, evE_ite, evE_sub, evE_slice, evE_call, evE_callK, evE_bm, evE_bf, evE_isi, evEs_nil, evEs_cons, exS_asg, exS_augN, exS_expr, exS_ret, exS_ife, exB_nil', exB_cons', bind_ok', stm_ok', next_nx', next_rt', bind_exc', stm_exc', next_exc', ifO_t, ifO_f, opt_some, varO_some, laidV_int, laidV_bl, laidV_str, laidV_tup, laidV_lst, retO_rt, retO_nx, v_add, v_sub, v_lt, v_le, v_gt, v_ge, v_eqi, v_nei, t_bl, t_int, ofOpt_some', List.getElem?_cons_zero, List.getElem?_cons_succ, List.set_cons_zero, List.set_cons_succ, List.map_cons, List.map_nil, List.cons_append, List.nil_append, List.replicate_succ, List.replicate_zero, bindTg, setSlots, List.length_cons, List.length_nil, Nat.reduceAdd, Nat.reduceSub, Nat.reduceLT, ↓reduceIte, if_true, bf_int, bf_lent, bf_lenl, bf_lena, sub_t, sub_l, sub_a, d1, b2, e]
    have et : ∀ x l hx, exS T (callF T (m + 22)) (.tryAs [.asg (.name 3) (.ite (.op .eq (.var 1) (.cst (.int 1))) (.callK 5 [(.var 0)] [.pos 0, .dfl (.int 1)]) (.callK 5 [(.var 0), (.var 1)] [.pos 0, .pos 1]))] x l hx (.val .non)) [some (.str s), some (.int ln), none, none] h = .nx [some (.str s), some (.int ln), none, some v] h' := fun x l hx => by
      conv => lhs; unfold exS
      rw [eb]
    simp only [b14, evE_var, evE_cst, evE_tup, evE_lst, evE_op, evE_neg, evE_not, evE_and, evE_or, evE_ite, evE_sub, evE_slice, evE_call, evE_callK, evE_bm, evE_bf, evE_isi, evEs_nil, evEs_cons, exS_asg, exS_augN, exS_expr, exS_ret, exS_ife, exB_nil', exB_cons', bind_ok', stm_ok', next_nx', next_rt', bind_exc', stm_exc', next_exc', ifO_t, ifO_f, opt_some, varO_some, laidV_int, laidV_bl, laidV_str, laidV_tup, laidV_lst, retO_rt, retO_nx, v_add, v_sub, v_lt, v_le, v_gt, v_ge, v_eqi, v_nei, t_bl, t_int, ofOpt_some', List.getElem?_cons_zero, List.getElem?_cons_succ, List.set_cons_zero, List.set_cons_succ, List.map_cons, List.map_nil, List.cons_append, List.nil_append, List.replicate_succ, List.replicate_zero, bindTg, setSlots, List.length_cons, List.length_nil, Nat.reduceAdd, Nat.reduceSub, Nat.reduceLT, ↓reduceIte, if_true, bf_int, bf_lent, bf_lenl, bf_lena, sub_t, sub_l, sub_a, et, one]
  · refine .inr ⟨no, h', ?_⟩
    have eb : exB T (callF T (m + 22)) [.asg (.name 3) (.ite (.op .eq (.var 1) (.cst (.int 1))) (.callK 5 [(.var 0)] [.pos 0, .dfl (.int 1)]) (.callK 5 [(.var 0), (.var 1)] [.pos 0, .pos 1]))] [some (.str s), some (.int ln), none, none] h = .exc ⟨2, [(0, .int ln)]⟩ [some (.str s), some (.int ln), none, none] h' := by
      by_cases h1 : ln = 1
      · subst h1
        have d1 : ((1 : Int) == 1) = true := rfl
        simp only [evE_var, evE_cst, evE_tup, evE_lst, evE_op, evE_neg, evE_not, evE_and, evE_or, evE_ite, evE_sub, evE_slice, evE_call, evE_callK, evE_bm, evE_bf, evE_isi, evEs_nil, evEs_cons, exS_asg, exS_augN, exS_expr, exS_ret, exS_ife, exB_nil', exB_cons', bind_ok', stm_ok', next_nx', next_rt', bind_exc', stm_exc', next_exc', ifO_t, ifO_f, opt_some, varO_some, laidV_int, laidV_bl, laidV_str, laidV_tup, laidV_lst, retO_rt, retO_nx, v_add, v_sub, v_lt, v_le, v_gt, v_ge, v_eqi, v_nei, t_bl, t_int, ofOpt_some', List.getElem?_cons_zero, List.getElem?_cons_succ, List.set_cons_zero, List.set_cons_succ, List.map_cons, List.map_nil, List.cons_append, List.nil_append, List.replicate_succ, List.replicate_zero, bindTg, setSlots, List.length_cons, List.length_nil, Nat.reduceAdd, Nat.reduceSub, Nat.reduceLT, ↓reduceIte, if_true, bf_int, bf_lent, bf_lenl, bf_lena, sub_t, sub_l, sub_a, d1, b1, e]
      · have d1 : (ln == 1) = false := by rw [beq_eq_false_iff_ne]; exact h1
        simp only [evE_var, evE_cst, evE_tup, evE_lst, evE_op, evE_neg, evE_not, evE_and, evE_or, evE_ite, evE_sub, evE_slice, evE_call, evE_callK, evE_bm, evE_bf, evE_isi, evEs_nil, evEs_cons, exS_asg, exS_augN, exS_expr, exS_ret, exS_ife, exB_nil', exB_cons', bind_ok', stm_ok', next_nx', next_rt', bind_exc', stm_exc', next_exc', ifO_t, ifO_f, opt_some, varO_some, laidV_int, laidV_bl, laidV_str, laidV_tup, laidV_lst, retO_rt, retO_nx, v_add, v_sub, v_lt, v_le, v_gt, v_ge, v_eqi, v_nei, t_bl, t_int, ofOpt_some', List.getElem?_cons_zero, List.getElem?_cons_succ, List.set_cons_zero, List.set_cons_succ, List.map_cons, List.map_nil, List.cons_append, List.nil_append, List.replicate_succ, List.replicate_zero, bindTg, setSlots, List.length_cons, List.length_nil, Nat.reduceAdd, Nat.reduceSub, Nat.reduceLT, ↓reduceIte, if_true, bf_int, bf_lent, bf_lenl, bf_lena, sub_t, sub_l, sub_a, d1, b2, e]
    have et : exS T (callF T (m + 22)) (.tryAs [.asg (.name 3) (.ite (.op .eq (.var 1) (.cst (.int 1))) (.callK 5 [(.var 0)] [.pos 0, .dfl (.int 1)]) (.callK 5 [(.var 0), (.var 1)] [.pos 0, .pos 1]))] 0 2 [(.or (.not (.isE 2)) (.or (.isE 1) (.lineNe 1)), .val (.tup [.int 0, .int 0]))] (.val (.non))) [some (.str s), some (.int ln), none, none] h = .rt .non h' := by
      conv => lhs; unfold exS
      rw [eb]
      have nn : (ln != ln) = false := by simp
      simp only [B.s0, hxEnd, hxV, hrV, B.ex, B.s1, B.s2, Option.map_some, Bool.not_true, List.length_cons, List.length_nil, Nat.reduceAdd, Nat.reduceLT, if_true, List.set_cons_succ, List.set_cons_zero, List.getElem?_cons_succ, List.getElem?_cons_zero, nn]
    simp only [b14, evE_var, evE_cst, evE_tup, evE_lst, evE_op, evE_neg, evE_not, evE_and, evE_or, evE_ite, evE_sub, evE_slice, evE_call, evE_callK, evE_bm, evE_bf, evE_isi, evEs_nil, evEs_cons, exS_asg, exS_augN, exS_expr, exS_ret, exS_ife, exB_nil', exB_cons', bind_ok', stm_ok', next_nx', next_rt', bind_exc', stm_exc', next_exc', ifO_t, ifO_f, opt_some, varO_some, laidV_int, laidV_bl, laidV_str, laidV_tup, laidV_lst, retO_rt, retO_nx, v_add, v_sub, v_lt, v_le, v_gt, v_ge, v_eqi, v_nei, t_bl, t_int, ofOpt_some', List.getElem?_cons_zero, List.getElem?_cons_succ, List.set_cons_zero, List.set_cons_succ, List.map_cons, List.map_nil, List.cons_append, List.nil_append, List.replicate_succ, List.replicate_zero, bindTg, setSlots, List.length_cons, List.length_nil, Nat.reduceAdd, Nat.reduceSub, Nat.reduceLT, ↓reduceIte, if_true, bf_int, bf_lent, bf_lenl, bf_lena, sub_t, sub_l, sub_a, et]
theorem read2 (m : Nat) (s : List Nat) (hl : s.length ≤ 3000000) (hs : ∀ c ∈ s, c ≤ 122) (h : Heap) :
    (∃ v h', IsT s v ∧ callF T (m + 23) 11 [.str s] h = .ok (.tup [v]) h') ∨ ((∀ v, ¬ IsT s v) ∧ ∃ h', callF T (m + 23) 11 [.str s] h = .ok .non h') := by
  have lin : line = 16777216 := rfl
  have one : (1 ≤ line) = True := eq_true (by decide)
  have hl' : s.length ≤ line := by omega
  have os := okT_of hs
  have e0 : newL true [] h = .ok (.ref h.n) (h.push (.lst [])) := newL_n (by decide)
  have e1 : newL true [.ref h.n] (h.push (.lst [])) = .ok (.ref (h.n + 1)) ((h.push (.lst [])).push (.lst [.ref h.n])) := newL_n (by show 1 ≤ line; decide)
  have S : Stk ((h.push (.lst [])).push (.lst [.ref h.n])) (h.n + 1) ([] ++ [(h.n, [])]) := by
    refine ⟨push_at (h.push (.lst [])) _, fun p hp => ?_, by simp, fun q hq => ?_⟩
    · cases List.mem_singleton.mp hp
      exact ((Fr.push (h.push (.lst [])) (.lst [.ref h.n])).2 h.n (Nat.lt_succ_self _)).trans (push_at h _)
    · show q < h.n + 1 + 1
      simp at hq
      omega
  have a1 : ∀ h : Heap, opV h .add (.str s) (.str [32]) = some (.str (s ++ [32])) := fun h => v_adds h (by simp only [List.length_cons, List.length_nil]; omega)
  have L := loop2 (T := T) (callF T (m + 22)) s (fun w h hl hw => wordR B (m + 21) h w hl hw) ((h.push (.lst [])).push (.lst [.ref h.n])) (s ++ [32]) s [] [] (h.n + 1) h.n [] _ none none none (by show 0 + s.length < _; omega) (by simpa using hs) S (fun q hq => by
    cases List.mem_singleton.mp hq
    show 0 + 2 * s.length + 2 < _
    omega) (by decide)
  have er0 : rowsOf ([] ++ [(h.n, ([] : List Val))]) = [[]] := rfl
  rw [er0, run_blank] at L
  have wk : ∀ h : Heap, walkV h 0 [.str (s ++ [32])] = some (sgnL (s ++ [32])) := fun h => walk_str _ h
  have no_of : (∀ v, ¬ (run atom2 s [] [[]] = some [[v]] ∧ txt v = s)) → ∀ v, ¬ IsT s v := fun q v z => q v ((both s v).mpr z)
  rw [callF_n T (m + 22) 11 _ h _ B.f11 (B.fz 11) rfl]
  cases er : run atom2 s [] [[]] with
  | none =>
    rw [er] at L
    obtain ⟨h', e⟩ := L
    refine .inr ⟨no_of fun v z => (by cases z.1.symm.trans er), h', ?_⟩
    have e := loop_of (T := T) (F := callF T (m + 22)) (tg := .name 3) (w := 0) (it := [(.op .add (.var 0) (.cst (.str [32])))]) (ρ := [some (.str s), some (.ref (h.n + 1)), some (.str []), none, none, none]) (h := (h.push (.lst [])).push (.lst [.ref h.n])) (ws := [.str (s ++ [32])]) (items := sgnL (s ++ [32])) (by decide) (by simp only [evE_var, evE_cst, evE_tup, evE_lst, evE_op, evE_neg, evE_not, evE_and, evE_or, evE_ite, evE_sub, evE_slice, evE_call, evE_callK, evE_bm, evE_bf, evE_isi, evEs_nil, evEs_cons, exS_asg, exS_augN, exS_expr, exS_ret, exS_ife, exB_nil', exB_cons', bind_ok', stm_ok', next_nx', next_rt', bind_exc', stm_exc', next_exc', ifO_t, ifO_f, opt_some, varO_some, laidV_int, laidV_bl, laidV_str, laidV_tup, laidV_lst, retO_rt, retO_nx, v_add, v_sub, v_lt, v_le, v_gt, v_ge, v_eqi, v_nei, t_bl, t_int, ofOpt_some', List.getElem?_cons_zero, List.getElem?_cons_succ, List.set_cons_zero, List.set_cons_succ, List.map_cons, List.map_nil, List.cons_append, List.nil_append, List.replicate_succ, List.replicate_zero, bindTg, setSlots, List.length_cons, List.length_nil, Nat.reduceAdd, Nat.reduceSub, Nat.reduceLT, ↓reduceIte, if_true, bf_int, bf_lent, bf_lenl, bf_lena, sub_t, sub_l, sub_a, a1]) (wk _) e
    unfold rB rF rO rC at e
    simp only [b11, evE_var, evE_cst, evE_tup, evE_lst, evE_op, evE_neg, evE_not, evE_and, evE_or, evE_ite, evE_sub, evE_slice, evE_call, evE_callK, evE_bm, evE_bf, evE_isi, evEs_nil, evEs_cons, exS_asg, exS_augN, exS_expr, exS_ret, exS_ife, exB_nil', exB_cons', bind_ok', stm_ok', next_nx', next_rt', bind_exc', stm_exc', next_exc', ifO_t, ifO_f, opt_some, varO_some, laidV_int, laidV_bl, laidV_str, laidV_tup, laidV_lst, retO_rt, retO_nx, v_add, v_sub, v_lt, v_le, v_gt, v_ge, v_eqi, v_nei, t_bl, t_int, ofOpt_some', List.getElem?_cons_zero, List.getElem?_cons_succ, List.set_cons_zero, List.set_cons_succ, List.map_cons, List.map_nil, List.cons_append, List.nil_append, List.replicate_succ, List.replicate_zero, bindTg, setSlots, List.length_cons, List.length_nil, Nat.reduceAdd, Nat.reduceSub, Nat.reduceLT, ↓reduceIte, if_true, bf_int, bf_lent, bf_lenl, bf_lena, sub_t, sub_l, sub_a, e0, e1, e]
  | some r' =>
    rw [er] at L
    obtain ⟨r1, w', a', b', c', h', st, q', i', e, S', hr⟩ := L
    have e := loop_of (T := T) (F := callF T (m + 22)) (tg := .name 3) (w := 0) (it := [(.op .add (.var 0) (.cst (.str [32])))]) (ρ := [some (.str s), some (.ref (h.n + 1)), some (.str []), none, none, none]) (h := (h.push (.lst [])).push (.lst [.ref h.n])) (ws := [.str (s ++ [32])]) (items := sgnL (s ++ [32])) (by decide) (by simp only [evE_var, evE_cst, evE_tup, evE_lst, evE_op, evE_neg, evE_not, evE_and, evE_or, evE_ite, evE_sub, evE_slice, evE_call, evE_callK, evE_bm, evE_bf, evE_isi, evEs_nil, evEs_cons, exS_asg, exS_augN, exS_expr, exS_ret, exS_ife, exB_nil', exB_cons', bind_ok', stm_ok', next_nx', next_rt', bind_exc', stm_exc', next_exc', ifO_t, ifO_f, opt_some, varO_some, laidV_int, laidV_bl, laidV_str, laidV_tup, laidV_lst, retO_rt, retO_nx, v_add, v_sub, v_lt, v_le, v_gt, v_ge, v_eqi, v_nei, t_bl, t_int, ofOpt_some', List.getElem?_cons_zero, List.getElem?_cons_succ, List.set_cons_zero, List.set_cons_succ, List.map_cons, List.map_nil, List.cons_append, List.nil_append, List.replicate_succ, List.replicate_zero, bindTg, setSlots, List.length_cons, List.length_nil, Nat.reduceAdd, Nat.reduceSub, Nat.reduceLT, ↓reduceIte, if_true, bf_int, bf_lent, bf_lenl, bf_lena, sub_t, sub_l, sub_a, a1]) (wk _) e
    unfold rB rF rO rC at e
    cases st with
    | cons p st =>
      refine .inr ⟨no_of fun v z => ?_, h', ?_⟩
      · have := z.1.symm.trans er
        cases this
        have := congrArg List.length hr
        simp [rowsOf] at this
      · obtain ⟨L, hL, hL1⟩ : ∃ L : Nat, L ≠ 1 ∧ bfV h' .len [.ref r1] = some (.int (L : Int)) := ⟨_, by simp only [List.length_map, List.length_append, List.length_cons, List.length_nil]; omega, bf_lenr h' S'.top⟩
        have d1 : ((L : Int) == 1) = false := by rw [beq_eq_false_iff_ne]; omega
        simp only [b11, evE_var, evE_cst, evE_tup, evE_lst, evE_op, evE_neg, evE_not, evE_and, evE_or, evE_ite, evE_sub, evE_slice, evE_call, evE_callK, evE_bm, evE_bf, evE_isi, evEs_nil, evEs_cons, exS_asg, exS_augN, exS_expr, exS_ret, exS_ife, exB_nil', exB_cons', bind_ok', stm_ok', next_nx', next_rt', bind_exc', stm_exc', next_exc', ifO_t, ifO_f, opt_some, varO_some, laidV_int, laidV_bl, laidV_str, laidV_tup, laidV_lst, retO_rt, retO_nx, v_add, v_sub, v_lt, v_le, v_gt, v_ge, v_eqi, v_nei, t_bl, t_int, ofOpt_some', List.getElem?_cons_zero, List.getElem?_cons_succ, List.set_cons_zero, List.set_cons_succ, List.map_cons, List.map_nil, List.cons_append, List.nil_append, List.replicate_succ, List.replicate_zero, bindTg, setSlots, List.length_cons, List.length_nil, Nat.reduceAdd, Nat.reduceSub, Nat.reduceLT, ↓reduceIte, if_true, bf_int, bf_lent, bf_lenl, bf_lena, sub_t, sub_l, sub_a, e0, e1, e, hL1, d1, Bool.not_false]
    | nil =>
      have top : h'.c r1 = some (.lst [.ref q']) := S'.top
      have hq := S'.rows (q', i') (by simp)
      have bl := bf_lenr h' top
      simp only [List.length_cons, List.length_nil] at bl
      have d1 : (((1 : Nat) : Int) == 1) = true := rfl
      have l0 : at_ [Val.ref q'] 0 = some (.ref q') := at_nat [Val.ref q'] 0
      have bl2 := bf_lenr h' hq
      have hr : r' = [i'] := hr.symm
      subst hr
      by_cases hx : i'.length = 1
      · obtain ⟨v, rfl⟩ := List.length_eq_one_iff.mp hx
        have er1 := run_mono (fun w v => atom_mono) s [] _ _ er
        obtain ⟨gv, sz⟩ := run_one er1
        have g := gv v (by simp)
        simp only [siz] at sz
        have ew := text B m 20 v g (by omega) h'
        have ew : callF T (m + 22) 9 [v] h' = .ok (.str (txt v)) h' := by rwa [show 20 + m + 2 = m + 22 by omega] at ew
        have l1 : at_ [v] 0 = some v := at_nat [v] 0
        simp only [List.length_cons, List.length_nil] at bl2
        have ot := okT_of (txt_okG 20 v g)
        by_cases et : txt v = s
        · refine .inl ⟨v, h', ⟨er1, et⟩, ?_⟩
          have ee : (txt v == s) = true := by rw [et]; exact beq_self_eq_true s
          simp only [b11, evE_var, evE_cst, evE_tup, evE_lst, evE_op, evE_neg, evE_not, evE_and, evE_or, evE_ite, evE_sub, evE_slice, evE_call, evE_callK, evE_bm, evE_bf, evE_isi, evEs_nil, evEs_cons, exS_asg, exS_augN, exS_expr, exS_ret, exS_ife, exB_nil', exB_cons', bind_ok', stm_ok', next_nx', next_rt', bind_exc', stm_exc', next_exc', ifO_t, ifO_f, opt_some, varO_some, laidV_int, laidV_bl, laidV_str, laidV_tup, laidV_lst, retO_rt, retO_nx, v_add, v_sub, v_lt, v_le, v_gt, v_ge, v_eqi, v_nei, t_bl, t_int, ofOpt_some', List.getElem?_cons_zero, List.getElem?_cons_succ, List.set_cons_zero, List.set_cons_succ, List.map_cons, List.map_nil, List.cons_append, List.nil_append, List.replicate_succ, List.replicate_zero, bindTg, setSlots, List.length_cons, List.length_nil, Nat.reduceAdd, Nat.reduceSub, Nat.reduceLT, ↓reduceIte, if_true, bf_int, bf_lent, bf_lenl, bf_lena, sub_t, sub_l, sub_a, e0, e1, e, bl, d1, Bool.not_true, sub_r _ top, l0, bl2, sub_r _ hq, l1, ew, v_nes h' ot os, ee, one]
        · refine .inr ⟨no_of fun u z => ?_, h', ?_⟩
          · have := z.1.symm.trans er
            cases this
            exact et z.2
          · have ee : (txt v == s) = false := by rw [beq_eq_false_iff_ne]; exact et
            simp only [b11, evE_var, evE_cst, evE_tup, evE_lst, evE_op, evE_neg, evE_not, evE_and, evE_or, evE_ite, evE_sub, evE_slice, evE_call, evE_callK, evE_bm, evE_bf, evE_isi, evEs_nil, evEs_cons, exS_asg, exS_augN, exS_expr, exS_ret, exS_ife, exB_nil', exB_cons', bind_ok', stm_ok', next_nx', next_rt', bind_exc', stm_exc', next_exc', ifO_t, ifO_f, opt_some, varO_some, laidV_int, laidV_bl, laidV_str, laidV_tup, laidV_lst, retO_rt, retO_nx, v_add, v_sub, v_lt, v_le, v_gt, v_ge, v_eqi, v_nei, t_bl, t_int, ofOpt_some', List.getElem?_cons_zero, List.getElem?_cons_succ, List.set_cons_zero, List.set_cons_succ, List.map_cons, List.map_nil, List.cons_append, List.nil_append, List.replicate_succ, List.replicate_zero, bindTg, setSlots, List.length_cons, List.length_nil, Nat.reduceAdd, Nat.reduceSub, Nat.reduceLT, ↓reduceIte, if_true, bf_int, bf_lent, bf_lenl, bf_lena, sub_t, sub_l, sub_a, e0, e1, e, bl, d1, Bool.not_true, sub_r _ top, l0, bl2, sub_r _ hq, l1, ew, v_nes h' ot os, ee, Bool.not_false]
      · refine .inr ⟨no_of fun u z => ?_, h', ?_⟩
        · have := z.1.symm.trans er
          cases this
          exact hx rfl
        · have d2 : ((i'.length : Int) == 1) = false := by rw [beq_eq_false_iff_ne]; omega
          simp only [b11, evE_var, evE_cst, evE_tup, evE_lst, evE_op, evE_neg, evE_not, evE_and, evE_or, evE_ite, evE_sub, evE_slice, evE_call, evE_callK, evE_bm, evE_bf, evE_isi, evEs_nil, evEs_cons, exS_asg, exS_augN, exS_expr, exS_ret, exS_ife, exB_nil', exB_cons', bind_ok', stm_ok', next_nx', next_rt', bind_exc', stm_exc', next_exc', ifO_t, ifO_f, opt_some, varO_some, laidV_int, laidV_bl, laidV_str, laidV_tup, laidV_lst, retO_rt, retO_nx, v_add, v_sub, v_lt, v_le, v_gt, v_ge, v_eqi, v_nei, t_bl, t_int, ofOpt_some', List.getElem?_cons_zero, List.getElem?_cons_succ, List.set_cons_zero, List.set_cons_succ, List.map_cons, List.map_nil, List.cons_append, List.nil_append, List.replicate_succ, List.replicate_zero, bindTg, setSlots, List.length_cons, List.length_nil, Nat.reduceAdd, Nat.reduceSub, Nat.reduceLT, ↓reduceIte, if_true, bf_int, bf_lent, bf_lenl, bf_lena, sub_t, sub_l, sub_a, e0, e1, e, bl, d1, Bool.not_true, sub_r _ top, l0, bl2, d2, Bool.not_false]
end
end K71

/-! K71: the texts, the law -/
namespace K71
open MP
/-- a text for the readers -/
def TxOk (w : List Nat) : Prop := w.length ≤ 3000000 ∧ ∀ c ∈ w, c ≤ 122
theorem sub_mod {s : List Nat} (hs : s.length ≤ line) {n : Int} (hn : 0 < n) (hl : (s.length : Int) = n) (i : Int) (h : Heap) : ∃ c, c ∈ s ∧ subV h (.str s) (.int (i.fmod n)) = some (.str [c]) := by
  have h1 : 0 ≤ i.fmod n := Int.fmod_nonneg_of_pos i hn
  have h2 : i.fmod n < n := Int.fmod_lt_of_pos i hn
  obtain ⟨k, hk⟩ : ∃ k : Nat, i.fmod n = k := ⟨(i.fmod n).toNat, by omega⟩
  rw [hk] at h1 h2 ⊢
  have hk2 : k < s.length := by omega
  refine ⟨s[k], List.getElem_mem hk2, ?_⟩
  rw [sub_s h hs, at_nat, List.getElem?_eq_getElem hk2]
  rfl
theorem cut_sub {α : Type} (w : List α) (lo hi : Option Int) : (cut w lo hi).length ≤ w.length ∧ ∀ c ∈ cut w lo hi, c ∈ w := by
  unfold cut
  refine ⟨?_, fun c hc => List.mem_of_mem_drop (List.mem_of_mem_take hc)⟩
  rw [List.length_take, List.length_drop]
  omega
def sg1 : List Nat := [40, 41, 40, 41, 32, 32, 84, 78, 45, 48, 49, 50, 97, 98, 57]
def sg3 : List Nat := [40, 41, 32, 84, 78, 45, 48, 49, 50, 97, 98, 57]
theorem sg1_ok : ∀ c ∈ sg1, c ≤ 122 := by decide
theorem sg3_ok : ∀ c ∈ sg3, c ≤ 122 := by decide
section
variable {T : Tb} (B : Tab T)
include B
omit B in
theorem menu_loop (F : Fns) (i n0 : Int) (h h0 : Heap) : ∀ (n j : Nat) (w : List Nat) (k : Option Val), j + n ≤ 50 → w.length ≤ 1000 + j → (∀ c ∈ w, c ≤ 122) → ∃ w' k', forL (fun h' => stays h0 h' [.int n0]) (fun v ρ h => opt (bindTg ρ (.name 3) v) (fun ρ' => exB T F [.asg (.name 2) (.op .add (.var 2) (.sub (.cst (.str [40, 41, 40, 41, 32, 32, 84, 78, 45, 48, 49, 50, 97, 98, 57])) (.op .mod (.op .fdiv (.bf .int true [(.var 0)]) (.op .add (.cst (.int 3)) (.op .mul (.cst (.int 5)) (.var 3)))) (.cst (.int 15)))))] ρ' h) .bad) (upto (j : Int) n) [some (.int i), some (.int n0), some (.str w), k] h
    = .nx [some (.int i), some (.int n0), some (.str w'), k'] h ∧ w'.length ≤ 2000 ∧ ∀ c ∈ w', c ≤ 122 := by
  intro n
  induction n with
  | zero => exact fun j w k hj hl hw => ⟨w, k, forL_nil, by omega, hw⟩
  | succ n ih =>
    intro j w k hj hl hw
    have lin : line = 16777216 := rfl
    have m1 : opV h .mul (.int 5) (.int (j : Int)) = some (.int (5 * (j : Int))) := v_mul1 h (by decide)
    have f1 : opV h .fdiv (.int i) (.int (3 + 5 * (j : Int))) = some (.int (i.fdiv (3 + 5 * (j : Int)))) := v_fdiv h ⟨by omega, by
      have : bound30 = 2 ^ 30 := rfl
      omega⟩
    have m2 : ∀ x : Int, opV h .mod (.int x) (.int 15) = some (.int (x.fmod 15)) := fun x => v_mod h (by decide)
    obtain ⟨c, hc, ec⟩ := sub_mod (s := sg1) (by decide) (n := 15) (by decide) (by decide) (i.fdiv (3 + 5 * (j : Int))) h
    have hc := sg1_ok c hc
    unfold sg1 at ec
    have av : opV h .add (.str w) (.str [c]) = some (.str (w ++ [c])) := v_adds h (by simp only [List.length_cons, List.length_nil]; omega)
    obtain ⟨w', k', e, hl', hw'⟩ := ih (j + 1) (w ++ [c]) (some (.int (j : Int))) (by omega) (by simp only [List.length_append, List.length_cons, List.length_nil]; omega) (fun x hx => by
      rcases List.mem_append.mp hx with hx | hx
      · exact hw x hx
      · cases List.mem_singleton.mp hx; exact hc)
    refine ⟨w', k', ?_, hl', hw'⟩
    have eu : upto (j : Int) (n + 1) = .int (j : Int) :: upto ((j + 1 : Nat) : Int) n := rfl
    rw [eu, forL_nx (ρ' := [some (.int i), some (.int n0), some (.str (w ++ [c])), some (.int (j : Int))]) (h' := h) ?_ stays_int, e]
    simp only [evE_var, evE_cst, evE_tup, evE_lst, evE_op, evE_neg, evE_not, evE_and, evE_or, evE_ite, evE_sub, evE_slice, evE_call, evE_callK, evE_bm, evE_bf, evE_isi, evEs_nil, evEs_cons, exS_asg, exS_augN, exS_expr, exS_ret, exS_ife, exB_nil', exB_cons', bind_ok', stm_ok', next_nx', next_rt', bind_exc', stm_exc', next_exc', ifO_t, ifO_f, opt_some, varO_some, laidV_int, laidV_bl, laidV_str, laidV_tup, laidV_lst, retO_rt, retO_nx, v_add, v_sub, v_lt, v_le, v_gt, v_ge, v_eqi, v_nei, t_bl, t_int, ofOpt_some', List.getElem?_cons_zero, List.getElem?_cons_succ, List.set_cons_zero, List.set_cons_succ, List.map_cons, List.map_nil, List.cons_append, List.nil_append, List.replicate_succ, List.replicate_zero, bindTg, setSlots, List.length_cons, List.length_nil, Nat.reduceAdd, Nat.reduceSub, Nat.reduceLT, ↓reduceIte, if_true, bf_int, bf_lent, bf_lenl, bf_lena, sub_t, sub_l, sub_a, m1, f1, m2, ec, av]
theorem menu (d : Nat) (i : Int) (n : Nat) (hn : n ≤ 45) (h : Heap) : ∃ w, TxOk w ∧ callF T (d + 1) 12 [.int i, .int (n : Int)] h = .ok (.str w) h := by
  obtain ⟨w, k, e, hl, hw⟩ := menu_loop (T := T) (callF T d) i (n : Int) h h n 0 [] none (by omega) (by simp) (by simp)
  refine ⟨w, ⟨by omega, hw⟩, ?_⟩
  rw [callF_n T d 12 _ h _ B.f12 (B.fz 12) rfl]
  have e := loop_of (T := T) (F := callF T d) (tg := .name 3) (w := 2) (it := [.var 1]) (ρ := [some (.int i), some (.int (n : Int)), some (.str []), none]) (h := h) (ws := [.int (n : Int)]) (items := upto 0 n) (by decide) (by simp only [evE_var, evE_cst, evE_tup, evE_lst, evE_op, evE_neg, evE_not, evE_and, evE_or, evE_ite, evE_sub, evE_slice, evE_call, evE_callK, evE_bm, evE_bf, evE_isi, evEs_nil, evEs_cons, exS_asg, exS_augN, exS_expr, exS_ret, exS_ife, exB_nil', exB_cons', bind_ok', stm_ok', next_nx', next_rt', bind_exc', stm_exc', next_exc', ifO_t, ifO_f, opt_some, varO_some, laidV_int, laidV_bl, laidV_str, laidV_tup, laidV_lst, retO_rt, retO_nx, v_add, v_sub, v_lt, v_le, v_gt, v_ge, v_eqi, v_nei, t_bl, t_int, ofOpt_some', List.getElem?_cons_zero, List.getElem?_cons_succ, List.set_cons_zero, List.set_cons_succ, List.map_cons, List.map_nil, List.cons_append, List.nil_append, List.replicate_succ, List.replicate_zero, bindTg, setSlots, List.length_cons, List.length_nil, Nat.reduceAdd, Nat.reduceSub, Nat.reduceLT, ↓reduceIte, if_true, bf_int, bf_lent, bf_lenl, bf_lena, sub_t, sub_l, sub_a]) (rng_ok (by omega) h) e
  simp only [b12, evE_var, evE_cst, evE_tup, evE_lst, evE_op, evE_neg, evE_not, evE_and, evE_or, evE_ite, evE_sub, evE_slice, evE_call, evE_callK, evE_bm, evE_bf, evE_isi, evEs_nil, evEs_cons, exS_asg, exS_augN, exS_expr, exS_ret, exS_ife, exB_nil', exB_cons', bind_ok', stm_ok', next_nx', next_rt', bind_exc', stm_exc', next_exc', ifO_t, ifO_f, opt_some, varO_some, laidV_int, laidV_bl, laidV_str, laidV_tup, laidV_lst, retO_rt, retO_nx, v_add, v_sub, v_lt, v_le, v_gt, v_ge, v_eqi, v_nei, t_bl, t_int, ofOpt_some', List.getElem?_cons_zero, List.getElem?_cons_succ, List.set_cons_zero, List.set_cons_succ, List.map_cons, List.map_nil, List.cons_append, List.nil_append, List.replicate_succ, List.replicate_zero, bindTg, setSlots, List.length_cons, List.length_nil, Nat.reduceAdd, Nat.reduceSub, Nat.reduceLT, ↓reduceIte, if_true, bf_int, bf_lent, bf_lenl, bf_lena, sub_t, sub_l, sub_a, e]
theorem spoilt (m : Nat) (i j : Int) (h : Heap) : ∃ w h', TxOk w ∧ callF T (m + 8) 13 [.int i, .int j] h = .ok (.str w) h' := by
  have lin : line = 16777216 := rfl
  have lbl : Lb 4 ≤ 100000 := by unfold Lb; decide
  obtain ⟨v, h1, e8, wv, _⟩ := tree B (m + 2) 4 i h
  have e8 : callF T (m + 7) 8 [.int i, .int 4] h = .ok v h1 := by
    have e8 : callF T (4 + (m + 2) + 1) 8 [.int i, .int 4] h = .ok v h1 := e8
    rwa [show 4 + (m + 2) + 1 = m + 7 by omega] at e8
  have tl := txt_len 4 v wv
  have e9 := text B (m + 1) 4 v wv.g (by omega) h1
  rw [show 4 + (m + 1) + 2 = m + 7 by omega] at e9
  have hw := txt_okG 4 v wv.g
  generalize txt v = w at *
  have hl : w.length ≤ line := by omega
  have j1 : opV h1 .fdiv (.int j) (.int 64) = some (.int (j.fdiv 64)) := v_fdiv h1 (by decide)
  have j2 : opV h1 .fdiv (.int j) (.int 384) = some (.int (j.fdiv 384)) := v_fdiv h1 (by decide)
  have m6 : ∀ x : Int, opV h1 .mod (.int x) (.int 6) = some (.int (x.fmod 6)) := fun x => v_mod h1 (by decide)
  have m4 : ∀ x : Int, opV h1 .mod (.int x) (.int 4) = some (.int (x.fmod 4)) := fun x => v_mod h1 (by decide)
  have m12 : ∀ x : Int, opV h1 .mod (.int x) (.int 12) = some (.int (x.fmod 12)) := fun x => v_mod h1 (by decide)
  have ml : opV h1 .mod (.int j) (.int ((w.length : Int) + 1)) = some (.int (j.fmod ((w.length : Int) + 1))) := v_mod h1 (by omega)
  have p1 : 0 ≤ j.fmod ((w.length : Int) + 1) := Int.fmod_nonneg_of_pos j (by omega)
  obtain ⟨c, hc, ec⟩ := sub_mod (s := sg3) (by decide) (n := 12) (by decide) (by decide) (j.fdiv 384) h1
  have hc := sg3_ok c hc
  unfold sg3 at ec
  have sl : ∀ lo hi : Option Int, sliceV h1 (.str w) lo hi = some (.str (cut w lo hi)) := fun lo hi => by
    show (if _ then _ else _) = _
    rw [if_pos hl]
  have cs : ∀ lo hi : Option Int, (cut w lo hi).length ≤ 100000 ∧ ∀ c ∈ cut w lo hi, c ≤ 122 := fun lo hi => ⟨Nat.le_trans (cut_sub w lo hi).1 (by omega), fun c hc => hw c ((cut_sub w lo hi).2 c hc)⟩
  have ix : ∀ i : Int, intsV [Val.int i] = some [i] := fun i => rfl
  have i0 : intsV [] = some [] := rfl
  have hd : ∀ i : Int, [i].head? = some i := fun i => rfl
  have hd0 : ([] : List Int).head? = none := rfl
  have av : ∀ a b : List Nat, a.length ≤ 4000001 → b.length ≤ 4000000 → opV h1 .add (.str a) (.str b) = some (.str (a ++ b)) := fun a b h1' h2' => v_adds h1 (by omega)
  obtain ⟨P, hP⟩ : ∃ P, P = j.fmod ((w.length : Int) + 1) := ⟨_, rfl⟩
  obtain ⟨K, hK⟩ : ∃ K, K = (j.fdiv 64).fmod 6 := ⟨_, rfl⟩
  rw [← hP] at ml
  have c1 := cs none (some P)
  have c2 := cs (some P) none
  have c3 := cs (some (P + 1)) none
  rw [callF_n T (m + 7) 13 _ h _ B.f13 (B.fz 13) rfl]
  have kk : ∀ x : Int, (K == x) = decide (K = x) := fun x => by by_cases e : K = x <;> simp [e]
  by_cases k0 : K = 0
  · have d0 := (kk 0).trans (decide_eq_true k0)
    refine ⟨cut w none (some P) ++ [c] ++ cut w (some P) none, h1, ⟨by simp only [List.length_append, List.length_cons, List.length_nil]; omega, fun x hx => ?_⟩, ?_⟩
    · simp only [List.mem_append, List.mem_singleton] at hx
      rcases hx with (hx | rfl) | hx
      · exact c1.2 x hx
      · exact hc
      · exact c2.2 x hx
    · simp only [b13, evE_var, evE_cst, evE_tup, evE_lst, evE_op, evE_neg, evE_not, evE_and, evE_or, evE_ite, evE_sub, evE_slice, evE_call, evE_callK, evE_bm, evE_bf, evE_isi, evEs_nil, evEs_cons, exS_asg, exS_augN, exS_expr, exS_ret, exS_ife, exB_nil', exB_cons', bind_ok', stm_ok', next_nx', next_rt', bind_exc', stm_exc', next_exc', ifO_t, ifO_f, opt_some, varO_some, laidV_int, laidV_bl, laidV_str, laidV_tup, laidV_lst, retO_rt, retO_nx, v_add, v_sub, v_lt, v_le, v_gt, v_ge, v_eqi, v_nei, t_bl, t_int, ofOpt_some', List.getElem?_cons_zero, List.getElem?_cons_succ, List.set_cons_zero, List.set_cons_succ, List.map_cons, List.map_nil, List.cons_append, List.nil_append, List.replicate_succ, List.replicate_zero, bindTg, setSlots, List.length_cons, List.length_nil, Nat.reduceAdd, Nat.reduceSub, Nat.reduceLT, ↓reduceIte, if_true, bf_int, bf_lent, bf_lenl, bf_lena, sub_t, sub_l, sub_a, e8, e9, bf_lens _ hl, ml, j1, m6, ← hK, j2, m12, ec, d0, sl, ix, i0, hd, hd0, av (cut w none (some P)) [c] (by omega) (by simp), av (cut w none (some P) ++ [c]) (cut w (some P) none) (by simp; omega) (by omega)]
  have d0 := (kk 0).trans (decide_eq_false k0)
  by_cases k1 : K = 1
  · have d1 := (kk 1).trans (decide_eq_true k1)
    refine ⟨cut w none (some P) ++ cut w (some (P + 1)) none, h1, ⟨by simp only [List.length_append, List.length_cons, List.length_nil]; omega, fun x hx => ?_⟩, ?_⟩
    · simp only [List.mem_append, List.mem_singleton] at hx
      rcases hx with hx | hx
      · exact c1.2 x hx
      · exact c3.2 x hx
    · simp only [b13, evE_var, evE_cst, evE_tup, evE_lst, evE_op, evE_neg, evE_not, evE_and, evE_or, evE_ite, evE_sub, evE_slice, evE_call, evE_callK, evE_bm, evE_bf, evE_isi, evEs_nil, evEs_cons, exS_asg, exS_augN, exS_expr, exS_ret, exS_ife, exB_nil', exB_cons', bind_ok', stm_ok', next_nx', next_rt', bind_exc', stm_exc', next_exc', ifO_t, ifO_f, opt_some, varO_some, laidV_int, laidV_bl, laidV_str, laidV_tup, laidV_lst, retO_rt, retO_nx, v_add, v_sub, v_lt, v_le, v_gt, v_ge, v_eqi, v_nei, t_bl, t_int, ofOpt_some', List.getElem?_cons_zero, List.getElem?_cons_succ, List.set_cons_zero, List.set_cons_succ, List.map_cons, List.map_nil, List.cons_append, List.nil_append, List.replicate_succ, List.replicate_zero, bindTg, setSlots, List.length_cons, List.length_nil, Nat.reduceAdd, Nat.reduceSub, Nat.reduceLT, ↓reduceIte, if_true, bf_int, bf_lent, bf_lenl, bf_lena, sub_t, sub_l, sub_a, e8, e9, bf_lens _ hl, ml, j1, m6, ← hK, j2, m12, ec, d0, d1, sl, ix, i0, hd, hd0, av (cut w none (some P)) (cut w (some (P + 1)) none) (by omega) (by omega)]
  have d1 := (kk 1).trans (decide_eq_false k1)
  by_cases k2 : K = 2
  · have d2 := (kk 2).trans (decide_eq_true k2)
    refine ⟨cut w none (some P) ++ [c] ++ cut w (some (P + 1)) none, h1, ⟨by simp only [List.length_append, List.length_cons, List.length_nil]; omega, fun x hx => ?_⟩, ?_⟩
    · simp only [List.mem_append, List.mem_singleton] at hx
      rcases hx with (hx | rfl) | hx
      · exact c1.2 x hx
      · exact hc
      · exact c3.2 x hx
    · simp only [b13, evE_var, evE_cst, evE_tup, evE_lst, evE_op, evE_neg, evE_not, evE_and, evE_or, evE_ite, evE_sub, evE_slice, evE_call, evE_callK, evE_bm, evE_bf, evE_isi, evEs_nil, evEs_cons, exS_asg, exS_augN, exS_expr, exS_ret, exS_ife, exB_nil', exB_cons', bind_ok', stm_ok', next_nx', next_rt', bind_exc', stm_exc', next_exc', ifO_t, ifO_f, opt_some, varO_some, laidV_int, laidV_bl, laidV_str, laidV_tup, laidV_lst, retO_rt, retO_nx, v_add, v_sub, v_lt, v_le, v_gt, v_ge, v_eqi, v_nei, t_bl, t_int, ofOpt_some', List.getElem?_cons_zero, List.getElem?_cons_succ, List.set_cons_zero, List.set_cons_succ, List.map_cons, List.map_nil, List.cons_append, List.nil_append, List.replicate_succ, List.replicate_zero, bindTg, setSlots, List.length_cons, List.length_nil, Nat.reduceAdd, Nat.reduceSub, Nat.reduceLT, ↓reduceIte, if_true, bf_int, bf_lent, bf_lenl, bf_lena, sub_t, sub_l, sub_a, e8, e9, bf_lens _ hl, ml, j1, m6, ← hK, j2, m12, ec, d0, d1, d2, sl, ix, i0, hd, hd0, av (cut w none (some P)) [c] (by omega) (by simp), av (cut w none (some P) ++ [c]) (cut w (some (P + 1)) none) (by simp; omega) (by omega)]
  have d2 := (kk 2).trans (decide_eq_false k2)
  have mu : ∀ (c : Nat) (z : Int), 0 ≤ z → z ≤ 1000 → opV h1 .mul (.str [c]) (.int z) = some (.str (List.replicate z.toNat c)) := fun c z a b => by
    show (if _ then _ else _) = _
    rw [if_pos ⟨a, b⟩]
  by_cases k3 : K = 3
  · have d3 := (kk 3).trans (decide_eq_true k3)
    have q1 := Int.fmod_nonneg_of_pos (j.fdiv 384) (b := 4) (by decide)
    have q2 := Int.fmod_lt_of_pos (j.fdiv 384) (b := 4) (by decide)
    generalize hz : (j.fdiv 384).fmod 4 = z at *
    refine ⟨[49] ++ List.replicate (18 + z).toNat 48, h1, ⟨by simp only [List.length_append, List.length_cons, List.length_nil, List.length_replicate]; omega, fun x hx => ?_⟩, ?_⟩
    · simp only [List.mem_append, List.mem_singleton, List.mem_replicate] at hx
      omega
    · simp only [b13, evE_var, evE_cst, evE_tup, evE_lst, evE_op, evE_neg, evE_not, evE_and, evE_or, evE_ite, evE_sub, evE_slice, evE_call, evE_callK, evE_bm, evE_bf, evE_isi, evEs_nil, evEs_cons, exS_asg, exS_augN, exS_expr, exS_ret, exS_ife, exB_nil', exB_cons', bind_ok', stm_ok', next_nx', next_rt', bind_exc', stm_exc', next_exc', ifO_t, ifO_f, opt_some, varO_some, laidV_int, laidV_bl, laidV_str, laidV_tup, laidV_lst, retO_rt, retO_nx, v_add, v_sub, v_lt, v_le, v_gt, v_ge, v_eqi, v_nei, t_bl, t_int, ofOpt_some', List.getElem?_cons_zero, List.getElem?_cons_succ, List.set_cons_zero, List.set_cons_succ, List.map_cons, List.map_nil, List.cons_append, List.nil_append, List.replicate_succ, List.replicate_zero, bindTg, setSlots, List.length_cons, List.length_nil, Nat.reduceAdd, Nat.reduceSub, Nat.reduceLT, ↓reduceIte, if_true, bf_int, bf_lent, bf_lenl, bf_lena, sub_t, sub_l, sub_a, e8, e9, bf_lens _ hl, ml, j1, m6, ← hK, j2, m12, ec, d0, d1, d2, d3, m4, hz, mu 48 (18 + z) (by omega) (by omega), av [49] (List.replicate (18 + z).toNat 48) (by simp) (by simp; omega)]
  have d3 := (kk 3).trans (decide_eq_false k3)
  by_cases k4 : K = 4
  · have d4 := (kk 4).trans (decide_eq_true k4)
    have q1 := Int.fmod_nonneg_of_pos (j.fdiv 384) (b := 6) (by decide)
    have q2 := Int.fmod_lt_of_pos (j.fdiv 384) (b := 6) (by decide)
    generalize hz : (j.fdiv 384).fmod 6 = z at *
    refine ⟨List.replicate (18 + z).toNat 40 ++ [53] ++ List.replicate (18 + z).toNat 41, h1, ⟨by simp only [List.length_append, List.length_cons, List.length_nil, List.length_replicate]; omega, fun x hx => ?_⟩, ?_⟩
    · simp only [List.mem_append, List.mem_singleton, List.mem_replicate] at hx
      omega
    · simp only [b13, evE_var, evE_cst, evE_tup, evE_lst, evE_op, evE_neg, evE_not, evE_and, evE_or, evE_ite, evE_sub, evE_slice, evE_call, evE_callK, evE_bm, evE_bf, evE_isi, evEs_nil, evEs_cons, exS_asg, exS_augN, exS_expr, exS_ret, exS_ife, exB_nil', exB_cons', bind_ok', stm_ok', next_nx', next_rt', bind_exc', stm_exc', next_exc', ifO_t, ifO_f, opt_some, varO_some, laidV_int, laidV_bl, laidV_str, laidV_tup, laidV_lst, retO_rt, retO_nx, v_add, v_sub, v_lt, v_le, v_gt, v_ge, v_eqi, v_nei, t_bl, t_int, ofOpt_some', List.getElem?_cons_zero, List.getElem?_cons_succ, List.set_cons_zero, List.set_cons_succ, List.map_cons, List.map_nil, List.cons_append, List.nil_append, List.replicate_succ, List.replicate_zero, bindTg, setSlots, List.length_cons, List.length_nil, Nat.reduceAdd, Nat.reduceSub, Nat.reduceLT, ↓reduceIte, if_true, bf_int, bf_lent, bf_lenl, bf_lena, sub_t, sub_l, sub_a, e8, e9, bf_lens _ hl, ml, j1, m6, ← hK, j2, m12, ec, d0, d1, d2, d3, d4, hz, mu 40 (18 + z) (by omega) (by omega), mu 41 (18 + z) (by omega) (by omega), av (List.replicate (18 + z).toNat 40) [53] (by simp; omega) (by simp), av (List.replicate (18 + z).toNat 40 ++ [53]) (List.replicate (18 + z).toNat 41) (by simp; omega) (by simp; omega)]
  have d4 := (kk 4).trans (decide_eq_false k4)
  refine ⟨w, h1, ⟨by omega, hw⟩, ?_⟩
  simp only [b13, evE_var, evE_cst, evE_tup, evE_lst, evE_op, evE_neg, evE_not, evE_and, evE_or, evE_ite, evE_sub, evE_slice, evE_call, evE_callK, evE_bm, evE_bf, evE_isi, evEs_nil, evEs_cons, exS_asg, exS_augN, exS_expr, exS_ret, exS_ife, exB_nil', exB_cons', bind_ok', stm_ok', next_nx', next_rt', bind_exc', stm_exc', next_exc', ifO_t, ifO_f, opt_some, varO_some, laidV_int, laidV_bl, laidV_str, laidV_tup, laidV_lst, retO_rt, retO_nx, v_add, v_sub, v_lt, v_le, v_gt, v_ge, v_eqi, v_nei, t_bl, t_int, ofOpt_some', List.getElem?_cons_zero, List.getElem?_cons_succ, List.set_cons_zero, List.set_cons_succ, List.map_cons, List.map_nil, List.cons_append, List.nil_append, List.replicate_succ, List.replicate_zero, bindTg, setSlots, List.length_cons, List.length_nil, Nat.reduceAdd, Nat.reduceSub, Nat.reduceLT, ↓reduceIte, if_true, bf_int, bf_lent, bf_lenl, bf_lena, sub_t, sub_l, sub_a, e8, e9, bf_lens _ hl, ml, j1, m6, ← hK, j2, m12, ec, d0, d1, d2, d3, d4]
/-- one turn -/
def t1 : List S := [.asg (.name 2) (.call 6 [(.var 0), (.op .mul (.cst (.int 2)) (.var 1))]), .asg (.name 3) (.call 6 [(.var 0), (.op .add (.op .mul (.cst (.int 2)) (.var 1)) (.cst (.int 1)))]), .asg (.name 4) (.call 13 [(.var 2), (.var 3)]), .ife (.op .eq (.var 1) (.cst (.int 0))) [.asg (.name 4) (.call 12 [(.var 2), (.op .mod (.bf .int true [(.var 3)]) (.cst (.int 41)))])] [], .ife (.op .eq (.var 1) (.cst (.int 1))) [.asg (.name 4) (.call 12 [(.var 2), (.op .mod (.bf .int true [(.var 3)]) (.cst (.int 8)))])] []]
def t2 : List S := [.asg (.name 5) (.call 11 [(.var 4)]), .asg (.name 6) (.call 14 [(.var 4), (.op .add (.op .mod (.bf .int true [(.var 3)]) (.cst (.int 90))) (.cst (.int 1)))]), .ife (.or (.and (.op .is (.var 5) (.cst (.non))) (.op .isnot (.var 6) (.cst (.non)))) (.and (.op .isnot (.var 5) (.cst (.non))) (.op .is (.var 6) (.cst (.non))))) [.ret (.cst (.bl false))] [], .ife (.and (.op .isnot (.var 5) (.cst (.non))) (.not (.call 7 [(.var 5), (.var 6)]))) [.ret (.cst (.bl false))] []]
theorem one_t1 (m : Nat) (xs : List Int) (k : Nat) (a b c d e : Option Val) (h : Heap) : ∃ i j w h', TxOk w ∧ exB T (callF T (m + 23)) t1 [some (.arr (xs.map .int)), some (.int (k : Int)), a, b, c, d, e] h = .nx [some (.arr (xs.map .int)), some (.int (k : Int)), some (.int i), some (.int j), some (.str w), d, e] h' := by
  obtain ⟨i, e1⟩ := number B (m + 22) xs (2 * k) h
  obtain ⟨j, e2⟩ := number B (m + 22) xs (2 * k + 1) h
  have e1 : callF T (m + 23) 6 [.arr (xs.map .int), .int (2 * (k : Int))] h = .ok (.int i) h := e1
  have e2 : callF T (m + 23) 6 [.arr (xs.map .int), .int (2 * (k : Int) + 1)] h = .ok (.int j) h := e2
  have mk : opV h .mul (.int 2) (.int (k : Int)) = some (.int (2 * (k : Int))) := v_mul1 h (by decide)
  obtain ⟨w, h1, ow, es⟩ := spoilt B (m + 15) i j h
  have es : callF T (m + 23) 13 [.int i, .int j] h = .ok (.str w) h1 := es
  by_cases k0 : k = 0
  · subst k0
    have d0 : (((0 : Nat) : Int) == 0) = true := rfl
    have d1 : (((0 : Nat) : Int) == 1) = false := rfl
    have m1 : opV h1 .mod (.int j) (.int 41) = some (.int (j.fmod 41)) := v_mod h1 (by decide)
    have q1 := Int.fmod_nonneg_of_pos j (b := 41) (by decide)
    have q2 := Int.fmod_lt_of_pos j (b := 41) (by decide)
    obtain ⟨n, hn⟩ : ∃ n : Nat, j.fmod 41 = n := ⟨(j.fmod 41).toNat, by omega⟩
    obtain ⟨w2, ow2, em⟩ := menu B (m + 22) i n (by omega) h1
    have em : callF T (m + 23) 12 [.int i, .int (n : Int)] h1 = .ok (.str w2) h1 := em
    refine ⟨i, j, w2, h1, ow2, ?_⟩
    simp only [t1, evE_var, evE_cst, evE_tup, evE_lst, evE_op, evE_neg, evE_not, evE_and, evE_or, evE_ite, evE_sub, evE_slice, evE_call, evE_callK, evE_bm, evE_bf, evE_isi, evEs_nil, evEs_cons, exS_asg, exS_augN, exS_expr, exS_ret, exS_ife, exB_nil', exB_cons', bind_ok', stm_ok', next_nx', next_rt', bind_exc', stm_exc', next_exc', ifO_t, ifO_f, opt_some, varO_some, laidV_int, laidV_bl, laidV_str, laidV_tup, laidV_lst, retO_rt, retO_nx, v_add, v_sub, v_lt, v_le, v_gt, v_ge, v_eqi, v_nei, t_bl, t_int, ofOpt_some', List.getElem?_cons_zero, List.getElem?_cons_succ, List.set_cons_zero, List.set_cons_succ, List.map_cons, List.map_nil, List.cons_append, List.nil_append, List.replicate_succ, List.replicate_zero, bindTg, setSlots, List.length_cons, List.length_nil, Nat.reduceAdd, Nat.reduceSub, Nat.reduceLT, ↓reduceIte, if_true, bf_int, bf_lent, bf_lenl, bf_lena, sub_t, sub_l, sub_a, mk, e1, e2, es, d0, d1, m1, hn, em]
  have d0 : ((k : Int) == 0) = false := by rw [beq_eq_false_iff_ne]; omega
  by_cases k1 : k = 1
  · subst k1
    have d1 : (((1 : Nat) : Int) == 1) = true := rfl
    have m1 : opV h1 .mod (.int j) (.int 8) = some (.int (j.fmod 8)) := v_mod h1 (by decide)
    have q1 := Int.fmod_nonneg_of_pos j (b := 8) (by decide)
    have q2 := Int.fmod_lt_of_pos j (b := 8) (by decide)
    obtain ⟨n, hn⟩ : ∃ n : Nat, j.fmod 8 = n := ⟨(j.fmod 8).toNat, by omega⟩
    obtain ⟨w2, ow2, em⟩ := menu B (m + 22) i n (by omega) h1
    have em : callF T (m + 23) 12 [.int i, .int (n : Int)] h1 = .ok (.str w2) h1 := em
    refine ⟨i, j, w2, h1, ow2, ?_⟩
    simp only [t1, evE_var, evE_cst, evE_tup, evE_lst, evE_op, evE_neg, evE_not, evE_and, evE_or, evE_ite, evE_sub, evE_slice, evE_call, evE_callK, evE_bm, evE_bf, evE_isi, evEs_nil, evEs_cons, exS_asg, exS_augN, exS_expr, exS_ret, exS_ife, exB_nil', exB_cons', bind_ok', stm_ok', next_nx', next_rt', bind_exc', stm_exc', next_exc', ifO_t, ifO_f, opt_some, varO_some, laidV_int, laidV_bl, laidV_str, laidV_tup, laidV_lst, retO_rt, retO_nx, v_add, v_sub, v_lt, v_le, v_gt, v_ge, v_eqi, v_nei, t_bl, t_int, ofOpt_some', List.getElem?_cons_zero, List.getElem?_cons_succ, List.set_cons_zero, List.set_cons_succ, List.map_cons, List.map_nil, List.cons_append, List.nil_append, List.replicate_succ, List.replicate_zero, bindTg, setSlots, List.length_cons, List.length_nil, Nat.reduceAdd, Nat.reduceSub, Nat.reduceLT, ↓reduceIte, if_true, bf_int, bf_lent, bf_lenl, bf_lena, sub_t, sub_l, sub_a, mk, e1, e2, es, d0, d1, m1, hn, em]
  have d1 : ((k : Int) == 1) = false := by rw [beq_eq_false_iff_ne]; omega
  refine ⟨i, j, w, h1, ow, ?_⟩
  simp only [t1, evE_var, evE_cst, evE_tup, evE_lst, evE_op, evE_neg, evE_not, evE_and, evE_or, evE_ite, evE_sub, evE_slice, evE_call, evE_callK, evE_bm, evE_bf, evE_isi, evEs_nil, evEs_cons, exS_asg, exS_augN, exS_expr, exS_ret, exS_ife, exB_nil', exB_cons', bind_ok', stm_ok', next_nx', next_rt', bind_exc', stm_exc', next_exc', ifO_t, ifO_f, opt_some, varO_some, laidV_int, laidV_bl, laidV_str, laidV_tup, laidV_lst, retO_rt, retO_nx, v_add, v_sub, v_lt, v_le, v_gt, v_ge, v_eqi, v_nei, t_bl, t_int, ofOpt_some', List.getElem?_cons_zero, List.getElem?_cons_succ, List.set_cons_zero, List.set_cons_succ, List.map_cons, List.map_nil, List.cons_append, List.nil_append, List.replicate_succ, List.replicate_zero, bindTg, setSlots, List.length_cons, List.length_nil, Nat.reduceAdd, Nat.reduceSub, Nat.reduceLT, ↓reduceIte, if_true, bf_int, bf_lent, bf_lenl, bf_lena, sub_t, sub_l, sub_a, mk, e1, e2, es, d0, d1]
theorem one_t2 (m : Nat) (X : Val) (k : Nat) (i j : Int) (w : List Nat) (ow : TxOk w) (d e : Option Val) (h : Heap) : ∃ d' e' h', exB T (callF T (m + 23)) t2 [some X, some (.int (k : Int)), some (.int i), some (.int j), some (.str w), d, e] h = .nx [some X, some (.int (k : Int)), some (.int i), some (.int j), some (.str w), d', e'] h' := by
  have m90 : ∀ h : Heap, opV h .mod (.int j) (.int 90) = some (.int (j.fmod 90)) := fun h => v_mod h (by decide)
  rcases read2 B m w ow.1 ow.2 h with ⟨v, h1, tv, e1⟩ | ⟨no, h1, e1⟩
  · rcases told B m w (j.fmod 90 + 1) (by have := ow.1; omega) ow.2 h1 with ⟨u, h2, tu, e2⟩ | ⟨no, _⟩
    · have : u = v := by
        have := tu.1.symm.trans tv.1
        cases this
        rfl
      subst this
      obtain ⟨gv, sz⟩ := run_one tv.1
      have g := gv u (by simp)
      have gt : G 21 (.tup [u]) := .tup 20 [u] fun x hx => by cases List.mem_singleton.mp hx; exact g
      have hl := ow.1
      have hle : (txt (.tup [u])).length ≤ 8000000 := by
        have := tup_len [u]
        have hs : siz [u] = (txt u).length + 1 + 0 := rfl
        have := congrArg List.length tu.2
        omega
      have es := same B (m + 1) 21 (.tup [u]) gt hle h2
      rw [show 21 + (m + 1) + 1 = m + 23 by omega] at es
      have n1 := fun h => v_is_non h (.tup [u]) (by simp)
      have n2 := fun h => isnot_x h (.tup [u]) (by simp)
      refine ⟨some (.tup [u]), some (.tup [u]), h2, ?_⟩
      simp only [t2, evE_var, evE_cst, evE_tup, evE_lst, evE_op, evE_neg, evE_not, evE_and, evE_or, evE_ite, evE_sub, evE_slice, evE_call, evE_callK, evE_bm, evE_bf, evE_isi, evEs_nil, evEs_cons, exS_asg, exS_augN, exS_expr, exS_ret, exS_ife, exB_nil', exB_cons', bind_ok', stm_ok', next_nx', next_rt', bind_exc', stm_exc', next_exc', ifO_t, ifO_f, opt_some, varO_some, laidV_int, laidV_bl, laidV_str, laidV_tup, laidV_lst, retO_rt, retO_nx, v_add, v_sub, v_lt, v_le, v_gt, v_ge, v_eqi, v_nei, t_bl, t_int, ofOpt_some', List.getElem?_cons_zero, List.getElem?_cons_succ, List.set_cons_zero, List.set_cons_succ, List.map_cons, List.map_nil, List.cons_append, List.nil_append, List.replicate_succ, List.replicate_zero, bindTg, setSlots, List.length_cons, List.length_nil, Nat.reduceAdd, Nat.reduceSub, Nat.reduceLT, ↓reduceIte, if_true, bf_int, bf_lent, bf_lenl, bf_lena, sub_t, sub_l, sub_a, e1, m90, e2, n1, n2, es, Bool.not_true]
    · exact absurd tv (no v)
  · rcases told B m w (j.fmod 90 + 1) (by have := ow.1; omega) ow.2 h1 with ⟨u, h2, tu, e2⟩ | ⟨_, h2, e2⟩
    · exact absurd tu (no u)
    · refine ⟨some .non, some .non, h2, ?_⟩
      simp only [t2, evE_var, evE_cst, evE_tup, evE_lst, evE_op, evE_neg, evE_not, evE_and, evE_or, evE_ite, evE_sub, evE_slice, evE_call, evE_callK, evE_bm, evE_bf, evE_isi, evEs_nil, evEs_cons, exS_asg, exS_augN, exS_expr, exS_ret, exS_ife, exB_nil', exB_cons', bind_ok', stm_ok', next_nx', next_rt', bind_exc', stm_exc', next_exc', ifO_t, ifO_f, opt_some, varO_some, laidV_int, laidV_bl, laidV_str, laidV_tup, laidV_lst, retO_rt, retO_nx, v_add, v_sub, v_lt, v_le, v_gt, v_ge, v_eqi, v_nei, t_bl, t_int, ofOpt_some', List.getElem?_cons_zero, List.getElem?_cons_succ, List.set_cons_zero, List.set_cons_succ, List.map_cons, List.map_nil, List.cons_append, List.nil_append, List.replicate_succ, List.replicate_zero, bindTg, setSlots, List.length_cons, List.length_nil, Nat.reduceAdd, Nat.reduceSub, Nat.reduceLT, ↓reduceIte, if_true, bf_int, bf_lent, bf_lenl, bf_lena, sub_t, sub_l, sub_a, e1, m90, e2, v_is_nn, isnot_nn]
theorem law_loop (m : Nat) (xs : List Int) (h0 : Heap) : ∀ (n j : Nat) (k a b c d e : Option Val) (h : Heap), ∃ k' a' b' c' d' e' h', forL (fun h' => stays h0 h' [.int 6]) (fun v ρ h => opt (bindTg ρ (.name 1) v) (fun ρ' => exB T (callF T (m + 23)) (t1 ++ t2) ρ' h) .bad) (upto (j : Int) n) [some (.arr (xs.map .int)), k, a, b, c, d, e] h
    = .nx [some (.arr (xs.map .int)), k', a', b', c', d', e'] h' := by
  intro n
  induction n with
  | zero => exact fun j k a b c d e h => ⟨k, a, b, c, d, e, h, forL_nil⟩
  | succ n ih =>
    intro j k a b c d e h
    obtain ⟨i1, j1, w, h1, ow, e1⟩ := one_t1 B m xs j a b c d e h
    obtain ⟨d', e', h2, e2⟩ := one_t2 B m (.arr (xs.map .int)) j i1 j1 w ow d e h1
    obtain ⟨k3, a3, b3, c3, d3, e3', h3, e3⟩ := ih (j + 1) (some (.int (j : Int))) (some (.int i1)) (some (.int j1)) (some (.str w)) d' e' h2
    refine ⟨k3, a3, b3, c3, d3, e3', h3, ?_⟩
    have eu : upto (j : Int) (n + 1) = .int (j : Int) :: upto ((j + 1 : Nat) : Int) n := rfl
    rw [eu, forL_nx (ρ' := [some (.arr (xs.map .int)), some (.int (j : Int)), some (.int i1), some (.int j1), some (.str w), d', e']) (h' := h2) ?_ stays_int, e3]
    show exB T (callF T (m + 23)) (t1 ++ t2) [some (.arr (xs.map .int)), some (.int (j : Int)), a, b, c, d, e] h = _
    rw [exB_app, e1, next_nx', e2]
theorem law (m : Nat) (xs : List Int) : ∃ h', callF T (m + 24) 15 [.arr (xs.map .int)] Heap.empty = .ok (.bl true) h' := by
  obtain ⟨k, a, b, c, d, e, h', el⟩ := law_loop B m xs Heap.empty 6 0 none none none none none none Heap.empty
  refine ⟨h', ?_⟩
  rw [callF_n T (m + 23) 15 _ Heap.empty _ B.f15 (B.fz 15) rfl]
  have r6 : walkV Heap.empty 2 [.int 6] = some (upto 0 6) := rng_ok (n := 6) (by decide) _
  have el := loop_of (T := T) (F := callF T (m + 23)) (tg := .name 1) (w := 2) (it := [.cst (.int 6)]) (ρ := [some (.arr (xs.map .int)), none, none, none, none, none, none]) (h := Heap.empty) (ws := [.int 6]) (items := upto 0 6) (by decide) (by simp only [evE_var, evE_cst, evE_tup, evE_lst, evE_op, evE_neg, evE_not, evE_and, evE_or, evE_ite, evE_sub, evE_slice, evE_call, evE_callK, evE_bm, evE_bf, evE_isi, evEs_nil, evEs_cons, exS_asg, exS_augN, exS_expr, exS_ret, exS_ife, exB_nil', exB_cons', bind_ok', stm_ok', next_nx', next_rt', bind_exc', stm_exc', next_exc', ifO_t, ifO_f, opt_some, varO_some, laidV_int, laidV_bl, laidV_str, laidV_tup, laidV_lst, retO_rt, retO_nx, v_add, v_sub, v_lt, v_le, v_gt, v_ge, v_eqi, v_nei, t_bl, t_int, ofOpt_some', List.getElem?_cons_zero, List.getElem?_cons_succ, List.set_cons_zero, List.set_cons_succ, List.map_cons, List.map_nil, List.cons_append, List.nil_append, List.replicate_succ, List.replicate_zero, bindTg, setSlots, List.length_cons, List.length_nil, Nat.reduceAdd, Nat.reduceSub, Nat.reduceLT, ↓reduceIte, if_true, bf_int, bf_lent, bf_lenl, bf_lena, sub_t, sub_l, sub_a]) r6 el
  have eb : b15 = [.loop (.name 1) 2 [(.cst (.int 6))] (t1 ++ t2), .ret (.cst (.bl true))] := rfl
  rw [eb]
  simp only [evE_var, evE_cst, evE_tup, evE_lst, evE_op, evE_neg, evE_not, evE_and, evE_or, evE_ite, evE_sub, evE_slice, evE_call, evE_callK, evE_bm, evE_bf, evE_isi, evEs_nil, evEs_cons, exS_asg, exS_augN, exS_expr, exS_ret, exS_ife, exB_nil', exB_cons', bind_ok', stm_ok', next_nx', next_rt', bind_exc', stm_exc', next_exc', ifO_t, ifO_f, opt_some, varO_some, laidV_int, laidV_bl, laidV_str, laidV_tup, laidV_lst, retO_rt, retO_nx, v_add, v_sub, v_lt, v_le, v_gt, v_ge, v_eqi, v_nei, t_bl, t_int, ofOpt_some', List.getElem?_cons_zero, List.getElem?_cons_succ, List.set_cons_zero, List.set_cons_succ, List.map_cons, List.map_nil, List.cons_append, List.nil_append, List.replicate_succ, List.replicate_zero, bindTg, setSlots, List.length_cons, List.length_nil, Nat.reduceAdd, Nat.reduceSub, Nat.reduceLT, ↓reduceIte, if_true, bf_int, bf_lent, bf_lenl, bf_lena, sub_t, sub_l, sub_a, el]
end
end K71

namespace Tx
open PySem PySem.Spec PyProof.Rows L2 MP
abbrev R : PySem.W.OpenRow := PySem.W.OpenLaw.row PySem.Challenge.rw_turnpike_k71_texts_that_are_no_trees
def top (i : Nat) : Stmt := PySem.Challenge.pw_turnpike_k71_texts_that_are_no_trees.main.body.getD i (.Pass ⟨0, 0, 0, 0⟩)
def names0 : List PySem.Str := ["TurnpikeError", "OutOfBounds", "InvalidText", "MOST_DEPTH", "MOST_DIGITS", "DIGITS", "LETTERS", "write_tree", "consists_of", "read_atom", "word_end", "read_items", "read_tree", "_law_number", "_law_same", "_law_tree", "_law_text", "_law_word", "_law_read", "_law_menu"]
def names1 : List PySem.Str := ["_law_spoilt", "_law_told"]
def names : List PySem.Str := names0 ++ names1
def d0 : He.DefD := ⟨("write_tree", none), "write_tree", "write_tree", defArgs (top 9), defBody (top 9), defScope (top 9), [], []⟩
def m0 : DM := ⟨d0, ["tree", "item"], ["tree"], true, true, false, []⟩
theorem ok0 : m0.Ok := ⟨fun _ K fd F => F.bindsN fun _ _ _ _ _ _ us hl => match us, hl with | [_], _ => rfl, fun n ks b e => (by cases e), by decide +kernel⟩
def d1 : He.DefD := ⟨("consists_of", none), "consists_of", "consists_of", defArgs (top 10), defBody (top 10), defScope (top 10), [], []⟩
def m1 : DM := ⟨d1, ["word", "signs", "sign"], ["word", "signs"], true, true, false, []⟩
theorem ok1 : m1.Ok := ⟨fun _ K fd F => F.bindsN fun _ _ _ _ _ _ us hl => match us, hl with | [_, _], _ => rfl, fun n ks b e => (by cases e), by decide +kernel⟩
def d2 : He.DefD := ⟨("read_atom", none), "read_atom", "read_atom", defArgs (top 11), defBody (top 11), defScope (top 11), [], []⟩
def m2 : DM := ⟨d2, ["word", "line", "digits"], ["word", "line"], true, true, false, []⟩
theorem ok2 : m2.Ok := ⟨fun _ K fd F => F.bindsN fun _ _ _ _ _ _ us hl => match us, hl with | [_, _], _ => rfl, fun n ks b e => (by cases e), by decide +kernel⟩
def d3 : He.DefD := ⟨("word_end", none), "word_end", "word_end", defArgs (top 12), defBody (top 12), defScope (top 12), [], []⟩
def m3 : DM := ⟨d3, ["text", "start", "stop"], ["text", "start"], true, true, false, []⟩
theorem ok3 : m3.Ok := ⟨fun _ K fd F => F.bindsN fun _ _ _ _ _ _ us hl => match us, hl with | [_, _], _ => rfl, fun n ks b e => (by cases e), by decide +kernel⟩
def d4 : He.DefD := ⟨("read_items", none), "read_items", "read_items", defArgs (top 13), defBody (top 13), defScope (top 13), [], []⟩
def m4 : DM := ⟨d4, ["text", "line", "rows", "at", "sign", "done", "stop"], ["text", "line"], true, true, false, []⟩
theorem ok4 : m4.Ok := ⟨fun _ K fd F => F.bindsN fun _ _ _ _ _ _ us hl => match us, hl with | [_, _], _ => rfl, fun n ks b e => (by cases e), by decide +kernel⟩
def d5 : He.DefD := ⟨("read_tree", none), "read_tree", "read_tree", defArgs (top 14), defBody (top 14), defScope (top 14), [], [("line", .int 1)]⟩
def m5 : DM := ⟨d5, ["text", "line", "items"], ["text", "line"], true, false, false, [((1, []), [.pos 0, .dfl (.int 1)]), ((1, ["line"]), [.pos 0, .pos 1])]⟩
theorem ok5 : m5.Ok := by
  refine ⟨fun e => (by cases e), fun n ks b e K fd F => ?_, by decide +kernel⟩
  have e : ([((1, []), (List.range 1).map Bd.pos ++ [.dfl (.int 1)]), ((1, ["line"]), (List.range 2).map Bd.pos)] : List ((Nat × List PySem.Str) × List Bd)).lookup (n, ks) = some b := e
  rw [List.lookup_cons] at e
  split at e
  · rename_i z
    cases e
    cases beq_iff_eq.mp z
    obtain ⟨mv, hK⟩ := FunD.kbinds0 (ps := ["text", "line"]) F 1 [] [("line", .int 1)] (fun us mv ws => us ++ mv) (fun z => by cases z) (fun q hq => hq) (fun r1 r2 _ => r1.append r2) (fun D doc pm an cdv ct us mv ws hu hm hw => match us, hu, mv, hm, ws, hw with | [_], _, [_], _, [], _ => ⟨_, _, _, _, _, _, rfl, rfl, rfl⟩)
    exact ⟨_, _, hK, fun L β H h vs zs args us S r l1 l2 eb => kw_default (.int 1) 1 r l1 l2 eb⟩
  · rw [List.lookup_cons] at e
    split at e
    · rename_i z
      cases e
      cases beq_iff_eq.mp z
      obtain ⟨mv, hK⟩ := FunD.kbinds0 (ps := ["text", "line"]) F 1 ["line"] [] (fun us mv ws => us ++ ws) (fun z => by cases z) (fun q hq => by cases hq) (fun r1 _ r3 => r1.append r3) (fun D doc pm an cdv ct us mv ws hu hm hw => match us, hu, mv, hm, ws, hw with | [_], _, [], _, [_], _ => rfl)
      exact ⟨_, _, hK, fun L β H h vs zs args us S r l1 l2 eb => kw_given 1 r l1 l2 eb⟩
    · cases e
def d6 : He.DefD := ⟨("_law_number", none), "_law_number", "_law_number", defArgs (top 16), defBody (top 16), defScope (top 16), [], []⟩
def m6 : DM := ⟨d6, ["_law_script", "_law_k", "_law_cell", "_law_first", "_law_second"], ["_law_script", "_law_k"], true, true, false, []⟩
theorem ok6 : m6.Ok := ⟨fun _ K fd F => F.bindsN fun _ _ _ _ _ _ us hl => match us, hl with | [_, _], _ => rfl, fun n ks b e => (by cases e), by decide +kernel⟩
def d7 : He.DefD := ⟨("_law_same", none), "_law_same", "_law_same", defArgs (top 17), defBody (top 17), defScope (top 17), [], []⟩
def m7 : DM := ⟨d7, ["_law_one", "_law_two", "_law_k"], ["_law_one", "_law_two"], true, true, false, []⟩
theorem ok7 : m7.Ok := ⟨fun _ K fd F => F.bindsN fun _ _ _ _ _ _ us hl => match us, hl with | [_, _], _ => rfl, fun n ks b e => (by cases e), by decide +kernel⟩
def d8 : He.DefD := ⟨("_law_tree", none), "_law_tree", "_law_tree", defArgs (top 18), defBody (top 18), defScope (top 18), [], []⟩
def m8 : DM := ⟨d8, ["_law_number_here", "_law_deep", "_law_kind", "_law_rest", "_law_items", "_law_k"], ["_law_number_here", "_law_deep"], true, true, false, []⟩
theorem ok8 : m8.Ok := ⟨fun _ K fd F => F.bindsN fun _ _ _ _ _ _ us hl => match us, hl with | [_, _], _ => rfl, fun n ks b e => (by cases e), by decide +kernel⟩
def d9 : He.DefD := ⟨("_law_text", none), "_law_text", "_law_text", defArgs (top 19), defBody (top 19), defScope (top 19), [], []⟩
def m9 : DM := ⟨d9, ["_law_tree_here", "_law_digits", "_law_text_here", "_law_k"], ["_law_tree_here"], true, true, false, []⟩
theorem ok9 : m9.Ok := ⟨fun _ K fd F => F.bindsN fun _ _ _ _ _ _ us hl => match us, hl with | [_], _ => rfl, fun n ks b e => (by cases e), by decide +kernel⟩
def d10 : He.DefD := ⟨("_law_word", none), "_law_word", "_law_word", defArgs (top 20), defBody (top 20), defScope (top 20), [], []⟩
def m10 : DM := ⟨d10, ["_law_word_here", "_law_letters", "_law_digits", "_law_figures", "_law_value", "_law_sign"], ["_law_word_here"], true, true, false, []⟩
theorem ok10 : m10.Ok := ⟨fun _ K fd F => F.bindsN fun _ _ _ _ _ _ us hl => match us, hl with | [_], _ => rfl, fun n ks b e => (by cases e), by decide +kernel⟩
def d11 : He.DefD := ⟨("_law_read", none), "_law_read", "_law_read", defArgs (top 21), defBody (top 21), defScope (top 21), [], []⟩
def m11 : DM := ⟨d11, ["_law_text_here", "_law_rows", "_law_word_here", "_law_sign", "_law_atom", "_law_item"], ["_law_text_here"], true, true, false, []⟩
theorem ok11 : m11.Ok := ⟨fun _ K fd F => F.bindsN fun _ _ _ _ _ _ us hl => match us, hl with | [_], _ => rfl, fun n ks b e => (by cases e), by decide +kernel⟩
def d12 : He.DefD := ⟨("_law_menu", none), "_law_menu", "_law_menu", defArgs (top 22), defBody (top 22), defScope (top 22), [], []⟩
def m12 : DM := ⟨d12, ["_law_number_here", "_law_many", "_law_text_here", "_law_k"], ["_law_number_here", "_law_many"], true, true, false, []⟩
theorem ok12 : m12.Ok := ⟨fun _ K fd F => F.bindsN fun _ _ _ _ _ _ us hl => match us, hl with | [_, _], _ => rfl, fun n ks b e => (by cases e), by decide +kernel⟩
def d13 : He.DefD := ⟨("_law_spoilt", none), "_law_spoilt", "_law_spoilt", defArgs (top 23), defBody (top 23), defScope (top 23), [], []⟩
def m13 : DM := ⟨d13, ["_law_number_here", "_law_other", "_law_text_here", "_law_at", "_law_kind", "_law_sign", "_law_deep"], ["_law_number_here", "_law_other"], true, true, false, []⟩
theorem ok13 : m13.Ok := ⟨fun _ K fd F => F.bindsN fun _ _ _ _ _ _ us hl => match us, hl with | [_, _], _ => rfl, fun n ks b e => (by cases e), by decide +kernel⟩
def d14 : He.DefD := ⟨("_law_told", none), "_law_told", "_law_told", defArgs (top 24), defBody (top 24), defScope (top 24), [], []⟩
def m14 : DM := ⟨d14, ["_law_text_here", "_law_line", "e", "_law_tree_here"], ["_law_text_here", "_law_line"], true, true, false, []⟩
theorem ok14 : m14.Ok := ⟨fun _ K fd F => F.bindsN fun _ _ _ _ _ _ us hl => match us, hl with | [_, _], _ => rfl, fun n ks b e => (by cases e), by decide +kernel⟩
def d15 : He.DefD := ⟨("law", none), "law", "law", defArgs (top 25), defBody (top 25), defScope (top 25), [], []⟩
def m15 : DM := ⟨d15, ["_law_script", "_law_k", "_law_number_here", "_law_other", "_law_text_here", "_law_due", "_law_told_here"], ["_law_script"], true, true, false, []⟩
theorem ok15 : m15.Ok := ⟨fun _ K fd F => F.bindsN fun _ _ _ _ _ _ us hl => match us, hl with | [_], _ => rfl, fun n ks b e => (by cases e), by decide +kernel⟩
def x0 : He.DefD := ⟨("InvalidText", some "__init__"), "__init__", "InvalidText.__init__", defArgs (mem (top 3) 0), defBody (mem (top 3) 0), defScope (mem (top 3) 0), [], []⟩
def dm : List DM := [m0, m1, m2, m3, m4, m5, m6, m7, m8, m9, m10, m11, m12, m13, m14, m15]
def fn : List He.DefD := [d0, d1, d2, d3, d4, d5, d6, d7, d8, d9, d10, d11, d12, d13, d14, d15, x0]
theorem xb0 : x0.body = [.Assign [.Attribute (.Name "self" ⟨9, 8, 9, 12⟩) "line" ⟨9, 8, 9, 17⟩] (.Name "line" ⟨9, 20, 9, 24⟩) ⟨9, 8, 9, 24⟩] := by kernel_rfl
def gl : List (PySem.Str × GV) := [("write_tree", .fn 0), ("consists_of", .fn 1), ("read_atom", .fn 2), ("word_end", .fn 3), ("read_items", .fn 4), ("read_tree", .fn 5), ("_law_number", .fn 6), ("_law_same", .fn 7), ("_law_tree", .fn 8), ("_law_text", .fn 9), ("_law_word", .fn 10), ("_law_read", .fn 11), ("_law_menu", .fn 12), ("_law_spoilt", .fn 13), ("_law_told", .fn 14), ("law", .fn 15), ("TurnpikeError", .cls 0), ("OutOfBounds", .cls 1), ("InvalidText", .cls 2), ("MOST_DEPTH", .cst (.int 20)), ("MOST_DIGITS", .cst (.int 20)), ("DIGITS", .cst (.str (PySem.Str.ofString "0123456789").cps.toList)), ("LETTERS", .cst (.str (PySem.Str.ofString "abcdefghijklmnopqrstuvwxyz").cps.toList))]
def fa : List He.Fa := [.glo "write_tree", .glo "consists_of", .glo "read_atom", .glo "word_end", .glo "read_items", .glo "read_tree", .glo "_law_number", .glo "_law_same", .glo "_law_tree", .glo "_law_text", .glo "_law_word", .glo "_law_read", .glo "_law_menu", .glo "_law_spoilt", .glo "_law_told", .glo "law", .glo "TurnpikeError", .glo "OutOfBounds", .glo "InvalidText", .int "MOST_DEPTH" 20, .int "MOST_DIGITS" 20, .str "DIGITS" "0123456789", .str "LETTERS" "abcdefghijklmnopqrstuvwxyz", .free "len", .free "int", .free "str", .free "tuple", .free "all", .free "isinstance", .free "range", .free "bool", .exc "TurnpikeError", .exc "OutOfBounds", .exm "TurnpikeError" "InvalidText" false, .exm "TurnpikeError" "OutOfBounds" false, .exm "TurnpikeError" "TurnpikeError" true, .exm "OutOfBounds" "InvalidText" false, .exm "OutOfBounds" "OutOfBounds" true, .exm "OutOfBounds" "TurnpikeError" true, .exm "InvalidText" "InvalidText" true, .exm "InvalidText" "OutOfBounds" false, .exm "InvalidText" "TurnpikeError" true]
def fm : List Fm := [.exi "TurnpikeError", .exi "OutOfBounds", .oex "InvalidText", .exi "InvalidText", .exk "TurnpikeError" "InvalidText" false, .exk "TurnpikeError" "OutOfBounds" false, .exk "TurnpikeError" "TurnpikeError" true, .exk "OutOfBounds" "InvalidText" false, .exk "OutOfBounds" "OutOfBounds" true, .exk "OutOfBounds" "TurnpikeError" true, .exk "InvalidText" "InvalidText" true, .exk "InvalidText" "OutOfBounds" false, .exk "InvalidText" "TurnpikeError" true]
def blt : List PySem.Str := ["len", "int", "str", "tuple", "all", "isinstance", "range", "bool"]
def exnT : List (Nat × Bool) := [(0, false), (1, false), (2, true)]
def subT : List ((Nat × Nat) × Bool) := [((0, 2), false), ((0, 1), false), ((0, 0), true), ((1, 2), false), ((1, 1), true), ((1, 0), true), ((2, 2), true), ((2, 1), false), ((2, 0), true)]
def tx : TX := ⟨dm, gl, [], blt, ["TurnpikeError", "OutOfBounds", "InvalidText"], fun _ => none, fun _ => false, fun _ _ => none, fun _ _ => none, fun _ _ => false, fun a c => subT.lookup (a, c), fun c => exnT.lookup c, true, fun _ => false⟩
theorem txok {K : PySem.W.Frag} {w : World} {h : PySem.Heap} {mg : PySem.Str → Option Value} (X : K.In h) (G : h.Ns mainGlobals mg) (c : SaysM fa fn [] fm w K) : TxOk tx K mg :=
  have ex : ∀ k b, exnT.lookup k = some b → ExP K (tx.L K) k b := fun k b e => AllE.at (P := ExP K (tx.L K)) (l := exnT) ⟨He.exc_ok (c.d.fact 31 rfl), He.exc_ok (c.d.fact 32 rfl), (let ⟨h1, h2, h3, h4⟩ := oex_ok (c.fm 2 rfl); let ⟨fd, F⟩ := c.d.def_ 16 (d := x0) rfl; ⟨h1, h2, _, fd, _, _, _, _, _, _, _, _, h3, h4, (by rw [← xb0]; exact F), C8.fnScope_by (by decide +kernel), FunD.bindsN F fun _ _ _ _ _ _ us hl => match us, hl with | [_, _], _ => rfl⟩), trivial⟩ e
  { lf := ⟨(by show ∀ i j, nmOf tx.fld i = nmOf tx.fld j → i = j; exact nmOf_inj (by decide +kernel) (by decide +kernel)), fun _ e => (by cases e), fun _ _ e => (by cases e), fun _ _ _ e => (by cases e), fun _ _ _ e => (by cases e), fun _ _ e => (by cases e),
      fun k e => ex k false e, fun k e => ex k true e, fun a b d e => AllS.at (P := fun a c b => PySem.W.exmOne K (.ref ((tx.L K).ca a)) (.ref ((tx.L K).ca c)) = some b) (l := subT) ⟨He.exm_ok (c.d.fact 33 rfl), He.exm_ok (c.d.fact 34 rfl), He.exm_ok (c.d.fact 35 rfl), He.exm_ok (c.d.fact 36 rfl), He.exm_ok (c.d.fact 37 rfl), He.exm_ok (c.d.fact 38 rfl), He.exm_ok (c.d.fact 39 rfl), He.exm_ok (c.d.fact 40 rfl), He.exm_ok (c.d.fact 41 rfl), trivial⟩ e, fun z k b e => AllE.at (P := fun k _ => ExI K ((tx.L K).ca k)) (l := exnT) ⟨exi_ok (c.fm 0 rfl), exi_ok (c.fm 1 rfl), exi_ok (c.fm 3 rfl), trivial⟩ e, fun z a b d e => AllS.at (P := fun a c b => PySem.W.kitOne K (.ref ((tx.L K).ca a)) (.ref ((tx.L K).ca c)) = some b) (l := subT) ⟨exk_ok (c.fm 4 rfl), exk_ok (c.fm 5 rfl), exk_ok (c.fm 6 rfl), exk_ok (c.fm 7 rfl), exk_ok (c.fm 8 rfl), exk_ok (c.fm 9 rfl), exk_ok (c.fm 10 rfl), exk_ok (c.fm 11 rfl), exk_ok (c.fm 12 rfl), trivial⟩ e⟩
    gl := ⟨He.glo_ok X G (c.d.fact 0 rfl), He.glo_ok X G (c.d.fact 1 rfl), He.glo_ok X G (c.d.fact 2 rfl), He.glo_ok X G (c.d.fact 3 rfl), He.glo_ok X G (c.d.fact 4 rfl), He.glo_ok X G (c.d.fact 5 rfl), He.glo_ok X G (c.d.fact 6 rfl), He.glo_ok X G (c.d.fact 7 rfl), He.glo_ok X G (c.d.fact 8 rfl), He.glo_ok X G (c.d.fact 9 rfl), He.glo_ok X G (c.d.fact 10 rfl), He.glo_ok X G (c.d.fact 11 rfl), He.glo_ok X G (c.d.fact 12 rfl), He.glo_ok X G (c.d.fact 13 rfl), He.glo_ok X G (c.d.fact 14 rfl), He.glo_ok X G (c.d.fact 15 rfl), He.glo_ok X G (c.d.fact 16 rfl), He.glo_ok X G (c.d.fact 17 rfl), He.glo_ok X G (c.d.fact 18 rfl), (let ⟨t, e⟩ := He.int_ok X G (c.d.fact 19 rfl); ⟨_, e, fun pv => cst_int rfl⟩), (let ⟨t, e⟩ := He.int_ok X G (c.d.fact 20 rfl); ⟨_, e, fun pv => cst_int rfl⟩), (let ⟨t, e⟩ := He.str_ok X G (c.d.fact 21 rfl); ⟨_, e, fun pv => cst_str rfl⟩), (let ⟨t, e⟩ := He.str_ok X G (c.d.fact 22 rfl); ⟨_, e, fun pv => cst_str rfl⟩), trivial⟩
    blt := ⟨He.free_ok X G (c.d.fact 23 rfl), He.free_ok X G (c.d.fact 24 rfl), He.free_ok X G (c.d.fact 25 rfl), He.free_ok X G (c.d.fact 26 rfl), He.free_ok X G (c.d.fact 27 rfl), He.free_ok X G (c.d.fact 28 rfl), He.free_ok X G (c.d.fact 29 rfl), He.free_ok X G (c.d.fact 30 rfl), trivial⟩
    dm := ⟨ok0, ok1, ok2, ok3, ok4, ok5, ok6, ok7, ok8, ok9, ok10, ok11, ok12, ok13, ok14, ok15, trivial⟩
    fd := fun k d e => c.d.def_ k (d := d.dd) (by
      have e : dm[k]? = some d := e
      have l : k < dm.length := (List.getElem?_eq_some_iff.mp e).1
      show (dm.map (·.dd) ++ [x0])[k]? = _
      rw [List.getElem?_append_left (by rw [List.length_map]; exact l), List.getElem?_map, e]; rfl)
    val := fun _ e => (by cases e)
    meth := fun _ _ _ e => (by cases e)
    prop := fun _ _ _ e => (by cases e) }
abbrev hk : PySem.W.Hook := hookM 4 fa fn [] fm
def ob (s : PySem.W.SharedT) : AlM := obsM 4 fa fn [] fm (HandSHeadRun.getT s)
theorem ob_eq (s : PySem.W.SharedT) : ob s = hk.obs s.abs := obsM_eq (HandSHeadRun.getT_eq s)
theorem run (w : World) : HandSHeadRun.RunEq R (PySem.W.view R.prog [25]) hk ob 3000 names w := by
  intro os
  kernel_rfl
end Tx
namespace Fin
open PySem PySem.Spec PyProof.Rows L2 MP Tx
theorem e0 : tx.fd m0 = ⟨1, 2, K71.b0⟩ := by kernel_rfl
theorem e1 : tx.fd m1 = ⟨2, 3, K71.b1⟩ := by kernel_rfl
theorem e2 : tx.fd m2 = ⟨2, 3, K71.b2⟩ := by kernel_rfl
theorem e3 : tx.fd m3 = ⟨2, 3, K71.b3⟩ := by kernel_rfl
theorem e4 : tx.fd m4 = ⟨2, 7, K71.b4⟩ := by kernel_rfl
theorem e5 : tx.fd m5 = ⟨2, 3, K71.b5⟩ := by kernel_rfl
theorem e6 : tx.fd m6 = ⟨2, 5, K71.b6⟩ := by kernel_rfl
theorem e7 : tx.fd m7 = ⟨2, 3, K71.b7⟩ := by kernel_rfl
theorem e8 : tx.fd m8 = ⟨2, 6, K71.b8⟩ := by kernel_rfl
theorem e9 : tx.fd m9 = ⟨1, 4, K71.b9⟩ := by kernel_rfl
theorem e10 : tx.fd m10 = ⟨1, 6, K71.b10⟩ := by kernel_rfl
theorem e11 : tx.fd m11 = ⟨1, 6, K71.b11⟩ := by kernel_rfl
theorem e12 : tx.fd m12 = ⟨2, 4, K71.b12⟩ := by kernel_rfl
theorem e13 : tx.fd m13 = ⟨2, 7, K71.b13⟩ := by kernel_rfl
theorem e14 : tx.fd m14 = ⟨2, 4, K71.b14⟩ := by kernel_rfl
theorem e15 : tx.fd m15 = ⟨1, 7, K71.b15⟩ := by kernel_rfl
theorem fz0 (k : Nat) : tx.T.fz k = false := by
  show (dm[k]?).any (·.fz) = false
  cases e : dm[k]? with
  | none => rfl
  | some d =>
    have a : dm.all (fun d => !d.fz) = true := rfl
    have := List.all_eq_true.mp a d (List.mem_of_getElem? e)
    show d.fz = false
    simpa using this
theorem tab : K71.Tab tx.T := ⟨congrArg some e0, congrArg some e1, congrArg some e2, congrArg some e3, congrArg some e4, congrArg some e5, congrArg some e6, congrArg some e7, congrArg some e8, congrArg some e9, congrArg some e10, congrArg some e11, congrArg some e12, congrArg some e13, congrArg some e14, congrArg some e15, fz0, rfl, rfl, rfl, rfl⟩
theorem ends {w : World} {mg : PySem.Str → Option Value} {fad : Addr} {h : PySem.Heap} (G : h.Ns mainGlobals mg) (Y : ∃ K : PySem.W.Frag, K.In h ∧ SaysM fa fn [] fm w K) (hmg : mg ("law" : PySem.Str) = some (.ref fad)) :
    ∃ K : PySem.W.Frag, K.In h ∧ LamX.LawAtS PySem.Challenge.rw_turnpike_k71_texts_that_are_no_trees w K (L2.CX (PySem.Challenge.rw_turnpike_k71_texts_that_are_no_trees).prog w) 62 63 "_law_script" mg fad h := by
  obtain ⟨K, KX, c⟩ := Y
  have O : TxOk tx K mg := txok KX G c
  obtain ⟨fd, F, _⟩ := tx_law (P := (PySem.Challenge.rw_turnpike_k71_texts_that_are_no_trees).prog) (w := w) (base := h) O 29 15 m15 rfl
  have e := hmg.symm.trans (He.glo_ok KX G (c.d.fact 15 (f := .glo "law") rfl))
  cases e
  refine ⟨K, KX, fd, [], spF (tx.L K) (callF tx.T 30) 15, fun p hp => (by cases hp), fun p hp => (by cases hp), fun p hp => (by cases hp), fun s u => ?_, fun H a ns hl _ _ hS => law_sp hS (K71.law tab 6 ns), fun base KB GB _ => ?_⟩
  · exact FunD.bindsA (ps := ["_law_script"]) F (fun _ _ _ _ _ _ us hl => match us, hl with | [_], _ => rfl) s [u] rfl
  · have O2 : TxOk tx K mg := txok KB GB c
    obtain ⟨fd2, F2, H2⟩ := tx_law (P := (PySem.Challenge.rw_turnpike_k71_texts_that_are_no_trees).prog) (w := w) (base := base) O2 29 15 m15 rfl
    have efd : fd2 = fd := by
      obtain ⟨_, _, _, _, _, _, _, _, _, _, rfl, l1, _⟩ := F.ex
      obtain ⟨_, _, _, _, _, _, _, _, _, _, rfl, l2, _⟩ := F2.ex
      rw [l1] at l2
      cases l2
      rfl
    subst efd
    exact H2.mono (by decide)
end Fin
open PySem PySem.W PySem.Calls PyProof.Rows
theorem PySem.Challenge.cw_turnpike_k71_texts_that_are_no_trees_holds : PySem.Challenge.rw_turnpike_k71_texts_that_are_no_trees.Holds := by
  w_on; o_law
  refine HandSHeadRun.head_any (r := OpenLaw.row PySem.Challenge.rw_turnpike_k71_texts_that_are_no_trees) (q := view (OpenLaw.row PySem.Challenge.rw_turnpike_k71_texts_that_are_no_trees).prog [25]) (H := Tx.hk) (ob := Tx.ob) (M := 3000) (loose := Tx.names) (d := HandSHeadRun.topDef (OpenLaw.row PySem.Challenge.rw_turnpike_k71_texts_that_are_no_trees).prog 25) (kwd := []) Tx.ob_eq
    (by kernel_rfl) (fun s => by kernel_rfl) Tx.run (by kernel_rfl) (by kernel_rfl) (by kernel_rfl) (by rfl) (by first | assumption | decide +kernel) (by decide +kernel) ⟨rfl, rfl, rfl, rfl, rfl, by decide +kernel⟩ ?hw ?hc
  case hw => w_witness2
  case hc =>
    refine LamX.walk_ofTsE (l := PySem.Challenge.rw_turnpike_k71_texts_that_are_no_trees) (n := 63) (k := 62) (x := "_law_script") (CX := fun w => L2.CX (PySem.Challenge.rw_turnpike_k71_texts_that_are_no_trees).prog w) rfl (by decide) (by kernel_rfl) ⟨rfl, by decide, by decide⟩ ?F (fun w H s e s' ⟨_, _, _, _, _, _, _, _, _, _, _, _, z⟩ => z)
    intro w mg fad h Y G hmg0
    have hmg : mg ("law" : PySem.Str) = some (.ref fad) := by
      have e : (HandSHeadRun.topDef (OpenLaw.row PySem.Challenge.rw_turnpike_k71_texts_that_are_no_trees).prog 25).name = ("law" : PySem.Str) := by kernel_rfl
      rw [← e]
      exact hmg0
    exact Fin.ends G Y hmg

