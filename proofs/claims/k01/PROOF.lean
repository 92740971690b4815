import PyProof.Rows.All
import Wide.All
import OpenK.AllK
import Wide.FinOn
import KE.DataCmp
import KE.DataEq
import KE.SortData
import KE.DataMinMax
import HandS.ForMost
import HandS.GenList
import HandS.AnyAll
import HandS.ForExc
import HandS.Flow
import HandS.TupMul
import HandS.TupAny
import HandS.Style
import HandS.TupLen
import HandS.Deep
import HandS.Text
import HandS.StrMore
import HandS.More
import HandS.Sort
import HandS.Conv
import PyProof.Rows.RegReprOcc
import HandS.CallSlots
import HandS.ExcInit
import HandS.ExcField
import KE.KExcSuper
import HandS.WordsExc
import HandS.Ends
import KE.RegKSuper
import HandS.EndBits
import PySem.Challenge.RW_sewnwhole_k01_patterns_come_back_from_th
set_option Elab.async false
set_option autoImplicit false
set_option linter.all false
set_option maxRecDepth 100000
/-! SqCore: a small language of its own (C) for the pure part of the program, its values (PyData), its reckoning (ev, ex).
    Nothing of the model's machine is in sight here: SqSound shows that what is reckoned here is what the machine does. -/
namespace SQ
open PySem

abbrev D := PyData

/-- the end of a reckoning: a value; an exception (its class by number, its fields); nothing that is told -/
inductive Res (α : Type) where
  | ok (a : α)
  | err (c : Nat) (xs : List D)
  | bad
  deriving Inhabited

namespace Res
def bind {α β : Type} (r : Res α) (f : α → Res β) : Res β := match r with
  | .ok a => f a
  | .err c xs => .err c xs
  | .bad => .bad
instance : Monad Res where
  pure := Res.ok
  bind := Res.bind
@[simp] theorem ok_bind {α β : Type} (a : α) (f : α → Res β) : (Res.ok a).bind f = f a := rfl
@[simp] theorem bad_bind {α β : Type} (f : α → Res β) : (Res.bad).bind f = .bad := rfl
@[simp] theorem err_bind {α β : Type} (c : Nat) (xs : List D) (f : α → Res β) : (Res.err c xs).bind f = .err c xs := rfl
@[simp] theorem bind_eq {α β : Type} (r : Res α) (f : α → Res β) : (r >>= f) = r.bind f := rfl
@[simp] theorem pure_eq {α : Type} (a : α) : (pure a : Res α) = .ok a := rfl
theorem bind_ok {α β : Type} {r : Res α} {f : α → Res β} {b : β} (h : r.bind f = .ok b) : ∃ a, r = .ok a ∧ f a = .ok b := by
  cases r with
  | ok a => exact ⟨a, rfl, h⟩
  | err => cases h
  | bad => cases h
/-- an exception is not told here -/
def noE {α : Type} : Res α → Res α
  | .ok a => .ok a
  | _ => .bad
@[simp] theorem noE_ok {α : Type} (a : α) : (Res.ok a).noE = .ok a := rfl
@[simp] theorem noE_bad {α : Type} : (Res.bad : Res α).noE = .bad := rfl
theorem bind_err {α β : Type} {r : Res α} {f : α → Res β} {c : Nat} {xs : List D} (h : r.bind f = .err c xs) : r = .err c xs ∨ ∃ a, r = .ok a ∧ f a = .err c xs := by
  cases r with
  | ok a => exact .inr ⟨a, rfl, h⟩
  | err c xs => exact .inl (by simpa using h)
  | bad => cases h
end Res

/-- the greatest size of a list, a tuple, a text that is made here -/
def lim : Nat := 1000000

/-- a slot of a frame: without a value; a value that nobody changes; a list or dict that this slot alone holds -/
inductive Sl where
  | u
  | v (d : D)
  | o (d : D)
  deriving Inhabited
abbrev En := List Sl

/-- the i-th slot -/
def En.at : En → Nat → Sl
  | [], _ => .u
  | s :: _, 0 => s
  | _ :: r, i + 1 => En.at r i
/-- .. stored -/
def En.put : En → Nat → Sl → En
  | [], _, _ => []
  | _ :: r, 0, s => s :: r
  | x :: r, i + 1, s => x :: En.put r i s
def Sl.strict : Sl → Res D
  | .v d => .ok d
  | _ => .bad
def Sl.weak : Sl → Res D
  | .v d => .ok d
  | .o d => .ok d
  | .u => .bad
def Sl.froz : Sl → Sl
  | .o d => .v d
  | s => s
/-- the slots forgotten -/
def En.wip (e : En) : List Nat → En
  | [] => e
  | i :: is => (En.wip e is).put i .u
def En.frz (e : En) : List Nat → En
  | [] => e
  | i :: is => En.frz (e.put i (e.at i).froz) is

/-! ### the operations on values -/
/-- the place that an index means -/
def ixOf (n : Nat) (i : Int) : Option Nat := if 0 ≤ i then (if i < n then some i.toNat else none) else if -(n : Int) ≤ i then some (i + n).toNat else none
def T (l : List Nat) : D := .str ⟨l.toArray⟩

/-- a dict whose keys are tuples begins with a pair that no key is equal to -/
def isT : List (D × D) → Bool
  | (.none, _) :: _ => true
  | _ => false

def truth : D → Bool
  | .none => false
  | .bool b => b
  | .int i => i != 0
  | .str s => s.cps.size != 0
  | .list xs => !xs.isEmpty
  | .tuple xs => !xs.isEmpty
  | .dict kvs => (if isT kvs then kvs.length - 1 else kvs.length) != 0

def lenD : D → Res D
  | .str s => .ok (.int s.cps.size)
  | .list xs => .ok (.int xs.length)
  | .tuple xs => .ok (.int xs.length)
  | .dict kvs => if isT kvs then .ok (.int ((kvs.length - 1 : Nat) : Int)) else .ok (.int kvs.length)
  | _ => .bad

/-- what a for walks -/
def itemsD : D → Res (List D)
  | .str s => .ok (s.cps.toList.map fun c => T [c])
  | .list xs => .ok xs
  | .tuple xs => .ok xs
  | _ => .bad

def small64 (i : Int) : Bool := decide (-(2 ^ 64) < i ∧ i < 2 ^ 64)

inductive Op where
  | add | sub | mul | mod | fdiv | pow
  deriving DecidableEq

def opD : Op → D → D → Res D
  | .add, .int a, .int b => .ok (.int (a + b))
  | .add, .str a, .str b => if a.cps.size + b.cps.size ≤ lim then .ok (.str ⟨a.cps ++ b.cps⟩) else .bad
  | .add, .list a, .list b => if a.length + b.length ≤ lim then .ok (.list (a ++ b)) else .bad
  | .add, .tuple a, .tuple b => if a.length + b.length ≤ lim then .ok (.tuple (a ++ b)) else .bad
  | .sub, .int a, .int b => .ok (.int (a - b))
  | .mul, .int a, .int b => if small64 a || small64 b then .ok (.int (a * b)) else .bad
  | .mul, .list a, .int k => if a.length * k.toNat ≤ lim ∧ k < 2 ^ 62 ∧ -(2 ^ 62) < k then .ok (.list (List.replicate k.toNat a).flatten) else .bad
  | .mul, .str a, .int k => if a.cps.size * k.toNat ≤ lim ∧ k < 2 ^ 62 ∧ -(2 ^ 62) < k then .ok (T (List.replicate k.toNat a.cps.toList).flatten) else .bad
  | .mul, .tuple a, .int k => if a.length ≤ 1000 ∧ !a.isEmpty ∧ 1 ≤ k ∧ k ≤ 1000 then .ok (.tuple (List.replicate k.toNat a).flatten) else .bad
  | .mod, .int a, .int b => if b ≠ 0 then .ok (.int (a.fmod b)) else .bad
  | .fdiv, .int a, .int b => if b ≠ 0 ∧ b.natAbs < 1073741824 then .ok (.int (a.fdiv b)) else .bad
  | .pow, .int a, .int b => if 0 ≤ b ∧ b ≤ 1000000 ∧ a.natAbs < 2 ^ 64 then .ok (.int (a ^ b.toNat)) else .bad
  | _, _, _ => .bad

inductive Cm where
  | eq | ne | lt | le | gt | ge | isin | notin
  deriving DecidableEq

/-- without a dict inside, not deep -/
def fl (d : D) : Bool := d.plain && decide (d.depth ≤ 60)

def ltD (x y : D) : Res Bool := match x, y with
  | .int a, .int b => .ok (decide (a < b))
  | .none, _ => .bad
  | x, y => if fl x && fl y && W.alike x y then .ok (W.dataLt x y) else .bad

def flatD : D → Bool
  | .int _ => true
  | .str _ => true
  | _ => false
/-- a key of the dict: ints, texts; or tuples of these -/
def keyD (kvs : List (D × D)) : D → Bool
  | .int _ => !isT kvs
  | .str _ => !isT kvs
  | .tuple xs => isT kvs && xs.all flatD
  | _ => false
def kvGet (k : D) : List (D × D) → Option D
  | [] => none
  | (a, b) :: r => if PyData.eqv a k then some b else kvGet k r
def kvPut (k v : D) (kvs : List (D × D)) : List (D × D) := if kvs.any (fun p => PyData.eqv p.1 k) then kvs.map (fun p => if PyData.eqv p.1 k then (p.1, v) else p) else kvs ++ [(k, v)]

def inD (x y : D) : Res Bool := match y with
  | .str t => match x with
    | .str s => if s.cps.size = 1 then .ok (decide (s.cps.getD 0 0 ∈ t.cps.toList)) else .bad
    | _ => .bad
  | .list ys => if fl x && fl y then .ok (ys.any fun d => PyData.eqv d x) else .bad
  | .tuple ys => if fl x && fl y then .ok (ys.any fun d => PyData.eqv d x) else .bad
  | .dict kvs => if keyD kvs x then .ok (kvGet x kvs).isSome else .bad
  | _ => .bad

def cmD : Cm → D → D → Res Bool
  | .eq, x, y => if fl x && fl y then .ok (PyData.eqv x y) else .bad
  | .ne, x, y => if fl x && fl y then .ok (!PyData.eqv x y) else .bad
  | .lt, x, y => ltD x y
  | .gt, x, y => ltD y x
  | .le, x, y => (ltD y x).bind fun b => .ok (!b)
  | .ge, x, y => (ltD x y).bind fun b => .ok (!b)
  | .isin, x, y => inD x y
  | .notin, x, y => (inD x y).bind fun b => .ok (!b)

def atL (xs : List D) (i : Int) : Res D := match (ixOf xs.length i).bind fun j => xs[j]? with
  | some d => .ok d
  | none => .bad
def idxD : D → D → Res D
  | .list xs, .int i => atL xs i
  | .tuple xs, .int i => atL xs i
  | .str s, .int i => match (ixOf s.cps.size i).bind fun j => s.cps[j]? with
    | some c => .ok (T [c])
    | none => .bad
  | .dict kvs, k => if keyD kvs k then (match kvGet k kvs with
    | some d => .ok d
    | none => .bad) else .bad
  | _, _ => .bad

/-- a slice's end: n the length, d what stands where nothing is said -/
def sEnd (n d : Nat) : Option Int → Nat
  | none => d
  | some i => if i < 0 then (i + n).toNat else min i.toNat n
def cutL {α : Type} (xs : List α) (lo hi : Option Int) : List α :=
  let a := sEnd xs.length 0 lo
  let b := sEnd xs.length xs.length hi
  (xs.drop a).take (b - a)
def slcD (x : D) (lo hi : Option Int) : Res D := match x with
  | .list xs => .ok (.list (cutL xs lo hi))
  | .tuple xs => .ok (.tuple (cutL xs lo hi))
  | .str s => .ok (.str ⟨(cutL s.cps.toList lo hi).toArray⟩)
  | _ => .bad
def revD : D → Res D
  | .list xs => .ok (.list xs.reverse)
  | .tuple xs => .ok (.tuple xs.reverse)
  | _ => .bad

def intsOf : List D → Res (List Int)
  | [] => .ok []
  | .int i :: r => (intsOf r).bind fun l => .ok (i :: l)
  | _ => .bad
def strsOf : List D → Res (List (List Nat))
  | [] => .ok []
  | .str s :: r => (strsOf r).bind fun l => .ok (s.cps.toList :: l)
  | _ => .bad

/-- built-in functions of one argument, then of two -/
inductive Bi where
  | len | max1 | min1 | sum | sorted | tuple | list | all | any | isList | abs | dict | bool
  | max2 | min2 | nir
  deriving DecidableEq

def rngL (lo hi st : Int) : List D := (List.range (Builtin.Range.rangeSize lo hi st).toNat).map fun i => .int (lo + (i : Nat) * st)

/-- sorted: all of one kind -/
def sortD (xs : List D) : Res D :=
  if xs.all (fun x => fl x && xs.all fun y => W.alike x y) && (xs.all (fun x => match x with | .tuple (_ :: _) => true | _ => false) || xs.all (fun x => match x with | .tuple _ => false | .none => false | _ => true))
  then .ok (.list (xs.mergeSort (W.dataLe false id))) else .bad

/-- texts in order -/
def insC (x : List Nat) : List (List Nat) → List (List Nat)
  | [] => [x]
  | y :: r => if PySem.Spec.ltCps y x then y :: insC x r else x :: y :: r
def sortC (l : List (List Nat)) : List (List Nat) := l.foldr insC []
def sortK (l : List D) : Res D := (strsOf l).bind fun ss => if ss.length < 64 ∧ (ss.all fun s => decide (s.length ≤ lim)) then .ok (.list ((sortC ss).map T)) else .bad
def bl1 (b : Bi) (x : D) : Res D := match b with
  | .len => lenD x
  | .max1 => match x with
    | .list xs => (intsOf xs).bind fun l => match l with
      | [] => .bad
      | a :: r => .ok (.int (r.foldl max a))
    | _ => .bad
  | .min1 => match x with
    | .list xs => (intsOf xs).bind fun l => match l with
      | [] => .bad
      | a :: r => .ok (.int (r.foldl min a))
    | _ => .bad
  | .sum => match x with
    | .list xs => (intsOf xs).bind fun l => .ok (.int l.sum)
    | _ => .bad
  | .sorted => match x with
    | .dict kvs => if isT kvs then .bad else sortK (kvs.map (·.1))
    | .list xs => sortD xs
    | .tuple xs => sortD xs
    | _ => .bad
  | .tuple => match x with
    | .list xs => .ok (.tuple xs)
    | .tuple xs => .ok (.tuple xs)
    | _ => .bad
  | .list => match x with
    | .list xs => .ok (.list xs)
    | .tuple xs => .ok (.list xs)
    | _ => .bad
  | .isList => match x with
    | .list _ => .ok (.bool true)
    | .tuple _ => .ok (.bool false)
    | .none => .ok (.bool false)
    | .bool _ => .ok (.bool false)
    | .int _ => .ok (.bool false)
    | .str _ => .ok (.bool false)
    | _ => .bad
  | .all => match x with
    | .list xs => .ok (.bool (xs.all truth))
    | _ => .bad
  | .any => match x with
    | .list xs => .ok (.bool (xs.any truth))
    | _ => .bad
  | _ => .bad
def bl2 (b : Bi) (x y : D) : Res D := match b, x, y with
  | .max2, .int a, .int b => .ok (.int (if b > a then b else a))
  | .min2, .int a, .int b => .ok (.int (if b < a then b else a))
  | .nir, .int a, .int b => .ok (.bool (!decide (0 ≤ a ∧ a < b)))
  | _, _, _ => .bad
def blD (b : Bi) : List D → Res D
  | [x] => bl1 b x
  | [x, y] => bl2 b x y
  | _ => .bad

/-- methods -/
inductive Mt where
  | join | split | count | index | get | items | values | isalpha | sidx
  deriving DecidableEq

def joinC (sep : List Nat) : List (List Nat) → List Nat
  | [] => []
  | [x] => x
  | x :: y :: r => x ++ sep ++ joinC sep (y :: r)
def splitC (c : Nat) : List Nat → List (List Nat)
  | [] => [[]]
  | x :: r => if x = c then [] :: splitC c r else match splitC c r with
    | [] => [[x]]
    | a :: l => (x :: a) :: l

/-- the letters in order -/
def alphaS : Str := "abcdefghijklmnopqrstuvwxyz"
def mtD (m : Mt) (x : D) (as : List D) : Res D := match m, x, as with
  | .sidx, .str s, [.str t] => if s = alphaS ∧ t.cps.size = 1 ∧ 97 ≤ t.cps.getD 0 0 ∧ t.cps.getD 0 0 ≤ 122 then .ok (.int ((t.cps.getD 0 0 - 97 : Nat) : Int)) else .bad
  | .join, .str s, [.list xs] => (strsOf xs).bind fun l => if (joinC s.cps.toList l).length ≤ lim then .ok (T (joinC s.cps.toList l)) else .bad
  | .join, .str s, [.tuple xs] => (strsOf xs).bind fun l => if (joinC s.cps.toList l).length ≤ lim then .ok (T (joinC s.cps.toList l)) else .bad
  | .split, .str s, [.str t] => if t.cps.size = 1 ∧ t.cps.getD 0 0 < 256 ∧ s.cps.size + 2 ≤ lim then .ok (.list ((splitC (t.cps.getD 0 0) s.cps.toList).map T)) else .bad
  | .count, .str s, [.str t] => if t.cps.size = 1 then .ok (.int ((s.cps.toList.filter fun c => decide (c = t.cps.getD 0 0)).length : Nat)) else .bad
  | .get, .dict kvs, [k, d] => if keyD kvs k then .ok ((kvGet k kvs).getD d) else .bad
  | .index, .list xs, [d] => if fl (.list xs) && fl d then (match xs.findIdx? fun z => PyData.eqv z d with
    | some j => .ok (.int (j : Nat))
    | none => .bad) else .bad
  | _, _, _ => .bad

/-- whose method it is -/
def mtTy : Mt → D → Bool
  | .join, .str _ => true
  | .split, .str _ => true
  | .count, .str _ => true
  | .index, .list _ => true
  | .sidx, .str _ => true
  | .get, .dict _ => true
  | _, _ => false

/-! ### the language -/
inductive C where
  -- expressions
  | na
  | var (i : Nat) | wv (i : Nat) | dat (d : D) | con (x : Str) (d : D)
  | nil | cons (a r : C)
  | neg (a : C) | bin (o : Op) (a b : C) | cmp (o : Cm) (a b : C) | isn (a : C) | nisn (a : C) | isl (a : C) | ist (a : C) | lrg (t : Bool) (a : C) | chn (o o' : Cm) (a b c : C)
  | and (a b : C) | or (a b : C) | not (a : C) | ite (t a b : C)
  | tup (es : C) | lst (es : C) | dic (ks vs : C)
  | idx (a i : C) | slc (a lo hi : C) | rev (a : C)
  | rng (lo hi st : C)
  | call (f : Nat) (es : C) | callb (f : Nat) (es : C) | blt (b : Bi) (es : C) | mth (m : Mt) (a es : C)
  | cmp1 (tg src elt cond : C) | cmp2 (tg src tg' src' elt : C) | gen (al : Bool) (tg src elt : C)
  -- statements
  | skip | seq (a b : C) | xpr (e : C)
  | set (i : Nat) (e : C) | seto (i : Nat) (e : C) | sett (tg e : C)
  | fz (is : List Nat) (s : C)
  | app (i : Nat) (e : C) | ext (i : Nat) (e : C) | pop (j i : Nat) | puti (i : Nat) (k e : C) | aug (i : Nat) (o : Op) (e : C)
  | iff (t a b : C) | for_ (tg src body : C) | whl (t body : C)
  | ret (e : C) | retn | brk | cnt | rse (c : Nat) (es : C)
  | tryr (a : C) (c : Nat) (j : Nat) (fs : List Nat) (one : Bool) | sll (i : Nat) (c k j e b : C)

inductive Fl where
  | nx (e : En)
  | rt (d : D)
  | bk (e : En)
  | ct (e : En)

def asL : D → List D
  | .list xs => xs
  | _ => []

def bindT : C → D → En → Res En
  | .var i, d, e => .ok (e.put i (.v d))
  | .tup es, d, e => match d with
    | .tuple xs => bindT es (.list xs) e
    | _ => .bad
  | .nil, d, e => match d with
    | .list [] => .ok e
    | _ => .bad
  | .cons a r, d, e => match d with
    | .list (x :: xs) => (bindT a x e).bind fun e1 => bindT r (.list xs) e1
    | _ => .bad
  | _, _, _ => .bad

def slots : C → List Nat
  | .var i => [i]
  | .tup es => slots es
  | .cons a r => slots a ++ slots r
  | _ => []
/-- the items whose test holds, each turned by f -/
def compL (t : D → Res Bool) (f : D → Res D) : List D → Res (List D)
  | [] => .ok []
  | x :: r => (t x).bind fun b => if b then (f x).bind fun y => (compL t f r).bind fun l => .ok (y :: l) else compL t f r
def comp2L (f : D → Res (List D)) : List D → Res (List D)
  | [] => .ok []
  | x :: r => (f x).bind fun y => (comp2L f r).bind fun l => .ok (y ++ l)

/-- all(..), any(..): up to the first that decides -/
def genL (al : Bool) (f : D → Res Bool) : List D → Res Bool
  | [] => .ok al
  | x :: r => (f x).bind fun y => if y = al then genL al f r else .ok (!al)
/-- a truth value -/
def boolR : D → Res Bool
  | .bool b => .ok b
  | _ => .bad

def optI (na : Bool) (r : Res D) : Res (Option Int) := if na then .ok none else r.bind fun d => match d with
  | .int i => .ok (some i)
  | _ => .bad
def C.isNa : C → Bool
  | .na => true
  | _ => false

mutual
/-- tuples and plain values alone: no list, no dict inside -/
def tupD : PyData → Bool
  | .tuple xs => tupAll xs
  | .list _ => false
  | .dict _ => false
  | _ => true
def tupAll : List PyData → Bool
  | [] => true
  | x :: r => tupD x && tupAll r
end

section
variable (K : Nat → List D → Res D)
def ev : C → En → Res D
  | .var i, e => (e.at i).strict
  | .wv i, e => (e.at i).weak
  | .dat d, _ => .ok d
  | .con _ d, _ => .ok d
  | .nil, _ => .ok (.list [])
  | .cons a r, e => (ev a e).bind fun x => (ev r e).bind fun l => .ok (.list (x :: asL l))
  | .neg a, e => (ev a e).bind fun d => match d with
    | .int i => .ok (.int (-i))
    | _ => .bad
  | .bin o a b, e => (ev a e).bind fun x => (ev b e).bind fun y => (opD o x y).noE
  | .cmp o a b, e => (ev a e).bind fun x => (ev b e).bind fun y => (cmD o x y).noE.bind fun k => .ok (.bool k)
  | .isn a, e => (ev a e).bind fun x => match x with
    | .none => .ok (.bool true)
    | _ => .ok (.bool false)
  | .nisn a, e => (ev a e).bind fun x => match x with
    | .none => .ok (.bool false)
    | _ => .ok (.bool true)
  | .isl a, e => (ev a e).bind fun x => match x with
    | .list _ => .ok (.bool true)
    | _ => .bad
  | .ist a, e => (ev a e).bind fun x => match x with
    | .tuple _ => .ok (.bool true)
    | _ => .bad
  | .lrg t a, e => (ev a e).bind fun y => match y with
    | .int b => if -(10 ^ 9) ≤ b ∧ b ≤ 1000000 then .ok (if t then .tuple (rngL 0 b 1) else .list (rngL 0 b 1)) else .bad
    | _ => .bad
  | .chn o o' a b c, e => (ev a e).bind fun x => (ev b e).bind fun y => (cmD o x y).noE.bind fun k => if k then (ev c e).bind fun z => (cmD o' y z).noE.bind fun k' => .ok (.bool k') else .ok (.bool false)
  | .and a b, e => (ev a e).bind fun x => if truth x then ev b e else .ok x
  | .or a b, e => (ev a e).bind fun x => if truth x then .ok x else ev b e
  | .not a, e => (ev a e).bind fun x => .ok (.bool (!truth x))
  | .ite t a b, e => (ev t e).bind fun x => if truth x then ev a e else ev b e
  | .tup es, e => (ev es e).bind fun l => .ok (.tuple (asL l))
  | .lst es, e => (ev es e).bind fun l => .ok (.list (asL l))
  | .dic ks vs, e => (ev ks e).bind fun l => (ev vs e).bind fun m => .ok (.dict ((asL l).zip (asL m)))
  | .idx a i, e => (ev a e).bind fun x => (ev i e).bind fun y => (idxD x y).noE
  | .slc a lo hi, e => (ev a e).bind fun x => (optI lo.isNa (ev lo e)).bind fun l => (optI hi.isNa (ev hi e)).bind fun h => (slcD x l h).noE
  | .rev a, e => (ev a e).bind fun x => (revD x).noE
  | .rng lo hi st, e => (ev lo e).bind fun x => (ev hi e).bind fun y => (ev st e).bind fun z => match x, y, z with
    | .int a, .int b, .int c => if -(10 ^ 9) ≤ a ∧ a ≤ 10 ^ 9 ∧ -(10 ^ 9) ≤ b ∧ b ≤ 10 ^ 9 ∧ c ≠ 0 ∧ c.natAbs ≤ 10 ^ 9 ∧ (Builtin.Range.rangeSize a b c).toNat ≤ lim then .ok (.list (rngL a b c)) else .bad
    | _, _, _ => .bad
  | .call f es, e => (ev es e).bind fun l => K f (asL l)
  | .callb f es, e => (ev es e).bind fun l => (K f (asL l)).bind fun d => if tupD d then .ok d else .bad
  | .blt b es, e => (ev es e).bind fun l => (blD b (asL l)).noE
  | .mth m a es, e => (ev a e).bind fun x => if mtTy m x then (ev es e).bind fun l => (mtD m x (asL l)).noE else .bad
  | .cmp1 tg src elt cond, e => (ev src e).bind fun s => (itemsD s).bind fun xs =>
      (compL (fun x => if cond.isNa then .ok true else (bindT tg x (e.wip (slots tg))).bind fun e1 => (ev cond e1).bind fun b => .ok (truth b)) (fun x => (bindT tg x (e.wip (slots tg))).bind fun e1 => ev elt e1) xs).noE.bind fun l => .ok (.list l)
  | .gen al tg src elt, e => (ev src e).bind fun s => (itemsD s).bind fun xs =>
      (genL al (fun x => (bindT tg x (e.wip (slots tg))).bind fun e1 => (ev elt e1).bind boolR) xs).noE.bind fun b => .ok (.bool b)
  | .cmp2 tg src tg' src' elt, e => (ev src e).bind fun s => (itemsD s).bind fun xs =>
      (comp2L (fun x => (bindT tg x ((e.wip (slots tg')).wip (slots tg))).bind fun e1 => (ev src' e1).bind fun s' => (itemsD s').bind fun ys => compL (fun _ => .ok true) (fun y => (bindT tg' y (e1.wip (slots tg'))).bind fun e2 => ev elt e2) ys) xs).noE.bind fun l => if l.length ≤ lim then .ok (.list l) else .bad
  | _, _ => .bad

/-- the fields asked for -/
def pickX (xs : List D) : List Nat → Res (List D)
  | [] => .ok []
  | i :: r => match xs[i]? with
    | some d => if flatD d then (pickX xs r).bind fun l => .ok (d :: l) else .bad
    | none => .bad
def oneX (one : Bool) (l : List D) : Res D := if one then (match l with
  | [d] => .ok d
  | _ => .bad) else .ok (.tuple l)

def forL (f : D → En → Res Fl) : List D → En → Res Fl
  | [], e => .ok (.nx e)
  | x :: r, e => (f x e).bind fun w => match w with
    | .nx e1 => forL f r e1
    | .ct e1 => forL f r e1
    | .bk e1 => .ok (.nx e1)
    | .rt d => .ok (.rt d)
def whlN (t : En → Res Bool) (f : En → Res Fl) : Nat → En → Res Fl
  | 0, _ => .bad
  | n + 1, e => (t e).bind fun b => if b then (f e).bind fun w => match w with
    | .nx e1 => whlN t f n e1
    | .ct e1 => whlN t f n e1
    | .bk e1 => .ok (.nx e1)
    | .rt d => .ok (.rt d)
    else .ok (.nx e)

/-- what a slot may hold alone -/
def ownD : D → Res D
  | .list xs => .ok (.list xs)
  | .dict kvs => .ok (.dict kvs)
  | _ => .bad
/-- x[y] = d -/
def putD (x y d : D) : Res D := match x with
  | .list xs => match y with
    | .int n => match ixOf xs.length n with
      | some j => .ok (.list (xs.set j d))
      | none => .bad
    | _ => .bad
  | .dict kvs => if keyD kvs y = true ∧ kvs.length < lim then .ok (.dict (kvPut y d kvs)) else .bad
  | _ => .bad
/-- x[a][b] = d, x a list of lists -/
def put2 (x a b d : D) : Res D := if flatD d then (idxD x a).bind fun r => match x, r with
  | .list _, .list _ => (putD r b d).bind fun r' => putD x a r'
  | _, _ => .bad else .bad
/-- x op= y -/
def augD (o : Op) (x y : D) : Res D := match x with
  | .int a => match y with
    | .int b => match o with
      | .add => .ok (.int (a + b))
      | .sub => .ok (.int (a - b))
      | _ => .bad
    | _ => .bad
  | _ => .bad
/-- xs.extend(d) -/
def extD (xs : List D) (d : D) : Res D := match d with
  | .list ys => if xs.length + ys.length ≤ lim then .ok (.list (xs ++ ys)) else .bad
  | .tuple ys => if xs.length + ys.length ≤ lim then .ok (.list (xs ++ ys)) else .bad
  | _ => .bad
def ex : C → En → Res Fl
  | .skip, e => .ok (.nx e)
  | .seq a b, e => (ex a e).bind fun w => match w with
    | .nx e1 => ex b e1
    | w => .ok w
  | .xpr c, e => (ev K c e).bind fun _ => .ok (.nx e)
  | .set i c, e => (ev K c e).bind fun d => .ok (.nx (e.put i (.v d)))
  | .seto i c, e => (ev K c e).bind fun d => (ownD d).bind fun d => .ok (.nx (e.put i (.o d)))
  | .sett tg c, e => (ev K c e).bind fun d => (bindT tg d e).bind fun e1 => .ok (.nx e1)
  | .fz is s, e => ex s (e.frz is)
  | .app i c, e => match e.at i with
    | .o (.list xs) => (ev K c e).bind fun d => if xs.length < lim then .ok (.nx (e.put i (.o (.list (xs ++ [d]))))) else .bad
    | _ => .bad
  | .ext i c, e => match e.at i with
    | .o (.list xs) => (ev K c e).bind fun d => (extD xs d).noE.bind fun z => .ok (.nx (e.put i (.o z)))
    | _ => .bad
  | .pop j i, e => match e.at i with
    | .o (.list xs) => match xs.getLast? with
      | some d => .ok (.nx ((e.put i (.o (.list xs.dropLast))).put j (.v d)))
      | none => .bad
    | _ => .bad
  | .puti i k c, e => (ev K c e).bind fun d => match e.at i with
    | .o x => (ev K k e).bind fun y => (putD x y d).noE.bind fun z => .ok (.nx (e.put i (.o z)))
    | _ => .bad
  | .aug i o c, e => match e.at i with
    | .v x => (ev K c e).bind fun y => (augD o x y).noE.bind fun d => .ok (.nx (e.put i (.v d)))
    | _ => .bad
  | .iff t a b, e => (ev K t e).bind fun x => if truth x then ex a e else ex b e
  | .for_ tg src body, e => (ev K src e).bind fun s => (itemsD s).bind fun xs => forL (fun x e1 => (bindT tg x e1).bind fun e2 => ex body e2) xs e
  | .whl t body, e => whlN (fun e1 => (ev K t e1).bind fun x => .ok (truth x)) (fun e1 => ex body e1) lim e
  | .ret c, e => (ev K c e).bind fun d => .ok (.rt d)
  | .retn, _ => .ok (.rt .none)
  | .brk, e => .ok (.bk e)
  | .cnt, e => .ok (.ct e)
  | .rse c es, e => (ev K es e).bind fun l => .err c (asL l)
  | .tryr a c j fs one, e => match ev K a e with
    | .ok d => .ok (.rt d)
    | .err c' xs => if c' = c then (pickX xs fs).bind fun l => (oneX one l).bind fun d => .ok (.rt d) else .bad
    | .bad => .bad
  | .sll i c k j a b, e => (ev K c e).bind fun d => (ev K a (e.put i (.v d))).bind fun x => (ev K k (e.put i (.v d))).bind fun y => (ev K j (e.put i (.v d))).noE.bind fun z => (put2 d y z x).noE.bind fun w => ex b (e.put i (.v w))
  | _, _ => .bad
end

structure Fn where
  ps : Nat
  ns : Nat
  body : C

def enter (F : Fn) (args : List D) : En := args.map .v ++ List.replicate (F.ns - F.ps) .u
def endF : Fl → Res D
  | .rt d => .ok d
  | .nx _ => .ok .none
  | _ => .bad
/-- the f-th function of the table, n calls deep at most -/
def run (Δ : Nat → Option Fn) : Nat → Nat → List D → Res D
  | 0, _, _ => .bad
  | n + 1, f, args => match Δ f with
    | some F => if args.length = F.ps then (ex (run Δ n) F.body (enter F args)).bind endF else .bad
    | none => .bad
end SQ

/-! SqGenH: all(..), any(..) over a generator expression whose element may do anything that the hand layer serves (calls too);
    a def's table of code objects stands in the abstract heap as one thing (tabF) that growing leaves as it is. -/
set_option maxHeartbeats 1000000
namespace SQ
open PySem PySem.Spec PyProof.Rows L2 GxR

/-- a code object's table, of whatever length -/
def tabP (P : Addr) (h : Heap) : Prop := ∃ ps : Array Value, h.get? P = some { cls := .none, data := .fields ps } ∧ TriplesOk ps.toList
def tabF (P : Addr) : HO := .ext (tabP P)
theorem tabP_stay {P : Addr} {h1 h2 : Heap} (x : tabP P h1) (k : ∀ o, h1.get? P = some o → h2.get? P = some o) : tabP P h2 :=
  let ⟨ps, e, t⟩ := x
  ⟨ps, k _ e, t⟩
theorem tabF_ok {Pg : Program} {w : World} {H : Hp} {h : Heap} {P : Addr} (x : tabP P h) : ObjOk Pg w H h P (tabF P) :=
  ⟨x, let ⟨ps, e, _⟩ := x; ⟨_, e⟩, fun _ _ y k => tabP_stay y k⟩

section
variable {X : Cx} {pins : List (Addr × Obj)} {σ : L2.St} {H : Hp} {s : Shared}
/-- the table has grown: the abstract heap is as before -/
theorem tab_grown {P : Addr} {h' : Heap} {g' : Array GenState} {d' : Drawn} {t' : Nat} (I : Inv X pins σ H s) (hP : H P = some (tabF P)) (k : ∀ b o, b ≠ P → s.heap.get? b = some o → h'.get? b = some o)
    (hm : tabP P h') (hg : AllBare g') : Inv X pins σ H { s with heap := h', gens := g', drawn := d', toks := t' } := by
  have nN : ∀ b, H b = none → b ≠ P := fun b e z => by rw [z, hP] at e; cases e
  have nU : ∀ b u, H b = some u → (∀ φ, u ≠ .ext φ) → b ≠ P := fun b u e q z => by
    rw [z, hP] at e
    exact q _ (Option.some.inj e).symm
  obtain ⟨ps, hps, _⟩ := id hm
  refine I.step (g' := g') (d' := d') (ch := []) (fun b hb => absurd hb (by simp)) (fun b o _ _ _ e n => k b o (nN b n) e) (fun b o _ _ _ e n => ⟨o.slots, k b o (nN b n) e⟩)
    (fun b o _ _ n => n) (fun b o _ e => ?_) (fun b xs e => e) (fun b o u e => e) (fun b qs e => ⟨#[], by rw [e]; simp⟩) (fun m hn => ?_) (fun b u e => ?_) hg
  · by_cases hb : b = P
    · exact ⟨_, by rw [hb]; exact hps⟩
    · exact ⟨o, k b o hb e⟩
  · obtain ⟨ob, es, ep, ho, r⟩ := hn
    exact ⟨ob, es, ep, k _ ob (nN _ I.free) ho, r⟩
  · by_cases hb : b = P
    · subst hb
      rw [hP] at e
      cases e
      exact tabF_ok hm
    · refine (I.hok b u e).stay (fun c v hc q => k c v ?_ q) (fun _ q => q) fun _ _ q => q
      rcases hc with z | z
      · rw [z]; exact hb
      · exact nU c _ z fun φ q => by cases q
theorem tab_at (I : Inv X pins σ H s) {P : Addr} (hP : H P = some (tabF P)) : tabP P s.heap := (I.hok P _ hP).1

/-- what a consumer does between two turns -/
structure Kp (s s' : Shared) : Prop where
  os : s'.os = s.os
  bare : AllBare s'.gens
  heap : s'.heap = s.heap
theorem Kp.inv (I : Inv X pins σ H s) {s' : Shared} (k : Kp s s') : Inv X pins σ H s' := by
  obtain ⟨h, g, d, t, o⟩ := s'
  obtain ⟨k1, k2, k3⟩ := k
  have k1 : o = s.os := k1
  have k3 : h = s.heap := k3
  subst k1; subst k3
  exact ⟨I.ok, I.os, k2, I.base, I.loc, I.cell, I.free, I.freeC, I.pin, I.hok, I.len⟩

/-- the context within a generator expression -/
abbrev gcx (X : Cx) (s : Shared) (H : Hp) (scope : Scope) (cenv : Env) (fp : List Addr) (pn : List (Addr × Obj)) : Cx :=
  { X with A := X.A.in1.in1.deeper cenv, s_0 := s, H_0 := H, env := cenv, outer := X.stack, stack := cenv :: X.stack, ex := fp, fn := fun x => scope.names.lookup x == some .cell, pn := pn, xe := fun _ _ => False }

theorem gen_start {scope : Scope} {own : List (Str × Nat)} {fp : List Addr} {code : Value} {a : Addr} {go : Obj} {h5 : Heap} {g5 : Array GenState} {t5 : Nat} {m : Str → Option Value} (I : Inv X pins σ H s) (ok : BlkOk X.N X.env.scope scope own) (hN : X.N.Nodup)
    (hcell : ∀ y ∈ scope.names, y.2 ≠ .cell) (hfp : ∀ b ∈ fp, FpOk X pins H b ∧ b < s.heap.objs.size)
    (kp : ∀ b o, s.heap.get? b = some o → h5.get? b = some o) (hns : h5.Ns s.heap.objs.size m) (ha : s.heap.objs.size < a) (hgo : h5.get? a = some go) (hgd : ∀ v, go.data ≠ .cell v) (hg5 : AllBare g5) :
    Inv (gcx X s H scope (genEnv scope (cloFrom X.env.cells scope.names []) s.heap.objs.size code builtinsNs X.env) fp [(a, go)]) [] (wipe σ (own.map (·.2))) H { s with heap := h5, gens := g5, toks := t5 } := by
  have hfree : ∀ y ∈ scope.names, y.2 = .free → ∃ c, X.env.cells.lookup y.1 = some c := fun y hy e => by
    rcases ok.free y hy e with k | k
    · exact I.ok.has _ (.inl k)
    · exact I.ok.has _ (.inr k)
  generalize hcenv : genEnv scope (cloFrom X.env.cells scope.names []) s.heap.objs.size code builtinsNs X.env = cenv
  have hL : cenv.locals = s.heap.objs.size := by rw [← hcenv]; rfl
  have hcl : cenv.cells = cloFrom X.env.cells scope.names [] := by rw [← hcenv]; rfl
  have hsc : cenv.scope = scope := by rw [← hcenv]; rfl
  have hfr : cenv.frame = some cenv.locals := by rw [← hcenv]; rfl
  have nocell : ∀ {y}, scope.names.lookup y ≠ some .cell := fun {y} e => hcell _ (PySem.mem_of_lookup e) rfl
  have mem : ∀ {y c}, cenv.cells.lookup y = some c → X.env.cells.lookup y = some c ∧ c < s.heap.objs.size := fun {y c} e => by
    rw [hcl] at e
    rcases cloFrom_mem (PySem.mem_of_lookup e) with hm | ⟨h1, rfl⟩
    · cases hm
    · obtain ⟨c, hc⟩ := hfree _ h1 rfl
      rw [hc]
      obtain ⟨w, z⟩ := I.cell _ _ hc
      exact ⟨rfl, z.lt⟩
  have look : ∀ {y}, scope.names.lookup y = some .free → ∃ c, cenv.cells.lookup y = some c ∧ X.env.cells.lookup y = some c := fun {y} hl => by
    have hy : (y, NameKind.free) ∈ scope.names := PySem.mem_of_lookup hl
    obtain ⟨c', e'⟩ := mem_lookup (cloFrom_has (cells := X.env.cells) (acc := []) hy)
    rw [← hcl] at e'
    exact ⟨c', e', (mem e').1⟩
  have okB : (gcx X s H scope cenv fp [(a, go)]).Ok := by
    refine ⟨I.ok.mod, by show cenv.scope.kind = _; rw [hsc]; exact ok.kind, by show cenv.globals = _; rw [← hcenv]; exact I.ok.glob, by show cenv.builtins = _; rw [← hcenv]; rfl, by show s.heap.objs.size ≤ cenv.locals; rw [hL]; exact Nat.le_refl _,
      fun y z c e1 e2 => I.ok.inj y z c (mem e1).1 (mem e2).1, fun y hy => ?_, fun y c z e => ?_, I.ok.hd, ?_, .inr ⟨rfl, hfr⟩, fun b hb => ⟨?_, fun y c e z => ?_⟩, I.bs, Nat.le_trans I.ok.bsz I.sz, fun b o e hb => ?_, fun b hb z => ?_, I.stack, I.stkFree⟩
    · show ∃ c, cenv.cells.lookup y = some c
      have hy : cenv.scope.names.lookup y = some .cell ∨ cenv.scope.names.lookup y = some .free := hy
      rw [hsc] at hy
      rcases hy with hy | hy
      · exact absurd hy nocell
      · obtain ⟨c, h1, _⟩ := look hy
        exact ⟨c, h1⟩
    · have z : (scope.names.lookup y == some NameKind.cell) = true := z
      exact absurd (by simpa using z) (nocell (y := y))
    · show X.A.frames.map (cenv :: ·) = some (cenv :: X.stack)
      rw [I.ok.frames]; rfl
    · show b ≠ cenv.locals
      rw [hL]; exact Nat.ne_of_lt (hfp b hb).2
    · have e : cenv.cells.lookup y = some c := e
      exact (hfp b hb).1.2.2.2.2.1 y c (mem e).1 z
    · rcases (hfp b hb).1.2.2.2.1 with z | z
      · exact I.ok.noex b o e z
      · exact absurd (Nat.lt_of_lt_of_le (Heap.lt_size e) (Nat.le_trans I.ok.bsz z)) (Nat.lt_irrefl _)
    · rcases List.mem_cons.mp (I.stkSub b z) with z | z
      · exact (hfp b hb).1.2.1 z
      · exact (hfp b hb).1.2.2.1 z
  refine ⟨okB, rfl, hg5, Un.kept kp, ⟨m, ?_, fun i y av e1 e2 e3 => ?_⟩, fun y c e => ?_, ?_, fun y c e => ?_, fun p hp => ?_, I.hok.kept kp, by rw [wipe_length]; exact I.len⟩
  · show Heap.Ns _ cenv.locals _
    rw [hL]; exact hns
  · obtain ⟨e2, hne⟩ := wipe_some e2
    have hfr : scope.names.lookup y = some .free := by
      have key : ∀ k, scope.names.lookup y = some k → k = .local ∨ k = .cell ∨ k = .free → scope.names.lookup y = some .free := fun k hk hk' => by
        have no : ¬ (k = .local ∨ k = .cell) := fun hh => by
          rcases ok.own _ (PySem.mem_of_lookup hk) hh with e' | e'
          · obtain ⟨p, hp, hpy⟩ := List.mem_map.mp e'
            have e3 := ok.ix p hp
            have : p.1 = y := hpy
            rw [this] at e3
            exact hne (List.mem_map.mpr ⟨p, hp, nodup_ix hN e3 e1⟩)
          · exact e' (List.mem_of_getElem? e1)
        rcases hk' with rfl | rfl | rfl
        · exact absurd (.inl rfl) no
        · exact absurd (.inr rfl) no
        · exact hk
      have e3 : Vis cenv.scope y := e3
      rw [hsc] at e3
      rcases e3 with e3 | e3 | e3
      · exact key _ e3 (.inl rfl)
      · exact key _ e3 (.inr (.inl rfl))
      · exact key _ e3 (.inr (.inr rfl))
    obtain ⟨mm, hn, hl⟩ := I.loc
    have hvis : Vis X.env.scope y := (ok.free _ (PySem.mem_of_lookup hfr) rfl).elim (fun k => .inr (.inl k)) (fun k => .inr (.inr k))
    obtain ⟨w, r, q⟩ := hl i y av e1 e2 hvis
    refine ⟨w, r, .inr ⟨.inr (by show cenv.scope.names.lookup y = _; rw [hsc]; exact hfr), ?_⟩⟩
    obtain ⟨c, h1, h2⟩ := look hfr
    rcases q with ⟨k, _⟩ | ⟨_, c', e', z⟩
    · have k : X.env.scope.names.lookup y = some .local := k
      rcases ok.free _ (PySem.mem_of_lookup hfr) rfl with k' | k' <;> rw [show X.env.scope.names.lookup y = _ from k'] at k <;> cases k
    · rw [h2] at e'; cases e'
      exact ⟨c, h1, z.keeps kp⟩
  · have e : cenv.cells.lookup y = some c := e
    obtain ⟨w, z⟩ := I.cell y c (mem e).1
    exact ⟨w, z.keeps kp⟩
  · show H cenv.locals = none
    rw [hL]; exact I.hok.fresh (Nat.le_refl _)
  · have e : cenv.cells.lookup y = some c := e
    exact I.freeC y c (mem e).1
  · have hp : p ∈ [(a, go)] ++ [] := hp
    rw [List.append_nil] at hp
    rw [List.mem_singleton.mp hp]
    have hge : s.heap.objs.size ≤ a := Nat.le_of_lt ha
    exact ⟨hgo, I.hok.fresh hge, by show a ≠ cenv.locals; rw [hL]; exact Nat.ne_of_gt ha, fun z => by
      rcases List.mem_cons.mp (I.stkSub a z) with z | z
      · exact absurd (show a < s.heap.objs.size by rw [z]; exact I.lt) (Nat.not_lt.mpr hge)
      · exact I.nofs hge z, hgd⟩
end
end SQ

/-! SqGenH2: a generator expression is made; its turns. -/
set_option maxHeartbeats 1000000
namespace SQ
open PySem PySem.Spec PyProof.Rows L2 GxR GenW

abbrev gE (elt tg iter : Expr) (scope : Scope) (gpos : Pos) : Expr := .GeneratorExp elt [⟨tg, iter, [], 0⟩] scope gpos
/-- a generator stands at a, not begun -/
def Made (X : Cx) (pins : List (Addr × Obj)) (σ : L2.St) (H1 : Hp) (elt tg iter : Expr) (scope : Scope) (gpos : Pos) (vs : List Nat) (J : It) (a : Addr) (s5 : Shared) : Prop :=
  ∃ (s3 : Shared) (it : Addr) (fp : List Addr) (tn : Nat → Heap → Prop) (C : Addr) (code : Value) (go : Obj) (g : Nat),
    Inv X pins σ H1 s3 ∧ s3.heap.objs.size < a ∧ (∀ b ∈ fp, FpOk X pins H1 b ∧ b < s3.heap.objs.size) ∧ Turn X.prog X.w X.K tg J fp it tn ∧
    Inv (gcx X s3 H1 scope (genEnv scope (cloFrom X.env.cells scope.names []) C code builtinsNs X.env) fp [(a, go)]) [] (wipe σ vs) H1 s5 ∧ tn 0 s5.heap ∧ (∀ h : Heap, h.get? a = some go → h.IsGen a g) ∧
    s5.gens[g]? = some (.fresh (.compStart (gE elt tg iter scope gpos) 0 (.ref it) .none (genEnv scope (cloFrom X.env.cells scope.names []) C code builtinsNs X.env)))

section
variable {X : Cx} {pins : List (Addr × Obj)} {σ : L2.St} {H : Hp} {s : Shared}
theorem gen_eval {c P : Addr} {elt tg iter : Expr} {gpos : Pos} {scope : Scope} {own : List (Str × Nat)} {wi : TI} {k : Nat} {Q' : Value → Shared → Prop} {R : It → Hp → Prop}
    (hr : Room k X.A) (TB : TabB X.base X.mg c P) (hcode : X.env.code = .ref c) (hN : X.N.Nodup) (hi : PI X tg iter wi) (ok : BlkOk X.N X.env.scope scope own)
    (hco : scope.isCoroutine = false) (hcell : ∀ y ∈ scope.names, y.2 ≠ .cell) (hdot : scope.names.lookup (".0" : Str) = some NameKind.local)
    (hs : ∀ v, genFold iter X.env v = pure v) (I : Inv X pins σ H s) (h : wi σ H fun J H1 => H1 P = some (tabF P) ∧ R J H1)
    (hQ : ∀ J H1 a s5, R J H1 → Made X pins σ H1 elt tg iter scope gpos (own.map (·.2)) J a s5 → Q' (.ref a) s5) :
    wpAny (model X.prog X.w) X.A (eval (gE elt tg iter scope gpos) X.env) Q' X.xe s := by
  have hfree : ∀ y ∈ scope.names, y.2 = .free → ∃ c, X.env.cells.lookup y.1 = some c := fun y hy e => by
    rcases ok.free y hy e with k | k
    · exact I.ok.has _ (.inl k)
    · exact I.ok.has _ (.inr k)
  refine wpAny_GeneratorExp_make hco (closure_ok hfree) hcell hdot ok.kind (by have := hr.dp; omega) ?_ hs
  refine thn (hi.run pins s σ H _ I h) fun xv s1 hx => thn hx fun itv s2 h2 => ?_
  obtain ⟨it, fp, tn, J, H1, rfl, I2, T, st2, f2, hP, hR⟩ := h2
  refine ⟨I2.nolimit, ?_⟩
  obtain ⟨ps, hPs, ht⟩ := tab_at I2 hP
  have cd : PySem.W.CodeHd s2.heap c P := TB.code.keeps I2.bk
  have sz : ∀ b ∈ fp, b < s2.heap.objs.size := fun b hb => by
    obtain ⟨o, e, _⟩ := T.obj _ _ st2 b hb
    exact Heap.lt_size e
  have cont : ∀ (code : Value) (h3 : Heap) (tk : Nat), Heap.ExtBut P s2.heap h3 → s2.heap.objs.size ≤ h3.objs.size → tabP P h3 →
      wpAny (model X.prog X.w) X.A (builtinsFor X.env.globals X.env.builtins) (fun bi s₄ => ∀ h', h'.Ns s₄.heap.objs.size (fun y => if y = ".0" then some (.ref it) else none) →
        Heap.SameBut s₄.heap.objs.size (s₄.heap.push { cls := .type "frame", data := .dict #[] }) h' →
        Q' (.ref h'.objs.size) { s₄ with
            gens := s₄.gens.push (.fresh (.compStart (gE elt tg iter scope gpos) 0 (.ref it) .none (genEnv scope (cloFrom X.env.cells scope.names []) s₄.heap.objs.size code bi X.env))),
            toks := s₄.toks + 1 + 1 + 1,
            heap := h'.push { cls := .type "generator", data := .fields #[.int s₄.gens.size 0, .str "<genexpr>" (s₄.toks + 1), .str (X.env.qual ++ "<genexpr>") (s₄.toks + 1 + 1)] } }) X.xe { s2 with heap := h3, toks := tk } := by
    intro code h3 tk hx hsz hT3
    obtain ⟨bm, ob, e1, e2, e3, e4, e5, e6, e7, e8⟩ := TB.bm
    have keep3 : ∀ b u, b ≠ P → s2.heap.get? b = some u → h3.get? b = some u := fun b u hb e => hx b u hb e
    have I3 : Inv X pins σ H1 { s2 with heap := h3, gens := s2.gens, drawn := s2.drawn, toks := tk } := tab_grown I2 hP keep3 hT3 I2.bare
    refine wpAny_builtinsFor (m := X.mg) (by rw [I2.ok.glob]; exact (I2.mod.glob.keeps I2.bk).extBut hx TB.gP) e1 e2 (keep3 _ _ e4 (I2.bk _ _ e5)) e6 e7 e8 ?_
    intro h' hn' hs'
    have hsz' : h'.objs.size = h3.objs.size + 1 := by rw [hs'.1, Heap.size_push]
    have keep' : ∀ b o, h3.get? b = some o → h'.get? b = some o := fun b o e => hs'.extBut b o (Nat.ne_of_lt (Heap.lt_size e)) (Heap.get?_push_of_some _ e)
    have f3 : ∀ b ∈ fp, FpOk X pins H1 b ∧ b < h3.objs.size := fun b hb => ⟨f2 b hb, Nat.lt_of_lt_of_le (sz b hb) hsz⟩
    have st3 : tn 0 h3 := T.keep _ _ _ st2 fun b hb o e => keep3 b o (fun z => by
      have := (f2 b hb).1
      rw [z, hP] at this; cases this) e
    generalize hgo : ({ cls := .type "generator", data := .fields #[.int s2.gens.size 0, .str "<genexpr>" (tk + 1), .str (X.env.qual ++ "<genexpr>") (tk + 1 + 1)] } : Obj) = go
    have hat : (h'.push go).get? h'.objs.size = some go := by
      rw [← hgo]; exact Heap.get?_push_size _ rfl
    refine hQ J H1 h'.objs.size _ hR ⟨_, it, fp, tn, h3.objs.size, code, go, s2.gens.size, I3, (by show h3.objs.size < _; omega), f3, T,
      gen_start (t5 := tk + 1 + 1 + 1) (h5 := h'.push go) (a := h'.objs.size) I3 ok hN hcell f3 (fun b o e => Heap.get?_push_of_some _ (keep' b o e)) (hn'.push _) (by show h3.objs.size < _; omega) hat (fun v q => by rw [← hgo] at q; cases q) (AllBare.push I2.bare rfl), ?_, fun h e => ?_, ?_⟩
    · exact T.keep _ _ _ st3 fun b _ o e => Heap.get?_push_of_some _ (keep' b o e)
    · exact ⟨go, _, _, e, by rw [← hgo], by rw [← hgo], by rw [← hgo]⟩
    · exact Array.getElem?_push_size ..
  cases hf : codeAmong gpos ps.toList with
  | none =>
    refine wpAny_genexprCodeX hcode (cd.code hPs ht) (cd.tab hPs) hf fun c' h' tk hx hge hlt hco' _ htab' _ => ?_
    obtain ⟨o1, vs, f1, tf, fl, tg, inF, tx, tt, op, _, _, _, _, _, _, _, _, _, htr, _⟩ := hco'
    exact cont _ h' tk hx (Nat.le_trans hge (Nat.le_of_lt hlt)) ⟨_, htab'.2, htr⟩
  | some cv =>
    refine wpAny_genexprCode_hit hcode (cd.code hPs ht) hf ?_
    exact cont cv s2.heap s2.toks (Heap.ExtBut.refl _ _) (Nat.le_refl _) ⟨ps, hPs, ht⟩

/-! ### the turns -/
theorem over_gen {A : Around} {elt : Expr} {gs : List Comprehension} {scope : Scope} {gpos : Pos} {it acc : Value} {env : Env} : A.over (.compLoop (.GeneratorExp elt gs scope gpos) 0 it acc env) [] = A.deeper env := by
  first
    | rfl
    | (obtain ⟨hd, d, fr, gs, u⟩ := A; simp [Around.over, Around.deeper, marksOver, frameCount, unitsOf, envsOf, guardsOf, pushEnvs, pushGuards, Code.envs, Code.env?, Code.isFrame, Code.guards, Code.isGuard, Code.weight, Code.frames, Code.isCreation, Code.isCaller, Code.cUnits])
theorem over_genS {A : Around} {elt : Expr} {gs : List Comprehension} {scope : Scope} {gpos : Pos} {it acc : Value} {env : Env} : A.over (.compStart (.GeneratorExp elt gs scope gpos) 0 it acc env) [] = A.deeper env := by
  first
    | rfl
    | (obtain ⟨hd, d, fr, gs, u⟩ := A; simp [Around.over, Around.deeper, marksOver, frameCount, unitsOf, envsOf, guardsOf, pushEnvs, pushGuards, Code.envs, Code.env?, Code.isFrame, Code.guards, Code.isGuard, Code.weight, Code.frames, Code.isCreation, Code.isCaller, Code.cUnits])

/-- the walk's invariant: W by the turn and a measure -/
def Wk (al : Bool) (J : It) (g : TG) (te : TE) (vs : List Nat) (σ : L2.St) (Q : VK) (W : Nat → Nat → Hp → Prop) : Prop := ∀ i m H, W i m H →
  (J.stop i H ∧ Q (.bl al) H) ∨ (J.go i H ∧ ∀ x H', J.yld i H x H' → g x (wipe σ vs) H' fun σ2 H2 => wipe σ2 vs = wipe σ vs ∧ te σ2 H2 fun y H3 => ∃ b : Bool, y = .bl b ∧ if b = al then ∃ m', m' < m ∧ W (i + 1) m' H3 else Q (.bl (!al)) H3)
/-- the generator's end -/
def gR (X : Cx) (σ0 : L2.St) (al : Bool) (Q : VK) : Nat → Shared → Shared → Prop := fun _ _ s => ∃ H, Q (.bl al) H ∧ Inv X [] σ0 H s
/-- an item is handed out -/
def gY (X : Cx) (al : Bool) (Q : VK) : Protocol := fun n s₀ v s kap => ∃ (b : Bool) (σ' : L2.St) (H : Hp) (pl : List (Addr × Obj)), v = .bool b ∧ Inv X pl σ' H s ∧ if b = al then ∀ s'', Kp s s'' → kap (.send .none) s'' else Q (.bl (!al)) H

theorem seg_turns {A : Around} {elt tg iter : Expr} {gpos : Pos} {scope : Scope} {cenv : Env} {al : Bool} {vs : List Nat} {g : TG} {te : TE} {Q : VK} {W : Nat → Nat → Hp → Prop} {J : It} {fp : List Addr} {it : Addr} {tn : Nat → Heap → Prop}
    (hA : X.A = A.deeper cenv) (hE : X.env = cenv) (hX : X.xe = fun _ _ => False) (hc : X.calm = true) (hco : scope.isCoroutine = false) (hsc : cenv.scope = scope) (T : Turn X.prog X.w X.K tg J fp it tn) (pg : PG X tg g) (pe : PE X elt te) (turn : Wk al J g te vs σ Q W)
    (stat : ∀ {σ' : L2.St} {H' : Hp} {s' : Shared}, Inv X [] σ' H' s' → (∀ b ∈ fp, H' b = none) → ∀ b ∈ fp, FpOk X [] H' b) :
    ∀ (n i m : Nat) (H : Hp) (s₀ s : Shared), m < n → W i m H → Inv X [] (wipe σ vs) H s → tn i s.heap → (∀ b ∈ fp, H b = none) →
      Seg (model X.prog X.w) A (fun n s₀ r s => r = .ok .next ∧ gR X (wipe σ vs) al Q n s₀ s) (gY X al Q) n s₀ (.compLoop (gE elt tg iter scope gpos) 0 (.ref it) .none cenv) ((model X.prog X.w).den (.compLoop (gE elt tg iter scope gpos) 0 (.ref it) .none cenv)) [] s := by
  intro n
  induction n with
  | zero => intro i m H s₀ s hm; exact absurd hm (Nat.not_lt_zero _)
  | succ n ih =>
    intro i m H s₀ s hm w I st hf
    have eA : A.over (.compLoop (gE elt tg iter scope gpos) 0 (.ref it) .none cenv) [] = X.A := over_gen.trans hA.symm
    have xf : ∀ {α : Type} {t : Sem α} {Q1 : α → Shared → Prop} {E : Value → Shared → Prop} {s : Shared}, wpAny (model X.prog X.w) X.A t Q1 X.xe s → wpAny (model X.prog X.w) X.A t Q1 E s := fun h => wpAny_mono h (fun _ _ q => q) fun x s' q => by
      rw [hX] at q; exact False.elim q
    show Seg _ A _ _ _ s₀ _ ((compTurn (gE elt tg iter scope gpos) 0 (.ref it) .none cenv).onRaise (leaving cenv)) [] s
    rw [compTurn_gen, Sem.onRaise_eq_wrap]
    refine seg_bind_wrap (wpAny_standAt ?_)
    rcases turn i m H w with ⟨stop, qq⟩ | ⟨go, step⟩
    · refine seg_bind_wrap ?_
      rw [eA]
      refine thn (T.done X rfl rfl rfl hc i [] s _ H _ I (stat I hf) st stop) fun r s6 ⟨hr, I6⟩ => ?_
      subst hr
      exact seg_end (.ok .next) ⟨rfl, H, qq, I6⟩
    · refine seg_bind_wrap ?_
      rw [eA]
      refine thn (T.item X rfl rfl rfl hc i [] s _ H _ I (stat I hf) st go) fun r s6 ⟨u, hr, h6⟩ => ?_
      subst hr
      refine seg_bind_wrap ?_
      rw [eA]
      refine thn h6 fun _ s7 ⟨x, H7, I7, r7, y7, st7, n7⟩ => ?_
      have I7' := I7.pinned (stat I7 n7) (T.obj _ _ st7)
      refine seg_bind_wrap ?_
      rw [eA]
      have h8 := pg.run _ s7 _ H7 x u _ I7' r7 (step x H7 y7)
      rw [hE] at h8
      refine xf (thn h8 fun _ s8 ⟨σ8, H8, I8, hw8, q8⟩ => ?_)
      refine seg_bind_wrap ?_
      refine wpAny_tests_nil ?_
      simp only [if_true]
      have hy : ∀ v, yieldOut cenv v = yieldValue v := fun v => by simp only [yieldOut, hsc, hco, Bool.false_eq_true, if_false]
      simp only [hy]
      rw [Sem.bind_eq_wrap', Sem.bind_eq_wrap', Sem.wrap_wrap, Sem.wrap_wrap]
      refine seg_wrap ?_
      rw [eA]
      have h9 := pe.run _ s8 σ8 H8 _ I8 q8
      rw [hE] at h9
      refine xf (thn h9 fun yv s9 ⟨y, H9, I9, r9, b, hb, q9⟩ => ?_)
      subst hb
      have r9 : yv = Value.bool b := r9
      subst r9
      refine seg_at (seg_yield rfl rfl rfl ⟨b, σ8, H9, _, rfl, I9, ?_⟩)
      by_cases hba : b = al
      · rw [if_pos hba] at q9 ⊢
        obtain ⟨m', hm', w'⟩ := q9
        intro s'' k
        have I10 := Kp.inv I9 k
        have pin' : ∀ b ∈ fp, ∀ o, s7.heap.get? b = some o → s''.heap.get? b = some o ∧ H9 b = none := fun b hb o e =>
          let z := I10.pin (b, o) (List.mem_append_right _ (List.mem_append_right _ (mem_pinsAt hb e)))
          ⟨z.1, z.2.1⟩
        have hl : (wipe σ vs).length = σ8.length := by rw [← hw8, wipe_length]
        refine seg_again rfl (ih (i + 1) m' H9 s'' s'' (by omega) w' ((I10.unpinned (pins := [])).weak hl fun j v e => ?_) (T.keep _ _ _ st7 fun b hb o e => (pin' b hb o e).1) fun b hb => ?_)
        · rw [← hw8] at e
          exact (wipe_some e).1
        · obtain ⟨o, e, _⟩ := T.obj _ _ st7 b hb
          exact (pin' b hb o e).2
      · rw [if_neg hba] at q9 ⊢
        exact q9
end
end SQ

/-! SqGenH3: all(..), any(..) of a generator expression. -/
set_option maxHeartbeats 1000000
namespace SQ
open PySem PySem.Spec PyProof.Rows L2 GxR GenW

def genNm : Bool → Str
  | true => "all"
  | false => "any"
def loopNm : Bool → String
  | true => "all.loop"
  | false => "any.loop"

section
variable {X : Cx} {σ0 : L2.St} {al : Bool} {Q : VK} {a : Addr} {g : Nat} {go : Obj}
theorem gen_drain {Y : Cx} {A : Around} {R : Result → Shared → Prop} (hh : A.handled = none) (hd : A.depth < recursionLimit) (hgen : ∀ h : Heap, h.get? a = some go → h.IsGen a g) (hpn : (a, go) ∈ Y.pn) (hP : Y.prog = X.prog) (hw : Y.w = X.w)
    (fin : ∀ (H : Hp) (s : Shared) (σ' : L2.St) (pl : List (Addr × Obj)) (b : Bool), Inv Y pl σ' H s → Q (.bl b) H → R (.ok (.ret (.bool b))) s) :
    ∀ (n : Nat) (s : Shared), s.heap.get? a = some go → s.heap.NoLimit →
      (∃ gs, s.gens[g]? = some gs ∧ gs.Goes (model X.prog X.w) A.in1.in1 (fun n s₀ r s => r = .ok .next ∧ gR Y σ0 al Q n s₀ s) (gY Y al Q) n (.send .none) (s.setGen g .running)) →
      codeAny (model X.prog X.w) A (.builtin (loopNm al) ⟨[.ref a], []⟩) R s := by
  have kpg : ∀ {s : Shared} {x : GenState} {σ' : L2.St} {H : Hp} {pl : List (Addr × Obj)}, Inv Y pl σ' H s → x.bare = true → Kp s (s.setGen g x) := fun I hx => ⟨rfl, allBare_setGen I.bare hx, rfl⟩
  -- what follows an item
  have item : ∀ (n : Nat) (s : Shared), s.heap.get? a = some go → s.heap.NoLimit →
      (∃ gs, s.gens[g]? = some gs ∧ gs.Goes (model X.prog X.w) A.in1.in1 (fun n s₀ r s => r = .ok .next ∧ gR Y σ0 al Q n s₀ s) (gY Y al Q) n (.send .none) (s.setGen g .running)) →
      ∀ (K : Option Value → Shared → Prop),
        (∀ (b : Bool) (s1 : Shared) (σ' : L2.St) (H : Hp) (pl : List (Addr × Obj)), Inv Y pl σ' H s1 → (if b = al then ∃ m, n = m + 1 ∧ ∃ gs, s1.gens[g]? = some gs ∧ gs.Goes (model X.prog X.w) A.in1.in1 (fun n s₀ r s => r = .ok .next ∧ gR Y σ0 al Q n s₀ s) (gY Y al Q) m (.send .none) (s1.setGen g .running) else Q (.bl (!al)) H) → K (some (.bool b)) s1) →
        (∀ (s1 : Shared) (σ' : L2.St) (H : Hp) (pl : List (Addr × Obj)), Inv Y pl σ' H s1 → Q (.bl al) H → K none s1) →
        ∀ E, wpAny (model X.prog X.w) A.in1 (pyNext (.ref a)) K E s := by
    intro n s hga hl ⟨gs, hgs, hgo⟩ K h1 h2 E
    have hgl : g < s.gens.size := (Array.getElem?_eq_some_iff.mp hgs).1
    refine wpAny_gsz (n := g + 1) hgl (wpAny_pyNext_genexpQ (A := A.in1) (P := gR Y σ0 al Q) hh hl hd (hgen _ hga) hgs hgo (fun v s₁ gs' hbare hv => ?_) (fun s₁ hp h' hk => ?_))
    · intro hsz
      obtain ⟨b, σ', H, pl, rfl, I, hb⟩ := hv
      refine h1 b _ σ' H pl (Kp.inv I (kpg I hbare)) ?_
      by_cases hba : b = al
      · rw [if_pos hba] at hb ⊢
        cases n with
        | zero => exact (hb s₁ ⟨rfl, I.bare, rfl⟩).elim
        | succ m =>
          have hsz' : g < s₁.gens.size := by
            have q : (s₁.setGen g gs').gens.size = s₁.gens.size := setGen_size _ _ _
            omega
          refine ⟨m, rfl, gs', setGen_at hsz', hb _ ⟨rfl, allBare_setGen (s := s₁.setGen g gs') (allBare_setGen I.bare hbare) rfl, rfl⟩⟩
      · rw [if_neg hba] at hb ⊢
        exact hb
    · intro hsz
      obtain ⟨H, hq, I⟩ := hp
      have I2 := Kp.inv I (kpg (x := .finished) I rfl)
      exact h2 _ _ H _ (I2.kept (t' := (s₁.setGen g .finished).toks) hk) hq
  intro n
  induction n with
  | zero =>
    intro s hga hl hgo
    cases al with
    | true =>
      show codeAny _ _ (.builtin "all.loop" _) _ _
      refine codeAny_builtin F.entry_all_loop ?_
      rw [Around.under_plainId F.plain_all_loop _]
      show wpAny _ A.in1 (pyNext (.ref a) >>= _) _ _ s
      refine wpAny_bind (item 0 s hga hl hgo _ (fun b s1 σ' H pl I hb => ?_) (fun s1 σ' H pl I hq => ?_) _)
      · refine wpAny_bind (wpAny_holding (wpAny_truthy_bool ?_))
        refine wpAny_bind (wpAny_letGo ?_)
        cases b with
        | true =>
          rw [if_pos rfl] at hb
          obtain ⟨m, hm, _⟩ := hb
          cases hm
        | false =>
          rw [if_neg Bool.false_ne_true] at hb
          simp only [Bool.false_eq_true, if_false]
          exact wpAny_bind (wpAny_rule (wpAny_pure (fin H s1 σ' pl false I hb)))
      · exact wpAny_bind (wpAny_rule (wpAny_pure (fin H s1 σ' pl true I hq)))
    | false =>
      show codeAny _ _ (.builtin "any.loop" _) _ _
      refine codeAny_builtin F.entry_any_loop ?_
      rw [Around.under_plainId F.plain_any_loop _]
      show wpAny _ A.in1 (pyNext (.ref a) >>= _) _ _ s
      refine wpAny_bind (item 0 s hga hl hgo _ (fun b s1 σ' H pl I hb => ?_) (fun s1 σ' H pl I hq => ?_) _)
      · refine wpAny_bind (wpAny_holding (wpAny_truthy_bool ?_))
        refine wpAny_bind (wpAny_letGo ?_)
        cases b with
        | false =>
          rw [if_pos rfl] at hb
          obtain ⟨m, hm, _⟩ := hb
          cases hm
        | true =>
          rw [if_neg (by decide)] at hb
          simp only [if_true]
          exact wpAny_bind (wpAny_rule (wpAny_pure (fin H s1 σ' pl true I hb)))
      · exact wpAny_bind (wpAny_rule (wpAny_pure (fin H s1 σ' pl false I hq)))
  | succ n ih =>
    intro s hga hl hgo
    have again_ : ∀ {s1 : Shared} {σ' : L2.St} {H : Hp} {pl : List (Addr × Obj)}, Inv Y pl σ' H s1 → (∃ m, n + 1 = m + 1 ∧ ∃ gs, s1.gens[g]? = some gs ∧ gs.Goes (model X.prog X.w) A.in1.in1 (fun n s₀ r s => r = .ok .next ∧ gR Y σ0 al Q n s₀ s) (gY Y al Q) m (.send .none) (s1.setGen g .running)) →
        codeAny (model X.prog X.w) A (.builtin (loopNm al) ⟨[.ref a], []⟩) R s1 := fun {s1 σ' H pl} I ⟨m, hm, hg2⟩ => by
      have e : m = n := (Nat.succ.inj hm).symm
      subst e
      exact ih s1 (I.pin (a, go) (List.mem_append_left _ hpn)).1 I.nolimit hg2
    cases al with
    | true =>
      show codeAny _ _ (.builtin "all.loop" _) _ _
      refine codeAny_builtin F.entry_all_loop ?_
      rw [Around.under_plainId F.plain_all_loop _]
      show wpAny _ A.in1 (pyNext (.ref a) >>= _) _ _ s
      refine wpAny_bind (item (n + 1) s hga hl hgo _ (fun b s1 σ' H pl I hb => ?_) (fun s1 σ' H pl I hq => ?_) _)
      · refine wpAny_bind (wpAny_holding (wpAny_truthy_bool ?_))
        refine wpAny_bind (wpAny_letGo ?_)
        cases b with
        | true =>
          rw [if_pos rfl] at hb
          simp only [if_true]
          exact wpAny_pure ⟨plainId_quiet F.plain_all_loop _, again_ I hb⟩
        | false =>
          rw [if_neg Bool.false_ne_true] at hb
          simp only [Bool.false_eq_true, if_false]
          exact wpAny_bind (wpAny_rule (wpAny_pure (fin H s1 σ' pl false I hb)))
      · exact wpAny_bind (wpAny_rule (wpAny_pure (fin H s1 σ' pl true I hq)))
    | false =>
      show codeAny _ _ (.builtin "any.loop" _) _ _
      refine codeAny_builtin F.entry_any_loop ?_
      rw [Around.under_plainId F.plain_any_loop _]
      show wpAny _ A.in1 (pyNext (.ref a) >>= _) _ _ s
      refine wpAny_bind (item (n + 1) s hga hl hgo _ (fun b s1 σ' H pl I hb => ?_) (fun s1 σ' H pl I hq => ?_) _)
      · refine wpAny_bind (wpAny_holding (wpAny_truthy_bool ?_))
        refine wpAny_bind (wpAny_letGo ?_)
        cases b with
        | false =>
          rw [if_pos rfl] at hb
          simp only [Bool.false_eq_true, if_false]
          exact wpAny_pure ⟨plainId_quiet F.plain_any_loop _, again_ I hb⟩
        | true =>
          rw [if_neg (by decide)] at hb
          simp only [if_true]
          exact wpAny_bind (wpAny_rule (wpAny_pure (fin H s1 σ' pl true I hb)))
      · exact wpAny_bind (wpAny_rule (wpAny_pure (fin H s1 σ' pl false I hq)))
end

/-- all(elt for tg in iter), any(..) -/
def tGen (al : Bool) (P : Addr) (wi : TI) (g : TG) (te : TE) (vs : List Nat) : TE := fun σ H Q => wi σ H fun J H1 => H1 P = some (tabF P) ∧ ∃ W : Nat → Nat → Hp → Prop, (∃ m, W 0 m H1) ∧ Wk al J g te vs σ Q W
section
variable {X : Cx}
theorem pe_gen {c P : Addr} {elt tg iter : Expr} {p pos gpos : Pos} {scope : Scope} {own : List (Str × Nat)} {wi : TI} {g : TG} {te : TE} {k : Nat} (al : Bool)
    (hr : Room k X.A) (hg : Gl X (genNm al)) (hm : X.mg (genNm al) = none) (hc : X.calm = true) (TB : TabB X.base X.mg c P) (hcode : X.env.code = .ref c) (hN : X.N.Nodup) (hi : PI X tg iter wi) (ok : BlkOk X.N X.env.scope scope own)
    (hco : scope.isCoroutine = false) (hcell : ∀ y ∈ scope.names, y.2 ≠ .cell) (hdot : scope.names.lookup (".0" : Str) = some NameKind.local)
    (hpg : ∀ (s : Shared) (H : Hp) (C : Addr) (code : Value) (fp : List Addr) (pn : List (Addr × Obj)), PG (gcx X s H scope (genEnv scope (cloFrom X.env.cells scope.names []) C code builtinsNs X.env) fp pn) tg g)
    (hpe : ∀ (s : Shared) (H : Hp) (C : Addr) (code : Value) (fp : List Addr) (pn : List (Addr × Obj)), PE (gcx X s H scope (genEnv scope (cloFrom X.env.cells scope.names []) C code builtinsNs X.env) fp pn) elt te)
    (hs : ∀ v, genFold iter X.env v = pure v) :
    PE X (.Call (.Name (genNm al) p) [gE elt tg iter scope gpos] [] pos) (tGen al P wi g te (own.map (·.2))) := by
  refine ⟨fun pins s σ H Q I h => ?_⟩
  have hh : X.A.handled = none := I.ok.hd hc
  have hd : X.A.depth < recursionLimit := hr.depth
  have he : starEach [gE elt tg iter scope gpos] X.env = (false, eval (gE elt tg iter scope gpos) X.env) :: starEach [] X.env := rfl
  have body : ∀ (J : It) (H1 : Hp) (a : Addr) (s5 : Shared), (∃ W : Nat → Nat → Hp → Prop, (∃ m, W 0 m H1) ∧ Wk al J g te (own.map (·.2)) σ Q W) → Made X pins σ H1 elt tg iter scope gpos (own.map (·.2)) J a s5 →
      (∃ n, ∃ (Y : Cx) (go : Obj) (gg : Nat), s5.heap.get? a = some go ∧ (∀ h : Heap, h.get? a = some go → h.IsGen a gg) ∧ s5.heap.NoLimit ∧ (a, go) ∈ Y.pn ∧ Y.prog = X.prog ∧ Y.w = X.w ∧
        (∀ (H : Hp) (s : Shared) (σ' : L2.St) (pl : List (Addr × Obj)) (b : Bool), Inv Y pl σ' H s → Q (.bl b) H → EP X pins σ Q (.bool b) s) ∧
        ∃ gs σ0, s5.gens[gg]? = some gs ∧ gs.Goes (model X.prog X.w) X.A.in1.in1 (fun n s₀ r s => r = .ok .next ∧ gR Y σ0 al Q n s₀ s) (gY Y al Q) n (.send .none) (s5.setGen gg .running)) := by
    rintro J H1 a s5 ⟨W, ⟨m, hW⟩, turn⟩ ⟨s3, it, fp, tn, C, code, go, gg, I3, ha3, f3, T, I5, st5, hgen, hgs⟩
    generalize hce : genEnv scope (cloFrom X.env.cells scope.names []) C code builtinsNs X.env = ce at I5 hgs
    have pg := hpg s3 H1 C code fp [(a, go)]
    have pe := hpe s3 H1 C code fp [(a, go)]
    rw [hce] at pg pe
    have hsc : ce.scope = scope := by rw [← hce]; rfl
    have e5 := I5.pin (a, go) (List.mem_append_left _ List.mem_cons_self)
    have hgl : gg < s5.gens.size := (Array.getElem?_eq_some_iff.mp hgs).1
    have ige : s5.heap.IsGen a gg := hgen _ e5.1
    refine ⟨m + 1, gcx X s3 H1 scope ce fp [(a, go)], go, gg, e5.1, hgen, I5.nolimit, List.mem_singleton.mpr rfl, rfl, rfl, fun H' s' σ' pl b I' q => ?_, _, wipe σ (own.map (·.2)), hgs, ?_⟩
    · exact ⟨.bl b, H', I3.call' (ch := fp) I'.os I'.base I'.hok I'.bare fun b hb => ⟨(f3 b hb).1.2.2.2.1, (f3 b hb).1.2.1, (f3 b hb).1.2.2.2.2.1, (f3 b hb).1.2.2.2.2.2⟩, rfl, q⟩
    · refine ⟨rfl, ?_⟩
      have stat : ∀ {σ' : L2.St} {H' : Hp} {s' : Shared}, Inv (gcx X s3 H1 scope ce fp [(a, go)]) [] σ' H' s' → (∀ b ∈ fp, H' b = none) → ∀ b ∈ fp, FpOk (gcx X s3 H1 scope ce fp [(a, go)]) [] H' b := fun {σ' H' s'} I' hn b hb =>
        ⟨hn b hb, (I'.ok.exf b hb).1, I'.ok.exfs b hb, .inl hb, fun x c e => (I'.ok.exf b hb).2 x c e, fun p hp => by
          have hp : p ∈ [(a, go)] ++ [] := hp
          rw [List.append_nil] at hp
          rw [List.mem_singleton.mp hp]
          intro z
          have z : a = b := z
          have hb2 := (f3 b hb).2
          rw [z] at ha3
          exact absurd (Nat.lt_trans ha3 hb2) (Nat.lt_irrefl _)⟩
      have Ik := Kp.inv I5 (s' := s5.setGen gg .running) ⟨rfl, allBare_setGen I5.bare rfl, rfl⟩
      have loop := seg_turns (X := gcx X s3 H1 scope ce fp [(a, go)]) (A := X.A.in1.in1) (cenv := ce) (gpos := gpos) (iter := iter) rfl rfl rfl hc hco hsc T pg pe turn stat (m + 1) 0 m H1 (s5.setGen gg .running) (s5.setGen gg .running) (Nat.lt_succ_self _) hW Ik st5 fun b hb => (f3 b hb).1.1
      show Seg _ X.A.in1.in1 _ _ _ _ _ ((compStart (gE elt tg iter scope gpos) 0 (.ref it) .none ce).onRaise (leaving ce)) [] _
      unfold compStart
      rw [Sem.onRaise_eq_wrap]
      show Seg _ X.A.in1.in1 _ _ _ _ _ ((ask >>= _).wrap _ _ _ _) [] _
      refine seg_bind_wrap (wpAny_askSetting ?_)
      split
      · exact seg_again rfl loop
      · refine seg_bind_wrap (wpAny_rule ?_)
        show Seg _ X.A.in1.in1 _ _ _ _ _ ((standAt iter.pos >>= _).wrap _ _ _ _) [] _
        exact seg_bind_wrap (wpAny_standAt (seg_bind_wrap (T.self _ 0 _ _ _ st5 (seg_again rfl loop))))
  cases al with
  | true =>
    refine wpAny_Call_Name_kw (ld_blt I hg hm boot_all ?_)
    refine PyProof.Rows.callWith_builtin1 ?_ he (by rfl)
    rw [he]
    show wpAny _ _ (spliced ((false, eval (gE elt tg iter scope gpos) X.env) :: backTo pos (starEach [] X.env))) _ _ s
    refine Calls.spliced_cons (gen_eval (own := own) (R := fun J H1 => ∃ W : Nat → Nat → Hp → Prop, (∃ m, W 0 m H1) ∧ Wk true J g te (own.map fun (p : Str × Nat) => p.2) σ Q W) hr TB hcode hN hi ok hco hcell hdot hs I h fun J H1 a s5 hR hM => ?_)
    obtain ⟨n, Y, go, gg, e5, hgen, hl, hpn, hP, hw, back, gs, σ0, hgs, hgo⟩ := body J H1 a s5 hR hM
    refine Calls.spliced_nil ?_
    refine call_function_tree F.kind_all F.plain_all F.entry_all (F.args_all1 _) ?_
    unfold Builtin.«all»
    refine wpAny_bind (m := oneArg "all" _) (wpAny_pure ?_)
    refine wpAny_bind (wpAny_pyIter_gen (hgen _ e5) ?_)
    exact wpAny_pure ⟨plainId_quiet F.plain_all_loop _, gen_drain (al := true) (σ0 := σ0) (Q := Q) hh hd hgen hpn hP hw (fun H s σ' pl b I' q => back H s σ' pl b I' q) n s5 e5 hl ⟨gs, hgs, hgo⟩⟩
  | false =>
    refine wpAny_Call_Name_kw (ld_blt I hg hm boot_any ?_)
    refine PyProof.Rows.callWith_builtin1 ?_ he (by rfl)
    rw [he]
    show wpAny _ _ (spliced ((false, eval (gE elt tg iter scope gpos) X.env) :: backTo pos (starEach [] X.env))) _ _ s
    refine Calls.spliced_cons (gen_eval (own := own) (R := fun J H1 => ∃ W : Nat → Nat → Hp → Prop, (∃ m, W 0 m H1) ∧ Wk false J g te (own.map fun (p : Str × Nat) => p.2) σ Q W) hr TB hcode hN hi ok hco hcell hdot hs I h fun J H1 a s5 hR hM => ?_)
    obtain ⟨n, Y, go, gg, e5, hgen, hl, hpn, hP, hw, back, gs, σ0, hgs, hgo⟩ := body J H1 a s5 hR hM
    refine Calls.spliced_nil ?_
    refine call_function_tree F.kind_any F.plain_any F.entry_any (F.args_any1 _) ?_
    unfold Builtin.«any»
    refine wpAny_bind (m := oneArg "any" _) (wpAny_pure ?_)
    refine wpAny_bind (wpAny_pyIter_gen (hgen _ e5) ?_)
    exact wpAny_pure ⟨plainId_quiet F.plain_any_loop _, gen_drain (al := false) (σ0 := σ0) (Q := Q) hh hd hgen hpn hP hw (fun H s σ' pl b I' q => back H s σ' pl b I' q) n s5 e5 hl ⟨gs, hgs, hgo⟩⟩
end
end SQ

/-! SqData: how a datum lies in the abstract heap, apart from the objects O that somebody alone holds: DS. -/
namespace SQ
open PySem L2

theorem lim_lt : lim < sizeLine := by rw [sizeLine_eq]; decide
theorem lim_le : lim ≤ sizeLine := Nat.le_of_lt lim_lt

/-! ### a datum at a value -/
def keyV : Key → D
  | .inl i => .int i
  | .inr s => .str s

mutual
inductive DS (O : List Addr) (H : Hp) : V → D → Prop
  | non : DS O H .non .none
  | bl (b : Bool) : DS O H (.bl b) (.bool b)
  | int (i : Int) : DS O H (.int i) (.int i)
  | str (x : Str) : x.cps.size ≤ lim → DS O H (.str x) (.str x)
  | lst {a : Addr} {xs : List V} {ds : List D} : Rd H a (.lst xs) → a ∉ O → DSs O H xs ds → ds.length ≤ lim → DS O H (.ref a) (.list ds)
  | tup {a : Addr} {xs : List V} {ds : List D} : H a = some (.tup xs) → a ∉ O → DSs O H xs ds → ds.length ≤ lim → DS O H (.ref a) (.tuple ds)
  | dk {a : Addr} {kvs : List (Key × V)} {es : List (D × D)} : H a = some (.dK kvs) → a ∉ O → DKs O H kvs es → es.length ≤ lim → DS O H (.ref a) (.dict es)
  | dt {a : Addr} {kvs : List (List Key × V)} {es : List (D × D)} : H a = some (.dT kvs) → a ∉ O → DTs O H kvs es → es.length ≤ lim → DS O H (.ref a) (.dict ((.none, .none) :: es))
inductive DSs (O : List Addr) (H : Hp) : List V → List D → Prop
  | nil : DSs O H [] []
  | cons {v : V} {vs : List V} {d : D} {ds : List D} : DS O H v d → DSs O H vs ds → DSs O H (v :: vs) (d :: ds)
inductive DKs (O : List Addr) (H : Hp) : List (Key × V) → List (D × D) → Prop
  | nil : DKs O H [] []
  | cons {k : Key} {v : V} {vs : List (Key × V)} {d : D} {ds : List (D × D)} : DS O H v d → DKs O H vs ds → DKs O H ((k, v) :: vs) ((keyV k, d) :: ds)
inductive DTs (O : List Addr) (H : Hp) : List (List Key × V) → List (D × D) → Prop
  | nil : DTs O H [] []
  | cons {k : List Key} {v : V} {vs : List (List Key × V)} {d : D} {ds : List (D × D)} : DS O H v d → DTs O H vs ds → DTs O H ((k, v) :: vs) ((.tuple (k.map keyV), d) :: ds)
end

section
variable {O O' : List Addr} {H H' : Hp} {v : V} {d : D}
theorem rd_step {a : Addr} {u : HO} (hk : ∀ b o, H b = some o → b ∉ O → H' b = some o ∧ b ∉ O') (h : Rd H a u) (n : a ∉ O) : Rd H' a u ∧ a ∉ O' := by
  rcases h with h | ⟨o, h⟩
  · exact ⟨.inl (hk _ _ h n).1, (hk _ _ h n).2⟩
  · exact ⟨.inr ⟨o, (hk _ _ h n).1⟩, (hk _ _ h n).2⟩
mutual
/-- the objects of O may change, new ones may come, of which some are held too -/
theorem DS.step (hk : ∀ b o, H b = some o → b ∉ O → H' b = some o ∧ b ∉ O') : ∀ {v : V} {d : D}, DS O H v d → DS O' H' v d
  | _, _, .non => .non
  | _, _, .bl b => .bl b
  | _, _, .int i => .int i
  | _, _, .str x h => .str x h
  | _, _, .lst h n t l => .lst (rd_step hk h n).1 (rd_step hk h n).2 (DSs.step hk t) l
  | _, _, .tup h n t l => .tup (hk _ _ h n).1 (hk _ _ h n).2 (DSs.step hk t) l
  | _, _, .dk h n t l => .dk (hk _ _ h n).1 (hk _ _ h n).2 (DKs.step hk t) l
  | _, _, .dt h n t l => .dt (hk _ _ h n).1 (hk _ _ h n).2 (DTs.step hk t) l
theorem DSs.step (hk : ∀ b o, H b = some o → b ∉ O → H' b = some o ∧ b ∉ O') : ∀ {v : List V} {d : List D}, DSs O H v d → DSs O' H' v d
  | _, _, .nil => .nil
  | _, _, .cons h t => .cons (DS.step hk h) (DSs.step hk t)
theorem DKs.step (hk : ∀ b o, H b = some o → b ∉ O → H' b = some o ∧ b ∉ O') : ∀ {v : List (Key × V)} {d : List (D × D)}, DKs O H v d → DKs O' H' v d
  | _, _, .nil => .nil
  | _, _, .cons h t => .cons (DS.step hk h) (DKs.step hk t)
theorem DTs.step (hk : ∀ b o, H b = some o → b ∉ O → H' b = some o ∧ b ∉ O') : ∀ {v : List (List Key × V)} {d : List (D × D)}, DTs O H v d → DTs O' H' v d
  | _, _, .nil => .nil
  | _, _, .cons h t => .cons (DS.step hk h) (DTs.step hk t)
end
theorem DS.same (s : Same H H') {v : V} {d : D} (h : DS O H v d) : DS O H' v d := h.step fun b o e n => ⟨s b o e, n⟩
theorem DSs.same (s : Same H H') {v : List V} {d : List D} (h : DSs O H v d) : DSs O H' v d := h.step fun b o e n => ⟨s b o e, n⟩
theorem DKs.same (s : Same H H') {v : List (Key × V)} {d : List (D × D)} (h : DKs O H v d) : DKs O H' v d := h.step fun b o e n => ⟨s b o e, n⟩
theorem DTs.same (s : Same H H') {v : List (List Key × V)} {d : List (D × D)} (h : DTs O H v d) : DTs O H' v d := h.step fun b o e n => ⟨s b o e, n⟩
theorem DS.sub (hs : ∀ b ∈ O', b ∈ O) {v : V} {d : D} (h : DS O H v d) : DS O' H v d := h.step fun b o e n => ⟨e, fun z => n (hs b z)⟩
theorem DSs.sub (hs : ∀ b ∈ O', b ∈ O) {v : List V} {d : List D} (h : DSs O H v d) : DSs O' H v d := h.step fun b o e n => ⟨e, fun z => n (hs b z)⟩

theorem DSs.length : ∀ {vs : List V} {ds : List D}, DSs O H vs ds → vs.length = ds.length
  | _, _, .nil => rfl
  | _, _, .cons _ t => by simp [DSs.length t]
theorem DSs.append : ∀ {vs ws : List V} {ds es : List D}, DSs O H vs ds → DSs O H ws es → DSs O H (vs ++ ws) (ds ++ es)
  | _, _, _, _, .nil, h => h
  | _, _, _, _, .cons a t, h => .cons a (DSs.append t h)
theorem DSs.get : ∀ {vs : List V} {ds : List D} {i : Nat} {d : D}, DSs O H vs ds → ds[i]? = some d → ∃ v, vs[i]? = some v ∧ DS O H v d
  | _, _, _, _, .nil, e => by simp at e
  | _, _, 0, _, .cons h _, e => by simp at e; subst e; exact ⟨_, rfl, h⟩
  | _, _, i + 1, d, .cons _ t, e => by
    obtain ⟨v, h1, h2⟩ := DSs.get (i := i) (d := d) t (by simpa using e)
    exact ⟨v, by simpa using h1, h2⟩
theorem DSs.getV : ∀ {vs : List V} {ds : List D} {i : Nat} {v : V}, DSs O H vs ds → vs[i]? = some v → ∃ d, ds[i]? = some d ∧ DS O H v d
  | _, _, _, _, .nil, e => by simp at e
  | _, _, 0, _, .cons h _, e => by simp at e; subst e; exact ⟨_, rfl, h⟩
  | _, _, i + 1, v, .cons _ t, e => by
    obtain ⟨d, h1, h2⟩ := DSs.getV (i := i) (v := v) t (by simpa using e)
    exact ⟨d, by simpa using h1, h2⟩
theorem DSs.set : ∀ {vs : List V} {ds : List D} (i : Nat) {v : V} {d : D}, DSs O H vs ds → DS O H v d → DSs O H (vs.set i v) (ds.set i d)
  | _, _, _, _, _, .nil, _ => .nil
  | _, _, 0, _, _, .cons _ t, h => .cons h t
  | _, _, i + 1, _, _, .cons a t, h => .cons a (DSs.set i t h)
theorem DSs.take : ∀ (n : Nat) {vs : List V} {ds : List D}, DSs O H vs ds → DSs O H (vs.take n) (ds.take n)
  | 0, _, _, _ => .nil
  | _ + 1, _, _, .nil => .nil
  | n + 1, _, _, .cons a t => .cons a (DSs.take n t)
theorem DSs.drop : ∀ (n : Nat) {vs : List V} {ds : List D}, DSs O H vs ds → DSs O H (vs.drop n) (ds.drop n)
  | 0, _, _, h => h
  | _ + 1, _, _, .nil => .nil
  | n + 1, _, _, .cons _ t => DSs.drop n t
theorem DSs.reverse : ∀ {vs : List V} {ds : List D}, DSs O H vs ds → DSs O H vs.reverse ds.reverse
  | _, _, .nil => .nil
  | _, _, .cons a t => by
    rw [List.reverse_cons, List.reverse_cons]
    exact (DSs.reverse t).append (.cons a .nil)
theorem DSs.dropLast : ∀ {vs : List V} {ds : List D}, DSs O H vs ds → DSs O H vs.dropLast ds.dropLast
  | _, _, .nil => .nil
  | _, _, .cons _ .nil => .nil
  | _, _, .cons a (.cons b t) => .cons a (DSs.dropLast (.cons b t))
theorem DSs.rep {vs : List V} {ds : List D} (h : DSs O H vs ds) : ∀ n : Nat, DSs O H (List.replicate n vs).flatten (List.replicate n ds).flatten
  | 0 => .nil
  | n + 1 => by
    rw [List.replicate_succ, List.replicate_succ, List.flatten_cons, List.flatten_cons]
    exact h.append (DSs.rep h n)
theorem DSs.of {vs : List V} {ds : List D} (hl : vs.length = ds.length) (h : ∀ (i : Nat) (v : V) (d : D), vs[i]? = some v → ds[i]? = some d → DS O H v d) : DSs O H vs ds := by
  induction vs generalizing ds with
  | nil => cases ds with
    | nil => exact .nil
    | cons => cases hl
  | cons v vs ih => cases ds with
    | nil => cases hl
    | cons d ds => exact .cons (h 0 v d rfl rfl) (ih (by simpa using hl) fun i v d h1 h2 => h (i + 1) v d (by simpa using h1) (by simpa using h2))

theorem same_new {p : Addr} {o : HO} (hp : H p = none) : Same H (upd H p o) := fun b u e => by rw [upd_ne (ne_of_none e hp)]; exact e
/-- the defs' tables of code objects -/
class TabsC where
  l : List Addr
section
variable [TabsC]
/-- objects O are there; so are the tables -/
structure There (O : List Addr) (H : Hp) : Prop where
  at_ : ∀ p ∈ O, H p ≠ none
  tab : ∀ P ∈ TabsC.l, H P = some (tabF P)
theorem There.nin (t : There O H) {p : Addr} (hp : H p = none) : p ∉ O := fun z => t.at_ p z hp
theorem There.same (s : Same H H') (t : There O H) : There O H' := ⟨fun p hp => by
  cases e : H p with
  | none => exact absurd e (t.at_ p hp)
  | some o => rw [s p o e]; simp, fun P hP => s P _ (t.tab P hP)⟩
/-- a new list, a new tuple -/
theorem DS.newL {p : Addr} {vs : List V} {ds : List D} (t : There O H) (hp : H p = none) (h : DSs O H vs ds) (hl : ds.length ≤ lim) : DS O (upd H p (.lst vs)) (.ref p) (.list ds) :=
  .lst (.inl upd_same) (t.nin hp) (h.same (same_new hp)) hl
theorem DS.newT {p : Addr} {vs : List V} {ds : List D} (t : There O H) (hp : H p = none) (h : DSs O H vs ds) (hl : ds.length ≤ lim) : DS O (upd H p (.tup vs)) (.ref p) (.tuple ds) :=
  .tup upd_same (t.nin hp) (h.same (same_new hp)) hl

end

/-! what a value with a datum looks like -/
theorem DS.i_none (h : DS O H v .none) : v = .non := by cases h; rfl
theorem DS.i_bool {b : Bool} (h : DS O H v (.bool b)) : v = .bl b := by cases h; rfl
theorem DS.i_int {i : Int} (h : DS O H v (.int i)) : v = .int i := by cases h; rfl
theorem DS.i_str {s : Str} (h : DS O H v (.str s)) : v = .str s ∧ s.cps.size ≤ lim := by cases h with | str _ h => exact ⟨rfl, h⟩
theorem DS.i_list {ds : List D} (h : DS O H v (.list ds)) : ∃ a xs, v = .ref a ∧ Rd H a (.lst xs) ∧ a ∉ O ∧ DSs O H xs ds ∧ ds.length ≤ lim ∧ xs.length = ds.length := by
  cases h with | lst h1 h2 h3 h4 => exact ⟨_, _, rfl, h1, h2, h3, h4, h3.length⟩
theorem DS.i_tuple {ds : List D} (h : DS O H v (.tuple ds)) : ∃ a xs, v = .ref a ∧ H a = some (.tup xs) ∧ a ∉ O ∧ DSs O H xs ds ∧ ds.length ≤ lim ∧ xs.length = ds.length := by
  cases h with | tup h1 h2 h3 h4 => exact ⟨_, _, rfl, h1, h2, h3, h4, h3.length⟩
/-- a list or tuple that is read -/
theorem DSs.ints : ∀ {vs : List V} {is : List Int}, DSs O H vs (is.map .int) → vs = is.map V.int
  | _, [], h => by cases h; rfl
  | _, i :: is, h => by
    cases h with
    | cons h t => rw [h.i_int, DSs.ints t]; rfl
end

/-- a value's datum, its items and entries apart from O, itself not -/
inductive CS (O : List Addr) (H : Hp) : V → D → Prop
  | ds {v : V} {d : D} : DS O H v d → CS O H v d
  | lst {a : Addr} {xs : List V} {ds : List D} : Rd H a (.lst xs) → DSs O H xs ds → ds.length ≤ lim → CS O H (.ref a) (.list ds)
  | dk {a : Addr} {kvs : List (Key × V)} {es : List (D × D)} : H a = some (.dK kvs) → DKs O H kvs es → es.length ≤ lim → CS O H (.ref a) (.dict es)
  | dt {a : Addr} {kvs : List (List Key × V)} {es : List (D × D)} : H a = some (.dT kvs) → DTs O H kvs es → es.length ≤ lim → CS O H (.ref a) (.dict ((.none, .none) :: es))
section
variable {O O' : List Addr} {H H' : Hp} {v : V} {d : D}
theorem CS.same (s : Same H H') (h : CS O H v d) : CS O H' v d := by
  cases h with
  | ds h => exact .ds (h.same s)
  | lst h t l => exact .lst (by
      rcases h with h | ⟨o, h⟩
      · exact .inl (s _ _ h)
      · exact .inr ⟨o, s _ _ h⟩) (t.same s) l
  | dk h t l => exact .dk (s _ _ h) (t.same s) l
  | dt h t l => exact .dt (s _ _ h) (t.same s) l
theorem CS.i_none (h : CS O H v .none) : v = .non := by cases h with | ds h => exact h.i_none
theorem CS.i_bool {b : Bool} (h : CS O H v (.bool b)) : v = .bl b := by cases h with | ds h => exact h.i_bool
theorem CS.i_int {i : Int} (h : CS O H v (.int i)) : v = .int i := by cases h with | ds h => exact h.i_int
theorem CS.i_str {s : Str} (h : CS O H v (.str s)) : v = .str s ∧ s.cps.size ≤ lim := by cases h with | ds h => exact h.i_str
theorem CS.i_list {ds : List D} (h : CS O H v (.list ds)) : ∃ a xs, v = .ref a ∧ Rd H a (.lst xs) ∧ DSs O H xs ds ∧ ds.length ≤ lim ∧ xs.length = ds.length := by
  cases h with
  | ds h =>
    obtain ⟨a, xs, e, h1, h2, h3, h4, h5⟩ := h.i_list
    exact ⟨a, xs, e, h1, h3, h4, h5⟩
  | lst h t l => exact ⟨_, _, rfl, h, t, l, t.length⟩
theorem CS.i_tuple {ds : List D} (h : CS O H v (.tuple ds)) : ∃ a xs, v = .ref a ∧ H a = some (.tup xs) ∧ a ∉ O ∧ DSs O H xs ds ∧ ds.length ≤ lim ∧ xs.length = ds.length := by
  cases h with
  | ds h => exact h.i_tuple
theorem CS.i_dict {es : List (D × D)} (h : CS O H v (.dict es)) : (∃ a kvs, v = .ref a ∧ H a = some (.dK kvs) ∧ DKs O H kvs es ∧ es.length ≤ lim) ∨ ∃ a kvs es', v = .ref a ∧ H a = some (.dT kvs) ∧ DTs O H kvs es' ∧ es'.length ≤ lim ∧ es = (.none, .none) :: es' := by
  cases h with
  | ds h => cases h with
    | dk h1 h2 h3 h4 => exact .inl ⟨_, _, rfl, h1, h3, h4⟩
    | dt h1 h2 h3 h4 => exact .inr ⟨_, _, _, rfl, h1, h3, h4, rfl⟩
  | dk h t l => exact .inl ⟨_, _, rfl, h, t, l⟩
  | dt h t l => exact .inr ⟨_, _, _, rfl, h, t, l, rfl⟩
end

/-! ### what the library reads -/
section
variable {X : Cx} {pins : List (Addr × Obj)} {σ : L2.St} {H : Hp} {s : Shared} {O : List Addr}
theorem fl_plain {d : D} (h : fl d = true) : d.plain = true := by
  unfold fl at h; exact (Bool.and_eq_true_iff.mp h).1
theorem fl_depth {d : D} (h : fl d = true) : d.depth ≤ 60 := by
  unfold fl at h; exact of_decide_eq_true (Bool.and_eq_true_iff.mp h).2
theorem rd_sql {K : PySem.W.Frag} {a : Addr} {xs : List V} (h : Rd H a (.lst xs)) : SqL K H a xs := .inl h
theorem t_sqt {K : PySem.W.Frag} {a : Addr} {xs : List V} (h : H a = some (.tup xs)) : SqT K H a xs := .inl (.inl h)
mutual
theorem DS.reads (I : Inv X pins σ H s) : ∀ (d : D) (v : V) (u : Value), DS O H v d → RelV v u → d.plain = true → ∃ as, Reads s.heap u d as
  | .none, _, _, h, r, _ => by
    cases h
    cases r
    exact ⟨_, Reads.none⟩
  | .bool b, _, _, h, r, _ => by
    cases h
    cases r
    exact ⟨_, Reads.bool b⟩
  | .int i, _, _, h, r, _ => by
    cases h
    obtain ⟨t, rfl⟩ := r
    exact ⟨_, Reads.int i t⟩
  | .str x, _, _, h, r, _ => by
    cases h
    obtain ⟨t, rfl⟩ := r
    exact ⟨_, Reads.str x t⟩
  | .list ds, _, _, h, r, p => by
    cases h with
    | lst hs _ ha _ =>
      cases r
      obtain ⟨its, rv, ⟨o, n, ho, hc, _, hd⟩, _⟩ := I.list (rd_sql hs)
      obtain ⟨as, hr⟩ := DS.readsAll I ds _ its ha rv (by simpa [PyData.plain] using p)
      exact ⟨_, Reads.list ho hc hd hr⟩
  | .tuple ds, _, _, h, r, p => by
    cases h with
    | tup hs _ ha _ =>
      cases r
      obtain ⟨its, rv, ⟨o, ho, hc, n, hd⟩, _⟩ := I.tuple (t_sqt hs)
      obtain ⟨as, hr⟩ := DS.readsAll I ds _ its ha rv (by simpa [PyData.plain] using p)
      exact ⟨_, Reads.tuple ho hc hd hr⟩
  | .dict _, _, _, h, _, p => by simp [PyData.plain] at p
theorem DS.readsAll (I : Inv X pins σ H s) : ∀ (ds : List D) (vs : List V) (us : List Value), DSs O H vs ds → Vals vs us → PyData.plainAll ds = true → ∃ as, ReadsAll s.heap us ds as
  | [], _, _, h, r, _ => by
    cases h
    cases r
    exact ⟨_, ReadsAll.nil⟩
  | d :: ds, _, _, h, r, p => by
    have p' : d.plain = true ∧ PyData.plainAll ds = true := by simpa [PyData.plainAll] using p
    cases h with
    | cons h1 h2 =>
      cases r with
      | cons r1 r2 =>
        obtain ⟨as, q1⟩ := DS.reads I d _ _ h1 r1 p'.1
        obtain ⟨bs, q2⟩ := DS.readsAll I ds _ _ h2 r2 p'.2
        exact ⟨_, ReadsAll.cons q1 q2⟩
end
theorem CS.reads (I : Inv X pins σ H s) {d : D} {v : V} {u : Value} (h : CS O H v d) (r : RelV v u) (p : d.plain = true) : ∃ as, Reads s.heap u d as := by
  cases h with
  | ds h => exact DS.reads I d v u h r p
  | lst hs ha _ =>
    cases r
    obtain ⟨its, rv, ⟨o, n, ho, hc, _, hd⟩, _⟩ := I.list (rd_sql hs)
    obtain ⟨as, hr⟩ := DS.readsAll I _ _ its ha rv (by simpa [PyData.plain] using p)
    exact ⟨_, Reads.list ho hc hd hr⟩
  | dk => simp [PyData.plain] at p
  | dt => simp [PyData.plain] at p
end
end SQ

/-! SqOps: the operations on values, by data. -/
set_option maxHeartbeats 1000000
namespace SQ
open PySem PySem.Spec PyProof.Rows L2
variable [TabsC]

/-- a two-place operation by data: g says the answer -/
def rD2 (g : D → D → Res D) : R2 := fun x y H Q => ∃ O dx dy d, There O H ∧ CS O H x dx ∧ CS O H y dy ∧ g dx dy = .ok d ∧ ∀ v H', Same H H' → DS O H' v d → Q v H'
def rD1 (g : D → Res D) : V → Hp → VK → Prop := fun x H Q => ∃ O dx d, There O H ∧ CS O H x dx ∧ g dx = .ok d ∧ ∀ v H', Same H H' → DS O H' v d → Q v H'

section
variable {X : Cx}
theorem rd_lst {pins : List (Addr × Obj)} {σ : L2.St} {H : Hp} {s : Shared} {a : Addr} {xs : List V} (I : Inv X pins σ H s) (h : Rd H a (.lst xs)) :
    xs.length ≤ sizeLine ∧ ∃ (its : List Value) (n : Nat), Vals xs its ∧ xs.length = its.length ∧ s.heap.get? a = some { cls := .type "list", data := .seq its.toArray n } := by
  obtain ⟨z, its, n, r, e⟩ := h.ok I.hok
  exact ⟨z, its, n, r, r.length, e⟩

/-! ### + -/
theorem s_cat {pins : List (Addr × Obj)} {σ : L2.St} {H : Hp} {s : Shared} {l b : Addr} {xs zs : List V} {Q : VK} {E : Value → Shared → Prop} (I : Inv X pins σ H s) (hH : Rd H l (.lst xs)) (hB : Rd H b (.lst zs)) (hz : xs.length + zs.length ≤ sizeLine)
    (q : ∀ p, H p = none → Q (.ref p) (upd H p (.lst (xs ++ zs)))) : wpAny (model X.prog X.w) X.A (binaryOp .Add (.ref l) (.ref b)) (EP X pins σ Q) E s := by
  obtain ⟨z, its, n, r, hl, e⟩ := rd_lst I hH
  obtain ⟨z2, its2, n2, r2, hl2, e2⟩ := rd_lst I hB
  refine PySem.P.add_list e e2 ?_ (by rw [List.size_toArray, List.size_toArray]; omega)
  have ea : its.toArray ++ its2.toArray = (its ++ its2).toArray := by simp
  rw [ea]
  exact ⟨.ref _, _, I.lnew (t' := s.toks) (r.append r2) (by rw [List.length_append]; omega), rfl, q _ I.fresh⟩

theorem s_add : OpR X (binaryOp .Add) (rD2 (opD .add)) := by
  intro pins s σ H x y v u Q I rx ry h
  obtain ⟨O, dx, dy, d, th, hx, hy, e, q⟩ := h
  have hlim := lim_le
  match dx, dy, e with
  | .int a, .int b, e =>
    cases hx.i_int; cases hy.i_int
    cases e
    exact op_add pins s σ H _ _ v u Q I rx ry ⟨a, b, rfl, rfl, q _ _ (Same.refl _) (.int _)⟩
  | .str a, .str b, e =>
    obtain ⟨rfl, ha⟩ := hx.i_str
    obtain ⟨rfl, hb⟩ := hy.i_str
    have e' : (if a.cps.size + b.cps.size ≤ lim then Res.ok (PyData.str ⟨a.cps ++ b.cps⟩) else .bad) = .ok d := e
    split at e'
    · rename_i hz
      cases e'
      exact op_add_str pins s σ H _ _ v u Q I rx ry ⟨a, b, rfl, rfl, Nat.le_trans hz hlim, q _ _ (Same.refl _) (.str _ (by
        show (a.cps ++ b.cps).size ≤ lim
        rw [Array.size_append]; exact hz))⟩
    · cases e'
  | .list a, .list b, e =>
    obtain ⟨p, xs, rfl, h1, h3, h4, h5⟩ := hx.i_list
    obtain ⟨p', xs', rfl, h1', h3', h4', h5'⟩ := hy.i_list
    have e' : (if a.length + b.length ≤ lim then Res.ok (PyData.list (a ++ b)) else .bad) = .ok d := e
    split at e'
    · rename_i hz
      cases e'
      cases rx; cases ry
      exact s_cat I h1 h1' (by omega) fun p hp => q _ _ (same_new hp) (.newL th hp (h3.append h3') (by rw [List.length_append]; exact hz))
    · cases e'
  | .tuple a, .tuple b, e =>
    obtain ⟨p, xs, rfl, h1, h2, h3, h4, h5⟩ := hx.i_tuple
    obtain ⟨p', xs', rfl, h1', h2', h3', h4', h5'⟩ := hy.i_tuple
    have e' : (if a.length + b.length ≤ lim then Res.ok (PyData.tuple (a ++ b)) else .bad) = .ok d := e
    split at e'
    · rename_i hz
      cases e'
      refine op_catA pins s σ H _ _ v u Q I rx ry ⟨p, p', xs, xs', rfl, rfl, t_sqt h1, t_sqt h1', by omega, fun z => ?_, fun _ z => ?_, fun _ _ p hp => q _ _ (same_new hp) (.newT th hp (h3.append h3') (by rw [List.length_append]; exact hz))⟩
      · subst z
        have : a = [] := List.eq_nil_of_length_eq_zero h5.symm
        subst this
        rw [List.nil_append] at q
        exact q _ _ (Same.refl _) (.tup h1' h2' h3' h4')
      · subst z
        have : b = [] := List.eq_nil_of_length_eq_zero h5'.symm
        subst this
        rw [List.append_nil] at q
        exact q _ _ (Same.refl _) (.tup h1 h2 h3 h4)
    · cases e'

theorem s_sub : OpR X (binaryOp .Sub) (rD2 (opD .sub)) := by
  intro pins s σ H x y v u Q I rx ry h
  obtain ⟨O, dx, dy, d, th, hx, hy, e, q⟩ := h
  match dx, dy, e with
  | .int a, .int b, e =>
    cases hx.i_int; cases hy.i_int
    cases e
    exact op_sub pins s σ H _ _ v u Q I rx ry ⟨a, b, rfl, rfl, q _ _ (Same.refl _) (.int _)⟩
theorem s_mod : OpR X (binaryOp .Mod) (rD2 (opD .mod)) := by
  intro pins s σ H x y v u Q I rx ry h
  obtain ⟨O, dx, dy, d, th, hx, hy, e, q⟩ := h
  match dx, dy, e with
  | .int a, .int b, e =>
    cases hx.i_int; cases hy.i_int
    have e' : (if b ≠ 0 then Res.ok (PyData.int (a.fmod b)) else .bad) = .ok d := e
    split at e'
    · rename_i hz
      cases e'
      exact op_modN pins s σ H _ _ v u Q I rx ry ⟨a, b, rfl, rfl, hz, q _ _ (Same.refl _) (.int _)⟩
    · cases e'
theorem s_fdiv : OpR X (binaryOp .FloorDiv) (rD2 (opD .fdiv)) := by
  intro pins s σ H x y v u Q I rx ry h
  obtain ⟨O, dx, dy, d, th, hx, hy, e, q⟩ := h
  match dx, dy, e with
  | .int a, .int b, e =>
    cases hx.i_int; cases hy.i_int
    have e' : (if b ≠ 0 ∧ b.natAbs < 1073741824 then Res.ok (PyData.int (a.fdiv b)) else .bad) = .ok d := e
    split at e'
    · rename_i hz
      cases e'
      exact op_fdivN pins s σ H _ _ v u Q I rx ry ⟨a, b, rfl, rfl, hz, q _ _ (Same.refl _) (.int _)⟩
    · cases e'
theorem s_pow : OpR X (binaryOp .Pow) (rD2 (opD .pow)) := by
  intro pins s σ H x y v u Q I rx ry h
  obtain ⟨O, dx, dy, d, th, hx, hy, e, q⟩ := h
  match dx, dy, e with
  | .int a, .int b, e =>
    cases hx.i_int; cases hy.i_int
    have e' : (if 0 ≤ b ∧ b ≤ 1000000 ∧ a.natAbs < 2 ^ 64 then Res.ok (PyData.int (a ^ b.toNat)) else .bad) = .ok d := e
    split at e'
    · rename_i hz
      cases e'
      exact op_pow pins s σ H _ _ v u Q I rx ry ⟨a, b, rfl, rfl, hz, q _ _ (Same.refl _) (.int _)⟩
    · cases e'

/-! ### * -/
theorem s_rep {pins : List (Addr × Obj)} {σ : L2.St} {H : Hp} {s : Shared} {l : Addr} {xs : List V} {k : Int} {t : Tok} {Q : VK} {E : Value → Shared → Prop} (I : Inv X pins σ H s) (hH : Rd H l (.lst xs)) (h1 : -(2 ^ 63) ≤ k) (h2 : k < 2 ^ 63) (hz : xs.length * k.toNat ≤ sizeLine)
    (q : ∀ p, H p = none → Q (.ref p) (upd H p (.lst (List.replicate k.toNat xs).flatten))) : wpAny (model X.prog X.w) X.A (binaryOp .Mult (.ref l) (.int k t)) (EP X pins σ Q) E s := by
  obtain ⟨z, its, n, r, hl, e⟩ := rd_lst I hH
  have hlen : its.toArray.size * k.toNat ≤ sizeLine := by rw [List.size_toArray, ← hl]; exact hz
  have hcap : ¬ its.toArray.size * k.toNat > (2 ^ 63 - 1) / 8 := by
    have : (sizeLine : Nat) ≤ (2 ^ 63 - 1) / 8 := by decide
    omega
  have hfit : ¬ (!Builtin.List.listFitsIndex k) = true := by
    rw [fitsIndex_both h1 h2]
    exact Bool.false_ne_true
  have hlong : ¬ Builtin.List.listTooLong (its.toArray.size * k.toNat) = true := by
    rw [notLongL hlen]
    exact Bool.false_ne_true
  have hnew : List.foldl (fun x1 x2 => x1 ++ x2) #[] (List.replicate (if its.toArray.isEmpty = true then 0 else k.toNat) its.toArray) = (List.replicate k.toNat its).flatten.toArray := by
    have f0 : ∀ m : Nat, List.foldl (fun x1 x2 => x1 ++ x2) #[] (List.replicate m its.toArray) = (List.replicate m its).flatten.toArray := fun m => by
      have := foldl_rep its m []
      rw [List.nil_append] at this
      exact this
    rw [f0]
    cases its with
    | nil => simp
    | cons a r' => rw [if_neg (by simp)]
  refine wpAny_binaryOp_repeat_ref (T := "list") (U := "int") (by decide) ⟨_, e, rfl⟩ (fun s' => typeIs_int s' k t) noFill_list_mul F.fills_int_mul F.slot_int_rmul repeat_list F.slot_int_index.lookup
    (call_meets F.slot_int_rmul (typeIs_int s k t) F.entry_int_rmul (F.args_int_rmul_2 _ _) (int___rmul___int_list k t l its.toArray n)
      ⟨e, rfl, ⟨_, e, rfl⟩, call_meets F.slot_list_mul ⟨_, e, rfl⟩ F.entry_list_mul (F.args_list_mul_2 _ _) (AutoListH.list___mul___list_int_3 l its.toArray n k t hfit hcap hlong) ⟨e, ?_⟩⟩)
  rw [hnew]
  exact ⟨.ref _, _, I.lnew (t' := s.toks) (r.rep k.toNat) (by rw [PyProof.Rows.lm_len_rep_flat, Nat.mul_comm]; exact hz), rfl, q _ I.fresh⟩
/-- t * 1 is t -/
theorem tuple_mul1 (l : Addr) (items : Array Value) (n : Nat) (dd : Option Addr) (sl : Array (Option Value)) (u : Tok) :
    Meets (Builtin.«tuple.__mul__» ⟨[.ref l, .int 1 u], []⟩) (fun _ R s => s.heap.get? l = some { cls := .type "tuple", dict := dd, data := .seq items n, slots := sl } ∧ R (.ok (.ret (Value.ref l))) s) :=
  .of_wp fun prog w A R s h => by
    obtain ⟨hp, g, d, tk, os⟩ := s
    obtain ⟨hl, h⟩ := h
    have f1 := AutoSeq1.idx_int
    have c0 : (decide ((1 : Int) < -(2 ^ 63)) || decide ((1 : Int) ≥ 2 ^ 63)) = false := by decide
    have c1 : (items.isEmpty || (1 : Int) == 1) = true := by simp
    wp_walk using wpAny_loadPart' hl
    repeat (first
      | (refine wpAny_ite_false (decide_eq_false (by rw [c0]; exact Bool.false_ne_true)) ?_; wp_walk using wpAny_loadPart' hl)
      | (refine wpAny_ite_true (decide_eq_true c1) ?_; wp_walk using wpAny_loadPart' hl))
    exact ⟨_, rfl, h⟩
theorem s_rep1 {pins : List (Addr × Obj)} {σ : L2.St} {H : Hp} {s : Shared} {l : Addr} {xs : List V} {t : Tok} {Q : VK} {E : Value → Shared → Prop} (I : Inv X pins σ H s) (hT : H l = some (.tup xs)) (q : Q (.ref l) H) :
    wpAny (model X.prog X.w) X.A (binaryOp .Mult (.ref l) (.int 1 t)) (EP X pins σ Q) E s := by
  obtain ⟨its, r, ⟨⟨cls, dd, data, sl⟩, ho, hc, n, hd⟩, hs⟩ := I.tuple (t_sqt hT)
  simp only at hc hd
  subst hc hd
  exact wpAny_binaryOp_repeat_ref (T := "tuple") (U := "int") (by decide) ⟨_, ho, rfl⟩ (fun s' => typeIs_int s' 1 t) noFill_tuple_mul F.fills_int_mul F.slot_int_rmul repeat_tuple F.slot_int_index.lookup
    (call_meets F.slot_int_rmul (typeIs_int s 1 t) F.entry_int_rmul (F.args_int_rmul_2 _ _) (int_rmul_tuple 1 t l its.toArray n dd sl)
      ⟨ho, rfl, ⟨_, ho, rfl⟩, call_meets F.slot_tuple_mul ⟨_, ho, rfl⟩ F.entry_tuple_mul (F.args_tuple_mul_2 _ _) (tuple_mul1 l its.toArray n dd sl t) ⟨ho, ⟨.ref l, H, I, rfl, q⟩⟩⟩)

theorem s_mul : OpR X (binaryOp .Mult) (rD2 (opD .mul)) := by
  intro pins s σ H x y v u Q I rx ry h
  obtain ⟨O, dx, dy, d, th, hx, hy, e, q⟩ := h
  have hlim := lim_le
  match dx, dy, e with
  | .int a, .int b, e =>
    cases hx.i_int; cases hy.i_int
    have e' : (if (small64 a || small64 b) = true then Res.ok (PyData.int (a * b)) else .bad) = .ok d := e
    split at e'
    · rename_i hz
      cases e'
      refine op_mul pins s σ H _ _ v u Q I rx ry ⟨a, b, rfl, rfl, ?_, q _ _ (Same.refl _) (.int _)⟩
      rw [Bool.or_eq_true] at hz
      rcases hz with hz | hz
      · exact .inl (of_decide_eq_true hz)
      · exact .inr (of_decide_eq_true hz)
    · cases e'
  | .list a, .int k, e =>
    obtain ⟨p, xs, rfl, h1, h3, h4, h5⟩ := hx.i_list
    cases hy.i_int
    have e' : (if a.length * k.toNat ≤ lim ∧ k < 2 ^ 62 ∧ -(2 ^ 62) < k then Res.ok (PyData.list (List.replicate k.toNat a).flatten) else .bad) = .ok d := e
    split at e'
    · rename_i hz
      cases e'
      cases rx
      obtain ⟨t, rfl⟩ := ry
      refine s_rep I h1 (by omega) (by omega) (by rw [h5]; omega) fun p hp => q _ _ (same_new hp) (.newL th hp (h3.rep _) ?_)
      rw [PyProof.Rows.lm_len_rep_flat, Nat.mul_comm]
      exact hz.1
    · cases e'
  | .str a, .int k, e =>
    obtain ⟨rfl, ha⟩ := hx.i_str
    cases hy.i_int
    have e' : (if a.cps.size * k.toNat ≤ lim ∧ k < 2 ^ 62 ∧ -(2 ^ 62) < k then Res.ok (SQ.T (List.replicate k.toNat a.cps.toList).flatten) else .bad) = .ok d := e
    split at e'
    · rename_i hz
      cases e'
      obtain ⟨t, rfl⟩ := rx
      obtain ⟨t', rfl⟩ := ry
      have l1 : lim = 1000000 := rfl
      have hln : a.length = a.cps.size := rfl
      have fin : ∀ (z : Str) (c : Nat), z.cps.toList = (List.replicate k.toNat a.cps.toList).flatten → EP X pins σ Q (.str z c) { s with toks := s.toks + 1 } := fun z c hz2 => by
        refine ⟨.str z, H, I.tok _, ⟨_, rfl⟩, q _ _ (Same.refl _) ?_⟩
        have ez : z = ⟨(List.replicate k.toNat a.cps.toList).flatten.toArray⟩ := by rw [← hz2, Array.toArray_toList]
        rw [ez]
        refine .str _ ?_
        rw [List.size_toArray, PyProof.Rows.lm_len_rep_flat, Array.length_toList, Nat.mul_comm]
        exact hz.1
      have folds : ∀ (m : Nat) (acc : Array Nat), ((List.replicate m a.cps).foldl (· ++ ·) acc).toList = acc.toList ++ (List.replicate m a.cps.toList).flatten := fun m => by
        induction m with
        | zero => intro acc; simp
        | succ m ih => intro acc; rw [List.replicate_succ, List.foldl_cons, ih, List.replicate_succ, List.flatten_cons, Array.toList_append, List.append_assoc]
      refine PySem.P.mul_str (by rw [decide_eq_false (show ¬ k < -(2 ^ 63) by omega), decide_eq_false (show ¬ k ≥ 2 ^ 63 by omega)]; rfl) (fun h1 h2 h3 => ?_) (fun h1 h2 => ?_) ?_
      · have hk : 0 < k := by omega
        have hm : (a.length : Int) * k ≤ 1000000 := by
          have := hz.1
          have e3 : ((a.cps.size * k.toNat : Nat) : Int) = (a.length : Int) * k := by rw [Int.natCast_mul, Int.toNat_of_nonneg (by omega)]; rfl
          omega
        have := Int.lt_mul_of_ediv_lt hk h3
        omega
      · have := hz.1
        have hs := lim_le
        show decide (a.length * k.toNat > sizeLine) = false
        exact decide_eq_false (by rw [hln]; omega)
      · split
        · rename_i hk
          exact ⟨by decide, fin Str.empty s.toks (by rw [show k.toNat = 0 by omega]; rfl)⟩
        · split
          · rename_i hk h1
            have ea : (List.replicate k.toNat a.cps.toList).flatten = a.cps.toList := by
              rw [Bool.or_eq_true, beq_iff_eq, beq_iff_eq] at h1
              rcases h1 with h1 | h1
              · rw [h1]; simp
              · have : a.cps.toList = [] := List.eq_nil_of_length_eq_zero (by rw [Array.length_toList]; exact h1)
                rw [this]
                simp
            refine ⟨.str a, H, I, ⟨t, rfl⟩, q _ _ (Same.refl _) ?_⟩
            rw [ea]
            have : SQ.T a.cps.toList = .str a := by
              show PyData.str ⟨a.cps.toList.toArray⟩ = _
              rw [Array.toArray_toList]
            rw [this]
            exact .str _ ha
          · refine ⟨?_, fin _ s.toks (by rw [folds]; simp)⟩
            have hs := lim_le
            have := hz.1
            show (List.foldl (· ++ ·) #[] (List.replicate k.toNat a.cps)).size ≤ sizeLine
            rw [← Array.length_toList, folds, List.length_append, PyProof.Rows.lm_len_rep_flat, Array.length_toList, Nat.mul_comm]
            simp
            omega
    · cases e'
  | .tuple a, .int k, e =>
    obtain ⟨p, xs, rfl, h1, h2, h3, h4, h5⟩ := hx.i_tuple
    cases hy.i_int
    have e' : (if a.length ≤ 1000 ∧ !a.isEmpty ∧ 1 ≤ k ∧ k ≤ 1000 then Res.ok (PyData.tuple (List.replicate k.toNat a).flatten) else .bad) = .ok d := e
    split at e'
    · rename_i hz
      cases e'
      have hne : xs ≠ [] := fun z => by
        rw [z] at h5
        have : a = [] := List.eq_nil_of_length_eq_zero h5.symm
        rw [this] at hz
        exact absurd hz.2.1 (by decide)
      by_cases hk : k = 1
      · subst hk
        cases rx
        obtain ⟨t, rfl⟩ := ry
        refine s_rep1 I h1 (q _ _ (Same.refl _) ?_)
        have : (List.replicate (1 : Int).toNat a).flatten = a := by simp
        rw [this]
        exact .tup h1 h2 h3 h4
      · refine op_repT pins s σ H _ _ v u Q I rx ry ⟨p, k, xs, rfl, rfl, t_sqt h1, hne, by omega, hz.2.2.2, by omega, fun p hp => q _ _ (same_new hp) (.newT th hp (h3.rep _) ?_)⟩
        rw [PyProof.Rows.lm_len_rep_flat]
        have a1 : k.toNat * a.length ≤ 1000 * 1000 := Nat.mul_le_mul (by omega) hz.1
        exact a1
    · cases e'

theorem s_neg : UnR X (unaryOp .USub) (rD1 fun d => match d with | .int i => .ok (.int (-i)) | _ => .bad) := by
  intro pins s σ H x v Q I rx h
  obtain ⟨O, dx, d, th, hx, e, q⟩ := h
  match dx, e with
  | .int a, e =>
    cases hx.i_int
    cases e
    exact un_neg pins s σ H _ v Q I rx ⟨a, rfl, q _ _ (Same.refl _) (.int _)⟩

/-! ### comparisons -/
def rB2 (g : D → D → Res Bool) : R2 := fun x y H Q => ∃ O dx dy d, There O H ∧ CS O H x dx ∧ CS O H y dy ∧ g dx dy = .ok d ∧ Q (.bl d) H
theorem fl_room {d e : D} (hu : X.A.units + 64 < cLine) (h : fl d = true) : X.A.units + 1 + min d.depth e.depth < cLine := by
  have := fl_depth h
  have h2 : min d.depth e.depth ≤ d.depth := Nat.min_le_left _ _
  omega
theorem s_eq (hu : X.A.units + 64 < cLine) : OpR X (compareOp .Eq) (rB2 (cmD .eq)) := by
  intro pins s σ H x y v u Q I rx ry h
  obtain ⟨O, dx, dy, d, th, hx, hy, e, q⟩ := h
  have e' : (if (fl dx && fl dy) = true then Res.ok (PyData.eqv dx dy) else .bad) = .ok d := e
  split at e'
  · rename_i hz
    rw [Bool.and_eq_true] at hz
    cases e'
    obtain ⟨as, r1⟩ := hx.reads I rx (fl_plain hz.1)
    obtain ⟨bs, r2⟩ := hy.reads I ry (fl_plain hz.2)
    have := fl_room (e := dy) hu hz.1
    exact SeqAt.eq_plain r1 r2 (fl_plain hz.1) (fl_plain hz.2) (by omega) ⟨.bl _, H, I, rfl, q⟩
  · cases e'
theorem s_ne (hu : X.A.units + 64 < cLine) : OpR X (compareOp .NotEq) (rB2 (cmD .ne)) := by
  intro pins s σ H x y v u Q I rx ry h
  obtain ⟨O, dx, dy, d, th, hx, hy, e, q⟩ := h
  have e' : (if (fl dx && fl dy) = true then Res.ok (!PyData.eqv dx dy) else .bad) = .ok d := e
  split at e'
  · rename_i hz
    rw [Bool.and_eq_true] at hz
    cases e'
    obtain ⟨as, r1⟩ := hx.reads I rx (fl_plain hz.1)
    obtain ⟨bs, r2⟩ := hy.reads I ry (fl_plain hz.2)
    have := fl_room (e := dy) hu hz.1
    exact SeqAt.ne_plain r1 r2 (fl_plain hz.1) (fl_plain hz.2) (by omega) ⟨.bl _, H, I, rfl, q⟩
  · cases e'

theorem ltD_ok {x y : D} {k : Bool} (h : ltD x y = .ok k) : (∃ a b, x = .int a ∧ y = .int b ∧ k = decide (a < b)) ∨ (fl x = true ∧ fl y = true ∧ W.alike x y = true ∧ x ≠ .none ∧ k = W.dataLt x y) := by
  by_cases hn : x = .none
  · subst hn
    cases y <;> cases h
  unfold ltD at h
  split at h
  · cases h; exact .inl ⟨_, _, rfl, rfl, rfl⟩
  · cases h
  · split at h
    · rename_i hz
      simp only [Bool.and_eq_true] at hz
      cases h
      exact .inr ⟨hz.1.1, hz.1.2, hz.2, hn, rfl⟩
    · cases h
theorem s_lt (hu : X.A.units + 64 < cLine) : OpR X (compareOp .Lt) (rB2 (cmD .lt)) := by
  intro pins s σ H x y v u Q I rx ry h
  obtain ⟨O, dx, dy, d, th, hx, hy, e, q⟩ := h
  rcases ltD_ok e with ⟨a, b, rfl, rfl, rfl⟩ | ⟨h1, h2, h3, h4, rfl⟩
  · cases hx.i_int; cases hy.i_int
    exact op_lt pins s σ H _ _ v u Q I rx ry ⟨a, b, rfl, rfl, q⟩
  · obtain ⟨as, r1⟩ := hx.reads I rx (fl_plain h1)
    obtain ⟨bs, r2⟩ := hy.reads I ry (fl_plain h2)
    have := fl_room (e := dy) hu h1
    exact W.lt_data r1 r2 h3 h4 (by omega) ⟨.bl _, H, I, rfl, q⟩
theorem s_gt (hu : X.A.units + 64 < cLine) : OpR X (compareOp .Gt) (rB2 (cmD .gt)) := by
  intro pins s σ H x y v u Q I rx ry h
  obtain ⟨O, dx, dy, d, th, hx, hy, e, q⟩ := h
  rcases ltD_ok e with ⟨a, b, rfl, rfl, rfl⟩ | ⟨h1, h2, h3, h4, rfl⟩
  · cases hx.i_int; cases hy.i_int
    exact op_gt pins s σ H _ _ v u Q I rx ry ⟨b, a, rfl, rfl, q⟩
  · obtain ⟨as, r1⟩ := hx.reads I rx (fl_plain h2)
    obtain ⟨bs, r2⟩ := hy.reads I ry (fl_plain h1)
    have := fl_room (e := dy) hu h2
    have h3' : W.alike dx dy = true := by rw [W.alike_comm]; exact h3
    refine W.gt_data r1 r2 h3' (fun z => ?_) (by omega) ⟨.bl _, H, I, rfl, q⟩
    exact W.ne_none_both h3 h4 z
  
theorem s_le (hu : X.A.units + 64 < cLine) : OpR X (compareOp .LtE) (rB2 (cmD .le)) := by
  intro pins s σ H x y v u Q I rx ry h
  obtain ⟨O, dx, dy, d, th, hx, hy, e, q⟩ := h
  obtain ⟨k, e1, e2⟩ := Res.bind_ok (show (ltD dy dx).bind _ = .ok d from e)
  cases e2
  rcases ltD_ok e1 with ⟨a, b, rfl, rfl, rfl⟩ | ⟨h1, h2, h3, h4, rfl⟩
  · cases hx.i_int; cases hy.i_int
    have : (!decide (a < b)) = decide (b ≤ a) := by
      by_cases hab : a < b
      · rw [decide_eq_true hab, decide_eq_false (by omega)]; rfl
      · rw [decide_eq_false hab, decide_eq_true (by omega)]; rfl
    rw [this] at q
    exact op_le pins s σ H _ _ v u Q I rx ry ⟨b, a, rfl, rfl, q⟩
  · obtain ⟨as, r1⟩ := hx.reads I rx (fl_plain h2)
    obtain ⟨bs, r2⟩ := hy.reads I ry (fl_plain h1)
    have := fl_room (e := dy) hu h2
    have h3' : W.alike dx dy = true := by rw [W.alike_comm]; exact h3
    exact W.le_data r1 r2 h3' (fun z => W.ne_none_both h3 h4 z) (by omega) ⟨.bl _, H, I, rfl, q⟩
theorem s_ge (hu : X.A.units + 64 < cLine) : OpR X (compareOp .GtE) (rB2 (cmD .ge)) := by
  intro pins s σ H x y v u Q I rx ry h
  obtain ⟨O, dx, dy, d, th, hx, hy, e, q⟩ := h
  obtain ⟨k, e1, e2⟩ := Res.bind_ok (show (ltD dx dy).bind _ = .ok d from e)
  cases e2
  rcases ltD_ok e1 with ⟨a, b, rfl, rfl, rfl⟩ | ⟨h1, h2, h3, h4, rfl⟩
  · cases hx.i_int; cases hy.i_int
    have : (!decide (a < b)) = decide (b ≤ a) := by
      by_cases hab : a < b
      · rw [decide_eq_true hab, decide_eq_false (by omega)]; rfl
      · rw [decide_eq_false hab, decide_eq_true (by omega)]; rfl
    rw [this] at q
    exact op_ge pins s σ H _ _ v u Q I rx ry ⟨a, b, rfl, rfl, q⟩
  · obtain ⟨as, r1⟩ := hx.reads I rx (fl_plain h1)
    obtain ⟨bs, r2⟩ := hy.reads I ry (fl_plain h2)
    have := fl_room (e := dy) hu h1
    exact W.ge_data r1 r2 h3 h4 (by omega) ⟨.bl _, H, I, rfl, q⟩
end
end SQ

/-! SqOps2: in, subscripts, slices. -/
set_option maxHeartbeats 1000000
namespace SQ
open PySem PySem.Spec PyProof.Rows L2
variable [TabsC]

/-! ### dicts -/
theorem eqv_key (a b : Key) : PyData.eqv (keyV a) (keyV b) = decide (a = b) := by
  cases a <;> cases b <;> simp only [keyV, PyData.eqv, Sum.inl.injEq, Sum.inr.injEq, reduceCtorEq, decide_false]
  · rfl
  · rfl
theorem eqv_keys : ∀ (a b : List Key), PyData.eqv (.tuple (a.map keyV)) (.tuple (b.map keyV)) = decide (a = b)
  | [], [] => by simp [PyData.eqv, PyData.eqvAll]
  | [], _ :: _ => by simp [PyData.eqv, PyData.eqvAll]
  | _ :: _, [] => by simp [PyData.eqv, PyData.eqvAll]
  | a :: as, b :: bs => by
    have ih := eqv_keys as bs
    simp only [PyData.eqv] at ih
    simp only [List.map_cons, PyData.eqv, PyData.eqvAll, eqv_key, ih, List.cons.injEq, Bool.decide_and]
theorem eqv_none_key (k : Key) : PyData.eqv .none (keyV k) = false := by cases k <;> simp [keyV, PyData.eqv]
section
variable {O : List Addr} {H : Hp}
theorem DKs.get : ∀ {kvs : List (Key × V)} {es : List (D × D)} (k : Key), DKs O H kvs es → (valV kvs k = none ∧ kvGet (keyV k) es = none) ∨ ∃ v d, valV kvs k = some v ∧ kvGet (keyV k) es = some d ∧ DS O H v d
  | _, _, k, .nil => .inl ⟨rfl, rfl⟩
  | (a, v) :: kvs, _, k, .cons h t => by
    by_cases e : a = k
    · subst e
      refine .inr ⟨v, _, valV_pos rfl, ?_, h⟩
      simp [kvGet, eqv_key]
    · have e1 : PyData.eqv (keyV a) (keyV k) = false := by rw [eqv_key]; exact decide_eq_false e
      rcases DKs.get k t with ⟨h1, h2⟩ | ⟨v', d', h1, h2, h3⟩
      · exact .inl ⟨by rw [valV_neg (show ¬ (a, v).1 = k from e)]; exact h1, by simp [kvGet, e1, h2]⟩
      · exact .inr ⟨v', d', by rw [valV_neg (show ¬ (a, v).1 = k from e)]; exact h1, by simp [kvGet, e1, h2], h3⟩
theorem DTs.get : ∀ {kvs : List (List Key × V)} {es : List (D × D)} (k : List Key), DTs O H kvs es → (valV kvs k = none ∧ kvGet (.tuple (k.map keyV)) es = none) ∨ ∃ v d, valV kvs k = some v ∧ kvGet (.tuple (k.map keyV)) es = some d ∧ DS O H v d
  | _, _, k, .nil => .inl ⟨rfl, rfl⟩
  | (a, v) :: kvs, _, k, .cons h t => by
    by_cases e : a = k
    · subst e
      refine .inr ⟨v, _, valV_pos rfl, ?_, h⟩
      simp [kvGet, eqv_keys]
    · have e1 : PyData.eqv (.tuple (a.map keyV)) (.tuple (k.map keyV)) = false := by rw [eqv_keys]; exact decide_eq_false e
      rcases DTs.get k t with ⟨h1, h2⟩ | ⟨v', d', h1, h2, h3⟩
      · exact .inl ⟨by rw [valV_neg (show ¬ (a, v).1 = k from e)]; exact h1, by simp [kvGet, e1, h2]⟩
      · exact .inr ⟨v', d', by rw [valV_neg (show ¬ (a, v).1 = k from e)]; exact h1, by simp [kvGet, e1, h2], h3⟩
theorem DKs.notT : ∀ {kvs : List (Key × V)} {es : List (D × D)}, DKs O H kvs es → isT es = false
  | _, _, .nil => rfl
  | (a, v) :: kvs, _, .cons h t => by cases a <;> rfl
theorem flat_key {d : D} (h : flatD d = true) : ∃ k : Key, d = keyV k := by
  cases d with
  | int i => exact ⟨.inl i, rfl⟩
  | str s => exact ⟨.inr s, rfl⟩
  | _ => cases h
theorem flat_keys : ∀ {ds : List D}, ds.all flatD = true → ∃ ks : List Key, ds = ks.map keyV
  | [], _ => ⟨[], rfl⟩
  | d :: ds, h => by
    rw [List.all_cons, Bool.and_eq_true] at h
    obtain ⟨k, rfl⟩ := flat_key h.1
    obtain ⟨ks, rfl⟩ := flat_keys h.2
    exact ⟨k :: ks, rfl⟩
theorem key_val {k : Key} {v : V} (h : DS O H v (keyV k)) : v = kV k := by
  cases k with
  | inl i => exact h.i_int
  | inr s => exact (h.i_str).1
theorem key_vals : ∀ {ks : List Key} {vs : List V}, DSs O H vs (ks.map keyV) → vs = ks.map kV
  | [], _, h => by cases h; rfl
  | k :: ks, _, h => by
    cases h with
    | cons h t => rw [key_val h, key_vals t]; rfl
theorem C_key {k : Key} {v : V} (h : CS O H v (keyV k)) : v = kV k := by
  cases k with
  | inl i => exact h.i_int
  | inr s => exact (h.i_str).1
/-- a look-up in a dict -/
theorem dict_get {es : List (D × D)} {v y : V} {k : D} (h : CS O H v (.dict es)) (hk : CS O H y k) (kd : keyD es k = true) :
    ∃ a o, v = .ref a ∧ DGet H a y o ∧ ((o = none ∧ kvGet k es = none) ∨ ∃ x d, o = some x ∧ kvGet k es = some d ∧ DS O H x d) := by
  rcases h.i_dict with ⟨a, kvs, rfl, h1, h2, _⟩ | ⟨a, kvs, es', rfl, h1, h2, _, rfl⟩
  · have nt := h2.notT
    have fk : flatD k = true := by
      cases k with
      | int => rfl
      | str => rfl
      | tuple xs => rw [keyD, nt] at kd; cases kd
      | _ => cases kd
    obtain ⟨k, rfl⟩ := flat_key fk
    have e := C_key hk
    subst e
    rcases h2.get k with ⟨g1, g2⟩ | ⟨x, d, g1, g2, g3⟩
    · exact ⟨a, _, rfl, .k h1, .inl ⟨g1, g2⟩⟩
    · exact ⟨a, _, rfl, .k h1, .inr ⟨x, d, g1, g2, g3⟩⟩
  · match k, kd with
    | .tuple xs, kd =>
      rw [keyD, Bool.and_eq_true] at kd
      obtain ⟨ks, rfl⟩ := flat_keys kd.2
      obtain ⟨b, ys, rfl, hb, _, hy, _, _⟩ := hk.i_tuple
      have e := key_vals hy
      subst e
      have e0 : kvGet (.tuple (ks.map keyV)) ((.none, .none) :: es') = kvGet (.tuple (ks.map keyV)) es' := by simp [kvGet, PyData.eqv]
      rw [e0]
      rcases h2.get ks with ⟨g1, g2⟩ | ⟨x, d, g1, g2, g3⟩
      · exact ⟨a, _, rfl, .t h1 hb, .inl ⟨g1, g2⟩⟩
      · exact ⟨a, _, rfl, .t h1 hb, .inr ⟨x, d, g1, g2, g3⟩⟩
end

section
variable {X : Cx}
theorem hu1 (hu : X.A.units + 64 < cLine) : X.A.units + 1 < cLine := by omega
/-! ### in -/
theorem str_one {s : Str} (h : s.cps.size = 1) : s = ⟨#[s.cps.getD 0 0]⟩ := by
  obtain ⟨cps⟩ := s
  obtain ⟨l⟩ := cps
  match l, h with
  | [c], _ => rfl
theorem s_in (hu : X.A.units + 64 < cLine) : OpR X (compareOp .In) (rB2 (cmD .isin)) := by
  intro pins s σ H x y v u Q I rx ry h
  obtain ⟨O, dx, dy, d, th, hx, hy, e, q⟩ := h
  have e : inD dx dy = .ok d := e
  cases dy with
  | none => cases e
  | bool => cases e
  | int => cases e
  | str t =>
    cases dx with
    | none => cases e
    | bool => cases e
    | int => cases e
    | list => cases e
    | tuple => cases e
    | dict => cases e
    | str z =>
      obtain ⟨rfl, _⟩ := hx.i_str
      obtain ⟨rfl, _⟩ := hy.i_str
      have e' : (if z.cps.size = 1 then Res.ok (decide (z.cps.getD 0 0 ∈ t.cps.toList)) else .bad) = .ok d := e
      split at e'
      · rename_i hz
        cases e'
        exact op_in_sign pins s σ H _ _ v u Q I rx ry ⟨z.cps.getD 0 0, t, by rw [← str_one hz], rfl, q⟩
      · cases e'
  | list ys =>
    have e' : (if (fl dx && fl (.list ys)) = true then Res.ok (ys.any fun d => PyData.eqv d dx) else .bad) = .ok d := e
    split at e'
    · rename_i hz
      rw [Bool.and_eq_true] at hz
      cases e'
      obtain ⟨as, r1⟩ := hx.reads I rx (fl_plain hz.1)
      obtain ⟨bs, r2⟩ := hy.reads I ry (fl_plain hz.2)
      have h1 := fl_depth hz.1
      have h3 : min (PyData.depthAll ys) dx.depth ≤ dx.depth := Nat.min_le_right _ _
      refine SeqAt.in_list_data r2 r1 (by simpa [PyData.plain] using fl_plain hz.2) (fl_plain hz.1) (by omega) ⟨.bl _, H, I, rfl, q⟩
    · cases e'
  | tuple ys =>
    have e' : (if (fl dx && fl (.tuple ys)) = true then Res.ok (ys.any fun d => PyData.eqv d dx) else .bad) = .ok d := e
    split at e'
    · rename_i hz
      rw [Bool.and_eq_true] at hz
      cases e'
      obtain ⟨as, r1⟩ := hx.reads I rx (fl_plain hz.1)
      obtain ⟨bs, r2⟩ := hy.reads I ry (fl_plain hz.2)
      have h1 := fl_depth hz.1
      have h3 : min (PyData.depthAll ys) dx.depth ≤ dx.depth := Nat.min_le_right _ _
      refine SeqAt.in_tuple_data r2 r1 (by simpa [PyData.plain] using fl_plain hz.2) (fl_plain hz.1) (by omega) ⟨.bl _, H, I, rfl, q⟩
    · cases e'
  | dict es =>
    have e' : (if keyD es dx = true then Res.ok (kvGet dx es).isSome else .bad) = .ok d := e
    split at e'
    · rename_i hz
      cases e'
      obtain ⟨a, o, rfl, g, hg⟩ := dict_get hy hx hz
      cases ry
      refine d_in (hu1 hu) I g rx fun s' I' => ⟨.bl _, H, I', rfl, ?_⟩
      rcases hg with ⟨rfl, g2⟩ | ⟨x, d', rfl, g2, _⟩
      · rw [g2] at q; exact q
      · rw [g2] at q; exact q
    · cases e'
theorem s_notin (hu : X.A.units + 64 < cLine) : OpR X (compareOp .NotIn) (rB2 (cmD .notin)) := by
  intro pins s σ H x y v u Q I rx ry h
  obtain ⟨O, dx, dy, d, th, hx, hy, e, q⟩ := h
  obtain ⟨d, e0, e2⟩ := Res.bind_ok (show (inD dx dy).bind _ = .ok _ from e)
  clear e
  have e := e0
  clear e0
  cases e2
  cases dy with
  | none => cases e
  | bool => cases e
  | int => cases e
  | str t =>
    cases dx with
    | none => cases e
    | bool => cases e
    | int => cases e
    | list => cases e
    | tuple => cases e
    | dict => cases e
    | str z =>
      obtain ⟨rfl, _⟩ := hx.i_str
      obtain ⟨rfl, _⟩ := hy.i_str
      have e' : (if z.cps.size = 1 then Res.ok (decide (z.cps.getD 0 0 ∈ t.cps.toList)) else .bad) = .ok d := e
      split at e'
      · rename_i hz
        cases e'
        exact op_notIn_sign pins s σ H _ _ v u Q I rx ry ⟨z.cps.getD 0 0, t, by rw [← str_one hz], rfl, q⟩
      · cases e'
  | list ys =>
    have e' : (if (fl dx && fl (.list ys)) = true then Res.ok (ys.any fun d => PyData.eqv d dx) else .bad) = .ok d := e
    split at e'
    · rename_i hz
      rw [Bool.and_eq_true] at hz
      cases e'
      obtain ⟨as, r1⟩ := hx.reads I rx (fl_plain hz.1)
      obtain ⟨bs, r2⟩ := hy.reads I ry (fl_plain hz.2)
      have h1 := fl_depth hz.1
      have h3 : min (PyData.depthAll ys) dx.depth ≤ dx.depth := Nat.min_le_right _ _
      refine SeqAt.notIn_list_data r2 r1 (by simpa [PyData.plain] using fl_plain hz.2) (fl_plain hz.1) (by omega) ⟨.bl _, H, I, rfl, q⟩
    · cases e'
  | tuple ys =>
    have e' : (if (fl dx && fl (.tuple ys)) = true then Res.ok (ys.any fun d => PyData.eqv d dx) else .bad) = .ok d := e
    split at e'
    · rename_i hz
      rw [Bool.and_eq_true] at hz
      cases e'
      obtain ⟨as, r1⟩ := hx.reads I rx (fl_plain hz.1)
      obtain ⟨bs, r2⟩ := hy.reads I ry (fl_plain hz.2)
      have h1 := fl_depth hz.1
      have h3 : min (PyData.depthAll ys) dx.depth ≤ dx.depth := Nat.min_le_right _ _
      refine SeqAt.notIn_tuple_data r2 r1 (by simpa [PyData.plain] using fl_plain hz.2) (fl_plain hz.1) (by omega) ⟨.bl _, H, I, rfl, q⟩
    · cases e'
  | dict es =>
    have e' : (if keyD es dx = true then Res.ok (kvGet dx es).isSome else .bad) = .ok d := e
    split at e'
    · rename_i hz
      cases e'
      obtain ⟨a, o, rfl, g, hg⟩ := dict_get hy hx hz
      cases ry
      refine d_notIn (hu1 hu) I g rx fun s' I' => ⟨.bl _, H, I', rfl, ?_⟩
      rcases hg with ⟨rfl, g2⟩ | ⟨x, d', rfl, g2, _⟩
      · rw [g2] at q; exact q
      · rw [g2] at q; exact q
    · cases e'

/-! ### a[i] -/
theorem ixOf_eq (n : Nat) (i : Int) : ixOf n i = ixN n i := rfl
theorem atL_ok {xs : List D} {i : Int} {d : D} (h : atL xs i = .ok d) : ∃ j, ixN xs.length i = some j ∧ xs[j]? = some d := by
  unfold atL at h
  rw [ixOf_eq] at h
  cases e : ixN xs.length i with
  | none => rw [e] at h; cases h
  | some j =>
    rw [e] at h
    simp only [Option.bind_some] at h
    cases e2 : xs[j]? with
    | none => rw [e2] at h; cases h
    | some d' => rw [e2] at h; cases h; exact ⟨j, rfl, e2⟩
theorem s_idx (hu : X.A.units + 64 < cLine) : IxR X (rD2 idxD) := by
  intro value slice pins s σ H x y v u Q I rx ry h hs
  obtain ⟨O, dx, dy, d, th, hx, hy, e, q⟩ := h
  have hlim := lim_le
  cases dx with
  | none => cases e
  | bool => cases e
  | int => cases e
  | list ds =>
    cases dy with
    | none => cases e
    | bool => cases e
    | str => cases e
    | list => cases e
    | tuple => cases e
    | dict => cases e
    | int i =>
      obtain ⟨j, e1, e2⟩ := atL_ok (show atL ds i = .ok d from e)
      obtain ⟨p, xs, rfl, h1, h3, h4, h5⟩ := hx.i_list
      cases hy.i_int
      obtain ⟨z, e3, hz⟩ := h3.get e2
      exact ix_list value slice pins s σ H _ _ v u Q I rx ry ⟨p, xs, i, z, rfl, rfl, rd_sql h1, by unfold atI; rw [h5, e1]; exact e3, q _ _ (Same.refl _) hz⟩ hs
  | tuple ds =>
    cases dy with
    | none => cases e
    | bool => cases e
    | str => cases e
    | list => cases e
    | tuple => cases e
    | dict => cases e
    | int i =>
      obtain ⟨j, e1, e2⟩ := atL_ok (show atL ds i = .ok d from e)
      obtain ⟨p, xs, rfl, h1, h2, h3, h4, h5⟩ := hx.i_tuple
      cases hy.i_int
      obtain ⟨z, e3, hz⟩ := h3.get e2
      exact ix_tup value slice pins s σ H _ _ v u Q I rx ry ⟨p, xs, i, z, rfl, rfl, t_sqt h1, by unfold atI; rw [h5, e1]; exact e3, q _ _ (Same.refl _) hz⟩ hs
  | str z =>
    cases dy with
    | none => cases e
    | bool => cases e
    | str => cases e
    | list => cases e
    | tuple => cases e
    | dict => cases e
    | int i =>
      obtain ⟨rfl, hz⟩ := hx.i_str
      cases hy.i_int
      have e' : (match (ixOf z.cps.size i).bind fun j => z.cps[j]? with
        | some c => Res.ok (T [c])
        | none => .bad) = .ok d := e
      rw [ixOf_eq] at e'
      cases e1 : ixN z.cps.size i with
      | none => rw [e1] at e'; cases e'
      | some j =>
        rw [e1] at e'
        simp only [Option.bind_some] at e'
        cases e2 : z.cps[j]? with
        | none => rw [e2] at e'; cases e'
        | some c =>
          rw [e2] at e'
          cases e'
          refine ix_str value slice pins s σ H _ _ v u Q I rx ry ⟨z, i, c, rfl, rfl, Nat.le_trans hz hlim, ?_, q _ _ (Same.refl _) (.str _ ?_)⟩ hs
          · unfold atI
            rw [Array.length_toList, e1]
            simpa using e2
          · show 1 ≤ lim
            decide
  | dict es =>
    have e' : (if keyD es dy = true then (match kvGet dy es with
      | some d => Res.ok d
      | none => .bad) else .bad) = .ok d := e
    split at e'
    · rename_i hk
      obtain ⟨a, o, rfl, g, hg⟩ := dict_get hx hy hk
      rcases hg with ⟨_, g2⟩ | ⟨z, d', rfl, g2, g3⟩
      · rw [g2] at e'; cases e'
      · rw [g2] at e'
        cases e'
        cases rx
        exact tail_any (dict_typeIs I g) PySem.F.slot_dict_getitem.lookup (d_getItem (hu1 hu) I g ry fun w' s' I' r' => ⟨z, H, I', r', q _ _ (Same.refl _) g3⟩) hs
    · cases e'
end
end SQ

/-! SqOps3: slices. -/
set_option maxHeartbeats 1000000
namespace SQ
open PySem PySem.Spec PyProof.Rows L2
variable [TabsC]

section
variable {prog : Program} {w : World} {A : Around} {E : Value → Shared → Prop} {s : Shared}
open HT in
/-- t[lo:hi], the whole of t: t itself -/
theorem tup_whole {t sl : Addr} {items : Array Value} {vl vu : Value} {lo hi : Option Int} {Q : Value → Shared → Prop} (ht : IsTup s.heap t items) (hs : s.heap.IsSliceOf sl vl vu .none) (pl : IsPart vl lo) (pu : IsPart vu hi)
    (hw : HT.sIx items.size 0 lo = 0 ∧ HT.sIx items.size items.size hi = items.size) (h : Q (.ref t) s) : wpAny (model prog w) A (getItem (.ref t) (.ref sl)) Q E s := by
  obtain ⟨os, hos, hcs, hds⟩ := id hs
  have hTs : s.TypeIs (.ref sl) "slice" := ⟨os, hos, hcs⟩
  unfold getItem
  try with_reducible refine wpAny_holding ?_
  first | refine wpAny_bind (wpAny_pure ?_) | skip
  refine wpAny_bind (wpAny_sequenceKey ht.typeIs (by decide) ?_)
  refine wpAny_bind (wpAny_callSpecial?_slot (name := Str.ofString "__getitem__") ht.typeIs PyProof.Rows.slot_tuple_getitem
    (wpAny_call_entry PyProof.Rows.slot_tuple_getitem ht.typeIs entry_tuple_getitem ?_ (args_tuple_getitem _ _)))
  show wpAny _ _ (Builtin.Tuple.tupleItemsOf (.ref t) >>= _) _ _ s
  refine wpAny_bind (tupleItemsOf_ ht ?_)
  refine wpAny_bind (wpAny_typeOf hTs ?_)
  rw [if_pos (by decide)]
  refine wpAny_bind (HT.sliceApplied_gen hs pl pu ?_)
  have hyes : ((((HT.sIx items.size 0 lo : Nat) : Int) == 0 && (1 : Int) == 1 && (HT.sIx items.size items.size hi - HT.sIx items.size 0 lo) == items.size) = true) := by
    rw [hw.1, hw.2]
    simp
  show wpAny _ _ (if (((HT.sIx items.size 0 lo : Nat) : Int) == 0 && (1 : Int) == 1 && (HT.sIx items.size items.size hi - HT.sIx items.size 0 lo) == items.size) = true then _ else _) _ _ s
  rw [if_pos hyes]
  refine wpAny_bind (m := Builtin.Tuple.tupleIsExact (.ref t)) ?_
  unfold Builtin.Tuple.tupleIsExact
  refine wpAny_bind (wpAny_typeOf ht.typeIs (wpAny_pure ?_))
  rw [if_pos (by decide)]
  wp_walk
  exact ⟨_, rfl, wpAny_pure h⟩
end

section
variable {X : Cx}
theorem sEnd_eq (n d : Nat) (o : Option Int) : sEnd n d o = HT.sIx n d o := by cases o <;> rfl
theorem cutL_V (xs : List V) (lo hi : Option Int) : cutL xs lo hi = cutV xs lo hi := by
  unfold cutL cutV
  simp only [sEnd_eq]
theorem DSs.cut {O : List Addr} {H : Hp} {vs : List V} {ds : List D} (h : DSs O H vs ds) (lo hi : Option Int) : DSs O H (cutV vs lo hi) (cutL ds lo hi) := by
  rw [← cutL_V]
  unfold cutL
  rw [h.length]
  exact (h.drop _).take _
theorem cutL_le {α : Type} (xs : List α) (lo hi : Option Int) : (cutL xs lo hi).length ≤ xs.length := by
  unfold cutL
  simp only [List.length_take, List.length_drop]
  omega
def rDSl : V → Option Int → Option Int → Hp → VK → Prop := fun x lo hi H Q => ∃ O dx d, There O H ∧ CS O H x dx ∧ slcD dx lo hi = .ok d ∧ ∀ v H', Same H H' → DS O H' v d → Q v H'
theorem s_slice : SlR X rDSl := by
  intro pins s σ H x v vl vu lo hi sl Q I rx hs pl pu h
  obtain ⟨O, dx, d, th, hx, e, q⟩ := h
  have hlim := lim_le
  cases dx with
  | none => cases e
  | bool => cases e
  | int => cases e
  | dict => cases e
  | list ds =>
    cases e
    obtain ⟨p, xs, rfl, h1, h3, h4, h5⟩ := hx.i_list
    exact sl_list pins s σ H _ v vl vu lo hi sl Q I rx hs pl pu ⟨p, xs, rfl, rd_sql h1, fun p' hp => q _ _ (same_new hp) (.newL th hp (h3.cut lo hi) (Nat.le_trans (cutL_le _ _ _) h4))⟩
  | tuple ds =>
    cases e
    obtain ⟨p, xs, rfl, h1, h2, h3, h4, h5⟩ := hx.i_tuple
    by_cases hw : HT.sIx xs.length 0 lo = 0 ∧ HT.sIx xs.length xs.length hi = xs.length
    · cases rx
      obtain ⟨its, r, ht, hz⟩ := I.tuple (t_sqt h1)
      have hlen : its.toArray.size = xs.length := by rw [List.size_toArray]; exact r.length.symm
      refine ⟨"tuple", _, PyProof.Rows.slot_tuple_getitem.lookup, ht.typeIs, ?_⟩
      refine tup_whole ht hs pl pu (by rw [hlen]; exact hw) ⟨.ref p, H, I, rfl, q _ _ (Same.refl _) ?_⟩
      have ec : cutL ds lo hi = ds := by
        unfold cutL
        rw [h5] at hw
        simp only [sEnd_eq, hw.1, hw.2, List.drop_zero, Nat.sub_zero, List.take_length]
      rw [ec]
      exact .tup h1 h2 h3 h4
    · exact sl_tup pins s σ H _ v vl vu lo hi sl Q I rx hs pl pu ⟨p, xs, rfl, t_sqt h1, hw, fun p' hp => q _ _ (same_new hp) (.newT th hp (h3.cut lo hi) (Nat.le_trans (cutL_le _ _ _) h4))⟩
  | str z =>
    cases e
    obtain ⟨rfl, hz⟩ := hx.i_str
    refine sl_str pins s σ H _ v vl vu lo hi sl Q I rx hs pl pu ⟨z, rfl, Nat.le_trans hz hlim, q _ _ (Same.refl _) ?_⟩
    have ec : cutS z lo hi = ⟨(cutL z.cps.toList lo hi).toArray⟩ := by
      unfold cutS cutL
      simp only [sEnd_eq, Array.length_toList, Str.length]
    rw [ec]
    refine .str _ ?_
    have := cutL_le z.cps.toList lo hi
    rw [Array.length_toList] at this
    have e3 : (cutL z.cps.toList lo hi).toArray.size = (cutL z.cps.toList lo hi).length := List.size_toArray
    show (cutL z.cps.toList lo hi).toArray.size ≤ lim
    rw [e3]
    exact Nat.le_trans this hz

/-! ### a[::-1] -/
theorem tup_rev_pick (xs : Array Value) (n : Nat) (hn : xs.size = n) : ((List.range n).filterMap fun (k : Nat) => xs[(((n : Int) - 1) + (k : Int) * (-1)).toNat]?).toArray = xs.toList.reverse.toArray := by
  subst hn
  have cg : ∀ (l : List Nat) (f g : Nat → Option Value), (∀ k ∈ l, f k = g k) → l.filterMap f = l.filterMap g := by
    intro l f g h
    induction l with
    | nil => rfl
    | cons a l ih => rw [List.filterMap_cons, List.filterMap_cons, h a List.mem_cons_self, ih fun k hk => h k (List.mem_cons_of_mem _ hk)]
  have e : ∀ k ∈ List.range xs.size, xs[(((xs.size : Int) - 1) + (k : Int) * (-1)).toNat]? = xs[xs.size - 1 - k]? := fun k hk => by
    have : (((xs.size : Int) - 1) + (k : Int) * (-1)).toNat = xs.size - 1 - k := by
      have := List.mem_range.mp hk
      omega
    rw [this]
  have e2 : (List.range xs.size).filterMap (fun (k : Nat) => xs[(((xs.size : Int) - 1) + (k : Int) * (-1)).toNat]?) = ((List.range xs.size).map fun k => xs.size - 1 - k).filterMap (xs[·]?) := by
    rw [List.filterMap_map]
    exact cg _ _ _ (fun k hk => e k hk)
  rw [e2, PySem.W.krv_range, List.filterMap_reverse, PySem.W.krv_all]
theorem tup_rev {prog : Program} {w : World} {A : Around} {E : Value → Shared → Prop} {s : Shared} {t sl : Addr} {items : Array Value} {vl vu vs : Value} {Q : Value → Shared → Prop} (ht : IsTup s.heap t items) (hs : s.heap.IsSliceOf sl vl vu vs) (pl : IsPart vl none) (pu : IsPart vu none) (ps : IsPart vs (some (-1)))
    (h : Q (.ref s.heap.objs.size) { s with heap := s.heap.push { cls := .type "tuple", data := .seq items.toList.reverse.toArray } }) (hsz : items.size ≤ sizeLine) : wpAny (model prog w) A (getItem (.ref t) (.ref sl)) Q E s := by
  obtain ⟨os, hos, hcs, hds⟩ := id hs
  have hTs : s.TypeIs (.ref sl) "slice" := ⟨os, hos, hcs⟩
  unfold getItem
  try with_reducible refine wpAny_holding ?_
  first | refine wpAny_bind (wpAny_pure ?_) | skip
  refine wpAny_bind (wpAny_sequenceKey ht.typeIs (by decide) ?_)
  refine wpAny_bind (wpAny_callSpecial?_slot (name := Str.ofString "__getitem__") ht.typeIs PyProof.Rows.slot_tuple_getitem
    (wpAny_call_entry PyProof.Rows.slot_tuple_getitem ht.typeIs entry_tuple_getitem ?_ (args_tuple_getitem _ _)))
  show wpAny _ _ (Builtin.Tuple.tupleItemsOf (.ref t) >>= _) _ _ s
  refine wpAny_bind (tupleItemsOf_ ht ?_)
  refine wpAny_bind (wpAny_typeOf hTs ?_)
  rw [if_pos (by decide)]
  unfold Builtin.Slice.sliceApplied Builtin.Slice.sliceFields
  refine wpAny_bind (wpAny_bind (wpAny_bind (wpAny_field hos hds (x := vl) rfl (wpAny_bind (wpAny_field hos hds (x := vu) rfl (wpAny_bind (wpAny_field hos hds (x := vs) rfl (wpAny_pure ?_))))))))
  refine wpAny_bind (HT.slicePart_ ps ?_)
  show wpAny _ _ (if ((-1 : Int) == 0) = true then _ else _) _ _ s
  rw [if_neg (by decide)]
  refine wpAny_bind (HT.slicePart_ pl (wpAny_bind (HT.slicePart_ pu (wpAny_bind (wpAny_pure ?_)))))
  have ea : Builtin.Slice.sliceAdjust none none (-1) (items.size : Int) = ((items.size : Int) - 1, -1) := by
    first | rfl | simp [Builtin.Slice.sliceAdjust]
  show wpAny _ _ (match Builtin.Slice.sliceAdjust none none (-1) (items.size : Int) with | (lo, hi) => pure (lo, (-1 : Int), Builtin.Slice.slicePlaces lo hi (-1))) _ _ s
  rw [ea]
  have ep : Builtin.Slice.slicePlaces ((items.size : Int) - 1) (-1) (-1) = items.size := by
    unfold Builtin.Slice.slicePlaces
    rw [if_neg (by decide)]
    by_cases h0 : (items.size : Int) - 1 > -1
    · rw [if_pos h0]
      have : ((items.size : Int) - 1 - -1 - 1) / (- -1) + 1 = (items.size : Int) := by
        rw [show (- -1 : Int) = 1 by decide, Int.ediv_one]
        omega
      rw [this]
      exact Int.toNat_natCast _
    · rw [if_neg h0]
      have h1 : items.size = 0 := by omega
      rw [h1]
      rfl
  show wpAny _ _ (pure ((items.size : Int) - 1, (-1 : Int), Builtin.Slice.slicePlaces ((items.size : Int) - 1) (-1) (-1))) _ _ s
  rw [ep]
  refine wpAny_pure ?_
  have hno : ¬ ((((items.size : Int) - 1) == 0 && (-1 : Int) == 1 && items.size == items.size) = true) := by simp
  show wpAny _ _ (if ((((items.size : Int) - 1) == 0 && (-1 : Int) == 1 && items.size == items.size) = true) then _ else _) _ _ s
  rw [if_neg hno, tup_rev_pick items _ rfl]
  have htake : sizeOk (.seq items.toList.reverse.toArray) := by
    show items.toList.reverse.toArray.size ≤ sizeLine
    rw [List.size_toArray, List.length_reverse, Array.length_toList]
    exact hsz
  first
    | exact wpAny_bind (m := Builtin.Tuple.tupleExact _) (wpAny_newObj_type (wpAny_pure ⟨_, rfl, wpAny_pure h⟩) htake)
    | exact wpAny_bind (m := Builtin.Tuple.tupleExact _) (wpAny_newObj_type (wpAny_bind (wpAny_pure (wpAny_pure ⟨_, rfl, wpAny_pure h⟩))) htake)
    | exact wpAny_bind (wpAny_bind (m := Builtin.Tuple.tupleExact _) (wpAny_newObj_type (wpAny_pure (wpAny_pure ⟨_, rfl, wpAny_pure h⟩)) htake))
    | exact wpAny_bind (wpAny_bind (m := Builtin.Tuple.tupleExact _) (wpAny_newObj_type (wpAny_pure ⟨_, rfl, wpAny_pure h⟩) htake))

def tRev (te : TE) : TE := fun σ H Q => te σ H fun x H1 => rD1 revD x H1 Q
theorem pe_rev {e : Expr} {te : TE} {k : Nat} {p1 p2 p3 pos : Pos} (he : PE X e te) : PE X (.Subscript e (.Slice none none (some (.UnaryOp .USub (.Constant (.int 1) k p1) p2)) p3) pos) (tRev te) := by
  refine ⟨fun pins s σ H Q I h => ?_⟩
  refine Subscript_ (thn (he.run pins s σ H _ I h) fun v s1 ⟨x, H1, I1, r1, q1⟩ => ?_)
  obtain ⟨O, dx, d, th, hx, e, q⟩ := q1
  have hst : PO X (some (.UnaryOp .USub (.Constant (.int 1) k p1) p2)) (tPart (tUn (rU fun i => .int (-i)) (tC (.int 1)))) := po_some (pe_un un_neg pe_int)
  refine wpAny_Slice (thn (po_none.run pins s1 σ H1 (fun o H2 => o = none ∧ H2 = H1) I1 ⟨rfl, rfl⟩) fun vl s2 ⟨l, H2, I2, pl, el, e2⟩ => ?_)
  subst el e2
  refine thn (po_none.run pins s2 σ H2 (fun o H3 => o = none ∧ H3 = H2) I2 ⟨rfl, rfl⟩) fun vu s3 ⟨u, H3, I3, pu, eu, e3⟩ => ?_
  subst eu e3
  refine thn (hst.run pins s3 σ H3 (fun o H4 => o = some (-1) ∧ H4 = H3) I3 ⟨1, rfl, -1, rfl, rfl, rfl⟩) fun vs s4 ⟨o, H4, I4, ps, eo, e4⟩ => ?_
  subst eo e4
  have I5 : Inv X pins σ H4 { s4 with heap := s4.heap.push { cls := .type "slice", data := .fields #[vl, vu, vs] } } := I4.kept (t' := s4.toks) fun b ob q => Heap.get?_push_of_some _ q
  cases dx with
  | none => cases e
  | bool => cases e
  | int => cases e
  | dict => cases e
  | str => cases e
  | list ds =>
    cases e
    obtain ⟨a, xs, rfl, h1, h3, h4, h5⟩ := hx.i_list
    cases r1
    obtain ⟨its, r, ht, hz⟩ := I5.list (rd_sql h1)
    have hlen := r.length
    show wpAny (model X.prog X.w) X.A (subscriptTail _ (.Slice none none (some (.UnaryOp .USub (.Constant (.int 1) k p1) p2)) p3) (.ref a) (.ref s4.heap.objs.size)) (EP X pins σ Q) X.xe { s4 with heap := s4.heap.push { cls := .type "slice", data := .fields #[vl, vu, vs] } }
    refine tail_any (ops := [.ref a, .ref s4.heap.objs.size]) ht.isList.typeIs (PySem.slot_list_getitem.lookup) ?_ (by with_unfolding_all rfl)
    refine wpAny_getItem_list_slice ht.isList (Heap.IsSliceOf.new _ vl vu vs) pl pu ps (by decide) ?_ (by rw [List.size_toArray]; omega)
    rw [PySem.W.krv_pick]
    refine ⟨.ref _, _, I5.laid (t' := s4.toks) (o := .lst xs.reverse) (fun b ob q => Heap.get?_push_of_some _ q) (Nat.le_refl _) ?_, rfl, q _ _ (same_new (I5.hok.fresh (Nat.le_refl _))) (.newL th (I5.hok.fresh (Nat.le_refl _)) h3.reverse (by rw [List.length_reverse]; exact h4))⟩
    exact ⟨by rw [List.length_reverse]; exact hz, _, 0, r.reverse, Heap.get?_push_size _ rfl⟩
  | tuple ds =>
    cases e
    obtain ⟨a, xs, rfl, h1, h2, h3, h4, h5⟩ := hx.i_tuple
    cases r1
    obtain ⟨its, r, ht, hz⟩ := I5.tuple (t_sqt h1)
    have hlen := r.length
    show wpAny (model X.prog X.w) X.A (subscriptTail _ (.Slice none none (some (.UnaryOp .USub (.Constant (.int 1) k p1) p2)) p3) (.ref a) (.ref s4.heap.objs.size)) (EP X pins σ Q) X.xe { s4 with heap := s4.heap.push { cls := .type "slice", data := .fields #[vl, vu, vs] } }
    refine tail_any (ops := [.ref a, .ref s4.heap.objs.size]) ht.typeIs (PyProof.Rows.slot_tuple_getitem.lookup) ?_ (by with_unfolding_all rfl)
    refine tup_rev ht (Heap.IsSliceOf.new _ vl vu vs) pl pu ps ?_ (by rw [List.size_toArray]; omega)
    refine ⟨.ref _, _, I5.laid (t' := s4.toks) (o := .tup xs.reverse) (fun b ob q => Heap.get?_push_of_some _ q) (Nat.le_refl _) ?_, rfl, q _ _ (same_new (I5.hok.fresh (Nat.le_refl _))) (.newT th (I5.hok.fresh (Nat.le_refl _)) h3.reverse (by rw [List.length_reverse]; exact h4))⟩
    exact ⟨by rw [List.length_reverse]; exact hz, _, r.reverse, IsTup.new _ _⟩

/-! ### calls of built-ins -/
inductive CSs (O : List Addr) (H : Hp) : List V → List D → Prop
  | nil : CSs O H [] []
  | cons {v : V} {vs : List V} {d : D} {ds : List D} : CS O H v d → CSs O H vs ds → CSs O H (v :: vs) (d :: ds)
def rDL (g : List D → Res D) : List V → Hp → VK → Prop := fun xs H Q => ∃ O ds d, There O H ∧ CSs O H xs ds ∧ g ds = .ok d ∧ ∀ v H', Same H H' → DS O H' v d → Q v H'
theorem CSs.one {O : List Addr} {H : Hp} {xs : List V} {d : D} (h : CSs O H xs [d]) : ∃ x, xs = [x] ∧ CS O H x d := by
  cases h with
  | cons h t => cases t; exact ⟨_, rfl, h⟩
theorem CSs.two {O : List Addr} {H : Hp} {xs : List V} {d e : D} (h : CSs O H xs [d, e]) : ∃ x y, xs = [x, y] ∧ CS O H x d ∧ CS O H y e := by
  cases h with
  | cons h t => cases t with
    | cons h2 t => cases t; exact ⟨_, _, rfl, h, h2⟩
theorem blD_ok {b : Bi} {ds : List D} {d : D} (h : blD b ds = .ok d) : (∃ x, ds = [x] ∧ bl1 b x = .ok d) ∨ ∃ x y, ds = [x, y] ∧ bl2 b x y = .ok d := by
  cases ds with
  | nil => cases h
  | cons x r => cases r with
    | nil => exact .inl ⟨x, rfl, h⟩
    | cons y r => cases r with
      | nil => exact .inr ⟨x, y, rfl, h⟩
      | cons => cases h
theorem intsOf_ok : ∀ {xs : List D} {l : List Int}, intsOf xs = .ok l → xs = l.map .int
  | [], _, h => by cases h; rfl
  | .int i :: r, l, h => by
    obtain ⟨l', h1, h2⟩ := Res.bind_ok (show (intsOf r).bind _ = .ok l from h)
    cases h2
    rw [intsOf_ok h1]
    rfl
  | .none :: _, _, h => by cases h
  | .bool _ :: _, _, h => by cases h
  | .str _ :: _, _, h => by cases h
  | .list _ :: _, _, h => by cases h
  | .tuple _ :: _, _, h => by cases h
  | .dict _ :: _, _, h => by cases h

theorem DKs.length {O : List Addr} {H : Hp} : ∀ {kvs : List (Key × V)} {es : List (D × D)}, DKs O H kvs es → kvs.length = es.length
  | _, _, .nil => rfl
  | _, _, .cons _ t => by simp [DKs.length t]
theorem DTs.length {O : List Addr} {H : Hp} : ∀ {kvs : List (List Key × V)} {es : List (D × D)}, DTs O H kvs es → kvs.length = es.length
  | _, _, .nil => rfl
  | _, _, .cons _ t => by simp [DTs.length t]

theorem s_len : CallR X (.builtin "len") (rDL (blD .len)) := by
  intro pins s σ H xs us Q I r h
  obtain ⟨O, ds, d, th, hs, e, q⟩ := h
  have hlim := lim_le
  rcases blD_ok e with ⟨dx, rfl, e⟩ | ⟨dx, dy, rfl, e⟩
  · obtain ⟨x, rfl, hx⟩ := hs.one
    have e : lenD dx = .ok d := e
    cases dx with
    | none => cases e
    | bool => cases e
    | int => cases e
    | str z =>
      cases e
      obtain ⟨rfl, hz⟩ := hx.i_str
      exact call_len pins s σ H _ us Q I r ⟨_, z.length, rfl, ⟨Nat.le_trans hz hlim, rfl⟩, q _ _ (Same.refl _) (.int _)⟩
    | list l =>
      cases e
      obtain ⟨a, ys, rfl, h1, h3, h4, h5⟩ := hx.i_list
      exact call_len pins s σ H _ us Q I r ⟨_, l.length, rfl, .inl ⟨ys, rd_sql h1, h5.symm⟩, q _ _ (Same.refl _) (.int _)⟩
    | tuple l =>
      cases e
      obtain ⟨a, ys, rfl, h1, h2, h3, h4, h5⟩ := hx.i_tuple
      exact call_len pins s σ H _ us Q I r ⟨_, l.length, rfl, .inr ⟨ys, t_sqt h1, h5.symm⟩, q _ _ (Same.refl _) (.int _)⟩
    | dict es =>
      obtain ⟨u, rfl, ru⟩ := vals1 r
      rcases hx.i_dict with ⟨a, kvs, rfl, h1, h2, h3⟩ | ⟨a, kvs, es', rfl, h1, h2, h3, rfl⟩
      · have nt := h2.notT
        have e' : (if isT es = true then Res.ok (PyData.int ((es.length - 1 : Nat) : Int)) else Res.ok (PyData.int es.length)) = Res.ok d := e
        rw [nt, if_neg Bool.false_ne_true] at e'
        cases e'
        cases ru
        exact d_len I (.inl h1) fun t s' I' => ⟨.int es.length, H, I', ⟨t, by rw [h2.length]⟩, q _ _ (Same.refl _) (.int _)⟩
      · have e' : Res.ok (PyData.int ((es'.length : Nat) : Int)) = Res.ok d := e
        cases e'
        exact call_len_dT pins s σ H _ _ Q I r ⟨a, kvs, rfl, h1, by rw [h2.length]; exact q _ _ (Same.refl _) (.int _)⟩
  · cases e
theorem s_tuple : CallR X (.type "tuple") (rDL (blD .tuple)) := by
  intro pins s σ H xs us Q I r h
  obtain ⟨O, ds, d, th, hs, e, q⟩ := h
  rcases blD_ok e with ⟨dx, rfl, e⟩ | ⟨dx, dy, rfl, e⟩
  · obtain ⟨x, rfl, hx⟩ := hs.one
    cases dx with
    | none => cases e
    | bool => cases e
    | int => cases e
    | str => cases e
    | dict => cases e
    | list l =>
      cases e
      obtain ⟨a, ys, rfl, h1, h3, h4, h5⟩ := hx.i_list
      exact call_tuple_of pins s σ H _ us Q I r ⟨a, ys, rfl, .inl ⟨rd_sql h1, fun p hp => q _ _ (same_new hp) (.newT th hp h3 h4)⟩⟩
    | tuple l =>
      cases e
      obtain ⟨a, ys, rfl, h1, h2, h3, h4, h5⟩ := hx.i_tuple
      exact call_tuple_of pins s σ H _ us Q I r ⟨a, ys, rfl, .inr ⟨t_sqt h1, q _ _ (Same.refl _) (.tup h1 h2 h3 h4)⟩⟩
  · cases e
theorem s_list : CallR X (.type "list") (rDL (blD .list)) := by
  intro pins s σ H xs us Q I r h
  obtain ⟨O, ds, d, th, hs, e, q⟩ := h
  rcases blD_ok e with ⟨dx, rfl, e⟩ | ⟨dx, dy, rfl, e⟩
  · obtain ⟨x, rfl, hx⟩ := hs.one
    cases dx with
    | none => cases e
    | bool => cases e
    | int => cases e
    | str => cases e
    | dict => cases e
    | list l =>
      cases e
      obtain ⟨a, ys, rfl, h1, h3, h4, h5⟩ := hx.i_list
      exact call_list_of pins s σ H _ us Q I r ⟨a, ys, rfl, .inl (rd_sql h1), fun p hp => q _ _ (same_new hp) (.newL th hp h3 h4)⟩
    | tuple l =>
      cases e
      obtain ⟨a, ys, rfl, h1, h2, h3, h4, h5⟩ := hx.i_tuple
      exact call_list_of pins s σ H _ us Q I r ⟨a, ys, rfl, .inr (t_sqt h1), fun p hp => q _ _ (same_new hp) (.newL th hp h3 h4)⟩
  · cases e
theorem s_sum (hc : X.calm = true) : CallR X (.builtin "sum") (rDL (blD .sum)) := by
  intro pins s σ H xs us Q I r h
  obtain ⟨O, ds, d, th, hs, e, q⟩ := h
  rcases blD_ok e with ⟨dx, rfl, e⟩ | ⟨dx, dy, rfl, e⟩
  · obtain ⟨x, rfl, hx⟩ := hs.one
    cases dx with
    | none => cases e
    | bool => cases e
    | int => cases e
    | str => cases e
    | dict => cases e
    | tuple => cases e
    | list l =>
      obtain ⟨is, h1, h2⟩ := Res.bind_ok (show (intsOf l).bind (fun l => .ok (.int l.sum)) = .ok d from e)
      cases h2
      have el := intsOf_ok h1
      subst el
      obtain ⟨a, ys, rfl, h1, h3, h4, h5⟩ := hx.i_list
      have ey := h3.ints
      subst ey
      exact cr_sum hc pins s σ H _ us Q I r ⟨a, is, rfl, rd_sql h1, q _ _ (Same.refl _) (.int _)⟩
  · cases e
theorem foldl_max_eq {a m : Int} {r : List Int} (hm : m ∈ a :: r) (h : ∀ y ∈ a :: r, y ≤ m) : r.foldl max a = m := by
  have up : ∀ (r : List Int) (a : Int), a ≤ r.foldl max a ∧ (∀ y ∈ r, y ≤ r.foldl max a) ∧ (r.foldl max a = a ∨ r.foldl max a ∈ r) := by
    intro r
    induction r with
    | nil => intro a; exact ⟨Int.le_refl _, by simp, .inl rfl⟩
    | cons b r ih =>
      intro a
      obtain ⟨h1, h2, h3⟩ := ih (max a b)
      rw [List.foldl_cons]
      refine ⟨by omega, fun y hy => ?_, ?_⟩
      · rcases List.mem_cons.mp hy with rfl | hy
        · omega
        · exact h2 y hy
      · rcases h3 with h3 | h3
        · by_cases hab : a ≤ b
          · right; rw [h3]; have : max a b = b := by omega
            rw [this]; exact List.mem_cons_self
          · left; rw [h3]; omega
        · right; exact List.mem_cons_of_mem _ h3
  obtain ⟨h1, h2, h3⟩ := up r a
  have b1 : r.foldl max a ≤ m := by
    rcases h3 with h3 | h3
    · rw [h3]; exact h a List.mem_cons_self
    · exact h _ (List.mem_cons_of_mem _ h3)
  have b2 : m ≤ r.foldl max a := by
    rcases List.mem_cons.mp hm with rfl | hm
    · exact h1
    · exact h2 _ hm
  omega
theorem foldl_min_eq {a m : Int} {r : List Int} (hm : m ∈ a :: r) (h : ∀ y ∈ a :: r, m ≤ y) : r.foldl min a = m := by
  have up : ∀ (r : List Int) (a : Int), r.foldl min a ≤ a ∧ (∀ y ∈ r, r.foldl min a ≤ y) ∧ (r.foldl min a = a ∨ r.foldl min a ∈ r) := by
    intro r
    induction r with
    | nil => intro a; exact ⟨Int.le_refl _, by simp, .inl rfl⟩
    | cons b r ih =>
      intro a
      obtain ⟨h1, h2, h3⟩ := ih (min a b)
      rw [List.foldl_cons]
      refine ⟨by omega, fun y hy => ?_, ?_⟩
      · rcases List.mem_cons.mp hy with rfl | hy
        · omega
        · exact h2 y hy
      · rcases h3 with h3 | h3
        · by_cases hab : b ≤ a
          · right; rw [h3]; have : min a b = b := by omega
            rw [this]; exact List.mem_cons_self
          · left; rw [h3]; omega
        · right; exact List.mem_cons_of_mem _ h3
  obtain ⟨h1, h2, h3⟩ := up r a
  have b1 : m ≤ r.foldl min a := by
    rcases h3 with h3 | h3
    · rw [h3]; exact h a List.mem_cons_self
    · exact h _ (List.mem_cons_of_mem _ h3)
  have b2 : r.foldl min a ≤ m := by
    rcases List.mem_cons.mp hm with rfl | hm
    · exact h1
    · exact h2 _ hm
  omega
theorem s_max (hc : X.calm = true) {b : Bi} (hb : b = .max1 ∨ b = .max2) : CallR X (.builtin "max") (rDL (blD b)) := by
  intro pins s σ H xs us Q I r h
  obtain ⟨O, ds, d, th, hs, e, q⟩ := h
  rcases blD_ok e with ⟨dx, rfl, e⟩ | ⟨dx, dy, rfl, e⟩
  · obtain ⟨x, rfl, hx⟩ := hs.one
    rcases hb with rfl | rfl
    · cases dx with
      | none => cases e
      | bool => cases e
      | int => cases e
      | str => cases e
      | dict => cases e
      | tuple => cases e
      | list l =>
        obtain ⟨is, h1, h2⟩ := Res.bind_ok (show (intsOf l).bind (fun l => match l with
          | [] => .bad
          | a :: r => .ok (.int (r.foldl max a))) = .ok d from e)
        have el := intsOf_ok h1
        subst el
        obtain ⟨a, ys, rfl, h1, h3, h4, h5⟩ := hx.i_list
        have ey := h3.ints
        subst ey
        match is, h2 with
        | i :: is, h2 =>
          cases h2
          exact cr_max hc pins s σ H _ us Q I r ⟨a, i :: is, rfl, rd_sql h1, by simp, fun m hm hM => by rw [← foldl_max_eq hm hM]; exact q _ _ (Same.refl _) (.int _)⟩
    · cases e
  · rcases hb with rfl | rfl
    · cases e
    · obtain ⟨x, y, rfl, hx, hy⟩ := hs.two
      cases dx with
      | none => cases e
      | bool => cases e
      | list => cases e
      | str => cases e
      | dict => cases e
      | tuple => cases e
      | int i => cases dy with
        | none => cases e
        | bool => cases e
        | list => cases e
        | str => cases e
        | dict => cases e
        | tuple => cases e
        | int j =>
          cases e
          cases hx.i_int; cases hy.i_int
          exact call_max2 hc pins s σ H _ us Q I r ⟨i, j, rfl, q _ _ (Same.refl _) (.int _)⟩
theorem s_min (hc : X.calm = true) {b : Bi} (hb : b = .min1 ∨ b = .min2) : CallR X (.builtin "min") (rDL (blD b)) := by
  intro pins s σ H xs us Q I r h
  obtain ⟨O, ds, d, th, hs, e, q⟩ := h
  rcases blD_ok e with ⟨dx, rfl, e⟩ | ⟨dx, dy, rfl, e⟩
  · obtain ⟨x, rfl, hx⟩ := hs.one
    rcases hb with rfl | rfl
    · cases dx with
      | none => cases e
      | bool => cases e
      | int => cases e
      | str => cases e
      | dict => cases e
      | tuple => cases e
      | list l =>
        obtain ⟨is, h1, h2⟩ := Res.bind_ok (show (intsOf l).bind (fun l => match l with
          | [] => .bad
          | a :: r => .ok (.int (r.foldl min a))) = .ok d from e)
        have el := intsOf_ok h1
        subst el
        obtain ⟨a, ys, rfl, h1, h3, h4, h5⟩ := hx.i_list
        have ey := h3.ints
        subst ey
        match is, h2 with
        | i :: is, h2 =>
          cases h2
          exact cr_min hc pins s σ H _ us Q I r ⟨a, i :: is, rfl, rd_sql h1, by simp, fun m hm hM => by rw [← foldl_min_eq hm hM]; exact q _ _ (Same.refl _) (.int _)⟩
    · cases e
  · rcases hb with rfl | rfl
    · cases e
    · obtain ⟨x, y, rfl, hx, hy⟩ := hs.two
      cases dx with
      | none => cases e
      | bool => cases e
      | list => cases e
      | str => cases e
      | dict => cases e
      | tuple => cases e
      | int i => cases dy with
        | none => cases e
        | bool => cases e
        | list => cases e
        | str => cases e
        | dict => cases e
        | tuple => cases e
        | int j =>
          cases e
          cases hx.i_int; cases hy.i_int
          exact call_min2 hc pins s σ H _ us Q I r ⟨i, j, rfl, q _ _ (Same.refl _) (.int _)⟩
end
end SQ

/-! SqOps4: methods by data; a number in a range. -/
set_option maxHeartbeats 1000000
namespace SQ
open PySem PySem.Spec PyProof.Rows L2
variable [TabsC]

section
/-- l.extend(b): b a list or a tuple, whatever its dict and slots -/
theorem ext_any {T : String} (hT : T = "list" ∨ T = "tuple") (l b : Addr) (xs zs : Array Value) (n m : Nat) (da : Option Addr) (sa : Array (Option Value)) (h0 : ¬(!xs.isEmpty && Builtin.List.listTooLong (xs.size + zs.size)) = true) (h1 : xs.size ≤ sizeLine) (h2 : xs.size + zs.size ≤ sizeLine + 1) :
    Meets (Builtin.«list.extend» ⟨[.ref l, .ref b], []⟩) (fun _ R st => st.heap.get? l = some { cls := .type "list", dict := none, data := .seq xs n, slots := #[] } ∧ st.heap.get? b = some { cls := .type T, dict := da, data := .seq zs m, slots := sa } ∧ R (.ok (.ret Value.none)) { st with heap := st.heap.update l (Obj.mapSeq fun x => x ++ zs), toks := st.toks }) :=
  .of_wp fun prog w A R st h => by
    have f1 := AutoSeq1.idx_int
    have f2 := AutoSeq1.sub_tuple_tuple
    have f3 := AutoSeq1.sub_list_list
    have f4 := AutoSeq1.sub_tuple_list
    have f5 := AutoSeq1.sub_list_tuple
    have h2' : (xs ++ zs).size ≤ sizeLine + 1 := by rw [Array.size_append]; exact h2
    rcases hT with rfl | rfl
    · obtain ⟨hp, g, d, tk, os⟩ := st
      obtain ⟨ha, hb, h⟩ := h
      wp_walk using (wpAny_updateSeq ha rfl (hz := h1) (_hz' := h2')), AutoSeq1.wpAny_loadPart' ha, AutoSeq1.wpAny_loadPart' hb
      exact ⟨_, rfl, h⟩
    · obtain ⟨hp, g, d, tk, os⟩ := st
      obtain ⟨ha, hb, h⟩ := h
      wp_walk using (wpAny_updateSeq ha rfl (hz := h1) (_hz' := h2')), AutoSeq1.wpAny_loadPart' ha, AutoSeq1.wpAny_loadPart' hb
      exact ⟨_, rfl, h⟩
end
section
variable {X : Cx}
def rExt : V → List V → Hp → VK → Prop := fun x vs H Q => ∃ l b xs zs, x = .ref l ∧ vs = [.ref b] ∧ H l = some (.lst xs) ∧ (Rd H b (.lst zs) ∨ H b = some (.tup zs)) ∧ xs.length + zs.length ≤ sizeLine ∧ Q .non (upd H l (.lst (xs ++ zs)))
theorem m_extend : MtM X "list.extend" rExt := by
  intro pins s σ H x vs v us Q I rx rv h
  obtain ⟨l, b, xs, zs, rfl, rfl, hH, hB, hz, q⟩ := h
  cases rx
  obtain ⟨u, rfl, ru⟩ := rv.one
  cases ru
  obtain ⟨z, its, n, r, hl, e⟩ := I.lstM hH
  have fin : ∀ (its2 : List Value) (T : String), (T = "list" ∨ T = "tuple") → Vals zs its2 → (∃ o : Obj, s.heap.get? b = some o ∧ o.cls = .type T ∧ ∃ m, o.data = .seq its2.toArray m) → wpAny (model X.prog X.w) X.A (call (.builtin "list.extend") [.ref l, .ref b]) (EP X pins σ Q) X.xe s := fun its2 T hT r2 ⟨⟨cl, da, dt, sa⟩, e2, hc, m, hd⟩ => by
    simp only at hc hd
    subst hc hd
    have l2 := r2.length
    have hsz : its.toArray.size + its2.toArray.size ≤ sizeLine := by rw [List.size_toArray, List.size_toArray]; omega
    have hlong : ¬ (!its.toArray.isEmpty && Builtin.List.listTooLong (its.toArray.size + its2.toArray.size)) = true := by
      rw [notLongL hsz, Bool.and_false]
      exact Bool.false_ne_true
    refine call_meets F.slot_list_extend ⟨_, e, rfl⟩ F.entry_list_extend (F.args_list_extend_2 _ _) (ext_any hT l b its.toArray its2.toArray n m da sa hlong (by rw [List.size_toArray]; omega) (by omega)) ⟨e, e2, ?_⟩
    refine ⟨.non, _, I.lset (its' := its ++ its2) hH e (by simp) (r.append r2) ?_, rfl, q⟩
    rw [List.length_append]
    omega
  rcases hB with hB | hB
  · obtain ⟨its2, r2, ⟨o, m, ho, hc, _, hd⟩, _⟩ := I.list (rd_sql hB)
    exact fin its2 "list" (.inl rfl) r2 ⟨o, ho, hc, m, hd⟩
  · obtain ⟨its2, r2, ⟨o, ho, hc, m, hd⟩, _⟩ := I.tuple (t_sqt hB)
    exact fin its2 "tuple" (.inr rfl) r2 ⟨o, ho, hc, m, hd⟩
/-- o.m(..) by data -/
def rDM (m : Mt) : V → List V → Hp → VK → Prop := fun x xs H Q => ∃ O dx ds d, There O H ∧ CS O H x dx ∧ DSs O H xs ds ∧ mtD m dx ds = .ok d ∧ ∀ v H', Same H H' → DS O H' v d → Q v H'

/-! ### sep.join(xs) -/
theorem join_cps (sep : Str) : ∀ ys : List Str, (Str.join sep ys).cps.toList = joinC sep.cps.toList (ys.map fun y => y.cps.toList)
  | [] => rfl
  | [x] => rfl
  | x :: y :: r => by
    have h := join_cps sep (y :: r)
    show ((x ++ sep) ++ Str.join sep (y :: r)).cps.toList = x.cps.toList ++ sep.cps.toList ++ joinC sep.cps.toList (y.cps.toList :: r.map fun y => y.cps.toList)
    rw [← List.map_cons (f := fun y : Str => y.cps.toList), ← h]
    show ((x.cps ++ sep.cps) ++ (Str.join sep (y :: r)).cps).toList = _
    rw [Array.toList_append, Array.toList_append]
theorem strsOf_ok {O : List Addr} {H : Hp} : ∀ {xs : List D} {l : List (List Nat)} {vs : List V}, strsOf xs = .ok l → DSs O H vs xs → ∃ ys : List Str, vs = ys.map V.str ∧ l = ys.map fun y => y.cps.toList
  | [], l, vs, h, hd => by
    cases h
    cases hd
    exact ⟨[], rfl, rfl⟩
  | .str s :: r, l, vs, h, hd => by
    obtain ⟨l', h1, h2⟩ := Res.bind_ok (show (strsOf r).bind _ = .ok l from h)
    cases h2
    cases hd with
    | cons a t =>
      obtain ⟨ys, rfl, rfl⟩ := strsOf_ok h1 t
      exact ⟨s :: ys, by rw [(a.i_str).1]; rfl, rfl⟩
  | .none :: _, _, _, h, _ => by cases h
  | .bool _ :: _, _, _, h, _ => by cases h
  | .int _ :: _, _, _, h, _ => by cases h
  | .list _ :: _, _, _, h, _ => by cases h
  | .tuple _ :: _, _, _, h, _ => by cases h
  | .dict _ :: _, _, _, h, _ => by cases h
theorem join_len (a : List Nat) : ∀ l : List (List Nat), (l.map List.length).sum + (l.length - 1) * a.length = (joinC a l).length
  | [] => by simp [joinC]
  | [x] => by simp [joinC]
  | x :: y :: r => by
    have h := join_len a (y :: r)
    show ((x :: y :: r).map List.length).sum + _ = (x ++ a ++ joinC a (y :: r)).length
    rw [List.length_append, List.length_append, ← h]
    simp only [List.map_cons, List.sum_cons, List.length_cons, Nat.add_sub_cancel]
    rw [Nat.succ_mul]
    omega
theorem m_join : MtR X "str.join" (rDM .join) := by
  intro pins s σ H x xs v us Q I rx rs h
  obtain ⟨O, dx, ds, d, th, hx, hs, e, q⟩ := h
  have key : ∀ {a : Str} {l : List D} {p : Addr} {vs : List V}, xs = [.ref p] → x = .str a → (SqL X.K H p vs ∨ SqT X.K H p vs) → DSs O H vs l → l.length ≤ lim → a.cps.size ≤ lim →
      ((strsOf l).bind fun l => if (joinC a.cps.toList l).length ≤ lim then Res.ok (SQ.T (joinC a.cps.toList l)) else .bad) = .ok d → wpAny (model X.prog X.w) X.A (call (.builtin "str.join") (v :: us)) (EP X pins σ Q) X.xe s := by
    intro a l p vs e1 e2 hp hd hl ha e
    obtain ⟨z, h1, h2⟩ := Res.bind_ok e
    obtain ⟨ys, rfl, rfl⟩ := strsOf_ok h1 hd
    split at h2
    · rename_i hz
      cases h2
      have hjl := join_len a.cps.toList (ys.map fun y => y.cps.toList)
      have l1 : lim = 1000000 := rfl
      have hm : ((ys.map fun y => y.cps.toList).map List.length) = ys.map (·.length) := by
        rw [List.map_map]
        exact List.map_congr_left fun y _ => by simp [Str.length]
      rw [hm, List.length_map, show a.cps.toList.length = a.cps.size from Array.length_toList] at hjl
      have hal : a.length = a.cps.size := rfl
      have hb : ys.length * a.length ≤ (ys.length - 1) * a.cps.size + a.cps.size := by
        rw [hal, ← Nat.succ_mul]
        exact Nat.mul_le_mul_right _ (by omega)
      refine mt_join pins s σ H x xs v us Q I rx rs ⟨a, p, ys, e2, e1, hp, by omega, ?_⟩
      have ej : Txt.join a ys = ⟨(joinC a.cps.toList (ys.map fun y => y.cps.toList)).toArray⟩ := by
        rw [← join_cps]
        show Builtin.Str.glued a ys = _
        rw [StrLaws.glued_eq_join]
      rw [ej]
      exact q _ _ (Same.refl _) (.str _ (by rw [List.size_toArray]; exact hz))
    · cases h2
  cases dx with
  | str a =>
    obtain ⟨ex, ha⟩ := hx.i_str
    match ds, e with
    | [.list l], e =>
      cases hs with
      | cons h1 t =>
        cases t
        obtain ⟨p, vs, rfl, g1, g2, g3, g4, _⟩ := h1.i_list
        exact key rfl ex (.inl (rd_sql g1)) g3 g4 ha e
    | [.tuple l], e =>
      cases hs with
      | cons h1 t =>
        cases t
        obtain ⟨p, vs, rfl, g1, g2, g3, g4, _⟩ := h1.i_tuple
        exact key rfl ex (.inr (t_sqt g1)) g3 g4 ha e
  | _ => cases e

/-! ### xs.index(d) -/
theorem m_index (hu : X.A.units + 64 < cLine) : MtR X "list.index" (rDM .index) := by
  intro pins s σ H x xs v us Q I rx rs h
  obtain ⟨O, dx, ds0, d, th, hx, hs, e, q⟩ := h
  cases dx with
  | list ds =>
    match ds0, e with
    | [dd], e =>
      cases hs with
      | cons hy t =>
        cases t
        have e : (if (fl (.list ds) && fl dd) = true then (match ds.findIdx? fun z => PyData.eqv z dd with
          | some j => Res.ok (PyData.int (j : Nat))
          | none => .bad) else .bad) = .ok d := e
        split at e
        · rename_i hz
          rw [Bool.and_eq_true] at hz
          cases ej : ds.findIdx? fun z => PyData.eqv z dd with
          | none => rw [ej] at e; cases e
          | some j =>
            rw [ej] at e
            cases e
            obtain ⟨hjd, e1, e2⟩ := List.findIdx?_eq_some_iff_getElem.mp ej
            obtain ⟨a, vs, rfl, h1, h3, h4, h5⟩ := hx.i_list
            cases rx
            cases rs with
            | cons ry rt =>
              rename_i uy ut
              cases rt
              have pl : PyData.plainAll ds = true := by simpa [PyData.plain] using fl_plain hz.1
              obtain ⟨bs, r1⟩ := DS.reads I dd _ uy hy ry (fl_plain hz.2)
              have hd2 := fl_depth hz.2
              have hmin : min (PyData.depthAll ds) dd.depth ≤ dd.depth := Nat.min_le_right _ _
              obtain ⟨its, rv, ⟨⟨cls, dct, data, sls⟩, n, ho, hc, hdn, hdt⟩, hlen⟩ := I.list (rd_sql h1)
              simp only at hc hdt
              subst hc hdt
              obtain ⟨as, h4'⟩ := DS.readsAll I ds _ its h3 rv pl
              have hn : its.length = ds.length := SeqAt.ReadsAll.length ds its as h4'
              have hmap : its.map (SeqAt.readOf s.heap) = ds := SeqAt.readsAll_map_plain ds its as pl h4'
              have hvl := rv.length
              have hsl := sizeLine_eq
              have hjl : j < its.length := by omega
              have hj : j < its.toArray.size := by simpa using hjl
              have at_ : ∀ (m : Nat) (hm : m < its.toArray.size) (hd : m < ds.length), SeqAt.readOf s.heap its.toArray[m] = ds[m] := by
                intro m hm hd
                have hml : m < its.length := by simpa using hm
                have e0 : (its.map (SeqAt.readOf s.heap))[m]? = ds[m]? := by rw [hmap]
                rw [List.getElem?_map, List.getElem?_eq_getElem hml, List.getElem?_eq_getElem hd] at e0
                have e9 : SeqAt.readOf s.heap its[m] = ds[m] := Option.some.inj e0
                simpa using e9
              refine call_meets PySem.F.slot_list_index ⟨_, ho, rfl⟩ PySem.F.entry_list_index (PySem.F.args_list_index_2 _ _)
                (SeqAt.list_indexAt a its.toArray n dct sls uy (fun u => PyData.eqv (SeqAt.readOf s.heap u) dd) j hj (by omega) ?_ ?_) ⟨ho, SeqAt.items_plain (vs := its.toArray) (show ReadsAll s.heap its.toArray.toList ds as from h4') r1 pl (fl_plain hz.2) (by omega), ?_⟩
              · show PyData.eqv (SeqAt.readOf s.heap its.toArray[j]) dd = true
                rw [at_ j hj hjd]
                exact e1
              · intro m hm hmj
                have hmd : m < ds.length := by omega
                show PyData.eqv (SeqAt.readOf s.heap its.toArray[m]) dd = false
                rw [at_ m hm hmd]
                have := e2 m hmj
                simpa using this
              · exact ⟨.int (j : Nat), H, I.tok _, ⟨_, rfl⟩, q _ _ (Same.refl _) (.int _)⟩
        · cases e
  | _ => cases e

/-! ### letters.index(x) -/
theorem letter_at : ∀ c < 26, Builtin.Str.occurrences alphaS ⟨#[97 + c]⟩ 0 alphaS.length 1 = [c] := by decide +kernel
theorem m_sidx : MtR X "str.index" (rDM .sidx) := by
  intro pins s σ H x xs v us Q I rx rs h
  obtain ⟨O, dx, ds, d, th, hx, hs, e, q⟩ := h
  cases dx with
  | str a =>
    obtain ⟨ex, ha⟩ := hx.i_str
    match ds, e with
    | [.str b], e =>
      cases hs with
      | cons h1 t =>
        cases t
        obtain ⟨ey, hb⟩ := h1.i_str
        subst ex ey
        have e : (if a = alphaS ∧ b.cps.size = 1 ∧ 97 ≤ b.cps.getD 0 0 ∧ b.cps.getD 0 0 ≤ 122 then Res.ok (PyData.int ((b.cps.getD 0 0 - 97 : Nat) : Int)) else .bad) = .ok d := e
        split at e
        · rename_i hz
          cases e
          obtain ⟨rfl, hz1, hz2, hz3⟩ := hz
          have eb := str_one hz1
          have ho := letter_at (b.cps.getD 0 0 - 97) (by omega)
          rw [show 97 + (b.cps.getD 0 0 - 97) = b.cps.getD 0 0 by omega, ← eb] at ho
          obtain ⟨t, rfl⟩ := rx
          cases rs with
          | cons ry rt =>
            cases rt
            obtain ⟨u, rfl⟩ := ry
            exact PySem.SC.index ho ⟨.int (b.cps.getD 0 0 - 97 : Nat), H, I.tok _, ⟨_, rfl⟩, q _ _ (Same.refl _) (.int _)⟩
        · cases e
  | _ => cases e

/-! ### d.get(k, x) -/
theorem m_get (hu : X.A.units + 64 < cLine) : MtR X "dict.get" (rDM .get) := by
  intro pins s σ H x xs v us Q I rx rs h
  obtain ⟨O, dx, ds0, d, th, hx, hs, e, q⟩ := h
  cases dx with
  | dict es =>
    match ds0, e with
    | [k, z], e =>
      cases hs with
      | cons hk t =>
        cases t with
        | cons hz t =>
          cases t
          have e : (if keyD es k = true then Res.ok ((kvGet k es).getD z) else .bad) = .ok d := e
          split at e
          · rename_i kd
            cases e
            obtain ⟨a, o, rfl, g, ho⟩ := dict_get hx (.ds hk) kd
            cases rx
            cases rs with
            | cons ry rt =>
              cases rt with
              | cons rz rt =>
                cases rt
                refine d_get2 (hu1 hu) I g ry rz fun w' s' I' rw' => ⟨_, H, I', rw', ?_⟩
                rcases ho with ⟨rfl, e1⟩ | ⟨y, d', rfl, e1, hd⟩
                · rw [e1] at q
                  exact q _ _ (Same.refl _) hz
                · rw [e1] at q
                  exact q _ _ (Same.refl _) hd
          · cases e
  | _ => cases e

/-! ### i not in range(n) -/
theorem op_nir : OpR X (compareOp .NotIn) (fun x y H Q => ∃ i a lo hi, x = V.int i ∧ y = V.ref a ∧ H a = some (.rng lo hi) ∧ Q (.bl (!decide (lo ≤ i ∧ i < hi))) H) := by
  intro pins s σ H x y v u Q I rx ry h
  obtain ⟨i, a, lo, hi, rfl, rfl, ha, q⟩ := h
  obtain ⟨k, rfl⟩ := rx
  obtain rfl : u = Value.ref a := ry
  obtain ⟨t1, t2, t3, ho⟩ := I.hok a _ ha
  show wpAny _ _ (do return Value.bool (!(← contains (Value.ref a) (Value.int i k)))) _ _ s
  refine wpAny_bind (wpAny_contains_slot (T := "range") ⟨_, ho, rfl⟩ F.slot_range_contains (call_meets F.slot_range_contains ⟨_, ho, rfl⟩ F.entry_range_contains (F.args_range_contains_2 _ _) (q_contains a lo hi i t1 t2 t3 k)
    ⟨ho, wpAny_truthy_bool (wpAny_pure ⟨.bl _, H, I, rfl, ?_⟩)⟩))
  rw [place1]
  exact q
theorem cr_range1 : CallR X (.type "range") (fun vs H Q => ∃ j, vs = [V.int j] ∧ ∀ p, H p = none → Q (.ref p) (upd H p (.rng 0 j))) := by
  intro pins s σ H vs us Q I r h
  obtain ⟨j, rfl, q⟩ := h
  cases r with
  | cons rj r =>
    cases r
    obtain ⟨u, rfl⟩ := rj
    refine call_range_1 ⟨.ref s.heap.objs.size, upd H s.heap.objs.size (.rng 0 j), I.laid (t' := s.toks + 1 + 1) (fun b o e => Heap.get?_push_of_some _ e) (Nat.le_refl _) ?_, rfl, q _ (I.hok.fresh (Nat.le_refl _))⟩
    exact ⟨_, u, _, Heap.get?_push_size _ rfl⟩
/-! ### isinstance(x, list) -/
theorem call_isL : CallR X (.builtin "isinstance") (fun xs H Q => ∃ a ys, xs = [.ref a, .ty "list"] ∧ Rd H a (.lst ys) ∧ Q (.bl true) H) := by
  intro pins s σ H xs us Q I r h
  obtain ⟨a, ys, rfl, hd, q⟩ := h
  cases r with
  | cons rx rr =>
    cases rr with
    | cons rt rr =>
      cases rr
      cases rt
      have e : PySem.W.kitOne X.K (.type "list") (.type "list") = some true := if_pos (beq_self_eq_true _)
      have ty : TyOf X.K H (.ref a) (.type "list") := by
        rcases hd with hd | ⟨o, hd⟩
        · exact .lst hd
        · exact .frz hd
      exact isinst_ok I rx ty e fun tk => ⟨.bl true, H, I.kept (t' := tk) fun _ _ z => z, rfl, q⟩

theorem call_isT : CallR X (.builtin "isinstance") (fun xs H Q => ∃ a ys, xs = [.ref a, .ty "tuple"] ∧ H a = some (.tup ys) ∧ Q (.bl true) H) := by
  intro pins s σ H xs us Q I r h
  obtain ⟨a, ys, rfl, hd, q⟩ := h
  cases r with
  | cons rx rr =>
    cases rr with
    | cons rt rr =>
      cases rr
      cases rt
      have e : PySem.W.kitOne X.K (.type "tuple") (.type "tuple") = some true := if_pos (beq_self_eq_true _)
      exact isinst_ok I rx (.tup hd) e fun tk => ⟨.bl true, H, I.kept (t' := tk) fun _ _ z => z, rfl, q⟩

/-! ### sorted(d), the keys texts -/
theorem lt_irr : ∀ a : List Nat, PySem.Spec.ltCps a a = false
  | [] => rfl
  | x :: a => by simp [PySem.Spec.ltCps, lt_irr a]
theorem le_anti : ∀ {a b : List Nat}, PySem.Spec.ltCps a b = false → PySem.Spec.ltCps b a = false → a = b
  | [], [], _, _ => rfl
  | [], _ :: _, h, _ => by simp [PySem.Spec.ltCps] at h
  | _ :: _, [], _, h => by simp [PySem.Spec.ltCps] at h
  | x :: a, y :: b, h1, h2 => by
    simp only [PySem.Spec.ltCps, Bool.or_eq_false_iff, Bool.and_eq_false_iff, decide_eq_false_iff_not, beq_eq_false_iff_ne] at h1 h2
    have e : x = y := by omega
    subst e
    rcases h1.2 with h | h
    · exact absurd rfl h
    · rcases h2.2 with h' | h'
      · exact absurd rfl h'
      · rw [le_anti h h']
theorem le_trans' : ∀ {a b c : List Nat}, PySem.Spec.ltCps b a = false → PySem.Spec.ltCps c b = false → PySem.Spec.ltCps c a = false
  | [], _, [], _, _ => rfl
  | [], _, _ :: _, _, _ => rfl
  | _ :: _, [], _, h, _ => by simp [PySem.Spec.ltCps] at h
  | _ :: _, _ :: _, [], _, h => by simp [PySem.Spec.ltCps] at h
  | x :: a, y :: b, z :: c, h1, h2 => by
    simp only [PySem.Spec.ltCps, Bool.or_eq_false_iff, Bool.and_eq_false_iff, decide_eq_false_iff_not, beq_eq_false_iff_ne] at h1 h2 ⊢
    refine ⟨by omega, ?_⟩
    by_cases e : z = x
    · right
      have e1 : y = x := by omega
      have e2 : z = y := by omega
      exact le_trans' (h1.2.resolve_left (fun k => k e1)) (h2.2.resolve_left (fun k => k e2))
    · exact .inl e
theorem lt_le {a b : List Nat} (h : PySem.Spec.ltCps a b = true) : PySem.Spec.ltCps b a = false := by
  cases e : PySem.Spec.ltCps b a with
  | false => rfl
  | true =>
    exfalso
    have key : ∀ a b : List Nat, PySem.Spec.ltCps a b = true → PySem.Spec.ltCps b a = true → False := by
      intro a
      induction a with
      | nil => intro b h1 h2; cases b <;> simp [PySem.Spec.ltCps] at h1 h2
      | cons x a ih =>
        intro b h1 h2
        cases b with
        | nil => simp [PySem.Spec.ltCps] at h1
        | cons y b =>
          simp only [PySem.Spec.ltCps, Bool.or_eq_true, Bool.and_eq_true, decide_eq_true_eq, beq_iff_eq] at h1 h2
          rcases h1 with h1 | h1
          · rcases h2 with h2 | h2
            · omega
            · omega
          · rcases h2 with h2 | h2
            · omega
            · exact ih b h1.2 h2.2
    exact key a b h e
def SrtP (l : List (List Nat)) : Prop := l.Pairwise fun a b => PySem.Spec.ltCps b a = false
theorem srt_uniq : ∀ {l k : List (List Nat)}, l.Perm k → SrtP l → SrtP k → l = k
  | [], k, h, _, _ => (h.symm.eq_nil).symm
  | a :: l, [], h, _, _ => absurd h.eq_nil (by simp)
  | a :: l, b :: k, h, h1, h2 => by
    have ha : a ∈ b :: k := h.mem_iff.mp List.mem_cons_self
    have hb : b ∈ a :: l := h.mem_iff.mpr List.mem_cons_self
    have h1' := List.pairwise_cons.mp h1
    have h2' := List.pairwise_cons.mp h2
    have e : a = b := by
      rcases List.mem_cons.mp ha with e | ha
      · exact e
      · rcases List.mem_cons.mp hb with e | hb
        · exact e.symm
        · exact le_anti (h2'.1 a ha) (h1'.1 b hb)
    subst e
    rw [srt_uniq (List.Perm.cons_inv h) h1'.2 h2'.2]
theorem insC_perm (x : List Nat) : ∀ l, (insC x l).Perm (x :: l)
  | [] => .refl _
  | y :: r => by
    unfold insC
    split
    · exact ((insC_perm x r).cons y).trans (List.Perm.swap x y r)
    · exact .refl _
theorem sortC_perm : ∀ l, (sortC l).Perm l
  | [] => .refl _
  | x :: l => (insC_perm x (sortC l)).trans ((sortC_perm l).cons x)
theorem insC_srt (x : List Nat) : ∀ {l}, SrtP l → SrtP (insC x l)
  | [], _ => List.pairwise_singleton _ _
  | y :: r, h => by
    have h' := List.pairwise_cons.mp h
    unfold insC
    split
    · rename_i hl
      refine List.pairwise_cons.mpr ⟨fun z hz => ?_, insC_srt x h'.2⟩
      rcases List.mem_cons.mp ((insC_perm x r).mem_iff.mp hz) with rfl | hz
      · exact lt_le hl
      · exact h'.1 z hz
    · rename_i hl
      have hl : PySem.Spec.ltCps y x = false := by simpa using hl
      refine List.pairwise_cons.mpr ⟨fun z hz => ?_, h⟩
      rcases List.mem_cons.mp hz with rfl | hz
      · exact hl
      · exact le_trans' hl (h'.1 z hz)
theorem sortC_srt : ∀ l, SrtP (sortC l)
  | [] => List.Pairwise.nil
  | x :: l => insC_srt x (sortC_srt l)
theorem rising_srt : ∀ (l : List Str) (p : Str), PyProof.Rows.risingS p l = true → SrtP ((p :: l).map fun y => y.cps.toList)
  | [], p, _ => List.pairwise_singleton _ _
  | x :: r, p, h => by
    have h : (!PySem.Spec.ltCps x.cps.toList p.cps.toList && PyProof.Rows.risingS x r) = true := h
    rw [Bool.and_eq_true, Bool.not_eq_true'] at h
    have ih := rising_srt r x h.2
    refine List.pairwise_cons.mpr ⟨fun z hz => ?_, ih⟩
    rcases List.mem_cons.mp hz with rfl | hz
    · exact h.1
    · exact le_trans' h.1 ((List.pairwise_cons.mp ih).1 z hz)
theorem sortedS_srt {l : List Str} (h : PyProof.Rows.sortedS l = true) : SrtP (l.map fun y => y.cps.toList) := by
  cases l with
  | nil => exact List.Pairwise.nil
  | cons p l => exact rising_srt l p h
theorem strs_keys {O : List Addr} {H : Hp} : ∀ {kvs : List (Key × V)} {es : List (D × D)} {ss : List (List Nat)}, DKs O H kvs es → strsOf (es.map (·.1)) = .ok ss → ∃ ks : List Str, kvs.map (·.1) = ks.map Sum.inr ∧ ss = ks.map fun y => y.cps.toList
  | _, _, ss, .nil, e => by cases e; exact ⟨[], rfl, rfl⟩
  | (k, v) :: kvs, _, ss, .cons h t, e => by
    cases k with
    | inl i => cases e
    | inr s =>
      obtain ⟨l, h1, h2⟩ := Res.bind_ok (show (strsOf _).bind (fun l => Res.ok (s.cps.toList :: l)) = .ok ss from e)
      cases h2
      obtain ⟨ks, h3, h4⟩ := strs_keys t h1
      exact ⟨s :: ks, by rw [List.map_cons, h3]; rfl, by rw [h4]; rfl⟩
theorem strs_ds {O : List Addr} {H : Hp} : ∀ {ys : List Str}, (∀ y ∈ ys, y.cps.size ≤ lim) → DSs O H (ys.map V.str) (ys.map PyData.str)
  | [], _ => .nil
  | y :: ys, h => .cons (.str y (h y List.mem_cons_self)) (strs_ds fun z hz => h z (List.mem_cons_of_mem _ hz))
end
end SQ

/-! SqOps5: sorted of lists and tuples of data; text.split, text.count, text.isalpha; text * int; list(range), tuple(range). -/
set_option maxHeartbeats 1000000
namespace PySem.W
open PySem PySem.Calls PyProof.Rows
section
variable {prog : Program} {w : World} {A : Around} {E : Value → Shared → Prop} {s : Shared}
/-- the items of a tuple, collected -/
theorem sq_col_tup {p : Addr} {us : List Value} {R : List Value → Shared → Prop} (ht : s.heap.IsTuple p us.toArray)
    (hR : R us { s with heap := (s.heap.push (seqObj "list" #[] 0)).update s.heap.objs.size (Obj.mapSeq (· ++ us.toArray)) }) (hz : us.length ≤ sizeLine) : wpAny (model prog w) A (collect (.ref p)) R E s := by
  obtain ⟨o, go, gc, n, gd⟩ := id ht
  unfold collect
  refine wpAny_bind (wpAny_runValue (codeAny_builtin entry_proto_collect' ?_))
  show wpAny _ _ (do
    again (.builtin "list.__iadd__" ⟨[← newList [], .ref p], []⟩)) _ _ s
  refine wpAny_bind (wpAny_newList (wpAny_pure ⟨Code.quiet_builtin _ (by decide +kernel), codeAny_builtin entry_list_iadd' ?_⟩))
  show wpAny _ _ (Builtin.List.listExtendWith (.ref s.heap.objs.size) (.ref p) (.ref s.heap.objs.size)) _ _ { s with
    heap := s.heap.push (seqObj "list" #[] 0) }
  unfold Builtin.List.listExtendWith
  have go2 : (s.heap.push (seqObj "list" #[] 0)).get? p = some o := Heap.get?_push_of_some _ go
  refine wpAny_bind (wpAny_typeOf (T := "tuple") ⟨o, go2, gc⟩ ?_)
  have hty : (Value.type "tuple" == Value.type "tuple") = true := by rfl
  rw [if_pos (by rw [hty]; simp)]
  refine wpAny_bind (listItems_at go2 gd ?_)
  refine wpAny_bind (listItems_at (n := 0) (xs := #[]) (Heap.get?_push_size _ rfl) rfl ?_)
  rw [if_neg (by simp)]
  refine wpAny_bind (listUpdate_at (n := 0) (xs := #[]) (Heap.get?_push_size _ rfl) rfl ?_ (Nat.zero_le _) (by
    show (#[] ++ us.toArray).size ≤ sizeLine + 1
    simp only [Array.size_append, List.size_toArray, List.length_nil]
    omega))
  refine wpAny_pure ?_
  show wpAny (model prog w) A (load s.heap.objs.size >>= fun o => match o.data with
      | .seq xs _ => pure xs.toList
      | _ => unsupported "internal:collect") R E _
  refine wpAny_bind (wpAny_load (get?_update_seq (Heap.get?_push_size _ rfl) _) ?_)
  show wpAny _ _ (pure (#[] ++ us.toArray : Array Value).toList) R E _
  rw [show (#[] ++ us.toArray : Array Value).toList = us by simp]
  exact wpAny_pure hR
/-- sorted(x), x collected somehow: what list.sort does to a new list -/
theorem sq_sorted {x : Value} {us : List Value} {Q : Value → Shared → Prop} (hz : us.length ≤ sizeLine)
    (col : ∀ {R : List Value → Shared → Prop}, R us { s with heap := (s.heap.push (seqObj "list" #[] 0)).update s.heap.objs.size (Obj.mapSeq (· ++ us.toArray)) } → wpAny (model prog w) A.in1 (collect x) R E s)
    (col' : ∀ {E' : Value → Shared → Prop} {R : List Value → Shared → Prop}, R us { s with heap := (s.heap.push (seqObj "list" #[] 0)).update s.heap.objs.size (Obj.mapSeq (· ++ us.toArray)) } → wpAny (model prog w) A.in1 (collect x) R E' s)
    (srt : ∀ E' : Value → Shared → Prop, wpAny (model prog w) A.in1.in1 (Builtin.«list.sort» ⟨[.ref (s.heap.objs.size + 1)], []⟩) (fun f t => f = .done (.ret .none) ∧ Q (.ref (s.heap.objs.size + 1)) t) E' { s with heap := copyHeap s.heap us }) :
    wpAny (model prog w) A (call (.builtin "sorted") [x]) Q E s := by
  refine call_function_entry_kw kind_sorted plain_sorted entry_sorted (args_sorted1 _) ?_
  unfold Builtin.«sorted»
  refine wpAny_bind (m := checkCount "sorted" 1 1 _) (wpAny_pure ?_)
  refine wpAny_bind (col' ?_)
  refine wpAny_bind (wpAny_newList ?_ hz)
  have sz : ((s.heap.push (seqObj "list" #[] 0)).update s.heap.objs.size (Obj.mapSeq (· ++ us.toArray))).objs.size = s.heap.objs.size + 1 := by rw [Heap.size_update, size_push']
  show wpAny _ _ _ _ _ { s with
    heap := copyHeap s.heap us }
  rw [sz]
  refine wpAny_bind (wpAny_holding (wpAny_call_entry_kw slot_list_sort ⟨_, copyHeap_at s.heap us, rfl⟩ entry_list_sort ?_ (args_list_sort _)))
  refine wpAny_mono (srt _) (fun f t ht => ?_) fun _ _ e => e
  obtain ⟨rfl, hq⟩ := ht
  exact ⟨_, rfl, wpAny_pure ⟨_, rfl, hq⟩⟩
/-- sorted of a tuple of data -/
theorem sq_sorted_tup {p : Addr} {us : List Value} {ds : List PyData} {R : Value → PyData → Prop} {Q : Value → Shared → Prop} (ht : s.heap.IsTuple p us.toArray) (e : EachIs R us ds) (er : EachIs (fun v d => ∃ as, Reads s.heap v d as) us ds)
    (hal : AllAlike ds) (hk : Sortable ds) (hz : us.length ≤ sizeLine) (hu : ∀ d, d ∈ ds → A.units + 2 + d.depth < cLine)
    (h : ∀ out, out.length = ds.length → EachIs R out (ds.mergeSort (dataLe false id)) → Q (.ref (s.heap.objs.size + 1)) { s with heap := sortedAll s.heap us (List.toArray out) }) : wpAny (model prog w) A (call (.builtin "sorted") [.ref p]) Q E s := by
  have idm : ds.map id = ds := List.map_id ds
  refine sq_sorted hz (fun hR => sq_col_tup ht hR hz) (fun hR => sq_col_tup ht hR hz) fun E' => ?_
  have er2 : EachIs (fun v d => ∃ as, Reads (sortingHeap (copyHeap s.heap us) (s.heap.objs.size + 1) us) v d as) us ds := er.mono fun _ _ ⟨as, r⟩ => ⟨as, PyProof.Rows.Reads.keeps (fun _ _ => sorting_copy_old) r⟩
  refine list_sort_vals (s := { s with heap := copyHeap s.heap us }) (copyHeap_at s.heap us) (SortsAt.data (s := { s with heap := sortingHeap (copyHeap s.heap us) (s.heap.objs.size + 1) us }) er2 hal hk hu) hz ⟨rfl, ?_⟩
  refine h _ (by rw [sortVals_length false rfl]; exact e.length) ?_
  have := sortVals_data (enc := id) false e er2 (by rw [idm]; exact hal)
  rw [idm] at this
  exact this
end
end PySem.W
namespace SQ
open PySem PySem.Spec PyProof.Rows L2
variable [TabsC]
section
variable {X : Cx}
/-- the values of data, as they stand -/
theorem each_of {O : List Addr} {H : Hp} : ∀ {ds : List D} {vs : List V} {us : List Value}, DSs O H vs ds → Vals vs us → PySem.W.EachIs (fun u d => ∃ x, RelV x u ∧ DS O H x d) us ds
  | [], _, _, hd, hv => by
    cases hd; cases hv; exact .nil
  | d :: ds, _, _, hd, hv => by
    cases hd with
    | cons h t =>
      cases hv with
      | cons r rv => exact .cons ⟨_, r, h⟩ (each_of t rv)
theorem of_each {O : List Addr} {H : Hp} : ∀ {us : List Value} {ds : List D}, PySem.W.EachIs (fun u d => ∃ x, RelV x u ∧ DS O H x d) us ds → ∃ vs, Vals vs us ∧ DSs O H vs ds
  | _, _, .nil => ⟨[], .nil, .nil⟩
  | _, _, .cons ⟨x, r, h⟩ t => by
    obtain ⟨vs, h1, h2⟩ := of_each t
    exact ⟨x :: vs, .cons r h1, .cons h h2⟩
theorem each_reads {pins : List (Addr × Obj)} {σ : L2.St} {H : Hp} {s : Shared} {O : List Addr} (I : Inv X pins σ H s) : ∀ {ds : List D} {vs : List V} {us : List Value}, DSs O H vs ds → Vals vs us → (∀ d ∈ ds, d.plain = true) →
    PySem.W.EachIs (fun u d => ∃ as, Reads s.heap u d as) us ds
  | [], _, _, hd, hv, _ => by
    cases hd; cases hv; exact .nil
  | d :: ds, _, _, hd, hv, hp => by
    cases hd with
    | cons h t =>
      cases hv with
      | cons r rv => exact .cons (DS.reads I d _ _ h r (hp d List.mem_cons_self)) (each_reads I t rv fun x hx => hp x (List.mem_cons_of_mem _ hx))
theorem sortD_ok {xs : List D} {d : D} (h : sortD xs = .ok d) : PySem.W.AllAlike xs ∧ PySem.W.Sortable xs ∧ (∀ x ∈ xs, fl x = true) ∧ d = .list (xs.mergeSort (W.dataLe false id)) := by
  unfold sortD at h
  split at h
  · rename_i c
    rw [Bool.and_eq_true, Bool.or_eq_true] at c
    obtain ⟨c1, c2⟩ := c
    rw [List.all_eq_true] at c1
    injection h with h
    have c3 : ∀ x ∈ xs, fl x = true ∧ ∀ y ∈ xs, W.alike x y = true := fun x hx => by
      have := c1 x hx
      rw [Bool.and_eq_true, List.all_eq_true] at this
      exact this
    refine ⟨fun x hx y hy => (c3 x hx).2 y hy, ?_, fun x hx => (c3 x hx).1, h.symm⟩
    rcases c2 with c2 | c2
    · refine .inl fun x hx => ?_
      have := List.all_eq_true.mp c2 x hx
      split at this
      · exact ⟨_, _, rfl⟩
      · cases this
    · refine .inr fun x hx => ?_
      have := List.all_eq_true.mp c2 x hx
      split at this
      · cases this
      · cases this
      · rename_i n1 n2
        exact ⟨fun e => n2 e, fun l e => n1 l e⟩
  · cases h
theorem mSort_len (xs : List D) : (xs.mergeSort (W.dataLe false id)).length = xs.length := (List.mergeSort_perm _ _).length_eq
/-- sorted(x), x a list or a tuple of data -/
theorem s_sortD (hu : X.A.units + 64 < cLine) {pins : List (Addr × Obj)} {σ : L2.St} {H : Hp} {s : Shared} {O : List Addr} {x : V} {u : Value} {l : List D} {d : D} {Q : VK} (I : Inv X pins σ H s) (th : There O H) (r : RelV x u)
    (hx : CS O H x (.list l) ∨ CS O H x (.tuple l)) (e : sortD l = .ok d) (q : ∀ v H', Same H H' → DS O H' v d → Q v H') : wpAny (model X.prog X.w) X.A (call (.builtin "sorted") [u]) (EP X pins σ Q) X.xe s := by
  obtain ⟨e1, e2, e3, rfl⟩ := sortD_ok e
  have pl : ∀ d ∈ l, d.plain = true := fun d hd => fl_plain (e3 d hd)
  have room : ∀ d, d ∈ l → X.A.units + 2 + d.depth < cLine := fun d hd => by have := fl_depth (e3 d hd); omega
  have idm : l.map id = l := List.map_id l
  have fin : ∀ (us out : List Value), out.length = l.length → l.length ≤ lim → PySem.W.EachIs (fun u d => ∃ x, RelV x u ∧ DS O H x d) out (l.mergeSort (W.dataLe false id)) → EP X pins σ Q (.ref (s.heap.objs.size + 1)) { s with heap := sortedAll s.heap us (List.toArray out) } := fun us out _ hl ho => by
    obtain ⟨vs, v1, v2⟩ := of_each ho
    obtain ⟨ep, he⟩ := PyProof.Rows.sortedAll_at s.heap us out.toArray
    have len2 := v2.length
    rw [mSort_len] at len2
    have l1 := lim_le
    have hp := I.hok.fresh (Nat.le_succ s.heap.objs.size)
    refine ⟨.ref _, upd H (s.heap.objs.size + 1) (.lst vs), I.laid (t' := s.toks) (fun _ _ => PyProof.Rows.sortedAll_old) (Nat.le_succ _) ⟨by omega, out, ep, v1, he⟩, rfl, q _ _ (same_new hp) (.newL th hp v2 (by rw [mSort_len]; exact hl))⟩
  rcases hx with hx | hx
  · obtain ⟨a, xs, rfl, h1, h3, h4, h5⟩ := hx.i_list
    cases r
    obtain ⟨its, rv, hl, hz⟩ := I.list (rd_sql h1)
    have l2 : its.length = l.length := rv.length.symm.trans h5
    have er := each_reads I h3 rv pl
    refine PySem.W.sorted_data (enc := id) hl.isList (each_of h3 rv) er (by rw [idm]; exact e1) (by rw [idm]; exact e2) (by have := lim_le; omega) room fun out ho he => fin its out ho h4 he
  · obtain ⟨a, xs, rfl, h1, h2, h3, h4, h5⟩ := hx.i_tuple
    cases r
    obtain ⟨its, rv, hl, hz⟩ := I.tuple (t_sqt h1)
    have l2 : its.length = l.length := rv.length.symm.trans h5
    refine PySem.W.sq_sorted_tup ?_ (each_of h3 rv) (each_reads I h3 rv pl) e1 e2 (by have := lim_le; omega) room fun out ho he => fin its out ho h4 he
    obtain ⟨o, g1, g2, m, g3⟩ := hl
    exact ⟨o, g1, g2, m, g3⟩
theorem s_sorted (hc : X.calm = true) (hu : X.A.units + 64 < cLine) : CallR X (.builtin "sorted") (rDL (blD .sorted)) := by
  intro pins s σ H xs us Q I r h
  obtain ⟨O, ds, d, th, hs, e, q⟩ := h
  rcases blD_ok e with ⟨dx, rfl, e⟩ | ⟨dx, dy, rfl, e⟩
  · obtain ⟨x, rfl, hx⟩ := hs.one
    cases dx with
    | dict es =>
      have e : (if isT es = true then .bad else sortK (es.map (·.1))) = .ok d := e
      split at e
      · cases e
      · rename_i nt
        obtain ⟨ss, h1, h2⟩ := Res.bind_ok e
        split at h2
        · rename_i hz
          cases h2
          rcases hx.i_dict with ⟨a, kvs, rfl, g1, g2, _⟩ | ⟨a, kvs, es', rfl, g1, g2, _, rfl⟩
          · obtain ⟨ks, k1, rfl⟩ := strs_keys g2 h1
            refine call_sortedD hc pins s σ H _ us Q I r ⟨a, kvs, ks, rfl, .inl g1, k1, by simpa using hz.1, fun ys p hp hsrt hn => ?_⟩
            have eu : ys.map (fun y => y.cps.toList) = sortC (ks.map fun y => y.cps.toList) := srt_uniq ((hp.map _).trans (sortC_perm _).symm) (sortedS_srt hsrt) (sortC_srt _)
            have hl : ∀ y ∈ ys, y.cps.size ≤ lim := fun y hy => by
              have := List.all_eq_true.mp hz.2 y.cps.toList (List.mem_map.mpr ⟨y, hp.mem_iff.mp hy, rfl⟩)
              have := of_decide_eq_true this
              rwa [Array.length_toList] at this
            have ed : (sortC (ks.map fun y => y.cps.toList)).map SQ.T = ys.map PyData.str := by
              rw [← eu, List.map_map]
              refine List.map_congr_left fun y _ => ?_
              show PyData.str ⟨y.cps.toList.toArray⟩ = _
              rw [Array.toArray_toList]
            rw [ed] at q
            have l1 : lim = 1000000 := rfl
            have hlen : ys.length < 64 := by rw [hp.length_eq]; simpa using hz.1
            exact q _ _ (same_new hn) (.newL th hn (strs_ds hl) (by rw [List.length_map]; omega))
          · exact absurd rfl nt
        · cases h2
    | list l =>
      cases r with
      | cons r1 rr => cases rr; exact s_sortD hu I th r1 (.inl hx) e q
    | tuple l =>
      cases r with
      | cons r1 rr => cases rr; exact s_sortD hu I th r1 (.inr hx) e q
    | _ => cases e
  · cases e

/-! ### text.split(sign) -/
theorem splitC_ne (c : Nat) : ∀ l : List Nat, splitC c l ≠ []
  | [] => fun h => nomatch h
  | y :: l => by
    unfold splitC
    split
    · exact fun h => nomatch h
    · split <;> exact fun h => nomatch h
theorem splitC_same (c : Nat) (r : List Nat) : splitC c (c :: r) = [] :: splitC c r := by
  show (if c = c then [] :: splitC c r else _) = _
  rw [if_pos rfl]
theorem splitC_diff {c x : Nat} (h : x ≠ c) {r a : List Nat} {t : List (List Nat)} (hs : splitC c r = a :: t) : splitC c (x :: r) = (x :: a) :: t := by
  show (if x = c then [] :: splitC c r else match splitC c r with
    | [] => [[x]]
    | a :: l => (x :: a) :: l) = _
  rw [if_neg h, hs]
theorem spl_splitC (c : Nat) : ∀ (l acc : List Nat) (a : List Nat) (t : List (List Nat)), splitC c l = a :: t → TL.spl [c] 0 acc l = (acc ++ a) :: t
  | [], acc, a, t, h => by
    have h : [[]] = a :: t := h
    injection h with h1 h2
    subst h1; subst h2
    show [acc] = (acc ++ []) :: []
    rw [List.append_nil]
  | x :: r, acc, a, t, h => by
    obtain ⟨a', t', hs⟩ : ∃ a' t', splitC c r = a' :: t' := by
      cases hs : splitC c r with
      | nil => exact absurd hs (splitC_ne c r)
      | cons a' t' => exact ⟨a', t', rfl⟩
    by_cases hx : x = c
    · subst hx
      have hp : TL.pre [x] (x :: r) = true := by
        show ((x :: r).take 1 == [x]) = true
        exact beq_self_eq_true [x]
      rw [splitC_same] at h
      injection h with h1 h2
      subst h1
      show (if TL.pre [x] (x :: r) = true then acc :: TL.spl [x] 0 [] r else TL.spl [x] 0 (acc ++ [x]) r) = _
      rw [if_pos hp, spl_splitC x r [] a' t' hs, ← h2, hs, List.append_nil]
      rfl
    · have hp : ¬ TL.pre [c] (x :: r) = true := by
        show ¬ ((x :: r).take 1 == [c]) = true
        intro z
        have z : [x] = [c] := eq_of_beq z
        injection z with z
        exact hx z
      rw [splitC_diff hx hs] at h
      injection h with h1 h2
      subst h1; subst h2
      show (if TL.pre [c] (x :: r) = true then acc :: TL.spl [c] 0 [] r else TL.spl [c] 0 (acc ++ [x]) r) = _
      rw [if_neg hp, spl_splitC c r (acc ++ [x]) a' t' hs, List.append_assoc]
      rfl
theorem splitC_len (c : Nat) : ∀ l : List Nat, (splitC c l).length ≤ l.length + 1 ∧ ∀ p ∈ splitC c l, p.length ≤ l.length
  | [] => ⟨Nat.le_refl _, fun p h => by rw [List.mem_singleton.mp h]; exact Nat.le_refl _⟩
  | x :: r => by
    obtain ⟨h1, h2⟩ := splitC_len c r
    unfold splitC
    by_cases h : x = c
    · rw [if_pos h]
      refine ⟨by rw [List.length_cons, List.length_cons]; omega, fun p hp => ?_⟩
      rcases List.mem_cons.mp hp with rfl | hp
      · exact Nat.zero_le _
      · exact Nat.le_succ_of_le (h2 p hp)
    · rw [if_neg h]
      cases hs : splitC c r with
      | nil =>
        refine ⟨Nat.succ_le_succ (Nat.zero_le _), fun p hp => ?_⟩
        rw [List.mem_singleton.mp hp, List.length_cons]
        exact Nat.succ_le_succ (Nat.zero_le _)
      | cons a t =>
        rw [hs] at h1 h2
        refine ⟨by rw [List.length_cons] at h1 ⊢; rw [List.length_cons]; omega, fun p hp => ?_⟩
        rcases List.mem_cons.mp hp with rfl | hp
        · exact Nat.succ_le_succ (h2 a List.mem_cons_self)
        · exact Nat.le_succ_of_le (h2 p (List.mem_cons_of_mem _ hp))
theorem m_split : MtR X "str.split" (rDM .split) := by
  intro pins s σ H x xs v us Q I rx rs h
  obtain ⟨O, dx, ds, d, th, hx, hs, e, q⟩ := h
  cases dx with
  | str a =>
    obtain ⟨ex, ha⟩ := hx.i_str
    match ds, e with
    | [.str t], e =>
      cases hs with
      | cons h1 tl1 =>
        cases tl1
        obtain ⟨rfl, ht⟩ := h1.i_str
        have e : (if t.cps.size = 1 ∧ t.cps.getD 0 0 < 256 ∧ a.cps.size + 2 ≤ lim then Res.ok (PyData.list ((splitC (t.cps.getD 0 0) a.cps.toList).map SQ.T)) else .bad) = .ok d := e
        split at e
        · rename_i hz
          cases e
          obtain ⟨z1, z2, z3⟩ := hz
          have et := str_one z1
          generalize t.cps.getD 0 0 = c at et z2 q
          subst et
          have key : (Txt.split a ⟨#[c]⟩).map (fun y => y.cps.toList) = splitC c a.cps.toList := by
            have h1 := TL.split_spl a ⟨#[c]⟩ (fun h => nomatch h) (TL.kind_ok (by simp; exact z2))
            refine Eq.trans h1 ?_
            cases hs : splitC c a.cps.toList with
            | nil => exact absurd hs (splitC_ne c _)
            | cons a' t' => exact (spl_splitC c a.cps.toList [] a' t' hs).trans rfl
          obtain ⟨g1, g2⟩ := splitC_len c a.cps.toList
          have hl : (Txt.split a ⟨#[c]⟩).length ≤ a.cps.size + 1 := by
            have h9 := congrArg List.length key
            rw [List.length_map] at h9
            rw [h9]
            exact Nat.le_trans g1 (by rw [Array.length_toList]; exact Nat.le_refl _)
          have l1 := lim_le
          refine mt_split pins s σ H x _ v us Q I rx rs ⟨a, ⟨#[c]⟩, ex, rfl, rfl, ?_, fun p hp => ?_⟩
          · show a.cps.size + 2 ≤ sizeLine
            omega
          · have ed : (splitC c a.cps.toList).map SQ.T = (Txt.split a ⟨#[c]⟩).map PyData.str := by
              rw [← key, List.map_map]
              refine List.map_congr_left fun y _ => ?_
              show PyData.str ⟨y.cps.toList.toArray⟩ = _
              rw [Array.toArray_toList]
            rw [ed] at q
            refine q _ _ (same_new hp) (.newL th hp (strs_ds fun y hy => ?_) (by rw [List.length_map]; omega))
            have := g2 y.cps.toList (by rw [← key]; exact List.mem_map.mpr ⟨y, hy, rfl⟩)
            rw [Array.length_toList] at this
            exact Nat.le_trans this (by omega)
        · cases e
  | _ => cases e
theorem cnt_filter (c : Nat) : ∀ l : List Nat, PyProof.Rows.cnt c l = ((l.filter fun x => decide (x = c)).length : Nat)
  | [] => rfl
  | x :: r => by
    rw [PyProof.Rows.cnt_cons, cnt_filter c r]
    by_cases h : x = c
    · rw [if_pos h, List.filter_cons_of_pos (by simpa using h), List.length_cons]
      omega
    · rw [if_neg h, List.filter_cons_of_neg (by simpa using h)]
      omega
theorem m_count : MtR X "str.count" (rDM .count) := by
  intro pins s σ H x xs v us Q I rx rs h
  obtain ⟨O, dx, ds, d, th, hx, hs, e, q⟩ := h
  cases dx with
  | str a =>
    obtain ⟨ex, ha⟩ := hx.i_str
    match ds, e with
    | [.str t], e =>
      cases hs with
      | cons h1 tl1 =>
        cases tl1
        obtain ⟨rfl, ht⟩ := h1.i_str
        have e : (if t.cps.size = 1 then Res.ok (PyData.int ((a.cps.toList.filter fun c => decide (c = t.cps.getD 0 0)).length : Nat)) else .bad) = .ok d := e
        split at e
        · rename_i z1
          cases e
          have et := str_one z1
          generalize t.cps.getD 0 0 = c at et q
          subst et
          refine mt_count pins s σ H x _ v us Q I rx rs ⟨a, ⟨#[c]⟩, ex, rfl, ?_⟩
          rw [PyProof.Rows.count_cnt, cnt_filter]
          exact q _ _ (Same.refl _) (.int _)
        · cases e
  | _ => cases e
end
end SQ

/-! SqChk: is this piece of the program's syntax that piece of the language C? -/
namespace SQ
open PySem L2

/-- what the names mean: functions by number, constants of the module -/
structure Nms where
  fn : Nat → Option Str
  cn : List (Str × D)
  /-- the exceptions: name, number, fields -/
  ex : List (Str × Nat × List Str)

def opIs : Op → Operator → Bool
  | .add, .Add => true
  | .sub, .Sub => true
  | .mul, .Mult => true
  | .mod, .Mod => true
  | .fdiv, .FloorDiv => true
  | .pow, .Pow => true
  | _, _ => false
def cmIs : Cm → CmpOp → Bool
  | .eq, .Eq => true
  | .ne, .NotEq => true
  | .lt, .Lt => true
  | .le, .LtE => true
  | .gt, .Gt => true
  | .ge, .GtE => true
  | .isin, .In => true
  | .notin, .NotIn => true
  | _, _ => false
def visB (sc : Scope) (x : Str) : Bool := match sc.names.lookup x with
  | some .local => true
  | some .cell => true
  | some .free => true
  | _ => false
def locB (sc : Scope) (x : Str) : Bool := match sc.names.lookup x with
  | some .local => true
  | some .cell => true
  | _ => false
def glB (sc : Scope) (x : Str) : Bool := decide (sc.names.lookup x = some .globalImplicit) && !(x == ("__debug__" : Str))
def varB (N : List Str) (sc : Scope) (i : Nat) (x : Str) : Bool := decide (N[i]? = some x) && visB sc x && !(x == ("__debug__" : Str)) && !(x == ("__classdict__" : Str))
def datB : D → Const → Bool
  | .none, .none => true
  | .bool b, .bool c => b == c
  | .int i, .int j => decide (i = j)
  | .str s, .str t => decide (s = t) && decide (s.cps.size ≤ lim)
  | _, _ => false
def conB : D → D → Bool
  | .int i, .int j => decide (i = j)
  | .str s, .str t => decide (s = t) && decide (s.cps.size ≤ lim)
  | _, _ => false
/-- built-ins by name; is it a class -/
def biName : Bi → Option (Str × Bool)
  | .len => some ("len", false)
  | .max1 => some ("max", false)
  | .max2 => some ("max", false)
  | .min1 => some ("min", false)
  | .min2 => some ("min", false)
  | .sum => some ("sum", false)
  | .tuple => some ("tuple", true)
  | .list => some ("list", true)
  | .sorted => some ("sorted", false)
  | .all => some ("all", false)
  | .any => some ("any", false)
  | _ => none
def biOk : Bi → Bool
  | .len | .max1 | .max2 | .min1 | .min2 | .sum | .tuple | .list | .sorted => true
  | _ => false
/-- methods by name, the number of their arguments -/
def mtName : Mt → Option (Str × Nat)
  | .join => some ("join", 1)
  | .index => some ("index", 1)
  | .split => some ("split", 1)
  | .count => some ("count", 1)
  | .sidx => some ("index", 1)
  | .get => some ("get", 2)
  | _ => none
def plainO : Expr → Bool
  | .Call _ _ _ _ => false
  | _ => true
def notSlice : Expr → Bool
  | .Slice _ _ _ _ => false
  | _ => true
def notSet : Expr → Bool
  | .Set _ _ _ => false
  | _ => true
def notLst : Expr → Bool
  | .List _ _ => false
  | _ => true
def notStar : Expr → Bool
  | .Starred _ _ => false
  | _ => true
def isMinus1 : Expr → Bool
  | .UnaryOp .USub (.Constant (.int 1) _ _) _ => true
  | _ => false

/-- a display of a dict: constants -/
def keyOf : D → Option Key
  | .int i => some (.inl i)
  | .str s => some (.inr s)
  | _ => none
def dvOf : D → Option V
  | .int i => some (.int i)
  | .str s => some (.str s)
  | _ => none
def kvsOf : C → C → Option (List (Key × V))
  | .nil, .nil => some []
  | .cons (.dat k) kr, .cons (.dat v) vr => match keyOf k, dvOf v, kvsOf kr vr with
    | some a, some b, some l => some ((a, b) :: l)
    | _, _, _ => none
  | _, _ => none
def chkD : C → C → List (Option Expr) → List Expr → Bool
  | .nil, .nil, ks, vs => ks.isEmpty && vs.isEmpty
  | .cons (.dat k) kr, .cons (.dat v) vr, ks, vs => match ks, vs with
    | some (.Constant a _ _) :: ks, .Constant b _ _ :: vs => datB k a && datB v b && chkD kr vr ks vs
    | _, _ => false
  | _, _, _, _ => false
section
variable (n : Nms) (N : List Str)
/-- a target of an assignment, a for, a comprehension -/
def chkT (so sr : Scope) : C → Expr → Bool
  | .var i, .Name x _ => decide (N[i]? = some x) && locB so x && locB sr x && (decide (so.names.lookup x = some .cell) || decide (sr.names.lookup x = some .local))
  | .tup es, .Tuple l _ _ => chkTs so sr es l
  | _, _ => false
where chkTs (so sr : Scope) : C → List Expr → Bool
  | .nil, [] => true
  | .cons (.var i) r, .Name x _ :: l => decide (N[i]? = some x) && locB so x && locB sr x && (decide (so.names.lookup x = some .cell) || decide (sr.names.lookup x = some .local)) && chkTs so sr r l
  | _, _ => false

mutual
/-- an expression; w: it is only looked at -/
def chkE (w : Bool) (so sr : Scope) : C → Expr → Bool
  | .wv i, e => match e with
    | .Name x _ => w && varB N sr i x
    | _ => false
  | .var i, e => match e with
    | .Name x _ => varB N sr i x
    | _ => false
  | .dat d, e => match e with
    | .Constant c _ _ => datB d c
    | _ => false
  | .con x d, e => match e with
    | .Name y _ => decide (x = y) && glB sr x && (match n.cn.lookup x with
      | some d' => conB d d'
      | none => false)
    | _ => false
  | .neg a, e => match e with
    | .UnaryOp .USub x _ => chkE false so sr a x
    | _ => false
  | .bin o a b, e => match e with
    | .BinOp x p y _ => opIs o p && chkE true so sr a x && chkE true so sr b y
    | _ => false
  | .cmp o a b, e => match e with
    | .Compare x [p] [y] _ => cmIs o p && chkE true so sr a x && chkE true so sr b y && !behindInMarks p y
    | _ => false
  | .isn a, e => match e with
    | .Compare x [.Is] [.Constant .none _ _] _ => chkE false so sr a x
    | _ => false
  | .nisn a, e => match e with
    | .Compare x [.IsNot] [.Constant .none _ _] _ => chkE false so sr a x
    | _ => false
  | .isl a, e => match e with
    | .Call (.Name x _) [y, .Name z _] [] _ => decide (x = "isinstance") && decide (z = "list") && glB sr "isinstance" && glB sr "list" && chkE true so sr a y && notStar y
    | _ => false
  | .ist a, e => match e with
    | .Call (.Name x _) [y, .Name z _] [] _ => decide (x = "isinstance") && decide (z = "tuple") && glB sr "isinstance" && glB sr "tuple" && chkE true so sr a y && notStar y
    | _ => false
  | .lrg t a, e => match e with
    | .Call (.Name x _) [.Call (.Name y _) [z] [] _] [] _ => decide (x = if t then "tuple" else "list") && glB sr x && decide (y = "range") && glB sr "range" && chkE false so sr a z && notStar z
    | _ => false
  | .chn o o' a b c, e => match e with
    | .Compare x [p, p'] [y, z] _ => cmIs o p && cmIs o' p' && chkE false so sr a x && chkE false so sr b y && chkE false so sr c z && !behindInMarks p' z
    | _ => false
  | .and a b, e => match e with
    | .BoolOp .And (x :: y :: r) pos => chkE false so sr a x && (match r with
      | [] => chkE false so sr b y
      | _ => chkE false so sr b (.BoolOp .And (y :: r) pos))
    | _ => false
  | .or a b, e => match e with
    | .BoolOp .Or (x :: y :: r) pos => chkE false so sr a x && (match r with
      | [] => chkE false so sr b y
      | _ => chkE false so sr b (.BoolOp .Or (y :: r) pos))
    | _ => false
  | .not a, e => match e with
    | .UnaryOp .Not x _ => chkE true so sr a x
    | _ => false
  | .ite t a b, e => match e with
    | .IfExp x y z _ => chkE true so sr t x && chkE false so sr a y && chkE false so sr b z
    | _ => false
  | .tup es, e => match e with
    | .Tuple l _ _ => chkL false so sr es l && decide (l.length ≤ 1000)
    | _ => false
  | .lst es, e => match e with
    | .List l _ => chkL false so sr es l && decide (l.length ≤ 1000)
    | _ => false
  | .dic ks vs, e => match e with
    | .Dict l m _ => chkD ks vs l m && decide (l.length ≤ 15) && !l.isEmpty && (match kvsOf ks vs with
      | some kvs => decide ((kvs.map (·.1)).Nodup)
      | none => false)
    | _ => false
  | .idx a i, e => match e with
    | .Subscript x y _ => chkE true so sr a x && chkE false so sr i y && notSlice y
    | _ => false
  | .slc a lo hi, e => match e with
    | .Subscript x (.Slice l h none _) _ => chkE true so sr a x && (match l with
      | none => lo.isNa
      | some y => !lo.isNa && chkE false so sr lo y) && (match h with
      | none => hi.isNa
      | some y => !hi.isNa && chkE false so sr hi y)
    | _ => false
  | .rev a, e => match e with
    | .Subscript x (.Slice none none (some y) _) _ => chkE true so sr a x && isMinus1 y
    | _ => false
  | .call f es, e => match e with
    | .Call (.Name x _) l [] _ => decide (n.fn f = some x) && glB sr x && chkL false so sr es l && !l.isEmpty
    | _ => false
  | .callb f es, e => match e with
    | .Call (.Name x _) l [] _ => decide (n.fn f = some x) && glB sr x && chkL true so sr es l && !l.isEmpty
    | _ => false
  | .blt b es, e => match e with
    | .Call (.Name x _) l [] _ => biOk b && (match biName b with
      | some p => decide (p.1 = x)
      | none => false) && glB sr x && chkL true so sr es l && !l.isEmpty
    | .Compare x [.NotIn] [.Call (.Name f _) [.Constant (.int m) _ _] [] _] _ => (match b, es with
      | .nir, .cons a (.cons (.dat (.int k)) .nil) => decide (f = "range") && glB sr "range" && decide (m = k) && chkE false so sr a x
      | _, _ => false)
    | _ => false
  | .mth m a es, e => match e with
    | .Call (.Attribute o x ap) (y :: l) [] cp => (match mtName m with
      | some p => decide (p.1 = x) && decide (l.length + 1 = p.2)
      | none => false) && plainO o && (ap.endLine == cp.line) && chkE true so sr a o && chkL false so sr es (y :: l)
    | _ => false
  | .cmp1 tg src elt cond, e => match e with
    | .ListComp x [⟨t, it, ifs, 0⟩] scope _ => (match src with
        | .rng lo hi st => (match it with
          | .Call (.Name x _) [a] [] _ => decide (x = "range") && glB sr "range" && (match lo, st with
            | .dat (.int 0), .dat (.int 1) => true
            | _, _ => false) && chkE false so sr hi a && notStar a
          | .Call (.Name x _) [a, b] [] _ => decide (x = "range") && glB sr "range" && (match st with
            | .dat (.int 1) => true
            | _ => false) && chkE false so sr lo a && chkE false so sr hi b && notStar a && notStar b
          | .Call (.Name x _) [a, b, c] [] _ => decide (x = "range") && glB sr "range" && chkE false so sr lo a && chkE false so sr hi b && chkE false so sr st c && notStar a && notStar b && notStar c
          | _ => false)
        | src => chkE true so sr src it) && notSet it && chkT N scope (relS scope sr) tg t && !sr.isGenerator &&
        blkC N sr scope ((slots tg).map fun i => (N.getD i "", i)) &&
        chkE false scope (relS scope sr) elt x && (match ifs with
          | [] => cond.isNa
          | [c] => !cond.isNa && chkE true scope (relS scope sr) cond c
          | _ => false)
    | _ => false
  | .cmp2 tg src tg' src' elt, e => match e with
    | .ListComp x [⟨t, it, [], 0⟩, ⟨t', it', [], 0⟩] scope _ => chkE true so sr src it && notSet it && chkT N scope (relS scope sr) tg t && !sr.isGenerator &&
        blkC N sr scope ((slots tg ++ slots tg').map fun i => (N.getD i "", i)) && chkE false scope (relS scope sr) src' it' && notSet it' && chkT N scope (relS scope sr) tg' t' &&
        chkE false scope (relS scope sr) elt x
    | _ => false
  | .gen al tg src elt, e => match e with
    | .Call (.Name nm _) [.GeneratorExp x [⟨t, it, [], 0⟩] scope _] [] _ => (match src with
        | .rng lo hi st => (match it with
          | .Call (.Name x _) [a] [] _ => decide (x = "range") && glB sr "range" && (match lo, st with
            | .dat (.int 0), .dat (.int 1) => true
            | _, _ => false) && chkE false so sr hi a && notStar a
          | .Call (.Name x _) [a, b] [] _ => decide (x = "range") && glB sr "range" && (match st with
            | .dat (.int 1) => true
            | _ => false) && chkE false so sr lo a && chkE false so sr hi b && notStar a && notStar b
          | .Call (.Name x _) [a, b, c] [] _ => decide (x = "range") && glB sr "range" && chkE false so sr lo a && chkE false so sr hi b && chkE false so sr st c && notStar a && notStar b && notStar c
          | _ => false)
        | src => chkE true so sr src it) && notSet it && notLst it && chkT N scope scope tg t && !sr.isGenerator &&
        blkC N sr scope ((slots tg).map fun i => (N.getD i "", i)) && decide (nm = genNm al) && glB sr nm && scope.isGenerator && !scope.isCoroutine && (scope.names.all fun y => !(decide (y.2 = .cell))) && decide (scope.names.lookup (".0" : Str) = some .local) &&
        chkE false scope scope elt x
    | _ => false
  | _, _ => false
/-- a row of expressions -/
def chkL (w : Bool) (so sr : Scope) : C → List Expr → Bool
  | .nil, l => l.isEmpty
  | .cons a r, l => match l with
    | x :: l => chkE w so sr a x && notStar x && chkL w so sr r l
    | [] => false
  | _, _ => false
end
/-- what a for walks -/
def chkS (w : Bool) (so sr : Scope) (src : C) (it : Expr) : Bool := match src with
  | .rng lo hi st => (match it with
    | .Call (.Name x _) [a] [] _ => decide (x = "range") && glB sr "range" && (match lo, st with
      | .dat (.int 0), .dat (.int 1) => true
      | _, _ => false) && chkE n N false so sr hi a && notStar a
    | .Call (.Name x _) [a, b] [] _ => decide (x = "range") && glB sr "range" && (match st with
      | .dat (.int 1) => true
      | _ => false) && chkE n N false so sr lo a && chkE n N false so sr hi b && notStar a && notStar b
    | .Call (.Name x _) [a, b, c] [] _ => decide (x = "range") && glB sr "range" && chkE n N false so sr lo a && chkE n N false so sr hi b && chkE n N false so sr st c && notStar a && notStar b && notStar c
    | _ => false)
  | src => chkE n N w so sr src it
end
end SQ

/-! SqRep: a frame's slots by data (Rep); what a context must know (Gd); readings by what ev reckons (tE, tT, tA). -/
set_option maxHeartbeats 1000000
namespace SQ
open PySem PySem.Spec PyProof.Rows L2
variable [TabsC]

/-- a list or dict that one slot alone holds -/
inductive Own (O : List Addr) (H : Hp) (p : Addr) : D → Prop
  | lst {xs : List V} {ds : List D} : H p = some (.lst xs) → DSs O H xs ds → ds.length ≤ lim → Own O H p (.list ds)
  | dk {kvs : List (Key × V)} {es : List (D × D)} : H p = some (.dK kvs) → DKs O H kvs es → es.length ≤ lim → Own O H p (.dict es)
  | dt {kvs : List (List Key × V)} {es : List (D × D)} : H p = some (.dT kvs) → DTs O H kvs es → es.length ≤ lim → Own O H p (.dict ((.none, .none) :: es))
theorem Own.cs {O : List Addr} {H : Hp} {p : Addr} {d : D} (h : Own O H p d) : CS O H (.ref p) d := by
  cases h with
  | lst h t l => exact .lst (.inl h) t l
  | dk h t l => exact .dk h t l
  | dt h t l => exact .dt h t l
theorem Own.same {O : List Addr} {H H' : Hp} {p : Addr} {d : D} (s : Same H H') (h : Own O H p d) : Own O H' p d := by
  cases h with
  | lst h t l => exact .lst (s _ _ h) (t.same s) l
  | dk h t l => exact .dk (s _ _ h) (t.same s) l
  | dt h t l => exact .dt (s _ _ h) (t.same s) l

structure Rep (Oc Of : List Addr) (σ : L2.St) (H : Hp) (en : En) : Prop where
  len : σ.length = en.length
  val : ∀ (i : Nat) (d : D), en.at i = .v d → ∃ v, σ[i]? = some (some v) ∧ DS (Oc ++ Of) H v d
  own : ∀ (i : Nat) (d : D), en.at i = .o d → ∃ p, σ[i]? = some (some (.ref p)) ∧ p ∈ Of ∧ Own (Oc ++ Of) H p d
  inj : ∀ (i j : Nat) (d d' : D) (p : Addr), en.at i = .o d → en.at j = .o d' → σ[i]? = some (some (.ref p)) → σ[j]? = some (some (.ref p)) → i = j
  th : There (Oc ++ Of) H
  dj : ∀ p ∈ Of, p ∉ Oc
theorem Rep.same {Oc Of : List Addr} {σ : L2.St} {H H' : Hp} {en : En} (s : Same H H') (r : Rep Oc Of σ H en) : Rep Oc Of σ H' en :=
  ⟨r.len, fun i d e => let ⟨v, h1, h2⟩ := r.val i d e; ⟨v, h1, h2.same s⟩, fun i d e => let ⟨p, h1, h2, h3⟩ := r.own i d e; ⟨p, h1, h2, h3.same s⟩, r.inj, r.th.same s, r.dj⟩

/-- the exceptions of the program: their classes, the names of their fields -/
structure Tb where
  ea : Nat → Addr
  en : Nat → List Str
def ExcIs (T : Tb) (c : Nat) (xs : List D) (cls : Value) (d : Option Addr) (H : Hp) : Prop :=
  cls = .ref (T.ea c) ∧ ∃ dd fs, d = some dd ∧ H dd = some (.xd fs) ∧ (T.en c).length = xs.length ∧ ∀ p ∈ (T.en c).zip xs, ∃ v, fs.lookup p.1 = some v ∧ DS [] H v p.2
theorem ExcIs.same {T : Tb} {c : Nat} {xs : List D} {cls : Value} {d : Option Addr} {H H' : Hp} (s : Same H H') (h : ExcIs T c xs cls d H) : ExcIs T c xs cls d H' := by
  obtain ⟨h1, dd, fs, h2, h3, h4, h5⟩ := h
  exact ⟨h1, dd, fs, h2, s _ _ h3, h4, fun p hp => let ⟨v, a, b⟩ := h5 p hp; ⟨v, a, b.same s⟩⟩

/-- what is wanted behind a reckoning -/
def okR {α : Type} (T : Tb) (W : WX) (σ : L2.St) (H : Hp) (r : Res α) (k : α → Prop) : Prop := match r with
  | .ok a => k a
  | .err c xs => ∀ cls d H', Same H H' → ExcIs T c xs cls d H' → W cls d σ H'
  | .bad => False
theorem okR.ok {α : Type} {T : Tb} {W : WX} {σ : L2.St} {H : Hp} {a : α} {k : α → Prop} (h : okR T W σ H (.ok a) k) : k a := h
theorem okR.same {α : Type} {T : Tb} {W : WX} {σ : L2.St} {H H' : Hp} {r : Res α} {k k' : α → Prop} (s : Same H H') (h : okR T W σ H r k) (hk : ∀ a, k a → k' a) : okR T W σ H' r k' := by
  cases r with
  | ok a => exact hk a h
  | err c xs => exact fun cls d H2 s2 e => h cls d H2 (s.trans s2) e
  | bad => exact h
/-- r first, then f -/
theorem okR.bind {α β : Type} {T : Tb} {W : WX} {σ : L2.St} {H : Hp} {r : Res α} {f : α → Res β} {k : β → Prop} (h : okR T W σ H (r.bind f) k) : okR T W σ H r (fun a => r = .ok a ∧ okR T W σ H (f a) k) := by
  cases r with
  | ok a => exact ⟨rfl, h⟩
  | err c xs => exact h
  | bad => exact h
theorem okR.noE {α : Type} {T : Tb} {W : WX} {σ : L2.St} {H : Hp} {r : Res α} {k : α → Prop} (h : okR T W σ H r.noE k) : ∃ a, r = .ok a ∧ k a := by
  cases r with
  | ok a => exact ⟨a, rfl, h⟩
  | err c xs => exact h.elim
  | bad => exact h.elim

/-- a value and its datum: w: shown alone -/
def RS : Bool → List Addr → Hp → V → D → Prop
  | true => CS
  | false => DS
theorem RS.of {O : List Addr} {H : Hp} {v : V} {d : D} (h : DS O H v d) : ∀ w, RS w O H v d
  | true => .ds h
  | false => h
theorem RS.cs {O : List Addr} {H : Hp} {v : V} {d : D} : ∀ {w}, RS w O H v d → CS O H v d
  | true, h => h
  | false, h => .ds h
theorem RS.same {O : List Addr} {H H' : Hp} {v : V} {d : D} (s : Same H H') : ∀ {w}, RS w O H v d → RS w O H' v d
  | true, h => CS.same s h
  | false, h => DS.same s h

section
variable (T : Tb) (sem : Nat → List D → Res D)
/-- the reading of an expression -/
def tE (w : Bool) (W : WX) (c : C) : TE := fun σ H Q => ∃ Oc Of en, Rep Oc Of σ H en ∧ okR T W σ H (ev sem c en) fun d => ∀ v H', Same H H' → RS w (Oc ++ Of) H' v d → Q v H'
def tT (W : WX) (c : C) : TT := fun σ H Q => ∃ Oc Of en, Rep Oc Of σ H en ∧ okR T W σ H (ev sem c en) fun d => ∀ H', Same H H' → Q (truth d) H'
inductive RSs (w : Bool) (O : List Addr) (H : Hp) : List V → List D → Prop
  | nil : RSs w O H [] []
  | cons {v : V} {vs : List V} {d : D} {ds : List D} : RS w O H v d → RSs w O H vs ds → RSs w O H (v :: vs) (d :: ds)
def tA (w : Bool) (W : WX) (c : C) : TA := fun σ H Q => ∃ Oc Of en, Rep Oc Of σ H en ∧ okR T W σ H (ev sem c en) fun d => ∀ vs H', Same H H' → RSs w (Oc ++ Of) H' vs (asL d) → Q vs H'
end
theorem RSs.same {O : List Addr} {H H' : Hp} (s : Same H H') {w : Bool} : ∀ {vs : List V} {ds : List D}, RSs w O H vs ds → RSs w O H' vs ds
  | _, _, .nil => .nil
  | _, _, .cons h t => .cons (h.same s) (RSs.same s t)
theorem RSs.dss {O : List Addr} {H : Hp} : ∀ {vs : List V} {ds : List D}, RSs false O H vs ds → DSs O H vs ds
  | _, _, .nil => .nil
  | _, _, .cons h t => .cons h (RSs.dss t)
theorem RSs.css {O : List Addr} {H : Hp} {w : Bool} : ∀ {vs : List V} {ds : List D}, RSs w O H vs ds → CSs O H vs ds
  | _, _, .nil => .nil
  | _, _, .cons h t => .cons h.cs (RSs.css t)

/-- a def's promise, by data -/
def spD (T : Tb) (n : Nat) (g : List D → Res D) : Sp := fun vs H Q E => ∃ O ds, There O H ∧ DSs O H vs ds ∧ ds.length = n ∧ okR T (fun cls d _ H' => E cls d H') [] H (g ds) fun d => ∀ v H', Same H H' → DS O H' v d → Q v H'

def bltNames : List Str := ["len", "max", "min", "sum", "tuple", "list", "sorted", "range", "isinstance", "all", "any", "dict", "abs", "bool", "super"]
def dV : D → V
  | .int i => .int i
  | .str s => .str s
  | .bool b => .bl b
  | _ => .non

/-- the promise of the exception's __init__(self, ..): the fields stand in the dict that it gets -/
def spI (K : PySem.W.Frag) (C : Addr) (fs : List Str) : Sp := fun vs H Q _ => ∃ a ws, vs = .ref a :: ws ∧ ws.length = fs.length ∧ OexC K C ∧ H a = some (exo a C none) ∧
  ∀ dx H2, H dx = none → dx ≠ a → H2 a = some (exo a C (some dx)) → H2 dx = some (exd dx (fs.zip ws).reverse) → (∀ b, b ≠ a → b ≠ dx → H2 b = H b) → Q .non H2
/-- what is known of an exception of the program -/
structure ExK (T : Tb) (P : Program) (w : World) (K : PySem.W.Frag) (mg : Str → Option Value) (base : Heap) (x : Str) (c : Nat) (fs : List Str) : Prop where
  gl : mg x = some (.ref (T.ea c))
  en : T.en c = fs
  nd : fs.Nodup
  len : fs.length ≤ 10
  oex : OexC K (T.ea c)
  ini : ∃ (fI : Addr) (fd : FuncData) (ps : List Str), PySem.W.findIn K (.ref (T.ea c)) "__init__" = some (some (.ref fI)) ∧ PySem.W.typeIn K (.ref fI) = some (.type "function") ∧ FnOk P w K mg base (L2.CX P w) 1 fI fd ps (spI K (T.ea c) fs) ∧ Binds K fd ps []
  xf : XfC K (T.ea c)
  own : ∀ f ∈ fs, PySem.W.findIn K (.ref (T.ea c)) f = some none
  exm : PySem.W.exmOne K (.ref (T.ea c)) (.ref (T.ea c)) = some true

/-- what is known in a context -/
structure Gd (T : Tb) (sem : Nat → List D → Res D) (n : Nms) (N : List Str) (X : Cx) (k : Nat) (so sr : Scope) (W : WX) : Prop where
  hN : X.N = N
  nd : N.Nodup
  sc : X.env.scope = sr
  fnc : ∀ x, so.names.lookup x = some .cell → X.fn x = true
  calm : X.calm = true
  room : Room k X.A
  k2 : 2 ≤ k
  cod : sr.isGenerator = false → Room (k + 1) X.A ∧ ∃ (c P : Addr), P ∈ TabsC.l ∧ X.env.code = .ref c ∧ GxR.TabB X.base X.mg c P
  ex : ∀ x c fs, n.ex.lookup x = some (c, fs) → ExK T X.prog X.w X.K X.mg X.base x c fs
  tk : Takes X W
  blt : ∀ x ∈ bltNames, X.mg x = none
  cn : ∀ x d, n.cn.lookup x = some d → ∃ u, X.mg x = some u ∧ RelV (dV d) u
  fn : ∀ f x, n.fn f = some x → ∃ (addr : Addr) (fd : FuncData) (ps : List Str), X.mg x = some (.ref addr) ∧ PySem.W.keepIn X.K (.ref addr) = true ∧ Binds X.K fd ps [] ∧ FnOk X.prog X.w X.K X.mg X.base (L2.CX X.prog X.w) k addr fd ps (spD T ps.length (sem f)) ∧ ∀ ds, ds.length ≠ ps.length → sem f ds = .bad

section
variable {T : Tb} {sem : Nat → List D → Res D} {n : Nms} {N : List Str} {X : Cx} {k : Nat} {so sr : Scope} {W : WX}
theorem Gd.hu (G : Gd T sem n N X k so sr W) : X.A.units + 64 < cLine := G.room.units
theorem Gd.vis (G : Gd T sem n N X k so sr W) {x : Str} (h : visB sr x = true) : Vis X.env.scope x := by
  rw [G.sc]
  unfold visB at h
  unfold Vis
  split at h
  · exact .inl (by assumption)
  · exact .inr (.inl (by assumption))
  · exact .inr (.inr (by assumption))
  · cases h
theorem Gd.gl (G : Gd T sem n N X k so sr W) {x : Str} (h : glB sr x = true) : Gl X x ∧ (x == ("__debug__" : Str)) = false := by
  unfold glB at h
  rw [Bool.and_eq_true] at h
  refine ⟨?_, by simpa using h.2⟩
  show X.env.scope.names.lookup x = _
  rw [G.sc]
  exact of_decide_eq_true h.1
/-- a comprehension's block -/
theorem Gd.blk (G : Gd T sem n N X k so sr W) (hg : sr.isGenerator = false) (s : Shared) (H : Hp) (scope : Scope) (C : Addr) (cl : List (Str × Addr)) (fp : List Addr) : Gd T sem n N (X.blk s H scope (compEnvC scope cl C X.env) fp) k scope (relS scope sr) (fun _ _ _ _ => False) where
  hN := G.hN
  nd := G.nd
  sc := by
    show relS scope X.env.scope = _
    rw [G.sc]
  fnc := fun x h => by
    show (scope.names.lookup x == some .cell) = true
    rw [h]
    rfl
  calm := G.calm
  room := G.room
  k2 := G.k2
  cod := fun _ => G.cod hg
  ex := G.ex
  tk := takes0
  blt := G.blt
  cn := G.cn
  fn := G.fn

/-- within a generator expression -/
theorem Gd.gen (G : Gd T sem n N X k so sr W) (hg : sr.isGenerator = false) (s : Shared) (H : Hp) (scope : Scope) (hs : scope.isGenerator = true) (cl : List (Str × Addr)) (C : Addr) (code : Value) (fp : List Addr) (pn : List (Addr × Obj)) :
    Gd T sem n N (gcx X s H scope (genEnv scope cl C code builtinsNs X.env) fp pn) k scope scope (fun _ _ _ _ => False) where
  hN := G.hN
  nd := G.nd
  sc := rfl
  fnc := fun x h => by
    show (scope.names.lookup x == some .cell) = true
    rw [h]
    rfl
  calm := G.calm
  room := by
    obtain ⟨r, _⟩ := G.cod hg
    refine ⟨r.hd, ?_, ?_⟩
    · have := r.dp
      show X.A.depth + 1 + 3 * k + 5 < _
      omega
    · have := r.un
      show X.A.units + 1 + 1 + 3 + 16 * k + 200 < _
      omega
  k2 := G.k2
  cod := fun h => by rw [hs] at h; cases h
  ex := G.ex
  tk := takes0
  blt := G.blt
  cn := G.cn
  fn := G.fn
/-- a try's body -/
theorem Gd.tr (G : Gd T sem n N X k so sr W) {W' : WX} {pn : List (Addr × Obj)} {xe : Value → Shared → Prop} (t : Takes (X.tr pn xe) W') : Gd T sem n N (X.tr pn xe) k so sr W' where
  hN := G.hN
  nd := G.nd
  sc := G.sc
  fnc := G.fnc
  calm := G.calm
  room := G.room
  k2 := G.k2
  cod := G.cod
  ex := G.ex
  tk := t
  blt := G.blt
  cn := G.cn
  fn := G.fn

/-! ### by monotony -/
theorem pe_mono {e : Expr} {t t' : TE} (h : PE X e t) (m : ∀ σ H Q, t' σ H Q → t σ H Q) : PE X e t' := ⟨fun pins s σ H Q I q => h.run pins s σ H Q I (m _ _ _ q)⟩
theorem pt_mono {e : Expr} {t t' : TT} (h : PT X e t) (m : ∀ σ H Q, t' σ H Q → t σ H Q) : PT X e t' := ⟨fun pins s σ H Q I q => h.run pins s σ H Q I (m _ _ _ q)⟩
theorem pw_mono {e : Expr} {t t' : TT} (h : PW X e t) (m : ∀ σ H Q, t' σ H Q → t σ H Q) : PW X e t' := ⟨fun wh pins s σ H Q I q => h.run wh pins s σ H Q I (m _ _ _ q)⟩
theorem pa_mono {e : List Expr} {t t' : TA} (h : PA X e t) (m : ∀ σ H Q, t' σ H Q → t σ H Q) : PA X e t' := ⟨fun pos pins s σ H Q I q => h.run pos pins s σ H Q I (m _ _ _ q)⟩
theorem po_mono {e : Option Expr} {t t' : TO} (h : PO X e t) (m : ∀ σ H Q, t' σ H Q → t σ H Q) : PO X e t' := ⟨fun pins s σ H Q I q => h.run pins s σ H Q I (m _ _ _ q)⟩
theorem pe_lift {e : Expr} {c : C} (h : PE X e (tE T sem false W c)) : ∀ w, PE X e (tE T sem w W c)
  | false => h
  | true => pe_mono h fun σ H Q ⟨Oc, Of, en, r, q⟩ => ⟨Oc, Of, en, r, q.same (Same.refl _) fun d h v H' s r => h v H' s (.ds r)⟩

theorem Gd.var (G : Gd T sem n N X k so sr W) {i : Nat} {x : Str} {pos : Pos} (h : varB N sr i x = true) : PE X (.Name x pos) (tVar i) := by
  unfold varB at h
  simp only [Bool.and_eq_true, Bool.not_eq_true', decide_eq_true_eq] at h
  exact pe_var (by rw [G.hN]; exact h.1.1.1) (G.vis h.1.1.2) h.1.2 h.2

theorem star_cons {e : Expr} {es : List Expr} {env : Env} (h : notStar e = true) : starEach (e :: es) env = (false, eval e env) :: starEach es env := by
  cases e <;> first | rfl | cases h
theorem star_none {w : Bool} {pos : Pos} {env : Env} : ∀ {es : List Expr}, (∀ e ∈ es, notStar e = true) → (backTo pos (starEach es env)).any (·.1) = false
  | [], _ => rfl
  | e :: es, h => by
    rw [star_cons (h e List.mem_cons_self)]
    show (false || (backTo pos (starEach es env)).any (·.1)) = false
    rw [star_none (w := w) fun e he => h e (List.mem_cons_of_mem _ he)]
    rfl
theorem chkL_star {w : Bool} : ∀ {c : C} {l : List Expr}, chkL n N w so sr c l = true → ∀ e ∈ l, notStar e = true
  | .nil, [], _ => by simp
  | .nil, _ :: _, h => by simp [chkL] at h
  | .cons a r, [], h => by simp [chkL] at h
  | .cons a r, x :: l, h => by
    simp only [chkL, Bool.and_eq_true] at h
    intro e he
    rcases List.mem_cons.mp he with rfl | he
    · exact h.1.2
    · exact chkL_star h.2 e he
  | .na, _, h | .var _, _, h | .wv _, _, h | .dat _, _, h | .con _ _, _, h | .neg _, _, h | .bin _ _ _, _, h | .cmp _ _ _, _, h | .isn _, _, h | .nisn _, _, h | .isl _, _, h | .chn _ _ _ _ _, _, h => by simp [chkL] at h
  | .and _ _, _, h | .or _ _, _, h | .not _, _, h | .ite _ _ _, _, h | .tup _, _, h | .lst _, _, h | .dic _ _, _, h | .idx _ _, _, h | .slc _ _ _, _, h | .rev _, _, h | .rng _ _ _, _, h | .call _ _, _, h | .blt _ _, _, h | .mth _ _ _, _, h => by simp [chkL] at h
  | .cmp1 _ _ _ _, _, h | .cmp2 _ _ _ _ _, _, h | .skip, _, h | .seq _ _, _, h | .xpr _, _, h | .set _ _, _, h | .seto _ _, _, h | .sett _ _, _, h | .fz _ _, _, h | .app _ _, _, h | .ext _ _, _, h | .pop _ _, _, h | .puti _ _ _, _, h | .aug _ _ _, _, h => by simp [chkL] at h
  | .iff _ _ _, _, h | .for_ _ _ _, _, h | .whl _ _, _, h | .ret _, _, h | .retn, _, h | .brk, _, h | .cnt, _, h | .rse _ _, _, h | .tryr _ _ _ _ _, _, h | .sll _ _ _ _ _ _, _, h | .gen _ _ _ _, _, h => by simp [chkL] at h
theorem plain_ix {e : Expr} (h : notSlice e = true) : PlainIx e := by
  cases e <;> first | (intro o i; rfl) | cases h
theorem not_set {e : Expr} {env : Env} (h : notSet e = true) : ∀ x, foldedSetIterable e env x = pure x := by
  cases e <;> first | (intro x; rfl) | cases h
end
end SQ

/-! SqInit: an exception's __init__(self, ..): super().__init__(..), then the fields stored. -/
set_option maxHeartbeats 4000000
namespace SQ
open PySem PySem.Spec PyProof.Rows L2
variable [TabsC]

/-! ### the fields -/
/-- self.f = f for these f, from the i-th slot on -/
def restB (N : List Str) (sc : Scope) (sf : Str) : Nat → List Str → List Stmt → Bool
  | _, [], [] => true
  | i, f :: fs, .Assign [.Attribute (.Name x _) g _] (.Name y _) _ :: l => decide (x = sf) && decide (g = f) && decide (y = f) && varB N sc 0 x && varB N sc i y && restB N sc sf (i + 1) fs l
  | _, _, _ => false
theorem upd_upd2 {H : Hp} {p : Addr} {o o' : HO} : upd (upd H p o) p o' = upd H p o' := by
  funext b
  by_cases h : b = p
  · rw [h, upd_same, upd_same]
  · rw [upd_ne h, upd_ne h, upd_ne h]
theorem upd_id {H : Hp} {p : Addr} {o : HO} (h : H p = some o) : upd H p o = H := by
  funext b
  by_cases e : b = p
  · rw [e, upd_same, h]
  · rw [upd_ne e]
def tRs (K : PySem.W.Frag) (a C dx : Addr) (i : Nat) (fs : List Str) : TS := fun D σ H => ∃ acc ws, dx ≠ a ∧ σ[0]? = some (some (.ref a)) ∧ ws.length = fs.length ∧ (∀ (j : Nat) (v : V), ws[j]? = some v → σ[i + j]? = some (some v)) ∧ OexC K C ∧ (∀ f ∈ fs, PySem.W.findIn K (.ref C) f = some none) ∧
  H a = some (exo a C (some dx)) ∧ H dx = some (exd dx acc) ∧ acc.length + fs.length ≤ 900 ∧ D.nx σ (upd H dx (exd dx ((fs.zip ws).reverse ++ acc)))
section
variable {X : Cx} {N : List Str} {sc : Scope}
theorem var_of (hN : X.N = N) (hs : X.env.scope = sc) {i : Nat} {x : Str} {pos : Pos} (h : varB N sc i x = true) : PE X (.Name x pos) (tVar i) := by
  unfold varB at h
  simp only [Bool.and_eq_true, Bool.not_eq_true', decide_eq_true_eq] at h
  refine pe_var (by rw [hN]; exact h.1.1.1) ?_ h.1.2 h.2
  have hv := h.1.1.2
  rw [hs]
  unfold visB at hv
  unfold Vis
  split at hv
  · exact .inl (by assumption)
  · exact .inr (.inl (by assumption))
  · exact .inr (.inr (by assumption))
  · cases hv
theorem restB_get {sf : Str} {i : Nat} {f : Str} {fs : List Str} : ∀ {l : List Stmt}, restB N sc sf i (f :: fs) l = true → ∃ x p1 g p2 y p3 p4 l', l = .Assign [.Attribute (.Name x p1) g p2] (.Name y p3) p4 :: l' ∧ g = f ∧ varB N sc 0 x = true ∧ varB N sc i y = true ∧ restB N sc sf (i + 1) fs l' = true := by
  intro l h
  unfold restB at h
  split at h
  · rename_i e; cases e
  · rename_i e
    cases e
    simp only [Bool.and_eq_true, decide_eq_true_eq] at h
    exact ⟨_, _, _, _, _, _, _, _, rfl, h.1.1.1.1.2, h.1.1.2, h.1.2, h.2⟩
  · cases h
theorem pss_rest (hN : X.N = N) (hs : X.env.scope = sc) {sf : Str} {a C dx : Addr} : ∀ {fs : List Str} {i : Nat} {l : List Stmt}, restB N sc sf i fs l = true → PSs X l (tRs X.K a C dx i fs)
  | [], i, l, h => by
    cases l with
    | cons _ _ => cases h
    | nil =>
      refine ⟨fun pins s σ H D I q => pss_nil.run pins s σ H D I ?_⟩
      obtain ⟨acc, ws, dn, e0, el, ew, T, ho, ea, ed, hl, q⟩ := q
      cases ws with
      | cons _ _ => cases el
      | nil =>
        have q : D.nx σ (upd H dx (exd dx acc)) := q
        rw [upd_id ed] at q
        exact q
  | f :: fs, i, l, h => by
    obtain ⟨x, p1, g, p2, y, p3, p4, l', rfl, rfl, h1, h2, h3⟩ := restB_get h
    refine ⟨fun pins s σ H D I q => (pss_cons (ps_ost (f := g) (var_of hN hs h1) (var_of hN hs h2)) (pss_rest (a := a) (C := C) (dx := dx) hN hs h3)).run pins s σ H D I ?_⟩
    obtain ⟨acc, ws, dn, e0, el, ew, T, ho, ea, ed, hl, q⟩ := q
    cases ws with
    | nil => cases el
    | cons w ws =>
      refine ⟨w, ew 0 w rfl, .ref a, e0, a, C, rfl, T, ho g List.mem_cons_self, .inr ⟨dx, acc, ea, ed, by simp only [List.length_cons] at hl; omega, (g, w) :: acc, ws, dn, e0, by simpa using el, fun j v hj => ?_, T, fun f hf => ho f (List.mem_cons_of_mem _ hf), ?_, upd_same, by simp only [List.length_cons] at hl ⊢; omega, ?_⟩⟩
      · have := ew (j + 1) v (by simpa using hj)
        rwa [show i + (j + 1) = i + 1 + j by omega] at this
      · rw [upd_ne (Ne.symm dn)]; exact ea
      · rw [upd_upd2]
        have q : D.nx σ (upd H dx (exd dx ((((g, w) :: fs.zip ws).reverse) ++ acc))) := q
        rw [List.reverse_cons, List.append_assoc] at q
        exact q
/-- the whole block behind super().__init__(..) -/
def tR1 (K : PySem.W.Frag) (a C : Addr) (fs : List Str) : TS := fun D σ H => ∃ ws, σ[0]? = some (some (.ref a)) ∧ ws.length = fs.length ∧ (∀ (j : Nat) (v : V), ws[j]? = some v → σ[1 + j]? = some (some v)) ∧ OexC K C ∧ (∀ f ∈ fs, PySem.W.findIn K (.ref C) f = some none) ∧
  H a = some (exo a C none) ∧ fs.length ≤ 900 ∧ ∀ dx H2, H dx = none → dx ≠ a → H2 a = some (exo a C (some dx)) → H2 dx = some (exd dx (fs.zip ws).reverse) → (∀ b, b ≠ a → b ≠ dx → H2 b = H b) → D.nx σ H2
theorem pss_init (hN : X.N = N) (hs : X.env.scope = sc) {sf : Str} {a C : Addr} {f : Str} {fs : List Str} {l : List Stmt} (h : restB N sc sf 1 (f :: fs) l = true) : PSs X l (tR1 X.K a C (f :: fs)) := by
  obtain ⟨x, p1, g, p2, y, p3, p4, l', rfl, rfl, h1, h2, h3⟩ := restB_get h
  refine ⟨fun pins s σ H D I q => ?_⟩
  obtain ⟨ws, e0, el, ew, T, ho, ea, hl, q⟩ := q
  cases ws with
  | nil => cases el
  | cons w ws =>
    refine (pss_cons (ps_ost (f := g) (var_of hN hs h1) (var_of hN hs h2)) (⟨fun pins s σ H D I q => ?_⟩ : PSs X l' (fun D σ H => ∃ dx, tRs X.K a C dx 2 fs D σ H))).run pins s σ H D I ?_
    · obtain ⟨dx, q⟩ := q
      exact (pss_rest hN hs h3).run pins s σ H D I q
    · refine ⟨w, ew 0 w rfl, .ref a, e0, a, C, rfl, T, ho g List.mem_cons_self, .inl ⟨ea, fun dx hd dn => ?_⟩⟩
      refine ⟨dx, [(g, w)], ws, dn, e0, by simpa using el, fun j v hj => ?_, T, fun f hf => ho f (List.mem_cons_of_mem _ hf), upd_same, ?_, by simp only [List.length_cons, List.length_nil] at hl ⊢; omega, ?_⟩
      · have := ew (j + 1) v (by simpa using hj)
        rwa [show 1 + (j + 1) = 2 + j by omega] at this
      · rw [upd_ne dn, upd_same]
      · refine q dx _ hd dn ?_ ?_ fun b h1 h2 => ?_
        · rw [upd_ne (Ne.symm dn), upd_same]
        · rw [upd_same, List.zip_cons_cons, List.reverse_cons]
        · rw [upd_ne h2, upd_ne h1, upd_ne h2]
end

/-! ### the context -/
def cxI (P : Program) (w : World) (K : PySem.W.Frag) (mg : Str → Option Value) (base : Heap) (N : List Str) (qual : Str) (scope : Scope) (f : Addr) (cd : Value) (cc : Addr) (A : Around) (outer : List Env) (s : Shared) (H : Hp) : Cx where
  prog := P
  w := w
  K := K
  mg := mg
  base := base
  A := A.deeper (PySem.W.ksEnv qual scope s.heap.objs.size f cd cc)
  N := N
  s_0 := s
  H_0 := H
  env := PySem.W.ksEnv qual scope s.heap.objs.size f cd cc
  outer := outer
  stack := PySem.W.ksEnv qual scope s.heap.objs.size f cd cc :: outer
  ex := []
  calm := true
  fn := fun _ => false
  pn := []
  xe := fun _ _ => False
/-- what is seen of such a def -/
structure IniOk (N fs : List Str) (sc : Scope) (params : Arguments) (z : Str) (rest : List Stmt) : Prop where
  kind : sc.kind = .function
  co : sc.isCoroutine = false
  gen : sc.isGenerator = false
  nd : N.Nodup
  eN : N = ("self" : Str) :: fs
  par : ∀ x ∈ N, sc.names.lookup x = some .local
  nocell : ∀ x ∈ sc.names, x.2 ≠ .cell
  free : ∀ x ∈ sc.names, x.2 = .free → x.1 = ("__class__" : Str)
  sup : sc.names.lookup ("super" : Str) = some .globalImplicit
  cls : sc.names.lookup ("__class__" : Str) = some .free
  hd : ∃ ar : Arg, (params.posonlyargs ++ params.args).head? = some ar ∧ ar.arg = "self"
  arg : ∃ i, varB N sc i z = true ∧ i < N.length
  rest : ∃ f fs', fs = f :: fs' ∧ restB N sc "self" 1 (f :: fs') rest = true
  len : fs.length ≤ 900
section
variable {P : Program} {w : World} {K : PySem.W.Frag} {mg : Str → Option Value} {base : Heap} {N fs : List Str} {qual : Str} {scope : Scope} {f cc : Addr} {cd : Value} {A : Around} {outer : List Env} {s s1 : Shared} {H : Hp} {us : List Value} {vs : List V}
theorem binds_get {α : Type} : ∀ {N : List Str} {us : List α} {i : Nat} {x : Str} {u : α}, N.Nodup → N[i]? = some x → us[i]? = some u → us.length = N.length → (N.zip us).reverse.lookup x = some u := by
  intro N us i x u nd h1 h2 hl
  have hm : (x, u) ∈ (N.zip us).reverse := by
    rw [List.mem_reverse]
    have : (N.zip us)[i]? = some (x, u) := by
      rw [List.getElem?_zip_eq_some]
      exact ⟨h1, h2⟩
    exact List.mem_of_getElem? this
  have nd2 : ((N.zip us).reverse.map (·.1)).Nodup := by
    rw [List.map_reverse, List.map_fst_zip (by omega)]
    exact (List.reverse_perm _).nodup_iff.mpr nd
  have key : ∀ {l : List (Str × α)}, (l.map (·.1)).Nodup → (x, u) ∈ l → l.lookup x = some u := by
    intro l
    induction l with
    | nil => intro _ h; cases h
    | cons p l ih =>
      intro nd h
      obtain ⟨y, v⟩ := p
      rw [List.map_cons, List.nodup_cons] at nd
      rcases List.mem_cons.mp h with h' | h'
      · cases h'
        simp [List.lookup]
      · have ne : (x == y) = false := by
          refine beq_eq_false_iff_ne.mpr fun z => nd.1 ?_
          subst z
          exact List.mem_map.mpr ⟨_, h', rfl⟩
        rw [List.lookup_cons, ne]
        exact ih nd.2 h'
  exact key nd2 hm
theorem inv_I {params : Arguments} {z : Str} {rest : List Stmt} (S : IniOk N fs scope params z rest) (hd : A.handled = none) (e0 : Env0 P w K mg base A outer s H) (hl : vs.length = N.length) (r : Vals vs us) {h₀ : Heap} {tk : Nat} {ocl : Value} {odd : Option Addr} {osl : Array (Option Value)} {D : Addr}
    (hc : K.lookup cc = some ⟨ocl, odd, .cell (some (.ref D)), osl⟩) (hns : h₀.Ns s.heap.objs.size (fun x => (N.zip us).reverse.lookup x)) (hk : ∀ b o, s.heap.get? b = some o → h₀.get? b = some o) :
    Inv (cxI P w K mg base N qual scope f cd cc A outer s H) [] (vs.map some) H { s with heap := h₀, toks := tk } := by
  have hcb : base.get? cc = some ⟨ocl, odd, .cell (some (.ref D)), osl⟩ := e0.mod.kin _ _ hc
  have hcs := e0.bs _ _ hcb
  have noA : ∀ b : Addr, b ∉ (cxI P w K mg base N qual scope f cd cc A outer s H).ex := fun b z => absurd (show b ∈ ([] : List Addr) from z) (by simp)
  have cl : ∀ {y : Str} {c : Addr}, (cxI P w K mg base N qual scope f cd cc A outer s H).env.cells.lookup y = some c → y = "__class__" ∧ c = cc := fun {y c} h => by
    have h : List.lookup y [(("__class__" : Str), cc)] = some c := h
    rw [List.lookup_cons] at h
    split at h
    · rename_i e
      cases h
      exact ⟨eq_of_beq e, rfl⟩
    · cases h
  have hlu : us.length = N.length := by rw [← r.length]; exact hl
  refine ⟨⟨e0.mod, S.kind, rfl, rfl, Nat.le_refl _, fun y z c h1 h2 => (cl h1).1.trans (cl h2).1.symm, fun y hy => ?_, fun y c h _ => absurd (show false = true from h) Bool.false_ne_true, fun _ => hd, Around.frames_deeper e0.frames, .inr ⟨rfl, rfl⟩, fun b z => absurd z (noA b), e0.bs, e0.bsz, fun b _ _ => noA b, fun b z => absurd z (noA b), e0.funs, e0.frf⟩,
    rfl, e0.bare, Un.kept hk, ⟨_, hns, fun i y v h1 h2 h3 => ?_⟩, fun y c h => ?_, e0.hok.fresh (Nat.le_refl _), fun y c h => ?_, fun p hp => absurd (show p ∈ ([] : List (Addr × Obj)) from hp) (by simp), e0.hok.kept hk, ?_⟩
  · have hy : scope.names.lookup y = some .cell ∨ scope.names.lookup y = some .free := hy
    rcases hy with hy | hy
    · exact absurd rfl (S.nocell _ (PySem.mem_of_lookup hy))
    · have e := S.free _ (PySem.mem_of_lookup hy) rfl
      have e : y = "__class__" := e
      subst e
      exact ⟨cc, by show List.lookup _ [_] = _; simp [List.lookup]⟩
  · have hv : vs[i]? = some v := by
      rw [List.getElem?_map] at h2
      cases e : vs[i]? with
      | none => rw [e] at h2; cases h2
      | some a => rw [e] at h2; cases h2; rfl
    obtain ⟨u, hu, rv⟩ := r.get hv
    exact ⟨u, rv, .inl ⟨S.par y (List.mem_of_getElem? h1), binds_get S.nd h1 hu hlu⟩⟩
  · obtain ⟨rfl, rfl⟩ := cl h
    exact ⟨_, _, hk _ _ hcs.1, rfl⟩
  · obtain ⟨rfl, rfl⟩ := cl h
    exact hcs.2
  · rw [List.length_map]
    exact hl
end
end SQ

/-! SqInit2: such a def keeps spI. -/
set_option maxHeartbeats 4000000
namespace SQ
open PySem PySem.Spec PyProof.Rows L2
variable [TabsC]

section
variable {P : Program} {w : World} {K : PySem.W.Frag} {mg : Str → Option Value} {base : Heap} {N fs : List Str} {name qual : Str} {scope : Scope} {C f cc cda : Addr} {params : Arguments} {z : Str} {rest : List Stmt} {p0 p1 p2 p3 p4 zp : Pos}
  {dV kV doc pm ct oc ccl ocl : Value} {an od cdd odd : Option Addr} {osl ccs ocs : Array (Option Value)} {cvs : Array Value} {file : Str} {tf : Tok}
theorem boot_super : bootBuiltins "super" = some (.type "super") := by first | boot_by_name | rfl | kernel_rfl
theorem ev_sup {env : Env} {o : Expr} {nm : Str} (hline : (p2.endLine == p3.line) = true) : eval (.Call (.Attribute o nm p2) [.Name z zp] [] p3) env = (do
      let ov ← attributeBase o nm env (eval o env)
      standAt p2.atName
      let (f, first) ← holding [ov] (getMethod ov nm (do return (← importBound o env).getD true))
      callWith p3 f first (backTo p3 (starEach [.Name z zp] env)) []) := by
  have hform : methodCallForm 1 (backTo p3 (starEach [.Name z zp] env)) [] = true := by rfl
  have hpos : methodCallPos true o env p2 p3 = pure p3 := by unfold methodCallPos; simp [hline]
  rw [arm_eval_Call]
  show (do
    let ov ← attributeBase o nm env (eval o env)
    standAt p2.atName
    methodCall o nm p2 p3 env ov 1 (backTo p3 (starEach [.Name z zp] env)) []) = _
  unfold methodCall calleeOf
  simp only [hform, hpos, if_true, pure_bind]
theorem zip_len {N : List Str} {us : List Value} (h : us.length = N.length) : (N.zip us).length = N.length := by rw [List.length_zip]; omega
theorem fn_init (S : IniOk N fs scope params z rest) (hline : (p2.endLine == p3.line) = true)
    (lk : K.lookup f = some ⟨oc, od, .func (PySem.W.ksFn name qual params (.Expr (.Call (.Attribute (.Call (.Name "super" p0) [] [] p1) "__init__" p2) [.Name z zp] [] p3) p4 :: rest) scope dV kV doc pm an (.ref cda) ct cc), osl⟩)
    (hcd : PySem.W.codeIn K (.ref cda) qual = true) (lc : K.lookup cda = some ⟨ccl, cdd, .fields cvs, ccs⟩) (hvs : cvs[2]? = some (.str file tf)) (hfile : ((P.main.file : Str) == file) = true)
    (hcell : K.lookup cc = some ⟨ocl, odd, .cell (some (.ref C)), ocs⟩) (hsup : mg "super" = none) (hop : PySem.W.nsIn K cStatics "thirdparty.any" = some none)
    (hsi : PySem.W.ks_superIn K C C "__init__" = some (some (.builtin "ValueError.__init__"))) (hB : PySem.W.subIn K (.ref C) (.type "ValueError") = some true) (hmr : PySem.W.mroIn K C (.ref C) = some true)
    (htop : (P.main.scope.names.lookup ("super" : Str)).isSome = false) (hown : ∀ f ∈ fs, PySem.W.findIn K (.ref C) f = some none) :
    FnOk P w K mg base (L2.CX P w) 1 f (PySem.W.ksFn name qual params (.Expr (.Call (.Attribute (.Call (.Name "super" p0) [] [] p1) "__init__" p2) [.Name z zp] [] p3) p4 :: rest) scope dV kV doc pm an (.ref cda) ct cc) N (spI K C fs) := by
  have len : ∀ vs H Q E, spI K C fs vs H Q E → vs.length = N.length := fun vs H Q E ⟨a, ws, e, hl, _⟩ => by
    rw [e, S.eN, List.length_cons, List.length_cons, hl]
  refine ⟨len, fun A outer s H args us vs Q E hr e0 hb r hsp => ?_⟩
  have hl := len _ _ _ _ hsp
  have hlu : us.length = N.length := by rw [← r.length]; exact hl
  have KX : K.In s.heap := e0.mod.kin.keeps fun b o e => (e0.bs b o e).1
  have lim : s.heap.NoLimit := e0.mod.nolimit.keeps fun b o e => (e0.bs b o e).1
  refine PySem.ks_codeAny_call_defAt (binds := N.zip us) hr.depth (KX _ _ lk) rfl lim (PySem.W.codeRec_of KX hcd) rfl hb S.nocell (fun y hy => S.par y.1 (List.of_mem_zip hy).1) (fun h₀ hns hk => ?_) S.co S.gen S.kind
  have I0 := inv_I (cc := cc) (qual := qual) (f := f) (cd := .ref cda) (tk := s.toks + (N.zip us).length) S hr.hd e0 hl r hcell hns hk
  obtain ⟨a, ws, ev, hwl, T, ea, q⟩ := hsp
  subst ev
  obtain ⟨nm, qn, CN, bs, bm, sn, sub, ab, col, dd, k0, k1, k2, k3, k5, hC, hbm⟩ := id T.cls
  have hcl : PySem.W.clsIn K C = some { name := nm, bases := bs, mro := .ref C :: bm, ns := CN, qualname := qn, hasDict := true, slotNames := sn, subclasses := sub, abstract := ab, collection := col, hasDel := false } := by unfold PySem.W.clsIn; rw [hC] <;> rfl
  have X0 : K.In h₀ := KX.keeps hk
  obtain ⟨t1, ho⟩ := exo_at I0.hok ea
  have hself : ∃ m, h₀.Ns s.heap.objs.size m ∧ m "self" = some (.ref a) := by
    refine ⟨_, hns, ?_⟩
    cases us with
    | nil => cases r
    | cons u us =>
      cases r with
      | cons ra rr =>
        obtain rfl : u = Value.ref a := ra
        refine binds_get (i := 0) S.nd (by rw [S.eN]; rfl) rfl hlu
  obtain ⟨m, hm1, hm2⟩ := hself
  obtain ⟨ar, har1, har2⟩ := S.hd
  obtain ⟨iz, hz1, hz2⟩ := S.arg
  obtain ⟨mb, hb1, hb2⟩ := I0.mod.blt
  -- super()
  refine PySem.ks_wpAt_execs_cons (PySem.ks_wpAt_Expr_any (PySem.ks_wpAt_MethodCall ?_ (ev_sup hline)) I0.quiet rfl)
  refine PySem.ks_wpAt_super_base (env := PySem.W.ksEnv qual scope s.heap.objs.size f (.ref cda) cc) S.sup S.cls (by decide) rfl (X0 _ _ lk) rfl har1 rfl (X0 _ _ lc) rfl hvs hfile htop ?_
  refine PySem.W.ks_loadName_global S.kind S.sup (Calls.loadGlobal_builtin (by exact I0.mod.glob.keeps I0.bk) hsup (by exact hb1.keeps I0.bk) ((hb2 "super" (by decide)).trans boot_super) ⟨rfl, ?_⟩)
  refine wpAny_loadName_free S.kind S.cls (by show List.lookup _ [_] = _; simp [List.lookup]) ⟨_, X0 _ _ hcell, rfl⟩ ?_
  rw [har2]
  refine wpAny_loadName_local S.kind (S.par "self" (by rw [S.eN]; exact List.mem_cons_self)) hm1 hm2 ?_
  refine PySem.ks_wpAny_isType_cls (X0 _ _ hC) rfl ⟨rfl, ?_⟩
  refine PySem.ks_wpAny_call_super (X0 _ _ hC) rfl ho rfl (fun c e => by cases e) (PySem.W.looks_mroIn X0 hmr) (fun h1 e1 k1 => ?_)
  have I1 := I0.kept (h' := h1) (t' := s.toks + (N.zip us).length) k1
  have X1 : K.In h1 := X0.keeps k1
  have ho1 := k1 _ _ ho
  have A1 : PySem.W.InstAt h1 a ({ cls := .ref C, dict := none, data := .fields #[.ref t1, .none, .none, .none, .bool false, .none] } : Obj) C none := ⟨ho1, rfl, rfl, trivial⟩
  -- .__init__
  have hsi2 : PySem.W.alongIn K "__init__" (((Value.ref C :: bm).dropWhile (· != .ref C)).drop 1) = some (some (.builtin "ValueError.__init__")) := by
    have := hsi
    unfold PySem.W.ks_superIn at this
    rw [hcl] at this
    exact this
  refine PySem.W.kxs_getMethod PySem.W.kxs_ValueError e1 (PySem.W.looks_opaque X1 hop) (l₀ := Value.ref C :: bm) ?_ rfl X1 hsi2 (A1.type.andThen (PySem.W.looks_subIn X1 hB)) (PySem.W.ks_ne X1 A1 hcl) (by decide) ?_
  · exact fun A Q E s k q => wpAny_bind ((PySem.W.looks_clsIn X1 hcl) A _ E s k (wpAny_pure q))
  have e2 : (h1.push (PySem.W.kxs_mw "ValueError.__init__" a)).get? h1.objs.size = some (PySem.W.kxs_mw "ValueError.__init__" a) := Heap.get?_push_at rfl rfl
  have k2 : ∀ b o, h1.get? b = some o → (h1.push (PySem.W.kxs_mw "ValueError.__init__" a)).get? b = some o := fun b o e => Heap.get?_push_of_some _ e
  have I2' := I1.kept (h' := h1.push (PySem.W.kxs_mw "ValueError.__init__" a)) (t' := s.toks + (N.zip us).length + 1) k2
  have I2 : Inv (cxI P w K mg base N qual scope f (.ref cda) cc A outer s H) [(h1.objs.size, PySem.W.kxs_mw "ValueError.__init__" a)] ((V.ref a :: ws).map some) H { s with heap := h1.push (PySem.W.kxs_mw "ValueError.__init__" a), toks := s.toks + (N.zip us).length + 1 } := by
    refine I2'.pins_of fun p hp => ?_
    rw [List.mem_singleton] at hp
    subst hp
    refine ⟨e2, I1.hok.fresh (Nat.le_refl _), fun z => ?_, fun z => ?_, fun v z => by cases z⟩
    · obtain ⟨o, es, ep, hL, _⟩ := hm1
      have lt := Heap.lt_size (k1 _ _ hL)
      have z : h1.objs.size = s.heap.objs.size := z
      rw [z] at lt
      exact absurd lt (Nat.lt_irrefl _)
    · have z : h1.objs.size ∈ frs outer := z
      obtain ⟨_, o', e', _⟩ := e0.funs.mem z
      have lt := Heap.lt_size (k1 _ _ (hk _ _ e'))
      exact absurd lt (Nat.lt_irrefl _)
  have hw : ∃ wz, ((V.ref a :: ws).map some)[iz]? = some (some wz) := by
    rw [List.getElem?_map, List.getElem?_eq_getElem (by rw [hl]; exact hz2)]
    exact ⟨_, rfl⟩
  obtain ⟨wz, hwz⟩ := hw
  have pz : PE (cxI P w K mg base N qual scope f (.ref cda) cc A outer s H) (.Name z zp) (tVar iz) := var_of rfl rfl hz1
  have pa := pa_cons pz pa_nil rfl
  have pst : PSs (cxI P w K mg base N qual scope f (.ref cda) cc A outer s H) rest (tR1 K a C fs) := by
    obtain ⟨f0, fs', ef, hr0⟩ := S.rest
    rw [ef]
    exact pss_init rfl rfl hr0
  refine PySem.W.kxs_callWith (i := "ValueError.__init__") (x := a) rfl (Calls.evalArgs_plain ?_)
  refine wpAny_mono (pa.run p3 _ _ _ _ (fun vs H' => vs = [wz] ∧ H' = H) I2 ⟨wz, hwz, rfl, rfl⟩) (fun uz s3 hz => ?_) fun _ _ z => z.elim
  obtain ⟨vz, H3, I3, rz, evz, eH⟩ := hz
  subst eH evz
  have hu := (I3.pin (h1.objs.size, PySem.W.kxs_mw "ValueError.__init__" a) (List.mem_append_right _ List.mem_cons_self)).1
  obtain ⟨t3, ho3⟩ := exo_at I3.hok ea
  have X3 : K.In s3.heap := I3.kIn
  refine ⟨hu, ?_⟩
  obtain ⟨hh, g, d, tk, os⟩ := s3
  have hu : hh.get? h1.objs.size = some (PySem.W.kxs_mw "ValueError.__init__" a) := hu
  have hzl : uz.length ≤ sizeLine := by
    rw [← Paired.length rz, sizeLine_eq]
    simp
  refine wpAny_call (codeAny_of_tree ?_)
  show wpAny _ (A.deeper (PySem.W.ksEnv qual scope s.heap.objs.size f (.ref cda) cc)).in1 (callAny (.ref h1.objs.size) ⟨uz, []⟩) _ _ _
  simp only [callAny]
  refine wpAny_bind (wpAny_load hu ?_)
  simp only [PySem.W.kxs_mw, show (Value.type "method-wrapper" == Value.type "method" || Value.type "method-wrapper" == Value.type "builtin_function_or_method" || Value.type "method-wrapper" == Value.type "method-wrapper") = true by decide, if_true]
  refine PySem.W.KFB.if_so (by decide) ?_
  refine wpAny_bind (PySem.W.check_bound_init F.excBase_ValueError.toExcCallFacts (X3 _ _ hC) ho3 rfl ?_)
  refine wpAny_bind (wpAny_pure (wpAny_pure ?_))
  refine ⟨plainId_quiet F.excBase_ValueError.init.plain _, codeAny_builtin F.excBase_ValueError.initEntry ?_⟩
  refine PySem.W.exc_init_tree (cls := .ref C) (t0 := t3) (dv := none) (c2 := .none) (c3 := .none) (b4 := .bool false) ho3 hzl fun h4 k4 e4 t4 => ?_
  have I4 := I3.write (t' := tk) (x := a) (e := a) (o := exo a C none) (by rw [ea]; exact True.intro) (.inl rfl) k4 ⟨_, e4⟩ (exo_ok e4)
  rw [upd_id ea] at I4
  refine PySem.wpAt_of_wpAny ?_
  refine wpAny_mono (pst.run _ _ _ _ { nx := fun _ H' => Q .non H', rt := fun _ _ => False } I4 ?_) (fun fl s' hs => ?_) fun _ _ z => z.elim
  · refine ⟨ws, rfl, hwl, fun j v hj => ?_, T, hown, ea, S.len, fun dx H2 g1 g2 g3 g4 g5 => q dx H2 g1 g2 g3 g4 g5⟩
    rw [List.getElem?_map, show 1 + j = j + 1 by omega, List.getElem?_cons_succ, hj]
    rfl
  · cases fl with
    | next =>
      obtain ⟨σ', H', J, q'⟩ := hs
      exact ⟨.non, H', J.os, J.bare, J.base, J.hok, rfl, q'⟩
    | brk =>
      obtain ⟨_, _, _, q'⟩ := hs
      exact q'.elim
    | cont =>
      obtain ⟨_, _, _, q'⟩ := hs
      exact q'.elim
    | ret u =>
      obtain ⟨_, _, _, _, _, q'⟩ := hs
      exact q'.elim
end
end SQ

/-! SqSnd: what ev reckons of an expression is what the machine does. -/
set_option maxHeartbeats 2000000
namespace PySem
open Sem (wp)
section
variable {prog : Program} {w : World} {K : Type} [DecidableEq K] {knd : HeapKind prog w K} {A : Around} {E : Value → Shared → Prop} {s : Shared}
theorem sq_truthy_dictH {d : Addr} {kvs : List (K × Addr × Value)} {Q : Bool → Shared → Prop} (hd : (d == sysModules) = false) (hm : s.heap.DictOfH knd d kvs) (hfit : (kvs.length : Int) < 2 ^ 63)
    (h : Q (!kvs.isEmpty) { s with toks := s.toks + 1 + 1 }) : wpAny (model prog w) A (truthy (.ref d)) Q E s := by
  have hne : ((kvs.length : Int) != 0) = !kvs.isEmpty := by cases kvs <;> simp <;> omega
  have key : wpAny (model prog w) A (runValue (.builtin "len" ⟨[.ref d], []⟩)) (fun r s' => r = .int kvs.length (s.toks + 1) ∧ Q (!kvs.isEmpty) s') E s := by
    refine wpAny_runValue (codeAny_builtin entry_len ?_)
    rw [Around.under_plainId plain_len _]
    exact wpAny_mono (wpAny_len_body_dictH (Q := fun r s' => r = .int kvs.length (s.toks + 1) ∧ Q (!kvs.isEmpty) s') hd hm hfit ⟨rfl, h⟩)
      (fun fin s' h' => by obtain ⟨r, rfl, hq⟩ := h'; exact hq) fun _ _ e => e
  unfold truthy
  first
    | refine wpAny_bind (wpAny_callSpecial?_none (name := Str.ofString "__bool__") hm.typeIs noBool_dict ?_)
    | refine wpAny_bind (wpAny_pure (wpAny_bind (wpAny_callSpecial?_none (name := Str.ofString "__bool__") hm.typeIs noBool_dict ?_)))
  first
    | refine wpAny_bind (wpAny_specialOf (name := Str.ofString "__len__") hm.typeIs F.slot_dict_len.lookup ?_)
    | refine wpAny_bind (wpAny_pure (wpAny_bind (wpAny_specialOf (name := Str.ofString "__len__") hm.typeIs F.slot_dict_len.lookup ?_)))
  first
    | exact wpAny_bind (wpAny_mono key (fun r s' h' => by obtain ⟨rfl, hq⟩ := h'; exact wpAny_pure (hne ▸ hq)) fun _ _ e => e)
    | exact wpAny_bind (wpAny_pure (wpAny_bind (wpAny_mono key (fun r s' h' => by obtain ⟨rfl, hq⟩ := h'; exact wpAny_pure (hne ▸ hq)) fun _ _ e => e)))
end
end PySem
namespace SQ
open PySem PySem.Spec PyProof.Rows L2
variable [TabsC]

section
variable {X : Cx}
theorem isEmpty_lens {α β : Type} {xs : List α} {ys : List β} (h : xs.length = ys.length) : xs.isEmpty = ys.isEmpty := by
  cases xs <;> cases ys <;> first | rfl | cases h
theorem tru_D : TruR X (fun x H Q => ∃ O d, CS O H x d ∧ Q (truth d) H) := by
  intro pins s σ H x v Q I rx h
  obtain ⟨O, d, hx, q⟩ := h
  have hlim := lim_le
  cases d with
  | none => exact tru_ok pins s σ H x v Q I rx ⟨false, by rw [hx.i_none]; rfl, q⟩
  | bool b => exact tru_ok pins s σ H x v Q I rx ⟨b, by rw [hx.i_bool]; rfl, q⟩
  | int i => exact tru_ok pins s σ H x v Q I rx ⟨i != 0, by rw [hx.i_int]; rfl, q⟩
  | str z =>
    obtain ⟨rfl, hz⟩ := hx.i_str
    refine tru_ok pins s σ H _ v Q I rx ⟨_, ⟨Nat.le_trans hz hlim, rfl⟩, ?_⟩
    have e : truth (.str z) = ((z.length : Int) != 0) := by
      show (z.cps.size != 0) = (((z.cps.size : Nat) : Int) != 0)
      cases h : z.cps.size <;> simp <;> omega
    rw [← e]
    exact q
  | list ds =>
    obtain ⟨a, xs, rfl, h1, h3, h4, h5⟩ := hx.i_list
    refine tru_ok pins s σ H _ v Q I rx ⟨_, .inl ⟨xs, rd_sql h1, rfl⟩, ?_⟩
    rw [isEmpty_lens h5]
    exact q
  | tuple ds =>
    obtain ⟨a, xs, rfl, h1, h2, h3, h4, h5⟩ := hx.i_tuple
    refine tru_ok pins s σ H _ v Q I rx ⟨_, .inr (.inl ⟨xs, t_sqt h1, rfl⟩), ?_⟩
    rw [isEmpty_lens h5]
    exact q
  | dict es =>
    have ne : ∀ {α : Type} (l : List α), (l.length != 0) = !l.isEmpty := fun l => by cases l <;> simp
    rcases hx.i_dict with ⟨a, kvs, rfl, h1, h2, h3⟩ | ⟨a, kvs, es', rfl, h1, h2, h3, rfl⟩
    · refine tru_ok pins s σ H _ v Q I rx ⟨_, .inr (.inr ⟨kvs, h1, rfl⟩), ?_⟩
      have nt := h2.notT
      have e : truth (.dict es) = !kvs.isEmpty := by
        show ((if isT es = true then es.length - 1 else es.length) != 0) = _
        rw [nt, if_neg Bool.false_ne_true, ne, isEmpty_lens h2.length]
      rw [← e]
      exact q
    · cases rx
      obtain ⟨z, hd, ys, rel, dd⟩ := dt_of I.hok h1
      have hl : kvs.length = ys.length := Paired.length rel
      refine sq_truthy_dictH hd dd (by rw [← hl]; rw [sizeLine_eq] at z; omega) ?_
      have e : truth (.dict ((.none, .none) :: es')) = !ys.isEmpty := by
        show ((es'.length + 1 - 1) != 0) = _
        rw [Nat.add_sub_cancel, ne, isEmpty_lens (h2.length.symm.trans hl)]
      rw [← e]
      exact ⟨H, I.tok _, q⟩
end

section
variable {T : Tb} {sem : Nat → List D → Res D} {n : Nms} {N : List Str}

def SndE (T : Tb) (sem : Nat → List D → Res D) (n : Nms) (N : List Str) (c : C) : Prop := ∀ (w : Bool) (X : Cx) (k : Nat) (so sr : Scope) (W : WX), Gd T sem n N X k so sr W → ∀ e, chkE n N w so sr c e = true → PE X e (tE T sem w W c) ∧ PT X e (tT T sem W c)
def SndW (T : Tb) (sem : Nat → List D → Res D) (n : Nms) (N : List Str) (c : C) : Prop := ∀ (X : Cx) (k : Nat) (so sr : Scope) (W : WX), Gd T sem n N X k so sr W → ∀ op l pos, chkE n N false so sr c (.BoolOp op l pos) = true → PW X (.BoolOp op l pos) (tT T sem W c)
def SndL (T : Tb) (sem : Nat → List D → Res D) (n : Nms) (N : List Str) (c : C) : Prop := ∀ (w : Bool) (X : Cx) (k : Nat) (so sr : Scope) (W : WX), Gd T sem n N X k so sr W → ∀ l, chkL n N w so sr c l = true → PA X l (tA T sem w W c)
structure Snd (T : Tb) (sem : Nat → List D → Res D) (n : Nms) (N : List Str) (c : C) : Prop where
  e : SndE T sem n N c
  w : SndW T sem n N c
  l : SndL T sem n N c

/-- a plain expression as a test -/
theorem pt_of {X : Cx} {W : WX} {c : C} {w : Bool} {e : Expr} (h : PE X e (tE T sem w W c)) (he : ∀ whole, isTrue e X.env whole = (do let v ← whole; standAt e.pos; holding [v] (truthy v))) : PT X e (tT T sem W c) := by
  refine ⟨fun pins s σ H Q I q => ?_⟩
  obtain ⟨Oc, Of, en, r, q⟩ := q
  refine isTrue_plain (thn (h.run pins s σ H (fun v H1 => ∃ O d, CS O H1 v d ∧ Q (truth d) H1) I ⟨Oc, Of, en, r, q.same (Same.refl _) fun d hd v H' s' r' => ⟨_, d, r'.cs, hd H' s'⟩⟩) fun v s1 ⟨x, H1, I1, r1, O, d, q1, q2⟩ => ?_) (he _)
  exact tru_D pins s1 σ H1 x v Q I1 r1 ⟨O, d, q1, q2⟩
/-- not a boolean operation -/
theorem sw_no {c : C} (h : ∀ so sr op l pos, chkE n N false so sr c (.BoolOp op l pos) = false) : SndW T sem n N c := fun X k so sr W G op l pos q => by rw [h] at q; cases q
theorem sl_no {c : C} (h : ∀ w so sr l, chkL n N w so sr c l = false) : SndL T sem n N c := fun w X k so sr W G l q => by rw [h] at q; cases q

/-! ### values one after the other -/
variable {X : Cx} {W : WX} {σ : L2.St} {H : Hp} {w : Bool}
/-- the reading of a, and what follows it -/
theorem tE_bind {β : Type} {a : C} {f : D → Res β} {Oc Of : List Addr} {en : En} {k : β → Prop} {R : VK} (r : Rep Oc Of σ H en) (h : okR T W σ H ((ev sem a en).bind f) k)
    (hk : ∀ d v H1, Same H H1 → RS w (Oc ++ Of) H1 v d → okR T W σ H1 (f d) k → R v H1) : tE T sem w W a σ H R :=
  ⟨Oc, Of, en, r, (h.bind).same (Same.refl _) fun d ⟨_, hd⟩ v H1 s1 rv => hk d v H1 s1 rv (hd.same s1 fun _ z => z)⟩
theorem tA_bind {β : Type} {a : C} {f : D → Res β} {Oc Of : List Addr} {en : En} {k : β → Prop} {R : List V → Hp → Prop} (r : Rep Oc Of σ H en) (h : okR T W σ H ((ev sem a en).bind f) k)
    (hk : ∀ d vs H1, Same H H1 → RSs w (Oc ++ Of) H1 vs (asL d) → okR T W σ H1 (f d) k → R vs H1) : tA T sem w W a σ H R :=
  ⟨Oc, Of, en, r, (h.bind).same (Same.refl _) fun d ⟨_, hd⟩ v H1 s1 rv => hk d v H1 s1 rv (hd.same s1 fun _ z => z)⟩
theorem tT_bind {β : Type} {a : C} {f : D → Res β} {Oc Of : List Addr} {en : En} {k : β → Prop} {R : Bool → Hp → Prop} (r : Rep Oc Of σ H en) (h : okR T W σ H ((ev sem a en).bind f) k)
    (hk : ∀ d H1, Same H H1 → okR T W σ H1 (f d) k → R (truth d) H1) : tT T sem W a σ H R :=
  ⟨Oc, Of, en, r, (h.bind).same (Same.refl _) fun d ⟨_, hd⟩ H1 s1 => hk d H1 s1 (hd.same s1 fun _ z => z)⟩
/-- the end of a reading: the wished datum, from a later heap -/
theorem fin_Q {O : List Addr} {H0 H1 : Hp} {Q : VK} {d : D} (s : Same H0 H1) (q : ∀ v H', Same H0 H' → RS false O H' v d → Q v H') : ∀ v H', Same H1 H' → DS O H' v d → Q v H' := fun v H' s' h => q v H' (s.trans s') h

theorem pe_binD {o : Op} {a b : C} {x y : Expr} {p : Operator} {pos : Pos} (ho : OpR X (binaryOp p) (rD2 (opD o))) (ha : PE X x (tE T sem true W a)) (hb : PE X y (tE T sem true W b)) : PE X (.BinOp x p y pos) (tE T sem false W (.bin o a b)) := by
  refine pe_mono (pe_op ho ha hb) fun σ H Q ⟨Oc, Of, en, r, q⟩ => ?_
  refine tE_bind r q fun d1 v1 H1 s1 r1 q1 => tE_bind (r.same s1) q1 fun d2 v2 H2 s2 r2 q2 => ?_
  obtain ⟨d, e, k⟩ := okR.noE q2
  exact ⟨Oc ++ Of, d1, d2, d, (r.same (s1.trans s2)).th, (r1.same s2).cs, r2.cs, e, fin_Q (s1.trans s2) k⟩
theorem snd_opIs {o : Op} {p : Operator} (h : opIs o p = true) : OpR X (binaryOp p) (rD2 (opD o)) := by
  cases o with
  | add => cases p <;> first | (exact absurd h Bool.false_ne_true) | exact s_add
  | sub => cases p <;> first | (exact absurd h Bool.false_ne_true) | exact s_sub
  | mul => cases p <;> first | (exact absurd h Bool.false_ne_true) | exact s_mul
  | mod => cases p <;> first | (exact absurd h Bool.false_ne_true) | exact s_mod
  | fdiv => cases p <;> first | (exact absurd h Bool.false_ne_true) | exact s_fdiv
  | pow => cases p <;> first | (exact absurd h Bool.false_ne_true) | exact s_pow
theorem snd_cmIs {o : Cm} {p : CmpOp} (hu : X.A.units + 64 < cLine) (h : cmIs o p = true) : OpR X (compareOp p) (rB2 (cmD o)) := by
  cases o with
  | eq => cases p <;> first | (exact absurd h Bool.false_ne_true) | exact s_eq hu
  | ne => cases p <;> first | (exact absurd h Bool.false_ne_true) | exact s_ne hu
  | lt => cases p <;> first | (exact absurd h Bool.false_ne_true) | exact s_lt hu
  | le => cases p <;> first | (exact absurd h Bool.false_ne_true) | exact s_le hu
  | gt => cases p <;> first | (exact absurd h Bool.false_ne_true) | exact s_gt hu
  | ge => cases p <;> first | (exact absurd h Bool.false_ne_true) | exact s_ge hu
  | isin => cases p <;> first | (exact absurd h Bool.false_ne_true) | exact s_in hu
  | notin => cases p <;> first | (exact absurd h Bool.false_ne_true) | exact s_notin hu

/-- a comparison, as a value and as a test -/
theorem cmp_red {o : Cm} {a b : C} {wa wb : Bool} {Q : VK} (h : tE T sem false W (.cmp o a b) σ H Q) : tOp (rB2 (cmD o)) (tE T sem wa W a) (tE T sem wb W b) σ H Q := by
  obtain ⟨Oc, Of, en, r, q⟩ := h
  refine tE_bind r q fun d1 v1 H1 s1 r1 q1 => tE_bind (r.same s1) q1 fun d2 v2 H2 s2 r2 q2 => ?_
  obtain ⟨d, e, k⟩ := okR.noE q2.bind
  exact ⟨Oc ++ Of, d1, d2, d, (r.same (s1.trans s2)).th, (r1.same s2).cs, r2.cs, e, k.2 _ _ (s1.trans s2) (.bl d)⟩
theorem cmp_redT {o : Cm} {a b : C} {wa wb : Bool} {Q : Bool → Hp → Prop} (h : tT T sem W (.cmp o a b) σ H Q) : tTest (tOp (rB2 (cmD o)) (tE T sem wa W a) (tE T sem wb W b)) σ H Q := by
  obtain ⟨Oc, Of, en, r, q⟩ := h
  refine tE_bind r q fun d1 v1 H1 s1 r1 q1 => tE_bind (r.same s1) q1 fun d2 v2 H2 s2 r2 q2 => ?_
  obtain ⟨d, e, k⟩ := okR.noE q2.bind
  exact ⟨Oc ++ Of, d1, d2, d, (r.same (s1.trans s2)).th, (r1.same s2).cs, r2.cs, e, d, rfl, k.2 _ (s1.trans s2)⟩
end
end SQ

/-! SqSnd2: what a for or a comprehension walks; list comprehensions. -/
set_option maxHeartbeats 2000000
namespace SQ
open PySem PySem.Spec PyProof.Rows L2
variable [TabsC]

/-- from one heap to a later one: all but the objects of Of is kept; what is held later was held or is new -/
structure Stp (Of : List Addr) (H : Hp) (Of' : List Addr) (H' : Hp) : Prop where
  keep : ∀ b o, H b = some o → b ∉ Of → H' b = some o
  new : ∀ p ∈ Of', p ∈ Of ∨ H p = none
theorem Stp.same {Of : List Addr} {H H' : Hp} (s : Same H H') : Stp Of H Of H' := ⟨fun b o e _ => s b o e, fun p hp => .inl hp⟩
theorem Stp.nin {Of Of' : List Addr} {H H' : Hp} (s : Stp Of H Of' H') {b : Addr} {o : HO} (e : H b = some o) (n : b ∉ Of) : b ∉ Of' := fun z => by
  rcases s.new b z with h | h
  · exact n h
  · rw [e] at h; cases h
theorem Stp.trans {Of Of' Of2 : List Addr} {H H' H2 : Hp} (a : Stp Of H Of' H') (b : Stp Of' H' Of2 H2) : Stp Of H Of2 H2 :=
  ⟨fun c o e n => b.keep c o (a.keep c o e n) (a.nin e n), fun p hp => by
    rcases b.new p hp with h | h
    · exact a.new p h
    · cases e : H p with
      | none => exact .inr rfl
      | some o =>
        by_cases n : p ∈ Of
        · exact .inl n
        · rw [a.keep p o e n] at h; cases h⟩
theorem Stp.ds {Oc Of Of' : List Addr} {H H' : Hp} (s : Stp Of H Of' H') {v : V} {d : D} (h : DS (Oc ++ Of) H v d) : DS (Oc ++ Of') H' v d := h.step fun b o e n => by
  have n1 : b ∉ Oc := fun z => n (List.mem_append_left _ z)
  have n2 : b ∉ Of := fun z => n (List.mem_append_right _ z)
  exact ⟨s.keep b o e n2, fun z => (List.mem_append.mp z).elim n1 (s.nin e n2)⟩
theorem Stp.dss {Oc Of Of' : List Addr} {H H' : Hp} (s : Stp Of H Of' H') {v : List V} {d : List D} (h : DSs (Oc ++ Of) H v d) : DSs (Oc ++ Of') H' v d := h.step fun b o e n => by
  have n1 : b ∉ Oc := fun z => n (List.mem_append_left _ z)
  have n2 : b ∉ Of := fun z => n (List.mem_append_right _ z)
  exact ⟨s.keep b o e n2, fun z => (List.mem_append.mp z).elim n1 (s.nin e n2)⟩

/-- the walk J yields the data ds -/
def ItAt (ds : List D) (J : It) (H2 : Hp) (O : List Addr) : Prop := (∀ i, i < ds.length → J.go i H2) ∧ (∀ i, ds.length ≤ i → J.stop i H2) ∧ ∀ i x H3, J.yld i H2 x H3 → H3 = H2 ∧ ∀ d, ds[i]? = some d → DS O H2 x d
def ItX : Bool → List Addr → List Addr → List D → Hp → It → Prop
  | true, Oc, Of, ds, H1, J => ∀ O2 H2, Same H1 H2 → (∀ b o, H1 b = some o → b ∉ Oc ++ Of → b ∉ O2) → ItAt ds J H2 O2
  | false, Oc, Of, ds, H1, J => ∀ Of2 H2, Stp Of H1 Of2 H2 → ItAt ds J H2 (Oc ++ Of2)

theorem itl_at {K : PySem.W.Frag} {a : Addr} {xs : List V} {ds : List D} {H : Hp} {O : List Addr} (inj : ∀ ys, SqL K H a ys → ys = xs) (h : SqL K H a xs) (t : DSs O H xs ds) : ItAt ds (Itl K a) H O := by
  have hl := t.length
  refine ⟨fun i hi => ⟨xs, xs[i], h, by simp [hl, hi]⟩, fun i hi => ⟨xs, h, by omega⟩, fun i x H3 hy => ?_⟩
  obtain ⟨e, hy⟩ := hy
  refine ⟨e, fun d hd => ?_⟩
  obtain ⟨v, e1, e2⟩ := t.get hd
  have := hy xs h
  rw [e1] at this
  cases this
  exact e2
theorem itt_at {K : PySem.W.Frag} {a : Addr} {xs : List V} {ds : List D} {H : Hp} {O : List Addr} (h : SqT K H a xs) (t : DSs O H xs ds) : ItAt ds (Itt K a) H O := by
  have hl := t.length
  refine ⟨fun i hi => ⟨xs, xs[i], h, by simp [hl, hi]⟩, fun i hi => ⟨xs, h, by omega⟩, fun i x H3 hy => ?_⟩
  obtain ⟨e, hy⟩ := hy
  refine ⟨e, fun d hd => ?_⟩
  obtain ⟨v, e1, e2⟩ := t.get hd
  have := hy xs h
  rw [e1] at this
  cases this
  exact e2
theorem its_at {z : Str} {H : Hp} {O : List Addr} : ItAt (z.cps.toList.map fun c => T [c]) (Its z) H O := by
  refine ⟨fun i hi => by
    rw [List.length_map, Array.length_toList] at hi
    exact hi, fun i hi => by
    rw [List.length_map, Array.length_toList] at hi
    exact hi, fun i x H3 hy => ?_⟩
  obtain ⟨e, c, hc, rfl⟩ := hy
  refine ⟨e, fun d hd => ?_⟩
  have e2 : z.cps.toList[i]? = some c := by simpa using hc
  rw [List.getElem?_map, e2] at hd
  cases hd
  exact .str _ (by show 1 ≤ lim; decide)

/-- a list that is only tracked: what it holds is one thing -/
theorem rd_inj {H : Hp} {a : Addr} {xs ys : List V} (h : Rd H a (.lst xs)) (h' : Rd H a (.lst ys)) : ys = xs := by
  rcases h with h | ⟨o, h⟩ <;> rcases h' with h' | ⟨o', h'⟩ <;> rw [h] at h' <;> cases h' <;> rfl

/-- the walk over the list at a by what is tracked alone -/
def ItlR (a : Addr) : It := ⟨fun i H => ∃ xs x, Rd H a (.lst xs) ∧ xs[i]? = some x, fun i H x H' => H' = H ∧ ∀ xs, Rd H a (.lst xs) → xs[i]? = some x, fun i H => ∃ xs, Rd H a (.lst xs) ∧ xs.length ≤ i⟩
theorem turn_listR {P : Program} {w : World} {K : PySem.W.Frag} {tg : Expr} (a it : Addr) : Turn P w K tg (ItlR a) [it] it (fun i h => h.IsListIter it a i) where
  mem := (turn_list (P := P) (w := w) (K := K) (tg := tg) a it).mem
  obj := (turn_list (P := P) (w := w) (K := K) (tg := tg) a it).obj
  keep := (turn_list (P := P) (w := w) (K := K) (tg := tg) a it).keep
  item := by
    intro X hP hw hK hc i pins s σ H E I hf st hg
    obtain ⟨xs, x, hq, hx⟩ := hg
    refine thn ((turn_list (P := P) (w := w) (K := K) (tg := tg) a it).item X hP hw hK hc i pins s σ H E I hf st ⟨xs, x, rd_sql hq, hx⟩) fun r s1 ⟨u, e, h⟩ => ⟨u, e, thn h fun _ s2 ⟨y, H', I', r', yl, q⟩ => ⟨y, H', I', r', ⟨yl.1, fun ys hy => yl.2 ys (rd_sql hy)⟩, q⟩⟩
  done := by
    intro X hP hw hK hc i pins s σ H E I hf st hg
    obtain ⟨xs, hq, hx⟩ := hg
    exact (turn_list (P := P) (w := w) (K := K) (tg := tg) a it).done X hP hw hK hc i pins s σ H E I hf st ⟨xs, rd_sql hq, hx⟩
  self := (turn_list (P := P) (w := w) (K := K) (tg := tg) a it).self
def IttR (a : Addr) : It := ⟨fun i H => ∃ xs x, H a = some (.tup xs) ∧ xs[i]? = some x, fun i H x H' => H' = H ∧ ∀ xs, H a = some (.tup xs) → xs[i]? = some x, fun i H => ∃ xs, H a = some (.tup xs) ∧ xs.length ≤ i⟩
theorem turn_tupR {P : Program} {w : World} {K : PySem.W.Frag} {tg : Expr} (a it : Addr) : Turn P w K tg (IttR a) [it] it (fun i h => h.IsTupleIter it a i) where
  mem := (turn_tuple (P := P) (w := w) (K := K) (tg := tg) a it).mem
  obj := (turn_tuple (P := P) (w := w) (K := K) (tg := tg) a it).obj
  keep := (turn_tuple (P := P) (w := w) (K := K) (tg := tg) a it).keep
  item := by
    intro X hP hw hK hc i pins s σ H E I hf st hg
    obtain ⟨xs, x, hq, hx⟩ := hg
    refine thn ((turn_tuple (P := P) (w := w) (K := K) (tg := tg) a it).item X hP hw hK hc i pins s σ H E I hf st ⟨xs, x, t_sqt hq, hx⟩) fun r s1 ⟨u, e, h⟩ => ⟨u, e, thn h fun _ s2 ⟨y, H', I', r', yl, q⟩ => ⟨y, H', I', r', ⟨yl.1, fun ys hy => yl.2 ys (t_sqt hy)⟩, q⟩⟩
  done := by
    intro X hP hw hK hc i pins s σ H E I hf st hg
    obtain ⟨xs, hq, hx⟩ := hg
    exact (turn_tuple (P := P) (w := w) (K := K) (tg := tg) a it).done X hP hw hK hc i pins s σ H E I hf st ⟨xs, t_sqt hq, hx⟩
  self := (turn_tuple (P := P) (w := w) (K := K) (tg := tg) a it).self
theorem itlR_at {a : Addr} {xs : List V} {ds : List D} {H : Hp} {O : List Addr} (h : Rd H a (.lst xs)) (t : DSs O H xs ds) : ItAt ds (ItlR a) H O := by
  have hl := t.length
  refine ⟨fun i hi => ⟨xs, xs[i], h, by simp [hl, hi]⟩, fun i hi => ⟨xs, h, by omega⟩, fun i x H3 hy => ?_⟩
  obtain ⟨e, hy⟩ := hy
  refine ⟨e, fun d hd => ?_⟩
  obtain ⟨v, e1, e2⟩ := t.get hd
  have := hy xs h
  rw [e1] at this
  cases this
  exact e2
theorem ittR_at {a : Addr} {xs : List V} {ds : List D} {H : Hp} {O : List Addr} (h : H a = some (.tup xs)) (t : DSs O H xs ds) : ItAt ds (IttR a) H O := by
  have hl := t.length
  refine ⟨fun i hi => ⟨xs, xs[i], h, by simp [hl, hi]⟩, fun i hi => ⟨xs, h, by omega⟩, fun i x H3 hy => ?_⟩
  obtain ⟨e, hy⟩ := hy
  refine ⟨e, fun d hd => ?_⟩
  obtain ⟨v, e1, e2⟩ := t.get hd
  have := hy xs h
  rw [e1] at this
  cases this
  exact e2

section
variable {T : Tb} {sem : Nat → List D → Res D} {n : Nms} {N : List Str} {X : Cx} {W : WX} {σ : L2.St} {H : Hp}
theorem itemsD_no {d : D} {c : Nat} {xs : List D} : itemsD d ≠ .err c xs := by
  cases d <;> intro h <;> cases h
/-- the walk over a value by its datum -/
def tI (T : Tb) (sem : Nat → List D → Res D) (w : Bool) (W : WX) (c : C) : TI := fun σ H R => ∃ Oc Of en, Rep Oc Of σ H en ∧ okR T W σ H ((ev sem c en).bind itemsD) fun ds => ∀ J H1, ds.length ≤ lim → Same H H1 → ItX w Oc Of ds H1 J → R J H1
theorem it_x {a : Addr} {xs : List V} {ds : List D} {H1 : Hp} {Oc Of : List Addr} {w : Bool} (h : Rd H1 a (.lst xs)) (hw : w = false → a ∉ Oc ++ Of) (t : DSs (Oc ++ Of) H1 xs ds) : ItX w Oc Of ds H1 (ItlR a) := by
  cases w with
  | true => exact fun O2 H2 s hn => itlR_at (rd_step (O := []) (O' := []) (fun b o e _ => ⟨s b o e, by simp⟩) h (by simp)).1 (t.step fun b o e nn => ⟨s b o e, hn b o e nn⟩)
  | false =>
    have na := hw rfl
    exact fun Of2 H2 s => itlR_at (rd_step (O := Oc ++ Of) (O' := Oc ++ Of2) (fun b o e nn => by
      have n1 : b ∉ Oc := fun z => nn (List.mem_append_left _ z)
      have n2 : b ∉ Of := fun z => nn (List.mem_append_right _ z)
      exact ⟨s.keep b o e n2, fun z => (List.mem_append.mp z).elim n1 (s.nin e n2)⟩) h na).1 (s.dss t)
theorem it_t {a : Addr} {xs : List V} {ds : List D} {H1 : Hp} {Oc Of : List Addr} {w : Bool} (h : H1 a = some (.tup xs)) (na : a ∉ Oc ++ Of) (t : DSs (Oc ++ Of) H1 xs ds) : ItX w Oc Of ds H1 (IttR a) := by
  cases w with
  | true => exact fun O2 H2 s hn => ittR_at (s _ _ h) (t.step fun b o e nn => ⟨s b o e, hn b o e nn⟩)
  | false => exact fun Of2 H2 s => ittR_at (s.keep _ _ h fun z => na (List.mem_append_right _ z)) (s.dss t)
theorem it_s {z : Str} {H1 : Hp} {Oc Of : List Addr} {w : Bool} : ItX w Oc Of (z.cps.toList.map fun c => SQ.T [c]) H1 (Its z) := by
  cases w with
  | true => exact fun O2 H2 s _ => its_at
  | false => exact fun Of2 H2 s => its_at
theorem pi_D {w : Bool} {c : C} {tg e : Expr} (he : PE X e (tE T sem w W c)) : PI X tg e (tI T sem w W c) := by
  refine ⟨fun pins s σ H R I h => ?_⟩
  obtain ⟨Oc, Of, en, r, q⟩ := h
  refine thn (he.run pins s σ H (fun v H1 => ∃ d ds, RS w (Oc ++ Of) H1 v d ∧ itemsD d = .ok ds ∧ ∀ J, ds.length ≤ lim → ItX w Oc Of ds H1 J → R J H1) I ⟨Oc, Of, en, r, q.bind.same (Same.refl _) fun d ⟨_, hd⟩ v H1 s1 rv => ?_⟩) fun v s1 ⟨x, H1, I1, r1, d, ds, rv, e1, q1⟩ => ?_
  · cases e : itemsD d with
    | ok ds =>
      rw [e] at hd
      exact ⟨d, ds, rv, e, fun J hl hJ => hd J H1 hl s1 hJ⟩
    | err c xs => exact absurd e itemsD_no
    | bad => rw [e] at hd; exact hd.elim
  · cases d with
    | none => cases e1
    | bool => cases e1
    | int => cases e1
    | dict => cases e1
    | str z =>
      cases e1
      obtain ⟨rfl, hz⟩ := rv.cs.i_str
      obtain ⟨t, rfl⟩ := r1
      have qq := q1 (Its z) (by rw [List.length_map, Array.length_toList]; exact hz) it_s
      cases ha : z.cps.all (· < 128)
      · exact wpAny_pyIter_wide ha (pi_one (tk := s1.toks) I1 _ (turn_str _ z t "str_iterator" (.inr rfl)) ⟨_, Heap.get?_push_size _ rfl, rfl, rfl⟩ qq)
      · exact wpAny_pyIter_ascii ha (pi_one (tk := s1.toks) I1 _ (turn_str _ z t "str_ascii_iterator" (.inl rfl)) ⟨_, Heap.get?_push_size _ rfl, rfl, rfl⟩ qq)
    | list l =>
      cases e1
      have fin : ∀ (a : Addr) (xs : List V), x = .ref a → Rd H1 a (.lst xs) → R (ItlR a) H1 → wpAny (model X.prog X.w) X.A (pyIter v) (PIE X pins σ tg R) X.xe s1 := fun a xs ex h1 qq => by
        subst ex
        cases r1
        obtain ⟨its, rv, p, hz⟩ := I1.list (rd_sql h1)
        refine wpAny_pyIter_list p.isList ?_
        refine ⟨s1.heap.objs.size, [s1.heap.objs.size], _, _, H1, rfl, I1.kept (t' := s1.toks) fun b o e => Heap.get?_push_of_some _ e, turn_listR a _, ⟨_, Heap.get?_push_size _ rfl, rfl, rfl⟩, fun b hb => ?_, qq⟩
        have e : b = s1.heap.objs.size := by simpa using hb
        subst e
        exact I1.fpOk (Nat.le_refl _) (I1.hok.fresh (Nat.le_refl _))
      cases w with
      | true =>
        obtain ⟨a, xs, ex, h1, h3, h4, h5⟩ := CS.i_list rv
        exact fin a xs ex h1 (q1 _ h4 (it_x h1 (fun z => nomatch z) h3))
      | false =>
        obtain ⟨a, xs, ex, h1, h2, h3, h4, h5⟩ := DS.i_list rv
        exact fin a xs ex h1 (q1 _ h4 (it_x h1 (fun _ => h2) h3))
    | tuple l =>
      cases e1
      obtain ⟨a, xs, rfl, h1, h2, h3, h4, h5⟩ := rv.cs.i_tuple
      have qq := q1 _ h4 (it_t h1 h2 h3)
      cases r1
      obtain ⟨its, rv, p, hz⟩ := I1.tuple (t_sqt h1)
      refine wpAny_pyIter_tuple (show s1.heap.IsTuple a its.toArray from p) ?_
      refine ⟨s1.heap.objs.size, [s1.heap.objs.size], _, _, H1, rfl, I1.kept (t' := s1.toks) fun b o e => Heap.get?_push_of_some _ e, turn_tupR a _, ⟨_, Heap.get?_push_size _ rfl, rfl, rfl⟩, fun b hb => ?_, qq⟩
      have e : b = s1.heap.objs.size := by simpa using hb
      subst e
      exact I1.fpOk (Nat.le_refl _) (I1.hok.fresh (Nat.le_refl _))

/-! ### range -/
omit [TabsC] in
theorem rngL_length (a b c : Int) : (rngL a b c).length = (Builtin.Range.rangeSize a b c).toNat := by simp [rngL]
theorem itc_at {a b c : Int} {m : Nat} {H : Hp} {O : List Addr} (hm : (Builtin.Range.rangeSize a b c).toNat = m) : ItAt (rngL a b c) (Itc a c m) H O := by
  refine ⟨fun i hi => by rw [rngL_length, hm] at hi; exact hi, fun i hi => by rw [rngL_length, hm] at hi; exact hi, fun i x H3 hy => ?_⟩
  obtain ⟨e, rfl⟩ := hy
  refine ⟨e, fun d hd => ?_⟩
  unfold rngL at hd
  rw [List.getElem?_map] at hd
  cases e2 : (List.range (Builtin.Range.rangeSize a b c).toNat)[i]? with
  | none => rw [e2] at hd; cases hd
  | some j =>
    rw [e2] at hd
    obtain ⟨h1, h2⟩ := List.getElem?_eq_some_iff.mp e2
    rw [List.getElem_range] at h2
    subst h2
    cases hd
    exact .int _
theorem itr_at {a b : Int} {m : Nat} {H : Hp} {O : List Addr} (hm : (b - a).toNat = m) : ItAt (rngL a b 1) (Itr a m) H O := by
  have e0 : (Builtin.Range.rangeSize a b 1).toNat = m := by rw [rangeSize_one]; split <;> omega
  refine ⟨fun i hi => by rw [rngL_length, e0] at hi; exact hi, fun i hi => by rw [rngL_length, e0] at hi; exact hi, fun i x H3 hy => ?_⟩
  obtain ⟨e, rfl⟩ := hy
  refine ⟨e, fun d hd => ?_⟩
  have := (itc_at (c := 1) e0 (H := H) (O := O)).2.2 i _ H ⟨rfl, rfl⟩
  have := this.2 d hd
  rw [Int.mul_one] at this
  exact this
theorem ItX.all {w : Bool} {Oc Of : List Addr} {ds : List D} {H1 : Hp} {J : It} (h : ∀ H O, ItAt ds J H O) : ItX w Oc Of ds H1 J := by
  cases w with
  | true => exact fun O2 H2 _ _ => h H2 O2
  | false => exact fun Of2 H2 _ => h H2 _
theorem bind_assoc {α β γ : Type} (r : Res α) (f : α → Res β) (g : β → Res γ) : (r.bind f).bind g = r.bind fun a => (f a).bind g := by cases r <;> rfl
def rngD (x y z : D) : Res D := match x, y, z with
    | .int a, .int b, .int c => if -(10 ^ 9) ≤ a ∧ a ≤ 10 ^ 9 ∧ -(10 ^ 9) ≤ b ∧ b ≤ 10 ^ 9 ∧ c ≠ 0 ∧ c.natAbs ≤ 10 ^ 9 ∧ (Builtin.Range.rangeSize a b c).toNat ≤ lim then .ok (.list (rngL a b c)) else .bad
    | _, _, _ => .bad
theorem rngD_ok {x y z d : D} (h : rngD x y z = .ok d) : ∃ a b c, x = .int a ∧ y = .int b ∧ z = .int c ∧ (-(10 ^ 9) ≤ a ∧ a ≤ 10 ^ 9 ∧ -(10 ^ 9) ≤ b ∧ b ≤ 10 ^ 9 ∧ c ≠ 0 ∧ c.natAbs ≤ 10 ^ 9 ∧ (Builtin.Range.rangeSize a b c).toNat ≤ lim) ∧ d = .list (rngL a b c) := by
  cases x with
  | int a => cases y with
    | int b => cases z with
      | int c =>
        unfold rngD at h
        simp only at h
        split at h
        · rename_i hc
          cases h
          exact ⟨a, b, c, rfl, rfl, rfl, hc, rfl⟩
        · cases h
      | _ => cases h
    | _ => cases h
  | _ => cases h
theorem rngD_no {x y z : D} {c : Nat} {xs : List D} : rngD x y z ≠ .err c xs := by
  intro h
  cases x with
  | int a => cases y with
    | int b => cases z with
      | int c =>
        unfold rngD at h
        simp only at h
        split at h <;> cases h
      | _ => cases h
    | _ => cases h
  | _ => cases h
theorem ev_rng (lo hi st : C) (e : En) : ev sem (.rng lo hi st) e = (ev sem lo e).bind fun x => (ev sem hi e).bind fun y => (ev sem st e).bind fun z => rngD x y z := by
  rw [ev]
  rfl
/-- the end of a range's reading -/
theorem rng_fin {k : List D → Prop} {x y z : D} {H1 : Hp} (h : okR T W σ H1 ((rngD x y z).bind itemsD) k) : ∃ a b c, x = .int a ∧ y = .int b ∧ z = .int c ∧ (-(10 ^ 9) ≤ a ∧ a ≤ 10 ^ 9 ∧ -(10 ^ 9) ≤ b ∧ b ≤ 10 ^ 9 ∧ c ≠ 0 ∧ c.natAbs ≤ 10 ^ 9) ∧ (rngL a b c).length ≤ lim ∧ k (rngL a b c) := by
  cases e : rngD x y z with
  | ok d =>
    obtain ⟨a, b, c, rfl, rfl, rfl, h1, rfl⟩ := rngD_ok e
    rw [e] at h
    exact ⟨a, b, c, rfl, rfl, rfl, ⟨h1.1, h1.2.1, h1.2.2.1, h1.2.2.2.1, h1.2.2.2.2.1, h1.2.2.2.2.2.1⟩, by rw [rngL_length]; exact h1.2.2.2.2.2.2, h⟩
  | err c xs => exact absurd e rngD_no
  | bad => rw [e] at h; exact h.elim
theorem rng_small {a b c : Int} (h : -(10 ^ 9) ≤ a ∧ a ≤ 10 ^ 9 ∧ -(10 ^ 9) ≤ b ∧ b ≤ 10 ^ 9 ∧ c ≠ 0 ∧ c.natAbs ≤ 10 ^ 9) : RgC a b c (Builtin.Range.rangeSize a b c).toNat := by
  obtain ⟨h1, h2, h3, h4, h5, h6⟩ := h
  have up : ∀ (m q : Int), 0 ≤ m → 1 ≤ q → 0 ≤ m / q ∧ m / q ≤ m := fun m q hm hq =>
    ⟨Int.ediv_nonneg hm (by omega), Int.ediv_le_self _ hm⟩
  have hn : 0 ≤ Builtin.Range.rangeSize a b c ∧ Builtin.Range.rangeSize a b c ≤ 2 * 10 ^ 9 := by
    unfold Builtin.Range.rangeSize
    by_cases hc : c > 0
    · rw [if_pos hc]
      by_cases hab : a < b
      · rw [if_pos hab]
        have := up (b - a - 1) c (by omega) (by omega)
        omega
      · rw [if_neg hab]
        omega
    · rw [if_neg hc]
      by_cases hab : a > b
      · rw [if_pos hab]
        have := up (a - b - 1) (-c) (by omega) (by omega)
        omega
      · rw [if_neg hab]
        omega
  refine ⟨h5, by omega, ?_, by omega⟩
  unfold Builtin.Range.small
  have ff : ∀ i : Int, -(2 ^ 62) ≤ i → i < 2 ^ 62 → Builtin.Range.rangeFitsLong i = true := fun i hi hj => by
    unfold Builtin.Range.rangeFitsLong
    rw [Bool.and_eq_true, decide_eq_true_eq, decide_eq_true_eq]
    omega
  have f1 := ff a (by omega) (by omega)
  have f2 := ff b (by omega) (by omega)
  have f3 := ff c (by omega) (by omega)
  have f4 := ff (Builtin.Range.rangeSize a b c) (by omega) (by omega)
  have f5 := ff (b + (c - 1)) (by omega) (by omega)
  have f6 := ff (b + (c + 1)) (by omega) (by omega)
  simp only [f1, f2, f3, f4, f5, f6]
  by_cases hc : c > 0 <;> simp [hc]
theorem rng_red {w : Bool} {lo hi st : C} {R : It → Hp → Prop} (h : tI T sem w W (.rng lo hi st) σ H R) : ∃ Oc Of en, Rep Oc Of σ H en ∧ okR T W σ H ((ev sem lo en).bind fun x => (ev sem hi en).bind fun y => (ev sem st en).bind fun z => (rngD x y z).bind itemsD) fun ds => ∀ J H1, ds.length ≤ lim → Same H H1 → ItX w Oc Of ds H1 J → R J H1 := by
  obtain ⟨Oc, Of, en, r, q⟩ := h
  rw [ev_rng] at q
  simp only [bind_assoc] at q
  exact ⟨Oc, Of, en, r, q⟩
/-- the source of a walk: a range -/
theorem pi_rng {w : Bool} {k : Nat} {so sr : Scope} (G : Gd T sem n N X k so sr W) {lo hi st : C} {tg it : Expr} (hlo : SndE T sem n N lo) (hhi : SndE T sem n N hi) (hst : SndE T sem n N st) (h : chkS n N w so sr (.rng lo hi st) it = true) : PI X tg it (tI T sem w W (.rng lo hi st)) := by
  cases it with
  | Call f args kws pos =>
    cases f with
    | Name x p =>
      match args, kws, h with
      | [a], [], h =>
        simp only [chkS, Bool.and_eq_true, decide_eq_true_eq] at h
        obtain ⟨⟨⟨⟨h1, h2⟩, h3⟩, h4⟩, h5⟩ := h
        subst h1
        obtain ⟨g1, g2⟩ := G.gl h2
        match lo, st, h3, hlo, hst with
        | .dat (.int 0), .dat (.int 1), _, _, _ =>
          have pa := (hhi false X k so sr W G a h4).1
          refine ⟨fun pins s σ H R I q => ?_⟩
          refine (pi_range1 (tg := tg) g1 (G.blt "range" (by decide)) (pa_cons pa pa_nil (star_cons h5)) (star_cons h5)).run pins s σ H R I ?_
          obtain ⟨Oc, Of, en, r, q⟩ := rng_red q
          have q' : okR T W σ H ((ev sem hi en).bind fun y => (rngD (.int 0) y (.int 1)).bind itemsD) fun ds => ∀ J H1, ds.length ≤ lim → Same H H1 → ItX w Oc Of ds H1 J → R J H1 := q
          refine tE_bind r q' fun d v H1 s1 rv q1 => ?_
          obtain ⟨a', b', c', e1, e2, e3, hb, hl, k1⟩ := rng_fin q1
          cases e1; cases e3; subst e2
          have ev' := DS.i_int rv
          subst ev'
          exact ⟨b', rfl, by omega, by omega, k1 _ _ hl s1 (.all fun H O => itr_at (by omega))⟩
      | [a, b], [], h =>
        simp only [chkS, Bool.and_eq_true, decide_eq_true_eq] at h
        obtain ⟨⟨⟨⟨⟨⟨h1, h2⟩, h3⟩, h4⟩, h5⟩, h6⟩, h7⟩ := h
        subst h1
        obtain ⟨g1, g2⟩ := G.gl h2
        match st, h3, hst with
        | .dat (.int 1), _, _ =>
          have pa := (hlo false X k so sr W G a h4).1
          have pb := (hhi false X k so sr W G b h5).1
          refine ⟨fun pins s σ H R I q => ?_⟩
          refine (pi_range2 (tg := tg) g1 (G.blt "range" (by decide)) (pa_cons pa (pa_cons pb pa_nil (star_cons h7)) (star_cons h6)) (by rw [star_cons h6, star_cons h7]; rfl) (by rw [star_cons h7]; rfl)).run pins s σ H R I ?_
          obtain ⟨Oc, Of, en, r, q⟩ := rng_red q
          refine tE_bind r q fun d v H1 s1 rv q1 => tE_bind (r.same s1) q1 fun d2 v2 H2 s2 rv2 q2 => ?_
          have q' : okR T W σ H2 ((rngD d d2 (.int 1)).bind itemsD) fun ds => ∀ J H1, ds.length ≤ lim → Same H H1 → ItX w Oc Of ds H1 J → R J H1 := q2
          obtain ⟨a', b', c', e1, e2, e3, hb, hl, k1⟩ := rng_fin q'
          cases e3; subst e1 e2
          have ev' := DS.i_int rv
          have ev2 := DS.i_int rv2
          subst ev' ev2
          exact ⟨a', b', rfl, by omega, k1 _ _ hl (s1.trans s2) (.all fun H O => itr_at rfl)⟩
      | [a, b, c], [], h =>
        simp only [chkS, Bool.and_eq_true, decide_eq_true_eq] at h
        obtain ⟨⟨⟨⟨⟨⟨⟨h1, h2⟩, h3⟩, h4⟩, h5⟩, h6⟩, h7⟩, h8⟩ := h
        subst h1
        obtain ⟨g1, g2⟩ := G.gl h2
        have pa := (hlo false X k so sr W G a h3).1
        have pb := (hhi false X k so sr W G b h4).1
        have pc := (hst false X k so sr W G c h5).1
        refine ⟨fun pins s σ H R I q => ?_⟩
        refine (pi_range3 (tg := tg) g1 (G.blt "range" (by decide)) (pa_cons pa (pa_cons pb (pa_cons pc pa_nil (star_cons h8)) (star_cons h7)) (star_cons h6)) (star_cons h6) (star_none (w := false) (by simp [h7, h8]))).run pins s σ H R I ?_
        obtain ⟨Oc, Of, en, r, q⟩ := rng_red q
        refine tE_bind r q fun d v H1 s1 rv q1 => tE_bind (r.same s1) q1 fun d2 v2 H2 s2 rv2 q2 => tE_bind (r.same (s1.trans s2)) q2 fun d3 v3 H3 s3 rv3 q3 => ?_
        obtain ⟨a', b', c', e1, e2, e3, hb, hl, k1⟩ := rng_fin q3
        subst e1 e2 e3
        have ev' := DS.i_int rv
        have ev2 := DS.i_int rv2
        have ev3 := DS.i_int rv3
        subst ev' ev2 ev3
        exact ⟨a', b', c', _, rfl, rng_small hb, k1 _ _ hl ((s1.trans s2).trans s3) (.all fun H O => itc_at rfl)⟩
      | [], _, h => simp [chkS] at h
      | [_], _ :: _, h => simp [chkS] at h
      | [_, _], _ :: _, h => simp [chkS] at h
      | [_, _, _], _ :: _, h => simp [chkS] at h
      | _ :: _ :: _ :: _ :: _, _, h => simp [chkS] at h
    | _ => simp [chkS] at h
  | _ => simp [chkS] at h
end
end SQ

/-! SqSnd3: slots stored; list comprehensions. -/
set_option maxHeartbeats 2000000
namespace SQ
open PySem PySem.Spec PyProof.Rows L2

/-! ### slots -/
theorem En.at_put : ∀ (e : En) (i j : Nat) (s : Sl), (e.put i s).at j = if j = i ∧ i < e.length then s else e.at j
  | [], i, j, s => by simp [En.put, En.at]
  | x :: r, 0, 0, s => by simp [En.put, En.at]
  | x :: r, 0, j + 1, s => by simp [En.put, En.at]
  | x :: r, i + 1, 0, s => by simp [En.put, En.at]
  | x :: r, i + 1, j + 1, s => by
    simp only [En.put, En.at, En.at_put r i j s, List.length_cons, Nat.add_lt_add_iff_right, Nat.add_right_cancel_iff]
theorem En.len_put : ∀ (e : En) (i : Nat) (s : Sl), (e.put i s).length = e.length
  | [], _, _ => rfl
  | _ :: _, 0, _ => rfl
  | _ :: r, i + 1, s => by simp [En.put, En.len_put r i s]
theorem En.at_out : ∀ (e : En) (i : Nat), e.length ≤ i → e.at i = .u
  | [], _, _ => rfl
  | _ :: _, 0, h => by simp at h
  | _ :: r, i + 1, h => En.at_out r i (by simpa using h)
variable [TabsC]

section
variable {Oc Of : List Addr} {σ : L2.St} {H : Hp} {en : En}
/-- a datum stored in a slot -/
theorem Rep.put (r : Rep Oc Of σ H en) (i : Nat) {v : V} {d : D} (h : DS (Oc ++ Of) H v d) : Rep Oc Of (σ.set i (some v)) H (en.put i (.v d)) where
  len := by rw [List.length_set, En.len_put]; exact r.len
  val := fun j d' e => by
    rw [En.at_put] at e
    split at e
    · rename_i hj
      cases e
      refine ⟨v, ?_, h⟩
      rw [hj.1, List.getElem?_set_self (by rw [r.len]; exact hj.2)]
    · rename_i hj
      obtain ⟨v', h1, h2⟩ := r.val j d' e
      refine ⟨v', ?_, h2⟩
      rw [List.getElem?_set_ne (fun z => hj ⟨z.symm, ?_⟩)]
      · exact h1
      · rw [← r.len, z]
        exact (List.getElem?_eq_some_iff.mp h1).1
  own := fun j d' e => by
    rw [En.at_put] at e
    split at e
    · cases e
    · rename_i hj
      obtain ⟨p, h1, h2, h3⟩ := r.own j d' e
      refine ⟨p, ?_, h2, h3⟩
      rw [List.getElem?_set_ne (fun z => hj ⟨z.symm, ?_⟩)]
      · exact h1
      · rw [← r.len, z]
        exact (List.getElem?_eq_some_iff.mp h1).1
  inj := fun a b d1 d2 p e1 e2 h1 h2 => by
    rw [En.at_put] at e1 e2
    split at e1
    · cases e1
    · rename_i ha
      split at e2
      · cases e2
      · rename_i hb
        have na : i ≠ a := fun z => ha ⟨z.symm, by
          have := (List.getElem?_eq_some_iff.mp h1).1
          rw [List.length_set] at this
          rw [← r.len, z]; exact this⟩
        have nb : i ≠ b := fun z => hb ⟨z.symm, by
          have := (List.getElem?_eq_some_iff.mp h2).1
          rw [List.length_set] at this
          rw [← r.len, z]; exact this⟩
        rw [List.getElem?_set_ne na] at h1
        rw [List.getElem?_set_ne nb] at h2
        exact r.inj a b d1 d2 p e1 e2 h1 h2
  th := r.th
  dj := r.dj
theorem Rep.putU (r : Rep Oc Of σ H en) (i : Nat) (o : Option V) : Rep Oc Of (σ.set i o) H (en.put i .u) where
  len := by rw [List.length_set, En.len_put]; exact r.len
  val := fun j d' e => by
    rw [En.at_put] at e
    split at e
    · cases e
    · rename_i hj
      obtain ⟨v', h1, h2⟩ := r.val j d' e
      refine ⟨v', ?_, h2⟩
      rw [List.getElem?_set_ne (fun z => hj ⟨z.symm, ?_⟩)]
      · exact h1
      · rw [← r.len, z]
        exact (List.getElem?_eq_some_iff.mp h1).1
  own := fun j d' e => by
    rw [En.at_put] at e
    split at e
    · cases e
    · rename_i hj
      obtain ⟨p, h1, h2, h3⟩ := r.own j d' e
      refine ⟨p, ?_, h2, h3⟩
      rw [List.getElem?_set_ne (fun z => hj ⟨z.symm, ?_⟩)]
      · exact h1
      · rw [← r.len, z]
        exact (List.getElem?_eq_some_iff.mp h1).1
  inj := fun a b d1 d2 p e1 e2 h1 h2 => by
    rw [En.at_put] at e1 e2
    split at e1
    · cases e1
    · rename_i ha
      split at e2
      · cases e2
      · rename_i hb
        have na : i ≠ a := fun z => ha ⟨z.symm, by
          have := (List.getElem?_eq_some_iff.mp h1).1
          rw [List.length_set] at this
          rw [← r.len, z]; exact this⟩
        have nb : i ≠ b := fun z => hb ⟨z.symm, by
          have := (List.getElem?_eq_some_iff.mp h2).1
          rw [List.length_set] at this
          rw [← r.len, z]; exact this⟩
        rw [List.getElem?_set_ne na] at h1
        rw [List.getElem?_set_ne nb] at h2
        exact r.inj a b d1 d2 p e1 e2 h1 h2
  th := r.th
  dj := r.dj
theorem Rep.wip (r : Rep Oc Of σ H en) : ∀ vs : List Nat, Rep Oc Of (wipe σ vs) H (en.wip vs)
  | [] => r
  | v :: vs => (Rep.wip r vs).putU v none
theorem There.hold {O O' : List Addr} {H : Hp} {p : Addr} {o : HO} (t : There O H) (hp : H p = none) (hs : ∀ q ∈ O', q = p ∨ q ∈ O) : There O' (upd H p o) := ⟨fun q hq => by
    by_cases h : q = p
    · rw [h, upd_same]; simp
    · rw [upd_ne h]
      exact t.at_ q ((hs q hq).resolve_left h), fun P hP => by
    rw [upd_ne (ne_of_none (t.tab P hP) hp)]
    exact t.tab P hP⟩
theorem There.turn {O : List Addr} {H : Hp} {p : Addr} {o : HO} (t : There O H) (hx : ∀ φ, H p ≠ some (.ext φ)) : There O (upd H p o) := ⟨fun q hq => by
    by_cases h : q = p
    · rw [h, upd_same]; simp
    · rw [upd_ne h]; exact t.at_ q hq, fun P hP => by
    rw [upd_ne (fun z => hx _ (by rw [← z]; exact t.tab P hP))]
    exact t.tab P hP⟩
theorem There.sub {O O' : List Addr} {H : Hp} (t : There O H) (hs : ∀ q ∈ O', q ∈ O) : There O' H := ⟨fun q hq => t.at_ q (hs q hq), t.tab⟩
/-- one more object is held -/
theorem Rep.hold (r : Rep Oc Of σ H en) {p : Addr} {o : HO} (hp : H p = none) : Rep Oc (p :: Of) σ (upd H p o) en where
  len := r.len
  val := fun i d e => by
    obtain ⟨v, h1, h2⟩ := r.val i d e
    refine ⟨v, h1, h2.step fun b u hb hn => ⟨by rw [upd_ne (ne_of_none hb hp)]; exact hb, fun z => ?_⟩⟩
    rcases List.mem_append.mp z with z | z
    · exact hn (List.mem_append_left _ z)
    · rcases List.mem_cons.mp z with rfl | z
      · rw [hp] at hb; cases hb
      · exact hn (List.mem_append_right _ z)
  own := fun i d e => by
    obtain ⟨q, h1, h2, h3⟩ := r.own i d e
    have ne : ∀ o', H q = some o' → upd H p o q = some o' := fun o' e' => by rw [upd_ne (ne_of_none e' hp)]; exact e'
    have st : ∀ b u, H b = some u → b ∉ Oc ++ Of → upd H p o b = some u ∧ b ∉ Oc ++ (p :: Of) := fun b u hb hn => ⟨by rw [upd_ne (ne_of_none hb hp)]; exact hb, fun z => by
      rcases List.mem_append.mp z with z | z
      · exact hn (List.mem_append_left _ z)
      · rcases List.mem_cons.mp z with rfl | z
        · rw [hp] at hb; cases hb
        · exact hn (List.mem_append_right _ z)⟩
    refine ⟨q, h1, List.mem_cons_of_mem _ h2, ?_⟩
    cases h3 with
    | lst a t l => exact .lst (ne _ a) (t.step st) l
    | dk a t l => exact .dk (ne _ a) (t.step st) l
    | dt a t l => exact .dt (ne _ a) (t.step st) l
  inj := r.inj
  th := r.th.hold hp fun q hq => by
    rcases List.mem_append.mp hq with z | z
    · exact .inr (List.mem_append_left _ z)
    · rcases List.mem_cons.mp z with z | z
      · exact .inl z
      · exact .inr (List.mem_append_right _ z)
  dj := fun q hq => by
    rcases List.mem_cons.mp hq with rfl | hq
    · exact fun z => r.th.at_ q (List.mem_append_left _ z) hp
    · exact r.dj q hq
/-- an object that is held by nobody's slot is changed -/
theorem Rep.turn (r : Rep Oc Of σ H en) {p : Addr} {o : HO} (hp : p ∈ Of) (hx : ∀ φ, H p ≠ some (.ext φ)) (hn : ∀ i d, en.at i = .o d → σ[i]? ≠ some (some (.ref p))) : Rep Oc Of σ (upd H p o) en := by
  have st : ∀ b u, H b = some u → b ∉ Oc ++ Of → upd H p o b = some u ∧ b ∉ Oc ++ Of := fun b u hb hn => ⟨by
    rw [upd_ne (fun z => hn (List.mem_append_right _ (by rw [z]; exact hp)))]; exact hb, hn⟩
  refine ⟨r.len, fun i d e => ?_, fun i d e => ?_, r.inj, r.th.turn hx, r.dj⟩
  · obtain ⟨v, h1, h2⟩ := r.val i d e
    exact ⟨v, h1, h2.step st⟩
  · obtain ⟨q, h1, h2, h3⟩ := r.own i d e
    have nq : q ≠ p := fun z => by
      subst z
      exact hn i d e h1
    refine ⟨q, h1, h2, ?_⟩
    cases h3 with
    | lst a t l => exact .lst (by rw [upd_ne nq]; exact a) (t.step st) l
    | dk a t l => exact .dk (by rw [upd_ne nq]; exact a) (t.step st) l
    | dt a t l => exact .dt (by rw [upd_ne nq]; exact a) (t.step st) l
end

/-! ### wiped slots -/
theorem wipe_at : ∀ (vs : List Nat) (σ : L2.St) (j : Nat), (wipe σ vs)[j]? = if j ∈ vs ∧ j < σ.length then some none else σ[j]?
  | [], σ, j => by simp [wipe]
  | v :: vs, σ, j => by
    unfold wipe
    by_cases h : v = j
    · subst h
      by_cases hl : v < σ.length
      · rw [List.getElem?_set_self (by rw [wipe_length]; exact hl), if_pos ⟨List.mem_cons_self, hl⟩]
      · rw [List.getElem?_eq_none (by rw [List.length_set, wipe_length]; omega), if_neg (fun z => hl z.2), List.getElem?_eq_none (by omega)]
    · rw [List.getElem?_set_ne h, wipe_at vs σ j]
      have : (j ∈ v :: vs) ↔ (j ∈ vs) := by
        rw [List.mem_cons]
        exact ⟨fun z => z.elim (fun e => absurd e.symm h) id, .inr⟩
      simp only [this]
theorem wipe_wipe (σ : L2.St) (vs : List Nat) : wipe (wipe σ vs) vs = wipe σ vs := by
  refine List.ext_getElem? fun j => ?_
  rw [wipe_at, wipe_length, wipe_at]
  split <;> rfl
theorem wipe_set {σ : L2.St} {vs : List Nat} {i : Nat} {o : Option V} (h : i ∈ vs) : wipe (σ.set i o) vs = wipe σ vs := by
  refine List.ext_getElem? fun j => ?_
  rw [wipe_at, wipe_at, List.length_set]
  by_cases hj : j ∈ vs ∧ j < σ.length
  · rw [if_pos hj, if_pos hj]
  · rw [if_neg hj, if_neg hj]
    by_cases e : i = j
    · subst e
      have hl : ¬ i < σ.length := fun z => hj ⟨h, z⟩
      rw [List.getElem?_eq_none (by rw [List.length_set]; omega), List.getElem?_eq_none (by omega)]
    · rw [List.getElem?_set_ne e]

/-! ### targets -/
section
variable {T : Tb} {sem : Nat → List D → Res D} {n : Nms} {N : List Str} {X : Cx} {W : WX} {k : Nat} {so sr : Scope}
/-- a target's reading: the datum is bound -/
def gT (tg : C) : TG := fun v σ H R => ∃ Oc Of en d e1, Rep Oc Of σ H en ∧ DS (Oc ++ Of) H v d ∧ bindT tg d en = .ok e1 ∧ ∀ σ', Rep Oc Of σ' H e1 → (∀ vs : List Nat, (∀ i ∈ slots tg, i ∈ vs) → wipe σ' vs = wipe σ vs) → R σ' H
def gTs (tg : C) : TGs := fun vs σ H R => ∃ Oc Of en ds e1, Rep Oc Of σ H en ∧ DSs (Oc ++ Of) H vs ds ∧ bindT tg (.list ds) en = .ok e1 ∧ ∀ σ', Rep Oc Of σ' H e1 → (∀ vs : List Nat, (∀ i ∈ slots tg, i ∈ vs) → wipe σ' vs = wipe σ vs) → R σ' H
theorem pg_mono {e : Expr} {t t' : TG} (h : PG X e t) (m : ∀ v σ H Q, t' v σ H Q → t v σ H Q) : PG X e t' := ⟨fun pins s σ H v u Q I r q => h.run pins s σ H v u Q I r (m _ _ _ _ q)⟩
theorem pgs_mono {e : List Expr} {t t' : TGs} (h : PGs X e t) (m : ∀ v σ H Q, t' v σ H Q → t v σ H Q) : PGs X e t' := ⟨fun pins s σ H v u Q I r q => h.run pins s σ H v u Q I r (m _ _ _ _ q)⟩
theorem name_ok (G : Gd T sem n N X k so sr W) {i : Nat} {x : Str} {pos : Pos} (h : (decide (N[i]? = some x) && locB so x && locB sr x && (decide (so.names.lookup x = some .cell) || decide (sr.names.lookup x = some .local))) = true) : PG X (.Name x pos) (gName i) := by
  simp only [Bool.and_eq_true, Bool.or_eq_true, decide_eq_true_eq] at h
  obtain ⟨⟨⟨h1, h2⟩, h3⟩, h4⟩ := h
  refine pg_name (by rw [G.hN]; exact G.nd) (by rw [G.hN]; exact h1) ?_ ?_
  · rw [G.sc]
    unfold locB at h3
    unfold L2.Loc
    split at h3
    · exact .inl (by assumption)
    · exact .inr (by assumption)
    · cases h3
  · rcases h4 with h4 | h4
    · exact .inl (G.fnc x h4)
    · rw [G.sc]; exact .inr h4
theorem chkTs_names : ∀ {es : C} {l : List Expr}, chkT.chkTs N so sr es l = true → ∀ e ∈ l, ∃ x p, e = .Name x p := by
  intro es
  induction es with
  | nil => intro l h; cases l with
    | nil => simp
    | cons => simp [chkT.chkTs] at h
  | cons a r _ ih =>
    intro l h
    cases a with
    | var i => cases l with
      | nil => simp [chkT.chkTs] at h
      | cons e l => cases e with
        | Name x p =>
          simp only [chkT.chkTs, Bool.and_eq_true] at h
          intro e he
          rcases List.mem_cons.mp he with rfl | he
          · exact ⟨x, p, rfl⟩
          · exact ih h.2 e he
        | _ => simp [chkT.chkTs] at h
    | _ => cases l <;> simp [chkT.chkTs] at h
  | _ => intro l h; cases l <;> simp [chkT.chkTs] at h
theorem asg_names {env : Env} : ∀ {l : List Expr}, (∀ e ∈ l, ∃ x p, e = .Name x p) → (assignEach l env).length = l.length ∧ (assignEach l env).findIdx? (·.1) = none
  | [], _ => ⟨rfl, rfl⟩
  | e :: l, h => by
    obtain ⟨x, p, rfl⟩ := h e List.mem_cons_self
    obtain ⟨h1, h2⟩ := asg_names (env := env) (l := l) fun e he => h e (List.mem_cons_of_mem _ he)
    refine ⟨?_, ?_⟩
    · show (assignEach l env).length + 1 = l.length + 1
      rw [h1]
    · show List.findIdx? (·.1) ((false, _) :: assignEach l env) = none
      rw [List.findIdx?_cons, h2]
      rfl
theorem pgs_T (G : Gd T sem n N X k so sr W) : ∀ {es : C} {l : List Expr}, chkT.chkTs N so sr es l = true → PGs X l (gTs es) := by
  intro es
  induction es with
  | nil => intro l h; cases l with
    | nil =>
      refine pgs_mono pgs_nil fun v σ H R ⟨Oc, Of, en, ds, e1, r, hd, hb, q⟩ => ?_
      cases hd with
      | nil =>
        cases hb
        exact ⟨rfl, q σ r fun _ _ => rfl⟩
      | cons => cases hb
    | cons => simp [chkT.chkTs] at h
  | cons a r' _ ih =>
    intro l h
    cases a with
    | var i => cases l with
      | nil => simp [chkT.chkTs] at h
      | cons e l => cases e with
        | Name x p =>
          simp only [chkT.chkTs] at h
          rw [Bool.and_eq_true] at h
          refine pgs_mono (pgs_cons (name_ok G h.1) (ih h.2)) fun v σ H R ⟨Oc, Of, en, ds, e1, r, hd, hb, q⟩ => ?_
          cases hd with
          | nil => cases hb
          | cons h1 h2 =>
            have hb' : bindT r' (.list _) (en.put i (.v _)) = .ok e1 := hb
            refine ⟨_, _, rfl, Oc, Of, _, _, e1, r.put i h1, h2, hb', fun σ' r2 hw => q σ' r2 fun vs hv => ?_⟩
            have hv1 : i ∈ vs := hv i (List.mem_append_left _ (List.mem_singleton.mpr rfl))
            rw [hw vs fun j hj => hv j (List.mem_append_right _ hj), wipe_set hv1]
        | _ => simp [chkT.chkTs] at h
    | _ => cases l <;> simp [chkT.chkTs] at h
  | _ => intro l h; cases l <;> simp [chkT.chkTs] at h
theorem bindTs_len : ∀ {es : C} {l : List Expr} {ds : List D} {en e1 : En}, chkT.chkTs N so sr es l = true → bindT es (.list ds) en = .ok e1 → ds.length = l.length := by
  intro es
  induction es with
  | nil => intro l ds en e1 h hb; cases l with
    | nil => cases ds with
      | nil => rfl
      | cons => cases hb
    | cons => simp [chkT.chkTs] at h
  | cons a r' _ ih =>
    intro l ds en e1 h hb
    cases a with
    | var i => cases l with
      | nil => simp [chkT.chkTs] at h
      | cons e l => cases e with
        | Name x p =>
          simp only [chkT.chkTs] at h
          rw [Bool.and_eq_true] at h
          cases ds with
          | nil => cases hb
          | cons d ds =>
            have hb' : bindT r' (.list ds) (en.put i (.v d)) = .ok e1 := hb
            rw [List.length_cons, List.length_cons, ih h.2 hb']
        | _ => simp [chkT.chkTs] at h
    | _ => cases l <;> simp [chkT.chkTs] at h
  | _ => intro l ds en e1 h hb; cases l <;> simp [chkT.chkTs] at h
theorem pg_T (G : Gd T sem n N X k so sr W) {tg : C} {t : Expr} (h : chkT N so sr tg t = true) : PG X t (gT tg) := by
  cases tg with
  | var i => cases t with
    | Name x p =>
      refine pg_mono (name_ok G (by unfold chkT at h; exact h)) fun v σ H R ⟨Oc, Of, en, d, e1, r, hd, hb, q⟩ => ?_
      cases hb
      exact q _ (r.put i hd) fun vs hv => wipe_set (hv i (List.mem_singleton.mpr rfl))
    | _ => simp [chkT] at h
  | tup es => cases t with
    | Tuple l kk p =>
      have h' : chkT.chkTs N so sr es l = true := by simpa [chkT] using h
      obtain ⟨a1, a2⟩ := asg_names (env := X.env) (chkTs_names h')
      refine pg_mono (pg_tup G.calm (pgs_T G h') rfl a2) fun v σ H R ⟨Oc, Of, en, d, e1, r, hd, hb, q⟩ => ?_
      cases d with
      | tuple ds =>
        obtain ⟨a, xs, rfl, h1, h2, h3, h4, h5⟩ := hd.i_tuple
        have hb' : bindT es (.list ds) en = .ok e1 := hb
        refine ⟨a, xs, rfl, t_sqt h1, ?_, Oc, Of, en, ds, e1, r, h3, hb', q⟩
        rw [h5, bindTs_len h' hb', a1]
      | _ => cases hb
    | _ => simp [chkT] at h
  | _ => simp [chkT] at h

/-! ### [elt for tg in src if cond] -/
theorem pts_T {X : Cx} {W : WX} {c : C} {e : Expr} (h : PT X e (tT T sem W c)) : PTs X [e] (tT T sem W c) := pts_one h
theorem compL_len {t : D → Res Bool} {f : D → Res D} : ∀ {ds ys : List D}, compL t f ds = .ok ys → ys.length ≤ ds.length
  | [], ys, h => by cases h; exact Nat.le_refl _
  | d :: ds, ys, h => by
    obtain ⟨b, h1, h2⟩ := Res.bind_ok (show (t d).bind _ = .ok ys from h)
    cases b with
    | false => exact Nat.le_succ_of_le (compL_len (show compL t f ds = .ok ys from h2))
    | true =>
      obtain ⟨y, h3, h4⟩ := Res.bind_ok (show (f d).bind _ = .ok ys from h2)
      obtain ⟨l, h5, h6⟩ := Res.bind_ok h4
      cases h6
      exact Nat.succ_le_succ (compL_len h5)
theorem compL_cons {t : D → Res Bool} {f : D → Res D} {d : D} {ds ys : List D} (h : compL t f (d :: ds) = .ok ys) :
    (t d = .ok false ∧ compL t f ds = .ok ys) ∨ ∃ y l, t d = .ok true ∧ f d = .ok y ∧ compL t f ds = .ok l ∧ ys = y :: l := by
  obtain ⟨b, h1, h2⟩ := Res.bind_ok (show (t d).bind _ = .ok ys from h)
  cases b with
  | false => exact .inl ⟨h1, h2⟩
  | true =>
    obtain ⟨y, h3, h4⟩ := Res.bind_ok (show (f d).bind _ = .ok ys from h2)
    obtain ⟨l, h5, h6⟩ := Res.bind_ok h4
    cases h6
    exact .inr ⟨y, l, h1, h3, h5, rfl⟩
abbrev WF : WX := fun _ _ _ _ => False
/-- the reading of a comprehension -/
theorem lc_redN {tg src elt cond : C} {wsrc : Bool} {tt : TT} {σ : L2.St} {H : Hp} {Q : VK} (hws : wsrc = true)
    (htt : ∀ (e1 : En) (Oc Of : List Addr) (σ2 : L2.St) (H2 : Hp) (b : Bool) (R : Bool → Hp → Prop), Rep Oc Of σ2 H2 e1 → (if cond.isNa then Res.ok true else (ev sem cond e1).bind fun b => .ok (truth b)) = .ok b → (∀ H3, Same H2 H3 → R b H3) → tt σ2 H2 R)
    (h : ∃ Oc Of en, Rep Oc Of σ H en ∧ okR T W σ H (ev sem (.cmp1 tg src elt cond) en) fun d => ∀ ys, d = .list ys → ∀ D xs H', Same H H' → H D = none → H' D = some (.lst xs) → DSs (Oc ++ (D :: Of)) H' xs ys → ys.length ≤ lim → Q (.ref D) H') : tLc (tI T sem wsrc W src) (gT tg) tt (tE T sem false WF elt) (slots tg) σ H Q := by
  subst hws
  obtain ⟨Oc, Of, en, r, q⟩ := h
  have q : okR T W σ H ((ev sem src en).bind fun s => (itemsD s).bind fun xs =>
      (compL (fun x => if cond.isNa then .ok true else (bindT tg x (en.wip (slots tg))).bind fun e1 => (ev sem cond e1).bind fun b => .ok (truth b)) (fun x => (bindT tg x (en.wip (slots tg))).bind fun e1 => ev sem elt e1) xs).noE.bind fun l => Res.ok (PyData.list l)) fun d => ∀ ys, d = PyData.list ys → ∀ D xs H', Same H H' → H D = none → H' D = some (.lst xs) → DSs (Oc ++ (D :: Of)) H' xs ys → ys.length ≤ lim → Q (.ref D) H' := q
  rw [← bind_assoc] at q
  refine ⟨Oc, Of, en, r, q.bind.same (Same.refl _) fun ds ⟨_, hd⟩ J H1 hl s1 hJ => ?_⟩
  obtain ⟨ys, hys, _, hk⟩ := okR.noE hd.bind
  intro D hD
  have r1 : Rep Oc (D :: Of) (wipe σ (slots tg)) (upd H1 D (.lst [])) (en.wip (slots tg)) := ((r.same s1).wip _).hold hD
  refine ⟨fun i m H2 => m = ds.length - i ∧ i ≤ ds.length ∧ ∃ accV accD rest, H2 D = some (.lst accV) ∧ DSs (Oc ++ (D :: Of)) H2 accV accD ∧ accD.length ≤ i ∧ Same H1 H2 ∧ Rep Oc (D :: Of) (wipe σ (slots tg)) H2 (en.wip (slots tg)) ∧
      compL (fun x => if cond.isNa then .ok true else (bindT tg x (en.wip (slots tg))).bind fun e1 => (ev sem cond e1).bind fun b => .ok (truth b)) (fun x => (bindT tg x (en.wip (slots tg))).bind fun e1 => ev sem elt e1) (ds.drop i) = .ok rest ∧ accD ++ rest = ys,
    ⟨ds.length, by simp, Nat.zero_le _, [], [], ys, upd_same, .nil, Nat.zero_le _, same_new hD, r1, by simpa using hys, rfl⟩, ?_⟩
  rintro i m H2 ⟨rfl, hi, accV, accD, rest, hH, hacc, hal, s2, r2, hc, hy⟩
  have nO : ∀ b o, H1 b = some o → b ∉ Oc ++ Of → b ∉ Oc ++ (D :: Of) := fun b o e nn z => by
    rcases List.mem_append.mp z with z | z
    · exact nn (List.mem_append_left _ z)
    · rcases List.mem_cons.mp z with rfl | z
      · rw [hD] at e; cases e
      · exact nn (List.mem_append_right _ z)
  have hIt := hJ (Oc ++ (D :: Of)) H2 s2 nO
  by_cases hlt : i < ds.length
  · refine .inr ⟨hIt.1 i hlt, fun H' => ∃ accV accD rest, H' D = some (.lst accV) ∧ DSs (Oc ++ (D :: Of)) H' accV accD ∧ accD.length ≤ i + 1 ∧ Same H1 H' ∧ Rep Oc (D :: Of) (wipe σ (slots tg)) H' (en.wip (slots tg)) ∧
      compL (fun x => if cond.isNa then .ok true else (bindT tg x (en.wip (slots tg))).bind fun e1 => (ev sem cond e1).bind fun b => .ok (truth b)) (fun x => (bindT tg x (en.wip (slots tg))).bind fun e1 => ev sem elt e1) (ds.drop (i + 1)) = .ok rest ∧ accD ++ rest = ys, fun H' hN => ⟨ds.length - (i + 1), by omega, rfl, hlt, hN⟩, fun x H3 hyl => ?_⟩
    obtain ⟨e3, hx⟩ := hIt.2.2 i x H3 hyl
    subst e3
    have dx := hx ds[i] (List.getElem?_eq_getElem hlt)
    have ed : ds.drop i = ds[i] :: ds.drop (i + 1) := List.drop_eq_getElem_cons hlt
    rw [ed] at hc
    -- the item is bound
    have hb : ∃ e1, bindT tg ds[i] (en.wip (slots tg)) = .ok e1 ∧ ((((if cond.isNa then Res.ok true else (ev sem cond e1).bind fun b => .ok (truth b)) = .ok false) ∧ ∃ l, compL (fun x => if cond.isNa then .ok true else (bindT tg x (en.wip (slots tg))).bind fun e1 => (ev sem cond e1).bind fun b => .ok (truth b)) (fun x => (bindT tg x (en.wip (slots tg))).bind fun e1 => ev sem elt e1) (ds.drop (i + 1)) = .ok l ∧ rest = l) ∨
        (((if cond.isNa then Res.ok true else (ev sem cond e1).bind fun b => .ok (truth b)) = .ok true) ∧ ∃ y l, ev sem elt e1 = .ok y ∧ compL (fun x => if cond.isNa then .ok true else (bindT tg x (en.wip (slots tg))).bind fun e1 => (ev sem cond e1).bind fun b => .ok (truth b)) (fun x => (bindT tg x (en.wip (slots tg))).bind fun e1 => ev sem elt e1) (ds.drop (i + 1)) = .ok l ∧ rest = y :: l)) := by
      rcases compL_cons hc with ⟨h1, h2⟩ | ⟨y, l, h1, h2, h3, h4⟩
      · by_cases hn : cond.isNa = true
        · rw [if_pos hn] at h1; cases h1
        · rw [if_neg hn] at h1
          obtain ⟨e1, h5, h6⟩ := Res.bind_ok h1
          exact ⟨e1, h5, .inl ⟨by rw [if_neg hn]; exact h6, rest, h2, rfl⟩⟩
      · obtain ⟨e1, h5, h6⟩ := Res.bind_ok h2
        refine ⟨e1, h5, .inr ⟨?_, y, l, h6, h3, h4⟩⟩
        by_cases hn : cond.isNa = true
        · rw [if_pos hn]
        · rw [if_neg hn] at h1 ⊢
          obtain ⟨e1', h7, h8⟩ := Res.bind_ok h1
          rw [h5] at h7
          cases h7
          exact h8
    obtain ⟨e1, hb1, hb2⟩ := hb
    refine ⟨Oc, D :: Of, en.wip (slots tg), ds[i], e1, r2, dx, hb1, fun σ2 r3 hw => ⟨?_, ?_⟩⟩
    · rw [hw (slots tg) fun i hi => hi, wipe_wipe]
    rcases hb2 with ⟨ht, l, hcl, rfl⟩ | ⟨ht, y, l, hel, hcl, rfl⟩
    · refine htt e1 Oc (D :: Of) σ2 H3 false _ r3 ht fun H4 s4 => ?_
      rw [if_neg Bool.false_ne_true]
      exact ⟨accV, accD, rest, s4 _ _ hH, hacc.same s4, by omega, s2.trans s4, r2.same s4, hcl, hy⟩
    · refine htt e1 Oc (D :: Of) σ2 H3 true _ r3 ht fun H4 s4 => ?_
      rw [if_pos rfl]
      refine ⟨Oc, D :: Of, e1, r3.same s4, ?_⟩
      rw [hel]
      intro v H5 s5 hv
      have hv : DS (Oc ++ (D :: Of)) H5 v y := hv
      have st : ∀ b u, H5 b = some u → b ∉ Oc ++ (D :: Of) → upd H5 D (.lst (accV ++ [v])) b = some u ∧ b ∉ Oc ++ (D :: Of) := fun b u hb hn => ⟨by
        rw [upd_ne (fun z => hn (List.mem_append_right _ (by rw [z]; exact List.mem_cons_self)))]; exact hb, hn⟩
      have hal2 := hacc.length
      refine ⟨accV, s5 _ _ (s4 _ _ hH), ?_, accV ++ [v], accD ++ [y], l, upd_same, (((hacc.same s4).same s5).append (.cons hv .nil)).step st, ?_, ?_, ?_, hcl, ?_⟩
      · have := lim_lt
        omega
      · rw [List.length_append]; exact Nat.succ_le_succ hal
      · intro b o e
        rw [upd_ne (ne_of_none e hD)]
        exact s5 _ _ (s4 _ _ (s2 _ _ e))
      · refine ((r2.same s4).same s5).turn List.mem_cons_self (fun φ z => by rw [s5 _ _ (s4 _ _ hH)] at z; cases z) fun j d' e' z => ?_
        obtain ⟨p, h1, h2, h3⟩ := (r.wip (slots tg)).own j d' e'
        rw [h1] at z
        cases z
        exact r.th.at_ D (List.mem_append_right _ h2) (by
          cases hh : H D with
          | none => rfl
          | some o => rw [s1 _ _ hh] at hD; cases hD)
      · rw [List.append_assoc]; exact hy
  · have ei : i = ds.length := by omega
    subst ei
    rw [List.drop_length] at hc
    cases hc
    rw [List.append_nil] at hy
    subst hy
    refine .inl ⟨hIt.2.1 _ (Nat.le_refl _), hk _ rfl D accV H2 (s1.trans s2) ?_ hH hacc (by have := compL_len hys; omega)⟩
    cases hh : H D with
    | none => rfl
    | some o => rw [s1 _ _ hh] at hD; cases hD
theorem lc_red {tg src elt cond : C} {wsrc : Bool} {tt : TT} {σ : L2.St} {H : Hp} {Q : VK} (hws : wsrc = true)
    (htt : ∀ (e1 : En) (Oc Of : List Addr) (σ2 : L2.St) (H2 : Hp) (b : Bool) (R : Bool → Hp → Prop), Rep Oc Of σ2 H2 e1 → (if cond.isNa then Res.ok true else (ev sem cond e1).bind fun b => .ok (truth b)) = .ok b → (∀ H3, Same H2 H3 → R b H3) → tt σ2 H2 R)
    (h : tE T sem false W (.cmp1 tg src elt cond) σ H Q) : tLc (tI T sem wsrc W src) (gT tg) tt (tE T sem false WF elt) (slots tg) σ H Q := by
  obtain ⟨Oc, Of, en, r, q⟩ := h
  refine lc_redN hws htt ⟨Oc, Of, en, r, q.same (Same.refl _) fun d hd ys e D xs H' s n0 hH t hl => ?_⟩
  subst e
  refine hd (.ref D) H' s (DS.lst (.inl hH) (r.th.nin n0) (t.sub fun b hb => ?_) hl)
  rcases List.mem_append.mp hb with z | z
  · exact List.mem_append_left _ z
  · exact List.mem_append_right _ (List.mem_cons_of_mem _ z)
end
end SQ

/-! SqSnd4: every expression. -/
set_option maxHeartbeats 4000000
namespace SQ
open PySem PySem.Spec PyProof.Rows L2
variable [TabsC]

section
variable {T : Tb} {sem : Nat → List D → Res D} {n : Nms} {N : List Str}
def SndS (T : Tb) (sem : Nat → List D → Res D) (n : Nms) (N : List Str) (c : C) : Prop := ∀ (w : Bool) (X : Cx) (k : Nat) (so sr : Scope) (W : WX), Gd T sem n N X k so sr W → ∀ tg it, chkS n N w so sr c it = true → PI X tg it (tI T sem w W c)
structure Sd (T : Tb) (sem : Nat → List D → Res D) (n : Nms) (N : List Str) (c : C) : Prop where
  e : SndE T sem n N c
  w : SndW T sem n N c
  l : SndL T sem n N c
  s : SndS T sem n N c

theorem sd_no {c : C} (he : ∀ w so sr e, chkE n N w so sr c e = false) (hl : ∀ w so sr l, chkL n N w so sr c l = false) (hs : ∀ w so sr e, chkS n N w so sr c e = chkE n N w so sr c e) : Sd T sem n N c where
  e := fun w X k so sr W G e h => by rw [he] at h; cases h
  w := fun X k so sr W G op l pos h => by rw [he] at h; cases h
  l := sl_no hl
  s := fun w X k so sr W G tg it h => by rw [hs, he] at h; cases h
theorem sd_of {c : C} (he : SndE T sem n N c) (hw : ∀ so sr op l pos, chkE n N false so sr c (.BoolOp op l pos) = false) (hl : ∀ w so sr l, chkL n N w so sr c l = false) (hs : ∀ w so sr e, chkS n N w so sr c e = chkE n N w so sr c e) : Sd T sem n N c where
  e := he
  w := sw_no hw
  l := sl_no hl
  s := fun w X k so sr W G tg it h => by
    rw [hs] at h
    exact pi_D (he w X k so sr W G it h).1

variable {X : Cx} {W : WX} {k : Nat} {so sr : Scope}
theorem con_get {d d' : D} (h : conB d d' = true) : d = d' ∧ DS [] (fun _ => none) (dV d) d := by
  cases d with
  | int i => cases d' with
    | int j =>
      have e : i = j := of_decide_eq_true h
      subst e
      exact ⟨rfl, .int _⟩
    | _ => cases h
  | str s => cases d' with
    | str t =>
      have h' : (decide (s = t) && decide (s.cps.size ≤ lim)) = true := h
      rw [Bool.and_eq_true, decide_eq_true_eq, decide_eq_true_eq] at h'
      obtain ⟨rfl, h2⟩ := h'
      exact ⟨rfl, .str _ h2⟩
    | _ => cases h
  | _ => cases h
theorem DS.any {O : List Addr} {H : Hp} {v : V} {d : D} (h : DS [] (fun _ => none) v d) : DS O H v d := h.step fun b o e _ => by cases e

theorem sd_var (i : Nat) : Sd T sem n N (.var i) := by
  refine sd_of (fun w X k so sr W G e h => ?_) (fun _ _ _ _ _ => rfl) (fun _ _ _ _ => rfl) fun _ _ _ _ => rfl
  cases e with
  | Name x p =>
    have hv : varB N sr i x = true := h
    have pe : PE X (.Name x p) (tE T sem false W (.var i)) := pe_mono (G.var hv) fun σ H Q ⟨Oc, Of, en, r, q⟩ => by
      have q : okR T W σ H (en.at i).strict fun d => ∀ v H', Same H H' → RS false (Oc ++ Of) H' v d → Q v H' := q
      cases e : en.at i with
      | v d =>
        rw [e] at q
        obtain ⟨v, h1, h2⟩ := r.val i d e
        exact ⟨v, h1, q v H (Same.refl _) h2⟩
      | u => rw [e] at q; exact q.elim
      | o d => rw [e] at q; exact q.elim
    exact ⟨pe_lift pe w, pt_of (w := false) pe fun _ => rfl⟩
  | _ => cases h
theorem sd_wv (i : Nat) : Sd T sem n N (.wv i) := by
  refine sd_of (fun w X k so sr W G e h => ?_) (fun _ _ _ _ _ => rfl) (fun _ _ _ _ => rfl) fun _ _ _ _ => rfl
  cases e with
  | Name x p =>
    have hv : (w && varB N sr i x) = true := h
    rw [Bool.and_eq_true] at hv
    obtain ⟨rfl, hv⟩ := hv
    have pe : PE X (.Name x p) (tE T sem true W (.wv i)) := pe_mono (G.var hv) fun σ H Q ⟨Oc, Of, en, r, q⟩ => by
      have q : okR T W σ H (en.at i).weak fun d => ∀ v H', Same H H' → RS true (Oc ++ Of) H' v d → Q v H' := q
      cases e : en.at i with
      | v d =>
        rw [e] at q
        obtain ⟨v, h1, h2⟩ := r.val i d e
        exact ⟨v, h1, q v H (Same.refl _) (.ds h2)⟩
      | u => rw [e] at q; exact q.elim
      | o d =>
        rw [e] at q
        obtain ⟨p, h1, h2, h3⟩ := r.own i d e
        exact ⟨.ref p, h1, q (.ref p) H (Same.refl _) h3.cs⟩
    exact ⟨pe, pt_of pe fun _ => rfl⟩
  | _ => cases h
theorem sd_dat (d : D) : Sd T sem n N (.dat d) := by
  refine sd_of (fun w X k so sr W G e h => ?_) (fun _ _ _ _ _ => rfl) (fun _ _ _ _ => rfl) fun _ _ _ _ => rfl
  cases e with
  | Constant cc kk p =>
    have hv : datB d cc = true := h
    have pe : PE X (.Constant cc kk p) (tE T sem false W (.dat d)) := by
      cases d with
      | none => cases cc with
        | none => exact pe_mono pe_non fun σ H Q ⟨Oc, Of, en, r, q⟩ => q _ H (Same.refl _) .non
        | _ => cases hv
      | bool b => cases cc with
        | bool b' =>
          have e : b = b' := eq_of_beq hv
          subst e
          exact pe_mono pe_bl fun σ H Q ⟨Oc, Of, en, r, q⟩ => q _ H (Same.refl _) (.bl b)
        | _ => cases hv
      | int b => cases cc with
        | int b' =>
          have e : b = b' := of_decide_eq_true hv
          subst e
          exact pe_mono pe_int fun σ H Q ⟨Oc, Of, en, r, q⟩ => q _ H (Same.refl _) (.int b)
        | _ => cases hv
      | str b => cases cc with
        | str b' =>
          have h' : (decide (b = b') && decide (b.cps.size ≤ lim)) = true := hv
          rw [Bool.and_eq_true, decide_eq_true_eq, decide_eq_true_eq] at h'
          obtain ⟨rfl, h2⟩ := h'
          exact pe_mono pe_str fun σ H Q ⟨Oc, Of, en, r, q⟩ => q _ H (Same.refl _) (.str b h2)
        | _ => cases hv
      | _ => cases cc <;> cases hv
    exact ⟨pe_lift pe w, pt_of (w := false) pe fun _ => rfl⟩
  | _ => cases h
theorem sd_con (x : Str) (d : D) : Sd T sem n N (.con x d) := by
  refine sd_of (fun w X k so sr W G e h => ?_) (fun _ _ _ _ _ => rfl) (fun _ _ _ _ => rfl) fun _ _ _ _ => rfl
  cases e with
  | Name y p =>
    have hv : (decide (x = y) && glB sr x && (match n.cn.lookup x with
      | some d' => conB d d'
      | none => false)) = true := h
    rw [Bool.and_eq_true, Bool.and_eq_true, decide_eq_true_eq] at hv
    obtain ⟨⟨rfl, h2⟩, h3⟩ := hv
    obtain ⟨g1, g2⟩ := G.gl h2
    have pe : PE X (.Name x p) (tE T sem false W (.con x d)) := by
      cases e : n.cn.lookup x with
      | none => rw [e] at h3; cases h3
      | some d' =>
        rw [e] at h3
        obtain ⟨rfl, hd⟩ := con_get h3
        obtain ⟨u, hm, hr⟩ := G.cn x d e
        exact pe_mono (pe_glob g1 hm hr g2) fun σ H Q ⟨Oc, Of, en, r, q⟩ => q _ H (Same.refl _) hd.any
    exact ⟨pe_lift pe w, pt_of (w := false) pe fun _ => rfl⟩
  | _ => cases h

/-! ### operators -/
theorem sd_neg {a : C} (ha : Sd T sem n N a) : Sd T sem n N (.neg a) := by
  refine sd_of (fun w X k so sr W G e h => ?_) (fun _ _ _ _ _ => rfl) (fun _ _ _ _ => rfl) fun _ _ _ _ => rfl
  cases e with
  | UnaryOp op x p =>
    cases op with
    | USub =>
      have pa := (ha.e false X k so sr W G x h).1
      have pe : PE X (.UnaryOp .USub x p) (tE T sem false W (.neg a)) := pe_mono (pe_un s_neg pa) fun σ H Q ⟨Oc, Of, en, r, q⟩ => by
        refine tE_bind r q fun d v H1 s1 rv q1 => ?_
        cases d with
        | int i => exact ⟨Oc ++ Of, _, _, (r.same s1).th, rv.cs, rfl, fin_Q s1 q1⟩
        | _ => exact q1.elim
      exact ⟨pe_lift pe w, pt_of (w := false) pe fun _ => rfl⟩
    | _ => cases h
  | _ => cases h
theorem sd_bin {o : Op} {a b : C} (ha : Sd T sem n N a) (hb : Sd T sem n N b) : Sd T sem n N (.bin o a b) := by
  refine sd_of (fun w X k so sr W G e h => ?_) (fun _ _ _ _ _ => rfl) (fun _ _ _ _ => rfl) fun _ _ _ _ => rfl
  cases e with
  | BinOp x op y p =>
    have hv : (opIs o op && chkE n N true so sr a x && chkE n N true so sr b y) = true := h
    rw [Bool.and_eq_true, Bool.and_eq_true] at hv
    have pe := pe_binD (pos := p) (snd_opIs hv.1.1) (ha.e true X k so sr W G x hv.1.2).1 (hb.e true X k so sr W G y hv.2).1
    exact ⟨pe_lift pe w, pt_of (w := false) pe fun _ => rfl⟩
  | _ => cases h
theorem sd_cmp {o : Cm} {a b : C} (ha : Sd T sem n N a) (hb : Sd T sem n N b) : Sd T sem n N (.cmp o a b) := by
  refine sd_of (fun w X k so sr W G e h => ?_) (fun _ _ _ _ _ => rfl) (fun _ _ _ _ => rfl) fun _ _ _ _ => rfl
  cases e with
  | Compare x ops cs p =>
    match ops, cs, h with
    | [op], [y], h =>
      have hv : (cmIs o op && chkE n N true so sr a x && chkE n N true so sr b y && !behindInMarks op y) = true := h
      simp only [Bool.and_eq_true, Bool.not_eq_true'] at hv
      have pa := (ha.e true X k so sr W G x hv.1.1.2).1
      have pb := (hb.e true X k so sr W G y hv.1.2).1
      have ho := snd_cmIs (X := X) G.hu hv.1.1.1
      exact ⟨pe_lift (pe_mono (pe_cmpR ho pa pb hv.2) fun σ H Q h => cmp_red h) w, pt_mono (pt_cmpR ho pa pb hv.2) fun σ H Q h => cmp_redT h⟩
    | [], _, h => cases h
    | [_], [], h => cases h
    | [_], _ :: _ :: _, h => cases h
    | _ :: _ :: _, _, h => cases h
  | _ => cases h
def isNo : D → Bool
  | .none => true
  | _ => false
theorem isn_val {v : V} {d : D} {O : List Addr} {H : Hp} (h : DS O H v d) : decide (v = V.non) = isNo d := by
  cases h <;> first | rfl | exact decide_eq_false (fun z => nomatch z)
theorem sd_isn {a : C} (ha : Sd T sem n N a) : Sd T sem n N (.isn a) := by
  refine sd_of (fun w X k so sr W G e h => ?_) (fun _ _ _ _ _ => rfl) (fun _ _ _ _ => rfl) fun _ _ _ _ => rfl
  have ee : ∀ d : D, (match d with | .none => Res.ok (PyData.bool true) | _ => .ok (.bool false)) = Res.ok (.bool (isNo d)) := fun d => by cases d <;> rfl
  cases e with
  | Compare x ops cs p =>
    match ops, cs, h with
    | [.Is], [.Constant .none jj p2], h =>
      have pa := (ha.e false X k so sr W G x h).1
      have red : ∀ {σ H} {Q : VK}, tE T sem false W (.isn a) σ H Q → tIsN (tE T sem false W a) σ H Q := fun {σ H Q} ⟨Oc, Of, en, r, q⟩ => by
        refine tE_bind r q fun d v H1 s1 rv q1 => ?_
        have q1 : okR T W σ H1 (match d with | .none => Res.ok (PyData.bool true) | _ => .ok (.bool false)) fun d => ∀ v H', Same H H' → RS false (Oc ++ Of) H' v d → Q v H' := q1
        rw [ee d] at q1
        rw [isn_val rv]
        exact q1 _ _ s1 (.bl _)
      have redT : ∀ {σ H} {Q : Bool → Hp → Prop}, tT T sem W (.isn a) σ H Q → tB (tIsN (tE T sem false W a)) σ H Q := fun {σ H Q} ⟨Oc, Of, en, r, q⟩ => by
        refine tE_bind r q fun d v H1 s1 rv q1 => ?_
        have q1 : okR T W σ H1 (match d with | .none => Res.ok (PyData.bool true) | _ => .ok (.bool false)) fun d => ∀ H', Same H H' → Q (truth d) H' := q1
        rw [ee d] at q1
        rw [isn_val rv]
        exact ⟨_, rfl, q1 _ s1⟩
      exact ⟨pe_lift (pe_mono (pe_cmp (pc_isN pa) rfl) fun σ H Q h => red h) w, pt_mono (pt_cmp (pc_isN pa) rfl) fun σ H Q h => redT h⟩
  | _ => cases h
theorem sd_nisn {a : C} (ha : Sd T sem n N a) : Sd T sem n N (.nisn a) := by
  refine sd_of (fun w X k so sr W G e h => ?_) (fun _ _ _ _ _ => rfl) (fun _ _ _ _ => rfl) fun _ _ _ _ => rfl
  have ee : ∀ d : D, (match d with | .none => Res.ok (PyData.bool false) | _ => .ok (.bool true)) = Res.ok (.bool (!isNo d)) := fun d => by cases d <;> rfl
  cases e with
  | Compare x ops cs p =>
    match ops, cs, h with
    | [.IsNot], [.Constant .none jj p2], h =>
      have pa := (ha.e false X k so sr W G x h).1
      have red : ∀ {σ H} {Q : VK}, tE T sem false W (.nisn a) σ H Q → tNotN (tE T sem false W a) σ H Q := fun {σ H Q} ⟨Oc, Of, en, r, q⟩ => by
        refine tE_bind r q fun d v H1 s1 rv q1 => ?_
        have q1 : okR T W σ H1 (match d with | .none => Res.ok (PyData.bool false) | _ => .ok (.bool true)) fun d => ∀ v H', Same H H' → RS false (Oc ++ Of) H' v d → Q v H' := q1
        rw [ee d] at q1
        rw [isn_val rv]
        exact q1 _ _ s1 (.bl _)
      have redT : ∀ {σ H} {Q : Bool → Hp → Prop}, tT T sem W (.nisn a) σ H Q → tB (tNotN (tE T sem false W a)) σ H Q := fun {σ H Q} ⟨Oc, Of, en, r, q⟩ => by
        refine tE_bind r q fun d v H1 s1 rv q1 => ?_
        have q1 : okR T W σ H1 (match d with | .none => Res.ok (PyData.bool false) | _ => .ok (.bool true)) fun d => ∀ H', Same H H' → Q (truth d) H' := q1
        rw [ee d] at q1
        rw [isn_val rv]
        exact ⟨_, rfl, q1 _ s1⟩
      exact ⟨pe_lift (pe_mono (pe_cmp (pc_notN pa) rfl) fun σ H Q h => red h) w, pt_mono (pt_cmp (pc_notN pa) rfl) fun σ H Q h => redT h⟩
  | _ => cases h
theorem sd_chn {o o' : Cm} {a b c : C} (ha : Sd T sem n N a) (hb : Sd T sem n N b) (hc : Sd T sem n N c) : Sd T sem n N (.chn o o' a b c) := by
  refine sd_of (fun w X k so sr W G e h => ?_) (fun _ _ _ _ _ => rfl) (fun _ _ _ _ => rfl) fun _ _ _ _ => rfl
  cases e with
  | Compare x ops cs p =>
    match ops, cs, h with
    | [op, op'], [y, z], h =>
      have hv : (cmIs o op && cmIs o' op' && chkE n N false so sr a x && chkE n N false so sr b y && chkE n N false so sr c z && !behindInMarks op' z) = true := h
      simp only [Bool.and_eq_true, Bool.not_eq_true'] at hv
      obtain ⟨⟨⟨⟨⟨h1, h2⟩, h3⟩, h4⟩, h5⟩, h6⟩ := hv
      have pa := (ha.e false X k so sr W G x h3).1
      have pb := (hb.e false X k so sr W G y h4).1
      have pc := (hc.e false X k so sr W G z h5).1
      have ho := snd_cmIs (X := X) G.hu h1
      have ho' := snd_cmIs (X := X) G.hu h2
      have lm : lastMarks [op, op'] [y, z] = false := by
        show lastMarks [op'] [z] = false
        exact h6
      have red : ∀ {σ H} {Q : Bool → Hp → Prop} {Q0 : VK}, (∀ b H', Q b H' → Q0 (.bl b) H') → (∃ Oc Of en, Rep Oc Of σ H en ∧ okR T W σ H (ev sem (.chn o o' a b c) en) fun d => ∀ b H', d = .bool b → Same H H' → Q b H') → tChain (rB2 (cmD o)) (rB2 (cmD o')) (tE T sem false W a) (tE T sem false W b) (tE T sem false W c) σ H Q0 := fun {σ H Q Q0} hq ⟨Oc, Of, en, r, q⟩ => by
        refine tE_bind r q fun d1 v1 H1 s1 r1 q1 => tE_bind (r.same s1) q1 fun d2 v2 H2 s2 r2 q2 => ?_
        obtain ⟨k1, e1, kk⟩ := okR.noE q2.bind
        refine ⟨Oc ++ Of, d1, d2, k1, (r.same (s1.trans s2)).th, (r1.same s2).cs, r2.cs, e1, k1, rfl, ?_⟩
        have kk := kk.2
        cases k1 with
        | true =>
          rw [if_pos rfl] at kk ⊢
          refine tE_bind (r.same (s1.trans s2)) kk fun d3 v3 H3 s3 r3 q3 => ?_
          obtain ⟨k2, e2, kk2⟩ := okR.noE q3.bind
          exact ⟨Oc ++ Of, d2, d3, k2, (r.same ((s1.trans s2).trans s3)).th, (r2.same s3).cs, r3.cs, e2, hq _ _ (kk2.2 _ _ rfl ((s1.trans s2).trans s3))⟩
        | false =>
          rw [if_neg Bool.false_ne_true] at kk ⊢
          exact hq _ _ (kk _ _ rfl (s1.trans s2))
      refine ⟨pe_lift (pe_mono (pe_chain ho ho' pa pb pc lm) fun σ H Q ⟨Oc, Of, en, r, q⟩ => ?_) w, pt_mono (pt_chain ho ho' pa pb pc lm) fun σ H Q ⟨Oc, Of, en, r, q⟩ => ?_⟩
      · exact red (Q := Q) (Q0 := fun v H' => ∃ k, v = .bl k ∧ Q k H') (fun b H' h => ⟨b, rfl, h⟩) ⟨Oc, Of, en, r, q.same (Same.refl _) fun d hd b H' e s => by subst e; exact hd H' s⟩
      · exact red (Q := fun b H' => Q (.bl b) H') (fun _ _ h => h) ⟨Oc, Of, en, r, q.same (Same.refl _) fun d hd b H' e s => hd _ _ s (by subst e; exact .bl b)⟩
    | [], _, h => cases h
    | [_], _, h => cases h
    | [_, _], [], h => cases h
    | [_, _], [_], h => cases h
    | [_, _], _ :: _ :: _ :: _, h => cases h
    | _ :: _ :: _ :: _, _, h => cases h
  | _ => cases h
end
end SQ

/-! SqSndG: all/any over a generator expression, comprehensions of two clauses: what ev reckons is what the machine does. -/
set_option maxHeartbeats 2000000
namespace SQ
open PySem PySem.Spec PyProof.Rows L2
variable [TabsC]
section
variable {T : Tb} {sem : Nat → List D → Res D} {W : WX}
theorem gen_red {al : Bool} {tg src elt : C} {P : Addr} {σ : L2.St} {H : Hp} {Q : VK} (hP : P ∈ TabsC.l) (h : tE T sem false W (.gen al tg src elt) σ H Q) :
    tGen al P (tI T sem true W src) (gT tg) (tE T sem false WF elt) (slots tg) σ H Q := by
  obtain ⟨Oc, Of, en, r, q⟩ := h
  have q : okR T W σ H ((ev sem src en).bind fun s => (itemsD s).bind fun xs =>
      (genL al (fun x => (bindT tg x (en.wip (slots tg))).bind fun e1 => (ev sem elt e1).bind boolR) xs).noE.bind fun b => Res.ok (PyData.bool b)) fun d => ∀ v H', Same H H' → DS (Oc ++ Of) H' v d → Q v H' := q
  rw [← bind_assoc] at q
  refine ⟨Oc, Of, en, r, q.bind.same (Same.refl _) fun ds ⟨_, hd⟩ J H1 hl s1 hJ => ?_⟩
  obtain ⟨b, hb, _, hk⟩ := okR.noE hd.bind
  have hk : ∀ v H', Same H H' → DS (Oc ++ Of) H' v (.bool b) → Q v H' := hk
  have r1 := r.same s1
  refine ⟨r1.th.tab P hP, fun i m H2 => m = ds.length - i ∧ i ≤ ds.length ∧ Same H1 H2 ∧ genL al (fun x => (bindT tg x (en.wip (slots tg))).bind fun e1 => (ev sem elt e1).bind boolR) (ds.drop i) = .ok b,
    ⟨ds.length, by simp, Nat.zero_le _, Same.refl _, by simpa using hb⟩, ?_⟩
  rintro i m H2 ⟨rfl, hi, s2, hg⟩
  have hIt := hJ (Oc ++ Of) H2 s2 (fun b o e nn => nn)
  have r2 : Rep Oc Of (wipe σ (slots tg)) H2 (en.wip (slots tg)) := (r1.same s2).wip _
  by_cases hlt : i < ds.length
  · refine .inr ⟨hIt.1 i hlt, fun x H3 hyl => ?_⟩
    obtain ⟨e3, hx⟩ := hIt.2.2 i x H3 hyl
    subst e3
    have dx := hx ds[i] (List.getElem?_eq_getElem hlt)
    have ed : ds.drop i = ds[i] :: ds.drop (i + 1) := List.drop_eq_getElem_cons hlt
    rw [ed] at hg
    obtain ⟨y, hy, hrest⟩ := Res.bind_ok (show ((bindT tg ds[i] (en.wip (slots tg))).bind fun e1 => (ev sem elt e1).bind boolR).bind _ = .ok b from hg)
    obtain ⟨e1, hb1, h2⟩ := Res.bind_ok hy
    obtain ⟨d, hd2, h3⟩ := Res.bind_ok h2
    refine ⟨Oc, Of, en.wip (slots tg), ds[i], e1, r2, dx, hb1, fun σ2 r3 hw => ⟨?_, ?_⟩⟩
    · rw [hw (slots tg) fun i hi => hi, wipe_wipe]
    · refine ⟨Oc, Of, e1, r3, ?_⟩
      rw [hd2]
      intro v H4 s4 hv
      have ey : d = .bool y := by
        cases d with
        | bool k => cases h3; rfl
        | _ => cases h3
      subst ey
      refine ⟨y, DS.i_bool hv, ?_⟩
      by_cases hya : y = al
      · rw [if_pos hya] at hrest ⊢
        exact ⟨ds.length - (i + 1), by omega, rfl, hlt, s2.trans s4, hrest⟩
      · rw [if_neg hya] at hrest ⊢
        cases hrest
        exact hk _ _ (s1.trans (s2.trans s4)) (.bl _)
  · have ei : i = ds.length := by omega
    subst ei
    rw [List.drop_length] at hg
    cases hg
    exact .inl ⟨hIt.2.1 _ (Nat.le_refl _), hk _ _ (s1.trans s2) (.bl _)⟩

theorem wip_append (e : En) : ∀ (a b : List Nat), e.wip (a ++ b) = (e.wip b).wip a
  | [], b => rfl
  | i :: a, b => by
    show (En.wip e (a ++ b)).put i .u = ((e.wip b).wip a).put i .u
    rw [wip_append e a b]
theorem bindT_own : ∀ {tg : C} {d : D} {e e1 : En} {i : Nat} {d' : D}, bindT tg d e = .ok e1 → e1.at i = .o d' → i ∉ slots tg ∧ e.at i = .o d' := by
  intro tg
  induction tg with
  | var j =>
    intro d e e1 i d' h h2
    cases h
    rw [En.at_put] at h2
    split at h2
    · cases h2
    · rename_i hh
      refine ⟨fun z => ?_, h2⟩
      have ez : i = j := List.mem_singleton.mp z
      subst ez
      have hl : e.length ≤ i := Nat.le_of_not_lt fun x => hh ⟨rfl, x⟩
      have u : ∀ (e : En) (i : Nat), e.length ≤ i → e.at i = .u := by
        intro e
        induction e with
        | nil => intro i _; rfl
        | cons s r ih => intro i hi; cases i with
          | zero => simp at hi
          | succ i => exact ih i (by simpa using hi)
      rw [u e i hl] at h2
      cases h2
  | nil =>
    intro d e e1 i d' h h2
    cases d with
    | list l => cases l with
      | nil => cases h; exact ⟨by simp [slots], h2⟩
      | cons => cases h
    | _ => cases h
  | cons a r iha ihr =>
    intro d e e1 i d' h h2
    cases d with
    | list l => cases l with
      | nil => cases h
      | cons x xs =>
        obtain ⟨e2, h3, h4⟩ := Res.bind_ok (show (bindT a x e).bind _ = .ok e1 from h)
        obtain ⟨g1, g2⟩ := ihr h4 h2
        obtain ⟨g3, g4⟩ := iha h3 g2
        exact ⟨fun z => (List.mem_append.mp z).elim g3 g1, g4⟩
    | _ => cases h
  | tup es ih =>
    intro d e e1 i d' h h2
    cases d with
    | tuple l => exact ih (show bindT es (.list l) e = .ok e1 from h) h2
    | _ => cases h
  | _ => intro d e e1 i d' h; cases h
theorem comp2L_cons {f : D → Res (List D)} {d : D} {ds ys : List D} (h : comp2L f (d :: ds) = .ok ys) : ∃ a b, f d = .ok a ∧ comp2L f ds = .ok b ∧ ys = a ++ b := by
  obtain ⟨a, h1, h2⟩ := Res.bind_ok (show (f d).bind _ = .ok ys from h)
  obtain ⟨b, h3, h4⟩ := Res.bind_ok h2
  cases h4
  exact ⟨a, b, h1, h3, rfl⟩
theorem lc2_red {tg src tg1 src1 elt : C} {σ : L2.St} {H : Hp} {Q : VK} (h : tE T sem false W (.cmp2 tg src tg1 src1 elt) σ H Q) :
    tLc2 (tI T sem true W src) (gT tg) tYes (tI T sem false WF src1) (gT tg1) tYes (tE T sem false WF elt) (slots tg ++ slots tg1) (slots tg1) σ H Q := by
  obtain ⟨Oc, Of, en, r, q⟩ := h
  generalize hF : (fun x => (bindT tg x ((en.wip (slots tg1)).wip (slots tg))).bind fun e1 => (ev sem src1 e1).bind fun s' => (itemsD s').bind fun ys => compL (fun _ => .ok true) (fun y => (bindT tg1 y (e1.wip (slots tg1))).bind fun e2 => ev sem elt e2) ys : D → Res (List D)) = F
  have q : okR T W σ H ((ev sem src en).bind fun s => (itemsD s).bind fun xs => (comp2L F xs).noE.bind fun l => if l.length ≤ lim then Res.ok (PyData.list l) else .bad) fun d => ∀ v H', Same H H' → DS (Oc ++ Of) H' v d → Q v H' := by
    rw [← hF]; exact q
  rw [← bind_assoc] at q
  refine ⟨Oc, Of, en, r, q.bind.same (Same.refl _) fun ds ⟨_, hd⟩ J H1 hl s1 hJ => ?_⟩
  obtain ⟨ys, hys, _, hk⟩ := okR.noE hd.bind
  by_cases hyl : ys.length ≤ lim
  case neg => rw [if_neg hyl] at hk; exact hk.elim
  rw [if_pos hyl] at hk
  have hk : ∀ v H', Same H H' → DS (Oc ++ Of) H' v (.list ys) → Q v H' := hk
  intro D hD
  have r1 : Rep Oc (D :: Of) (wipe σ (slots tg ++ slots tg1)) (upd H1 D (.lst [])) (en.wip (slots tg ++ slots tg1)) := ((r.same s1).wip _).hold hD
  have nO : ∀ b o, H1 b = some o → b ∉ Oc ++ Of → b ∉ Oc ++ (D :: Of) := fun b o e nn z => by
    rcases List.mem_append.mp z with z | z
    · exact nn (List.mem_append_left _ z)
    · rcases List.mem_cons.mp z with rfl | z
      · rw [hD] at e; cases e
      · exact nn (List.mem_append_right _ z)
  refine ⟨fun i m H2 => m = ds.length - i ∧ i ≤ ds.length ∧ ∃ accV accD rest, H2 D = some (.lst accV) ∧ DSs (Oc ++ (D :: Of)) H2 accV accD ∧ Same H1 H2 ∧ Rep Oc (D :: Of) (wipe σ (slots tg ++ slots tg1)) H2 (en.wip (slots tg ++ slots tg1)) ∧
      comp2L F (ds.drop i) = .ok rest ∧ accD ++ rest = ys, ⟨ds.length, by simp, Nat.zero_le _, [], [], ys, upd_same, .nil, same_new hD, r1, by simpa using hys, rfl⟩, ?_⟩
  rintro i m H2 ⟨rfl, hi, accV, accD, rest, hH, hacc, s2, r2, hc, hy⟩
  have hIt := hJ (Oc ++ (D :: Of)) H2 s2 nO
  by_cases hlt : i < ds.length
  · refine .inr ⟨hIt.1 i hlt, fun H' => ∃ accV accD rest, H' D = some (.lst accV) ∧ DSs (Oc ++ (D :: Of)) H' accV accD ∧ Same H1 H' ∧ Rep Oc (D :: Of) (wipe σ (slots tg ++ slots tg1)) H' (en.wip (slots tg ++ slots tg1)) ∧
      comp2L F (ds.drop (i + 1)) = .ok rest ∧ accD ++ rest = ys, fun H' hN => ⟨ds.length - (i + 1), by omega, rfl, hlt, hN⟩, fun x H3 hyl3 => ?_⟩
    obtain ⟨e3, hx⟩ := hIt.2.2 i x H3 hyl3
    subst e3
    have dx := hx ds[i] (List.getElem?_eq_getElem hlt)
    have ed : ds.drop i = ds[i] :: ds.drop (i + 1) := List.drop_eq_getElem_cons hlt
    rw [ed] at hc
    obtain ⟨ra, rb, ha, hb, hab⟩ := comp2L_cons hc
    rw [← hF] at ha
    obtain ⟨e1, hb1, ha2⟩ := Res.bind_ok ha
    obtain ⟨sd, hsd, ha3⟩ := Res.bind_ok ha2
    obtain ⟨ds1, hds1, ha4⟩ := Res.bind_ok ha3
    refine ⟨Oc, D :: Of, en.wip (slots tg ++ slots tg1), ds[i], e1, r2, dx, by rw [wip_append]; exact hb1, fun σ2 r3 hw => ⟨?_, ?_⟩⟩
    · rw [hw (slots tg ++ slots tg1) fun i hi => List.mem_append_left _ hi, wipe_wipe]
    show tI T sem false WF src1 σ2 H3 _
    refine ⟨Oc, D :: Of, e1, r3, ?_⟩
    rw [hsd, Res.ok_bind, hds1]
    intro J1 H4 hl1 s4 hJ1
    have base : Rep Oc (D :: Of) (wipe σ (slots tg ++ slots tg1)) H4 (en.wip (slots tg ++ slots tg1)) := r2.same s4
    refine ⟨fun j k H5 => k = ds1.length - j ∧ j ≤ ds1.length ∧ ∃ accV accD rest, H5 D = some (.lst accV) ∧ DSs (Oc ++ (D :: Of)) H5 accV accD ∧ Stp (D :: Of) H4 (D :: Of) H5 ∧ Same H1 H5 ∧ Rep Oc (D :: Of) (wipe σ (slots tg ++ slots tg1)) H5 (en.wip (slots tg ++ slots tg1)) ∧ Rep Oc (D :: Of) σ2 H5 e1 ∧
        compL (fun _ => .ok true) (fun y => (bindT tg1 y (e1.wip (slots tg1))).bind fun e2 => ev sem elt e2) (ds1.drop j) = .ok rest ∧ accD ++ rest ++ rb = ys,
      ⟨ds1.length, by simp, Nat.zero_le _, accV, accD, ra, s4 _ _ hH, hacc.same s4, .same (Same.refl _), s2.trans s4, base, r3.same s4, by simpa using ha4, by rw [List.append_assoc, ← hab]; exact hy⟩, ?_⟩
    rintro j k H5 ⟨rfl, hj, aV, aD, rst, hH5, hac5, st5, s5, b5, r5, hc5, hy5⟩
    have hIt1 := hJ1 (D :: Of) H5 st5
    by_cases hlt1 : j < ds1.length
    · refine .inr ⟨hIt1.1 j hlt1, fun H' => ∃ accV accD rest, H' D = some (.lst accV) ∧ DSs (Oc ++ (D :: Of)) H' accV accD ∧ Stp (D :: Of) H4 (D :: Of) H' ∧ Same H1 H' ∧ Rep Oc (D :: Of) (wipe σ (slots tg ++ slots tg1)) H' (en.wip (slots tg ++ slots tg1)) ∧ Rep Oc (D :: Of) σ2 H' e1 ∧
          compL (fun _ => .ok true) (fun y => (bindT tg1 y (e1.wip (slots tg1))).bind fun e2 => ev sem elt e2) (ds1.drop (j + 1)) = .ok rest ∧ accD ++ rest ++ rb = ys, fun H' hN => ⟨ds1.length - (j + 1), by omega, rfl, hlt1, hN⟩, fun x1 H6 hyl1 => ?_⟩
      obtain ⟨e6, hx1⟩ := hIt1.2.2 j x1 H6 hyl1
      subst e6
      have dx1 := hx1 ds1[j] (List.getElem?_eq_getElem hlt1)
      have ed1 : ds1.drop j = ds1[j] :: ds1.drop (j + 1) := List.drop_eq_getElem_cons hlt1
      rw [ed1] at hc5
      rcases compL_cons hc5 with ⟨h1, _⟩ | ⟨y, l, _, h2, h3, h4⟩
      · cases h1
      obtain ⟨e2, hb2, hel⟩ := Res.bind_ok h2
      refine ⟨Oc, D :: Of, e1.wip (slots tg1), ds1[j], e2, r5.wip _, dx1, hb2, fun σ3 r6 hw2 => ⟨?_, ?_⟩⟩
      · rw [hw2 (slots tg1) fun i hi => hi, wipe_wipe]
      show tE T sem false WF elt σ3 H6 _
      refine ⟨Oc, D :: Of, e2, r6, ?_⟩
      rw [hel]
      intro v H7 s7 hv
      have hv : DS (Oc ++ (D :: Of)) H7 v y := hv
      have st : ∀ b u, H7 b = some u → b ∉ Oc ++ (D :: Of) → upd H7 D (.lst (aV ++ [v])) b = some u ∧ b ∉ Oc ++ (D :: Of) := fun b u hb hn => ⟨by
        rw [upd_ne (fun z => hn (List.mem_append_right _ (by rw [z]; exact List.mem_cons_self)))]; exact hb, hn⟩
      have hal := hac5.length
      have n0 : H D = none := by
        cases hh : H D with
        | none => rfl
        | some o => rw [s1 _ _ hh] at hD; cases hD
      have nx : ∀ φ, H7 D ≠ some (.ext φ) := fun φ z => by rw [s7 _ _ hH5] at z; cases z
      have own0 : ∀ (a : Nat) (d' : PyData), (en.wip (slots tg ++ slots tg1)).at a = .o d' → (wipe σ (slots tg ++ slots tg1))[a]? ≠ some (some (.ref D)) := fun a d' e' z => by
        obtain ⟨p, h1, h2, h3⟩ := (r.wip (slots tg ++ slots tg1)).own a d' e'
        rw [h1] at z
        cases z
        exact r.th.at_ D (List.mem_append_right _ h2) n0
      refine ⟨aV, s7 _ _ hH5, ?_, aV ++ [v], aD ++ [y], l, upd_same, ((hac5.same s7).append (.cons hv .nil)).step st, ?_, ?_, ?_, ?_, h3, ?_⟩
      · have h9 : aD.length < ys.length := by
          rw [← hy5, h4]
          simp only [List.length_append, List.length_cons]
          omega
        have := lim_lt
        omega
      · refine st5.trans ⟨fun b o e nb => ?_, fun p hp => .inl hp⟩
        rw [upd_ne (fun z => nb (by rw [z]; exact List.mem_cons_self))]
        exact s7 _ _ e
      · intro b o e
        rw [upd_ne (ne_of_none e hD)]
        exact s7 _ _ (s5 _ _ e)
      · exact (b5.same s7).turn List.mem_cons_self nx own0
      · refine (r5.same s7).turn List.mem_cons_self nx fun a d' e' z => ?_
        rw [wip_append] at own0
        obtain ⟨g1, g2⟩ := bindT_own hb1 e'
        refine own0 a d' g2 ?_
        have q := congrArg (fun l : L2.St => l[a]?) (hw (slots tg) fun i hi => hi)
        simp only [wipe_at] at q
        have nn : ¬ (a ∈ slots tg ∧ a < σ2.length) := fun x => g1 x.1
        rw [if_neg nn, if_neg (fun x => g1 x.1)] at q
        rw [wipe_at, ← q]
        exact z
      · rw [← hy5, h4, List.append_assoc, List.append_assoc, List.append_assoc]
        simp
    · have ej : j = ds1.length := by omega
      subst ej
      rw [List.drop_length] at hc5
      cases hc5
      rw [List.append_nil] at hy5
      exact .inl ⟨hIt1.2.1 _ (Nat.le_refl _), aV, aD, rb, hH5, hac5, s5, b5, hb, hy5⟩
  · have ei : i = ds.length := by omega
    subst ei
    rw [List.drop_length] at hc
    cases hc
    rw [List.append_nil] at hy
    subst hy
    have n0 : H D = none := by
      cases hh : H D with
      | none => rfl
      | some o => rw [s1 _ _ hh] at hD; cases hD
    refine .inl ⟨hIt.2.1 _ (Nat.le_refl _), hk (.ref D) H2 (s1.trans s2) (DS.lst (.inl hH) (r.th.nin n0) (hacc.sub fun b hb => ?_) hyl)⟩
    rcases List.mem_append.mp hb with z | z
    · exact List.mem_append_left _ z
    · exact List.mem_append_right _ (List.mem_cons_of_mem _ z)
end
end SQ

/-! SqSnd5: boolean operations, displays, parts, calls, comprehensions; all expressions. -/
set_option maxHeartbeats 4000000
namespace SQ
open PySem PySem.Spec PyProof.Rows L2
variable [TabsC]

section
variable {T : Tb} {sem : Nat → List D → Res D} {n : Nms} {N : List Str}
variable {X : Cx} {W : WX} {k : Nat} {so sr : Scope} {σ : L2.St} {H : Hp}

/-- what follows is a reckoning itself -/
theorem tE_tail {b : C} {Oc Of : List Addr} {en : En} {H1 : Hp} {w : Bool} {Q : VK} (r : Rep Oc Of σ H1 en) (s1 : Same H H1)
    (q : okR T W σ H1 (ev sem b en) fun d => ∀ v H', Same H H' → RS w (Oc ++ Of) H' v d → Q v H') : tE T sem w W b σ H1 Q :=
  ⟨Oc, Of, en, r, q.same (Same.refl _) fun d h v H' s rv => h v H' (s1.trans s) rv⟩
theorem tT_tail {b : C} {Oc Of : List Addr} {en : En} {H1 : Hp} {Q : Bool → Hp → Prop} (r : Rep Oc Of σ H1 en) (s1 : Same H H1)
    (q : okR T W σ H1 (ev sem b en) fun d => ∀ H', Same H H' → Q (truth d) H') : tT T sem W b σ H1 Q :=
  ⟨Oc, Of, en, r, q.same (Same.refl _) fun d h H' s => h H' (s1.trans s)⟩

/-! ### and, or, not -/
def tBo (o : Bool) (ta tb : TE) : TE := fun σ H Q => ta σ H fun x H1 => ∃ O d, CS O H1 x d ∧ if truth d = o then Q x H1 else tb σ H1 Q
section
variable {a b : Expr} {ta tb : TE} {rest : List Expr} {pos : Pos}
theorem pe_orD (ha : PE X a ta) (hb : PE X (.BoolOp .Or (b :: rest) pos) tb) : PE X (.BoolOp .Or (a :: b :: rest) pos) (tBo true ta tb) := by
  refine ⟨fun pins s σ H Q I h => BoolOp_or (thn (ha.run pins s σ H _ I h) fun v s1 ⟨x, H1, I1, rx, O, d, hc, z⟩ => ?_)⟩
  refine thn (tru_D pins s1 σ H1 x v (fun c H2 => c = truth d ∧ H2 = H1) I1 rx ⟨O, d, hc, rfl, rfl⟩) fun c s2 ⟨H2, I2, ec, eh⟩ => ?_
  subst ec eh
  cases e : truth d with
  | true => rw [e, if_pos rfl] at z; exact ⟨x, H2, I2, rx, z⟩
  | false => rw [e, if_neg Bool.false_ne_true] at z; exact hb.run pins s2 σ H2 Q I2 z
theorem pe_andD (ha : PE X a ta) (hb : PE X (.BoolOp .And (b :: rest) pos) tb) : PE X (.BoolOp .And (a :: b :: rest) pos) (tBo false ta tb) := by
  refine ⟨fun pins s σ H Q I h => BoolOp_and (thn (ha.run pins s σ H _ I h) fun v s1 ⟨x, H1, I1, rx, O, d, hc, z⟩ => ?_)⟩
  refine thn (tru_D pins s1 σ H1 x v (fun c H2 => c = truth d ∧ H2 = H1) I1 rx ⟨O, d, hc, rfl, rfl⟩) fun c s2 ⟨H2, I2, ec, eh⟩ => ?_
  subst ec eh
  cases e : truth d with
  | false => rw [e, if_pos rfl] at z; exact ⟨x, H2, I2, rx, z⟩
  | true => rw [e, if_neg (fun z => nomatch z)] at z; exact hb.run pins s2 σ H2 Q I2 z
theorem pe_notD (ha : PE X a ta) : PE X (.UnaryOp .Not a pos) (fun σ H Q => ta σ H fun x H1 => ∃ O d, CS O H1 x d ∧ Q (.bl (!truth d)) H1) := by
  refine ⟨fun pins s σ H Q I h => UnaryOp_ (thn (ha.run pins s σ H _ I h) fun v s1 ⟨x, H1, I1, rx, O, d, hc, z⟩ => not_of ?_)⟩
  exact thn (tru_D pins s1 σ H1 x v (fun c H2 => Q (.bl (!c)) H2) I1 rx ⟨O, d, hc, z⟩) fun c s2 ⟨H2, I2, q2⟩ => ⟨.bl (!c), H2, I2, rfl, q2⟩
end
theorem and_red {a b : C} {Q : VK} (h : tE T sem false W (.and a b) σ H Q) : tBo false (tE T sem false W a) (tE T sem false W b) σ H Q := by
  obtain ⟨Oc, Of, en, r, q⟩ := h
  refine tE_bind r q fun d v H1 s1 rv q1 => ⟨_, d, rv.cs, ?_⟩
  cases e : truth d with
  | false => rw [e, if_neg Bool.false_ne_true] at q1; rw [if_pos rfl]; exact q1 v H1 s1 rv
  | true => rw [e, if_pos rfl] at q1; rw [if_neg (fun z => nomatch z)]; exact tE_tail (r.same s1) s1 q1
theorem or_red {a b : C} {Q : VK} (h : tE T sem false W (.or a b) σ H Q) : tBo true (tE T sem false W a) (tE T sem false W b) σ H Q := by
  obtain ⟨Oc, Of, en, r, q⟩ := h
  refine tE_bind r q fun d v H1 s1 rv q1 => ⟨_, d, rv.cs, ?_⟩
  cases e : truth d with
  | true => rw [e, if_pos rfl] at q1; rw [if_pos rfl]; exact q1 v H1 s1 rv
  | false => rw [e, if_neg Bool.false_ne_true] at q1; rw [if_neg Bool.false_ne_true]; exact tE_tail (r.same s1) s1 q1
theorem and_redT {a b : C} {Q : Bool → Hp → Prop} (h : tT T sem W (.and a b) σ H Q) : tAnd (tT T sem W a) (tT T sem W b) σ H Q := by
  obtain ⟨Oc, Of, en, r, q⟩ := h
  refine tT_bind r q fun d H1 s1 q1 => ?_
  cases e : truth d with
  | false => rw [e, if_neg Bool.false_ne_true] at q1; rw [if_neg Bool.false_ne_true]; have := q1 H1 s1; rw [e] at this; exact this
  | true => rw [e, if_pos rfl] at q1; rw [if_pos rfl]; exact tT_tail (r.same s1) s1 q1
theorem or_redT {a b : C} {Q : Bool → Hp → Prop} (h : tT T sem W (.or a b) σ H Q) : tOr (tT T sem W a) (tT T sem W b) σ H Q := by
  obtain ⟨Oc, Of, en, r, q⟩ := h
  refine tT_bind r q fun d H1 s1 q1 => ?_
  cases e : truth d with
  | true => rw [e, if_pos rfl] at q1; rw [if_pos rfl]; have := q1 H1 s1; rw [e] at this; exact this
  | false => rw [e, if_neg Bool.false_ne_true] at q1; rw [if_neg Bool.false_ne_true]; exact tT_tail (r.same s1) s1 q1
theorem sd_and {a b : C} (ha : Sd T sem n N a) (hb : Sd T sem n N b) : Sd T sem n N (.and a b) := by
  have key : ∀ (X : Cx) (k : Nat) (so sr : Scope) (W : WX), Gd T sem n N X k so sr W → ∀ op l pos, chkE n N false so sr (.and a b) (.BoolOp op l pos) = true → PE X (.BoolOp op l pos) (tE T sem false W (.and a b)) ∧ PW X (.BoolOp op l pos) (tT T sem W (.and a b)) := fun X k so sr W G op l pos h => by
    cases op with
    | Or => exact absurd h Bool.false_ne_true
    | And =>
      match l, h with
      | x :: y :: r, h =>
        have h : (chkE n N false so sr a x && (match (generalizing := false) r with
          | [] => chkE n N false so sr b y
          | _ => chkE n N false so sr b (.BoolOp .And (y :: r) pos))) = true := h
        rw [Bool.and_eq_true] at h
        have pa := ha.e false X k so sr W G x h.1
        cases r with
        | nil =>
          have pb := hb.e false X k so sr W G y h.2
          exact ⟨pe_mono (pe_andD pa.1 (pe_one pb.1)) fun σ H Q z => and_red z, pw_mono (pw_and pa.2 (pw_and1 pb.2)) fun σ H Q z => and_redT z⟩
        | cons z r =>
          have pb := hb.e false X k so sr W G _ h.2
          exact ⟨pe_mono (pe_andD pa.1 pb.1) fun σ H Q z => and_red z, pw_mono (pw_and pa.2 (hb.w X k so sr W G _ _ _ h.2)) fun σ H Q z => and_redT z⟩
  refine ⟨fun w X k so sr W G e h => ?_, fun X k so sr W G op l pos h => (key X k so sr W G op l pos h).2, sl_no fun _ _ _ _ => rfl, fun w X k so sr W G tg it h => ?_⟩
  · cases e with
    | BoolOp op l pos => exact ⟨pe_lift (key X k so sr W G op l pos h).1 w, (key X k so sr W G op l pos h).2.pt⟩
    | _ => cases h
  · cases it with
    | BoolOp op l pos => exact pi_D (pe_lift (key X k so sr W G op l pos h).1 w)
    | _ => cases h
theorem sd_or {a b : C} (ha : Sd T sem n N a) (hb : Sd T sem n N b) : Sd T sem n N (.or a b) := by
  have key : ∀ (X : Cx) (k : Nat) (so sr : Scope) (W : WX), Gd T sem n N X k so sr W → ∀ op l pos, chkE n N false so sr (.or a b) (.BoolOp op l pos) = true → PE X (.BoolOp op l pos) (tE T sem false W (.or a b)) ∧ PW X (.BoolOp op l pos) (tT T sem W (.or a b)) := fun X k so sr W G op l pos h => by
    cases op with
    | And => exact absurd h Bool.false_ne_true
    | Or =>
      match l, h with
      | x :: y :: r, h =>
        have h : (chkE n N false so sr a x && (match (generalizing := false) r with
          | [] => chkE n N false so sr b y
          | _ => chkE n N false so sr b (.BoolOp .Or (y :: r) pos))) = true := h
        rw [Bool.and_eq_true] at h
        have pa := ha.e false X k so sr W G x h.1
        cases r with
        | nil =>
          have pb := hb.e false X k so sr W G y h.2
          exact ⟨pe_mono (pe_orD pa.1 (pe_one pb.1)) fun σ H Q z => or_red z, pw_mono (pw_or pa.2 (pw_or1 pb.2)) fun σ H Q z => or_redT z⟩
        | cons z r =>
          have pb := hb.e false X k so sr W G _ h.2
          exact ⟨pe_mono (pe_orD pa.1 pb.1) fun σ H Q z => or_red z, pw_mono (pw_or pa.2 (hb.w X k so sr W G _ _ _ h.2)) fun σ H Q z => or_redT z⟩
  refine ⟨fun w X k so sr W G e h => ?_, fun X k so sr W G op l pos h => (key X k so sr W G op l pos h).2, sl_no fun _ _ _ _ => rfl, fun w X k so sr W G tg it h => ?_⟩
  · cases e with
    | BoolOp op l pos => exact ⟨pe_lift (key X k so sr W G op l pos h).1 w, (key X k so sr W G op l pos h).2.pt⟩
    | _ => cases h
  · cases it with
    | BoolOp op l pos => exact pi_D (pe_lift (key X k so sr W G op l pos h).1 w)
    | _ => cases h
theorem sd_not {a : C} (ha : Sd T sem n N a) : Sd T sem n N (.not a) := by
  refine sd_of (fun w X k so sr W G e h => ?_) (fun _ _ _ _ _ => rfl) (fun _ _ _ _ => rfl) fun _ _ _ _ => rfl
  cases e with
  | UnaryOp op x p =>
    cases op with
    | Not =>
      have pa := ha.e true X k so sr W G x h
      have pe : PE X (.UnaryOp .Not x p) (tE T sem false W (.not a)) := pe_mono (pe_notD pa.1) fun σ H Q ⟨Oc, Of, en, r, q⟩ =>
        tE_bind r q fun d v H1 s1 rv q1 => ⟨_, d, rv.cs, q1 _ _ s1 (.bl _)⟩
      exact ⟨pe_lift pe w, pt_mono (pt_not pa.2) fun σ H Q ⟨Oc, Of, en, r, q⟩ => tT_bind r q fun d H1 s1 q1 => q1 _ s1⟩
    | _ => cases h
  | _ => cases h
theorem sd_ite {t a b : C} (ht : Sd T sem n N t) (ha : Sd T sem n N a) (hb : Sd T sem n N b) : Sd T sem n N (.ite t a b) := by
  refine sd_of (fun w X k so sr W G e h => ?_) (fun _ _ _ _ _ => rfl) (fun _ _ _ _ => rfl) fun _ _ _ _ => rfl
  cases e with
  | IfExp x y z p =>
    have h : (chkE n N true so sr t x && chkE n N false so sr a y && chkE n N false so sr b z) = true := h
    rw [Bool.and_eq_true, Bool.and_eq_true] at h
    have pt := (ht.e true X k so sr W G x h.1.1).2
    have pa := ha.e false X k so sr W G y h.1.2
    have pb := hb.e false X k so sr W G z h.2
    have pe : PE X (.IfExp x y z p) (tE T sem false W (.ite t a b)) := pe_mono (pe_ifExp pt pa.1 pb.1) fun σ H Q ⟨Oc, Of, en, r, q⟩ =>
      tT_bind r q fun d H1 s1 q1 => by
        cases e : truth d with
        | true => rw [e, if_pos rfl] at q1; rw [if_pos rfl]; exact tE_tail (r.same s1) s1 q1
        | false => rw [e, if_neg Bool.false_ne_true] at q1; rw [if_neg Bool.false_ne_true]; exact tE_tail (r.same s1) s1 q1
    refine ⟨pe_lift pe w, ⟨fun pins s σ H Q I hq => ?_⟩⟩
    refine isTrue_IfExp (thn (pt.run pins s σ H (fun c H1 => if c = true then tT T sem W a σ H1 Q else tT T sem W b σ H1 Q) I ?_) fun c s1 ⟨H1, I1, q1⟩ => ?_)
    · obtain ⟨Oc, Of, en, r, q⟩ := hq
      exact tT_bind r q fun d H1 s1 q1 => by
        cases e : truth d with
        | true => rw [e, if_pos rfl] at q1; rw [if_pos rfl]; exact tT_tail (r.same s1) s1 q1
        | false => rw [e, if_neg Bool.false_ne_true] at q1; rw [if_neg Bool.false_ne_true]; exact tT_tail (r.same s1) s1 q1
    · cases c with
      | true => exact pa.2.run pins s1 σ H1 Q I1 q1
      | false => exact pb.2.run pins s1 σ H1 Q I1 q1
  | _ => cases h

/-! ### rows and displays -/
theorem sd_nil : Sd T sem n N .nil where
  e := fun w X k so sr W G e h => by cases e <;> exact absurd h Bool.false_ne_true
  w := sw_no fun _ _ _ _ _ => rfl
  l := fun w X k so sr W G l h => by
    cases l with
    | nil => exact pa_mono pa_nil fun σ H Q ⟨Oc, Of, en, r, q⟩ => q [] H (Same.refl _) .nil
    | cons _ _ => cases h
  s := fun w X k so sr W G tg it h => by cases it <;> exact absurd h Bool.false_ne_true
theorem sd_cons {a r : C} (ha : Sd T sem n N a) (hr : Sd T sem n N r) : Sd T sem n N (.cons a r) where
  e := fun w X k so sr W G e h => by cases e <;> exact absurd h Bool.false_ne_true
  w := sw_no fun _ _ _ _ _ => rfl
  l := fun w X k so sr W G l h => by
    cases l with
    | nil => cases h
    | cons x l =>
      have h : (chkE n N w so sr a x && notStar x && chkL n N w so sr r l) = true := h
      rw [Bool.and_eq_true, Bool.and_eq_true] at h
      refine pa_mono (pa_cons (ha.e w X k so sr W G x h.1.1).1 (hr.l w X k so sr W G l h.2) (star_cons h.1.2)) fun σ H Q ⟨Oc, Of, en, r, q⟩ => ?_
      refine tE_bind r q fun d v H1 s1 rv q1 => tA_bind (r.same s1) q1 fun d2 vs H2 s2 rvs q2 => ?_
      exact q2 (v :: vs) H2 (s1.trans s2) (.cons (rv.same s2) rvs)
  s := fun w X k so sr W G tg it h => by cases it <;> exact absurd h Bool.false_ne_true
theorem chkL_len {w : Bool} {en : En} : ∀ {c : C} {l : List Expr} {d : D}, chkL n N w so sr c l = true → ev sem c en = .ok d → (asL d).length = l.length
  | .nil, [], d, _, e => by cases e; rfl
  | .nil, _ :: _, _, h, _ => by cases h
  | .cons a r, [], _, h, _ => by cases h
  | .cons a r, x :: l, d, h, e => by
    have h : (chkE n N w so sr a x && notStar x && chkL n N w so sr r l) = true := h
    rw [Bool.and_eq_true] at h
    obtain ⟨y, _, e⟩ := Res.bind_ok e
    obtain ⟨z, e2, e⟩ := Res.bind_ok e
    cases e
    show (asL z).length + 1 = l.length + 1
    rw [chkL_len h.2 e2]
  | .na, _, _, h, _ | .var _, _, _, h, _ | .wv _, _, _, h, _ | .dat _, _, _, h, _ | .con _ _, _, _, h, _ | .neg _, _, _, h, _ | .bin _ _ _, _, _, h, _ | .cmp _ _ _, _, _, h, _ | .isn _, _, _, h, _ | .nisn _, _, _, h, _ | .isl _, _, _, h, _ | .chn _ _ _ _ _, _, _, h, _ => absurd h Bool.false_ne_true
  | .and _ _, _, _, h, _ | .or _ _, _, _, h, _ | .not _, _, _, h, _ | .ite _ _ _, _, _, h, _ | .tup _, _, _, h, _ | .lst _, _, _, h, _ | .dic _ _, _, _, h, _ | .idx _ _, _, _, h, _ | .slc _ _ _, _, _, h, _ | .rev _, _, _, h, _ | .rng _ _ _, _, _, h, _ => absurd h Bool.false_ne_true
  | .call _ _, _, _, h, _ | .blt _ _, _, _, h, _ | .mth _ _ _, _, _, h, _ | .cmp1 _ _ _ _, _, _, h, _ | .cmp2 _ _ _ _ _, _, _, h, _ | .skip, _, _, h, _ | .seq _ _, _, _, h, _ | .xpr _, _, _, h, _ | .set _ _, _, _, h, _ | .seto _ _, _, _, h, _ | .sett _ _, _, _, h, _ => absurd h Bool.false_ne_true
  | .fz _ _, _, _, h, _ | .app _ _, _, _, h, _ | .ext _ _, _, _, h, _ | .pop _ _, _, _, h, _ | .puti _ _ _, _, _, h, _ | .aug _ _ _, _, _, h, _ | .iff _ _ _, _, _, h, _ | .for_ _ _ _, _, _, h, _ | .whl _ _, _, _, h, _ | .ret _, _, _, h, _ | .retn, _, _, h, _ => absurd h Bool.false_ne_true
  | .brk, _, _, h, _ | .cnt, _, _, h, _ | .rse _ _, _, _, h, _ | .tryr _ _ _ _ _, _, _, h, _ | .sll _ _ _ _ _ _, _, _, h, _ | .gen _ _ _ _, _, _, h, _ => absurd h Bool.false_ne_true
theorem RSs.length {w : Bool} {O : List Addr} {H : Hp} : ∀ {vs : List V} {ds : List D}, RSs w O H vs ds → vs.length = ds.length
  | _, _, .nil => rfl
  | _, _, .cons _ t => by simp [RSs.length t]
/-- a row's reading with its length known -/
theorem row_red {w : Bool} {es : C} {l : List Expr} {f : D → Res D} {P : D → Prop} {R : List V → Hp → Prop} {Oc Of : List Addr} {en : En} (r : Rep Oc Of σ H en) (hl : chkL n N w so sr es l = true) (h : okR T W σ H ((ev sem es en).bind f) P)
    (hk : ∀ d vs H1, Same H H1 → RSs w (Oc ++ Of) H1 vs (asL d) → (asL d).length = l.length → okR T W σ H1 (f d) P → R vs H1) : tA T sem w W es σ H R :=
  ⟨Oc, Of, en, r, (h.bind).same (Same.refl _) fun d ⟨e, hd⟩ v H1 s1 rv => hk d v H1 s1 rv (chkL_len hl e) (hd.same s1 fun _ z => z)⟩
theorem sd_tup {es : C} (he : Sd T sem n N es) : Sd T sem n N (.tup es) := by
  refine sd_of (fun w X k so sr W G e h => ?_) (fun _ _ _ _ _ => rfl) (fun _ _ _ _ => rfl) fun _ _ _ _ => rfl
  cases e with
  | Tuple l c p =>
    have h : (chkL n N false so sr es l && decide (l.length ≤ 1000)) = true := h
    rw [Bool.and_eq_true, decide_eq_true_eq] at h
    have pe : PE X (.Tuple l c p) (tE T sem false W (.tup es)) := pe_mono (pe_tup (he.l false X k so sr W G l h.1)) fun σ H Q ⟨Oc, Of, en, r, q⟩ =>
      row_red r h.1 q fun d vs H1 s1 rv hl q1 => by
        have e1 := rv.length
        refine ⟨by rw [e1, hl, sizeLine_eq]; omega, fun a ha => q1 _ _ (s1.trans (same_new ha)) (.newT (r.same s1).th ha rv.dss (by rw [hl]; have : lim = 1000000 := rfl; omega))⟩
    exact ⟨pe_lift pe w, pt_of (w := false) pe fun _ => rfl⟩
  | _ => cases h
theorem sd_lst {es : C} (he : Sd T sem n N es) : Sd T sem n N (.lst es) := by
  refine sd_of (fun w X k so sr W G e h => ?_) (fun _ _ _ _ _ => rfl) (fun _ _ _ _ => rfl) fun _ _ _ _ => rfl
  cases e with
  | List l p =>
    have h : (chkL n N false so sr es l && decide (l.length ≤ 1000)) = true := h
    rw [Bool.and_eq_true, decide_eq_true_eq] at h
    have pe : PE X (.List l p) (tE T sem false W (.lst es)) := pe_mono (pe_lst (he.l false X k so sr W G l h.1)) fun σ H Q ⟨Oc, Of, en, r, q⟩ =>
      row_red r h.1 q fun d vs H1 s1 rv hl q1 => by
        have e1 := rv.length
        refine ⟨by rw [e1, hl, sizeLine_eq]; omega, fun a ha => q1 _ _ (s1.trans (same_new ha)) (.newL (r.same s1).th ha rv.dss (by rw [hl]; have : lim = 1000000 := rfl; omega))⟩
    exact ⟨pe_lift pe w, pt_of (w := false) pe fun _ => rfl⟩
  | _ => cases h

/-! ### parts -/
theorem sd_idx {a i : C} (ha : Sd T sem n N a) (hi : Sd T sem n N i) : Sd T sem n N (.idx a i) := by
  refine sd_of (fun w X k so sr W G e h => ?_) (fun _ _ _ _ _ => rfl) (fun _ _ _ _ => rfl) fun _ _ _ _ => rfl
  cases e with
  | Subscript x y p =>
    have h : (chkE n N true so sr a x && chkE n N false so sr i y && notSlice y) = true := h
    rw [Bool.and_eq_true, Bool.and_eq_true] at h
    have pe : PE X (.Subscript x y p) (tE T sem false W (.idx a i)) := pe_mono (pe_ix (s_idx G.hu) (ha.e true X k so sr W G x h.1.1).1 (hi.e false X k so sr W G y h.1.2).1 (plain_ix h.2)) fun σ H Q ⟨Oc, Of, en, r, q⟩ => by
      refine tE_bind r q fun d1 v1 H1 s1 r1 q1 => tE_bind (r.same s1) q1 fun d2 v2 H2 s2 r2 q2 => ?_
      obtain ⟨d, e, k⟩ := okR.noE q2
      exact ⟨Oc ++ Of, d1, d2, d, (r.same (s1.trans s2)).th, (r1.same s2).cs, r2.cs, e, fin_Q (s1.trans s2) k⟩
    exact ⟨pe_lift pe w, pt_of (w := false) pe fun _ => rfl⟩
  | _ => cases h
def tO (T : Tb) (sem : Nat → List D → Res D) (W : WX) (lo : C) : TO := fun σ H Q => ∃ Oc Of en, Rep Oc Of σ H en ∧ okR T W σ H (optI lo.isNa (ev sem lo en)) fun o => ∀ H', Same H H' → Q o H'
theorem po_D {lo : C} {l : Option Expr} (G : Gd T sem n N X k so sr W) (hl : Sd T sem n N lo) (h : (match (generalizing := false) l with
      | none => lo.isNa
      | some y => !lo.isNa && chkE n N false so sr lo y) = true) : PO X l (tO T sem W lo) := by
  cases l with
  | none =>
    have h : lo.isNa = true := h
    exact po_mono po_none fun σ H Q ⟨Oc, Of, en, r, q⟩ => by
      rw [h] at q
      exact q H (Same.refl _)
  | some y =>
    have h : (!lo.isNa && chkE n N false so sr lo y) = true := h
    rw [Bool.and_eq_true, Bool.not_eq_true'] at h
    exact po_mono (po_some (hl.e false X k so sr W G y h.2).1) fun σ H Q ⟨Oc, Of, en, r, q⟩ => by
      rw [h.1] at q
      refine tE_bind r (f := fun d => match d with
        | .int i => .ok (some i)
        | _ => .bad) q fun d v H1 s1 rv q1 => ?_
      cases d with
      | int i =>
        have ev1 := DS.i_int rv
        subst ev1
        exact ⟨i, rfl, q1 H1 s1⟩
      | _ => exact q1.elim
theorem tO_bind {β : Type} {a : C} {f : Option Int → Res β} {Oc Of : List Addr} {en : En} {k : β → Prop} {R : Option Int → Hp → Prop} (r : Rep Oc Of σ H en) (h : okR T W σ H ((optI a.isNa (ev sem a en)).bind f) k)
    (hk : ∀ d H1, Same H H1 → okR T W σ H1 (f d) k → R d H1) : tO T sem W a σ H R :=
  ⟨Oc, Of, en, r, (h.bind).same (Same.refl _) fun d ⟨_, hd⟩ H1 s1 => hk d H1 s1 (hd.same s1 fun _ z => z)⟩
theorem sd_slc {a lo hi : C} (ha : Sd T sem n N a) (hl : Sd T sem n N lo) (hh : Sd T sem n N hi) : Sd T sem n N (.slc a lo hi) := by
  refine sd_of (fun w X k so sr W G e h => ?_) (fun _ _ _ _ _ => rfl) (fun _ _ _ _ => rfl) fun _ _ _ _ => rfl
  cases e with
  | Subscript x y p =>
    cases y with
    | Slice l h' st p2 =>
      cases st with
      | some _ => cases h
      | none =>
        have h : (chkE n N true so sr a x && (match (generalizing := false) l with
          | none => lo.isNa
          | some y => !lo.isNa && chkE n N false so sr lo y) && (match (generalizing := false) h' with
          | none => hi.isNa
          | some y => !hi.isNa && chkE n N false so sr hi y)) = true := h
        rw [Bool.and_eq_true, Bool.and_eq_true] at h
        have pe : PE X (.Subscript x (.Slice l h' none p2) p) (tE T sem false W (.slc a lo hi)) := pe_mono (pe_slice s_slice (ha.e true X k so sr W G x h.1.1).1 (po_D G hl h.1.2) (po_D G hh h.2)) fun σ H Q ⟨Oc, Of, en, r, q⟩ => by
          refine tE_bind r q fun d1 v1 H1 s1 r1 q1 => tO_bind (r.same s1) q1 fun o2 H2 s2 q2 => tO_bind (r.same (s1.trans s2)) q2 fun o3 H3 s3 q3 => ?_
          obtain ⟨d, e, k⟩ := okR.noE q3
          exact ⟨Oc ++ Of, d1, d, (r.same ((s1.trans s2).trans s3)).th, ((r1.same s2).same s3).cs, e, fin_Q ((s1.trans s2).trans s3) k⟩
        exact ⟨pe_lift pe w, pt_of (w := false) pe fun _ => rfl⟩
    | _ => cases h
  | _ => cases h
theorem minus1_get {e : Expr} (h : isMinus1 e = true) : ∃ k p1 p2, e = .UnaryOp .USub (.Constant (.int 1) k p1) p2 := by
  unfold isMinus1 at h
  split at h
  · exact ⟨_, _, _, rfl⟩
  · cases h
theorem sd_rev {a : C} (ha : Sd T sem n N a) : Sd T sem n N (.rev a) := by
  refine sd_of (fun w X k so sr W G e h => ?_) (fun _ _ _ _ _ => rfl) (fun _ _ _ _ => rfl) fun _ _ _ _ => rfl
  cases e with
  | Subscript x y p =>
    cases y with
    | Slice l h' st p2 =>
      match l, h', st, h with
      | none, none, some y, h =>
        have h : (chkE n N true so sr a x && isMinus1 y) = true := h
        rw [Bool.and_eq_true] at h
        obtain ⟨k1, p3, p4, rfl⟩ := minus1_get h.2
        have pe : PE X (.Subscript x (.Slice none none (some (.UnaryOp .USub (.Constant (.int 1) k1 p3) p4)) p2) p) (tE T sem false W (.rev a)) := pe_mono (pe_rev (ha.e true X k so sr W G x h.1).1) fun σ H Q ⟨Oc, Of, en, r, q⟩ => by
          refine tE_bind r q fun d1 v1 H1 s1 r1 q1 => ?_
          obtain ⟨d, e, k⟩ := okR.noE q1
          exact ⟨Oc ++ Of, d1, d, (r.same s1).th, r1.cs, e, fin_Q s1 k⟩
        exact ⟨pe_lift pe w, pt_of (w := false) pe fun _ => rfl⟩
      | some _, _, _, h => cases h
      | none, some _, _, h => cases h
      | none, none, none, h => cases h
    | _ => cases h
  | _ => cases h
theorem sd_rng {lo hi st : C} (hl : Sd T sem n N lo) (hh : Sd T sem n N hi) (hs : Sd T sem n N st) : Sd T sem n N (.rng lo hi st) where
  e := fun w X k so sr W G e h => by cases e <;> exact absurd h Bool.false_ne_true
  w := sw_no fun _ _ _ _ _ => rfl
  l := sl_no fun _ _ _ _ => rfl
  s := fun w X k so sr W G tg it h => pi_rng G hl.e hh.e hs.e h

/-! ### displays of dicts -/
theorem putK_new {k : Key} {v : V} {acc : List (Key × V)} (h : k ∉ acc.map (·.1)) : putK acc k v = acc ++ [(k, v)] := by
  unfold putK
  refine if_neg fun z => h ?_
  obtain ⟨p, hp, e⟩ := List.any_eq_true.mp z
  exact List.mem_map.mpr ⟨p, hp, of_decide_eq_true e⟩
theorem mergeK_new : ∀ {l acc : List (Key × V)}, ((acc ++ l).map (·.1)).Nodup → mergeK acc l = acc ++ l
  | [], acc, _ => by rw [List.append_nil]; rfl
  | p :: r, acc, h => by
    have h1 : p.1 ∉ acc.map (·.1) := fun z => by
      rw [List.map_append, List.map_cons] at h
      exact (List.nodup_append.mp h).2.2 _ z _ List.mem_cons_self rfl
    show mergeK (putK acc p.1 p.2) r = _
    rw [putK_new h1]
    have e : acc ++ p :: r = (acc ++ [(p.1, p.2)]) ++ r := by rw [List.append_assoc]; rfl
    rw [e] at h ⊢
    exact mergeK_new h
theorem pe_key {k : D} {a : Key} {c : Const} {j : Nat} {p : Pos} (h : keyOf k = some a) (hc : datB k c = true) : PE X (.Constant c j p) (tC (kV a)) ∧ keyV a = k := by
  cases k with
  | int i =>
    cases h
    cases c with
    | int i' =>
      have e : i = i' := of_decide_eq_true hc
      subst e
      exact ⟨pe_int, rfl⟩
    | _ => cases hc
  | str z =>
    cases h
    cases c with
    | str z' =>
      have h' : (decide (z = z') && decide (z.cps.size ≤ lim)) = true := hc
      rw [Bool.and_eq_true, decide_eq_true_eq] at h'
      obtain ⟨rfl, _⟩ := h'
      exact ⟨pe_str, rfl⟩
    | _ => cases hc
  | _ => cases h
theorem pe_dv {k : D} {a : V} {c : Const} {j : Nat} {p : Pos} (h : dvOf k = some a) (hc : datB k c = true) : PE X (.Constant c j p) (tC a) ∧ ∀ O H, DS O H a k := by
  cases k with
  | int i =>
    cases h
    cases c with
    | int i' =>
      have e : i = i' := of_decide_eq_true hc
      subst e
      exact ⟨pe_int, fun O H => .int _⟩
    | _ => cases hc
  | str z =>
    cases h
    cases c with
    | str z' =>
      have h' : (decide (z = z') && decide (z.cps.size ≤ lim)) = true := hc
      rw [Bool.and_eq_true, decide_eq_true_eq, decide_eq_true_eq] at h'
      obtain ⟨rfl, hz⟩ := h'
      exact ⟨pe_str, fun O H => .str _ hz⟩
    | _ => cases hc
  | _ => cases h
theorem dic_parts {pos : Pos} : ∀ {ks vs : C} {kvs : List (Key × V)} {l : List (Option Expr)} {m : List Expr}, kvsOf ks vs = some kvs → chkD ks vs l m = true →
    ∃ trs, PPs X pos l m trs ∧ (∀ σ H Q, Q (kvs.map fun kv => (kV kv.1, kv.2)) H → tPairs trs σ H Q) ∧ l.length = kvs.length ∧ m.length = kvs.length ∧ l.all (·.isSome) = true ∧
      ∀ (en : En), ∃ a b, ev sem ks en = .ok (.list a) ∧ ev sem vs en = .ok (.list b) ∧ ∀ O H, DKs O H kvs (a.zip b) := by
  intro ks
  induction ks with
  | nil =>
    intro vs kvs l m h hc
    cases vs with
    | nil =>
      cases h
      have hc : (l.isEmpty && m.isEmpty) = true := hc
      rw [Bool.and_eq_true, List.isEmpty_iff, List.isEmpty_iff] at hc
      obtain ⟨rfl, rfl⟩ := hc
      exact ⟨[], pps_nil, fun _ _ _ q => q, rfl, rfl, rfl, fun en => ⟨[], [], rfl, rfl, fun _ _ => .nil⟩⟩
    | _ => cases h
  | cons k kr _ ih =>
    intro vs kvs l m h hc
    cases k with
    | dat k =>
      cases vs with
      | cons v vr =>
        cases v with
        | dat v =>
          have h : (match keyOf k, dvOf v, kvsOf kr vr with
            | some a, some b, some l => some ((a, b) :: l)
            | _, _, _ => none) = some kvs := h
          cases e1 : keyOf k with
          | none => rw [e1] at h; cases h
          | some a =>
            cases e2 : dvOf v with
            | none => rw [e1, e2] at h; cases h
            | some b =>
              cases e3 : kvsOf kr vr with
              | none => rw [e1, e2, e3] at h; cases h
              | some r =>
                rw [e1, e2, e3] at h
                cases h
                match l, m, hc with
                | some (.Constant ca j1 p1) :: l, .Constant cb j2 p2 :: m, hc =>
                  have hc : (datB k ca && datB v cb && chkD kr vr l m) = true := hc
                  rw [Bool.and_eq_true, Bool.and_eq_true] at hc
                  obtain ⟨trs, h1, h2, h3, h4, h5, h6⟩ := ih e3 hc.2
                  obtain ⟨k1, k2⟩ := pe_key (X := X) (j := j1) (p := p1) e1 hc.1.1
                  obtain ⟨v1, v2⟩ := pe_dv (X := X) (j := j2) (p := p2) e2 hc.1.2
                  refine ⟨_, pps_cons k1 v1 h1, fun σ H Q q => h2 σ H _ q, by rw [List.length_cons, h3]; rfl, by rw [List.length_cons, h4]; rfl, by rw [List.all_cons, h5]; rfl, fun en => ?_⟩
                  obtain ⟨x, y, g1, g2, g3⟩ := h6 en
                  refine ⟨k :: x, v :: y, ?_, ?_, fun O H => ?_⟩
                  · show (Res.ok k).bind (fun x => (ev sem kr en).bind fun l => Res.ok (PyData.list (x :: asL l))) = _
                    rw [g1]; rfl
                  · show (Res.ok v).bind (fun x => (ev sem vr en).bind fun l => Res.ok (PyData.list (x :: asL l))) = _
                    rw [g2]; rfl
                  · rw [List.zip_cons_cons, ← k2]
                    exact .cons (v2 O H) (g3 O H)
        | _ => cases h
      | _ => cases h
    | _ => cases vs <;> cases h
  | _ => intro vs kvs l m h; cases vs <;> cases h
theorem sd_dic {ks vs : C} : Sd T sem n N (.dic ks vs) := by
  refine sd_of (fun w X k so sr W G e h => ?_) (fun _ _ _ _ _ => rfl) (fun _ _ _ _ => rfl) fun _ _ _ _ => rfl
  cases e with
  | Dict l m p =>
    have h : (chkD ks vs l m && decide (l.length ≤ 15) && !l.isEmpty && (match (generalizing := false) kvsOf ks vs with
      | some kvs => decide ((kvs.map (·.1)).Nodup)
      | none => false)) = true := h
    rw [Bool.and_eq_true, Bool.and_eq_true, Bool.and_eq_true, decide_eq_true_eq] at h
    obtain ⟨⟨⟨h1, h2⟩, h3⟩, h4⟩ := h
    cases e : kvsOf ks vs with
    | none => rw [e] at h4; cases h4
    | some kvs =>
      rw [e] at h4
      have h4 : (kvs.map (·.1)).Nodup := of_decide_eq_true h4
      obtain ⟨trs, g1, g2, g3, g4, g5, g6⟩ := dic_parts (X := X) (pos := p) (sem := sem) e h1
      have pe : PE X (.Dict l m p) (tE T sem false W (.dic ks vs)) := pe_mono (pe_disp g1 g5 (g3.trans g4.symm) (by cases l <;> simp_all) h2) fun σ H Q ⟨Oc, Of, en, r, q⟩ => by
        obtain ⟨a, b, e1, e2, e3⟩ := g6 en
        have q : okR T W σ H ((ev sem ks en).bind fun l => (ev sem vs en).bind fun m => .ok (.dict ((asL l).zip (asL m)))) fun d => ∀ v H', Same H H' → RS false (Oc ++ Of) H' v d → Q v H' := q
        rw [e1, Res.ok_bind, e2, Res.ok_bind] at q
        intro p hp
        refine g2 σ _ _ ⟨upd_same, kvs, rfl, by omega, q _ _ (fun b o eb => by rw [upd_ne (ne_of_none eb hp), upd_ne (ne_of_none eb hp)]; exact eb) (DS.dk upd_same (r.th.nin hp) ?_ ?_)⟩
        · rw [mergeK_new (by rw [List.nil_append]; exact h4), List.nil_append]
          exact e3 _ _
        · have h5 := (e3 [] (fun _ => none)).length
          have l1 : lim = 1000000 := rfl
          show (a.zip b).length ≤ lim
          omega
      exact ⟨pe_lift pe w, pt_of (w := false) pe fun _ => rfl⟩
  | _ => cases h

/-! ### calls -/
theorem fin_call {f : Nat} {addr : Addr} {fd : FuncData} {ps : List Str} {es : C} {Q : VK} (hb : ∀ ds, ds.length ≠ ps.length → sem f ds = .bad) (h : tE T sem false W (.call f es) σ H Q) : tCallSD (spD T ps.length (sem f)) [] (fun σ => WE W σ) (tA T sem false W es) σ H Q := by
  obtain ⟨Oc, Of, en, r, q⟩ := h
  refine tA_bind r q fun d vs H1 s1 rv q1 => ?_
  refine ⟨Oc ++ Of, asL d, (r.same s1).th, by rw [List.append_nil]; exact rv.dss, ?_, ?_⟩
  · refine Decidable.byContradiction fun hn => ?_
    rw [hb _ hn] at q1
    exact q1
  · cases e : sem f (asL d) with
    | ok x => rw [e] at q1; exact fin_Q s1 q1
    | err c xs => rw [e] at q1; exact q1
    | bad => rw [e] at q1; exact q1
theorem sd_call {f : Nat} {es : C} (he : Sd T sem n N es) : Sd T sem n N (.call f es) := by
  refine sd_of (fun w X k so sr W G e h => ?_) (fun _ _ _ _ _ => rfl) (fun _ _ _ _ => rfl) fun _ _ _ _ => rfl
  cases e with
  | Call fe l kw p =>
    cases fe with
    | Name x p2 =>
      cases kw with
      | cons _ _ => cases h
      | nil =>
        have h : (decide (n.fn f = some x) && glB sr x && chkL n N false so sr es l && !l.isEmpty) = true := h
        simp only [Bool.and_eq_true, decide_eq_true_eq] at h
        obtain ⟨⟨⟨h1, h2⟩, h3⟩, h4⟩ := h
        obtain ⟨addr, fd, ps, g1, g2, g3, g4, g5⟩ := G.fn f x h1
        obtain ⟨v1, v2⟩ := G.gl h2
        cases l with
        | nil => cases h4
        | cons y l =>
          have st := chkL_star h3
          have pe : PE X (.Call (.Name x p2) (y :: l) [] p) (tE T sem false W (.call f es)) := pe_mono (pe_callSD (E := fun σ => WE W σ) g4 G.room v1 g1 g2 g3 .nil (fun σ => passAt G.tk σ) (he.l false X k so sr W G _ h3) v2 (star_cons (st y List.mem_cons_self)) (star_none (w := false) fun z hz => st z (List.mem_cons_of_mem _ hz))) fun σ H Q z => fin_call (addr := addr) (fd := fd) g5 z
          exact ⟨pe_lift pe w, pt_of (w := false) pe fun _ => rfl⟩
    | _ => cases h
  | _ => cases h
open Classical in
/-- the cells that a call leaves alone -/
noncomputable def without (O : List Addr) (vs : List V) : List Addr := O.filter fun b => decide (V.ref b ∉ vs)
theorem without_sub {O : List Addr} {vs : List V} : ∀ b ∈ without O vs, b ∈ O := fun b h => (List.mem_filter.mp h).1
theorem without_nin {O : List Addr} {vs : List V} {a : Addr} (h : V.ref a ∈ vs) : a ∉ without O vs := fun z => by
  have := (List.mem_filter.mp z).2
  rw [decide_eq_true_eq] at this
  exact this h
/-- what is only looked at, shown to a callee -/
theorem CS.lend {O : List Addr} {H : Hp} {v : V} {d : D} {vs : List V} (h : CS O H v d) (hm : v ∈ vs) : DS (without O vs) H v d := by
  cases h with
  | ds h => exact h.sub without_sub
  | lst h t l => exact .lst h (without_nin hm) (t.sub without_sub) l
  | dk h t l => exact .dk h (without_nin hm) (t.step fun b o e nb => ⟨e, fun z => nb (without_sub b z)⟩) l
  | dt h t l => exact .dt h (without_nin hm) (t.step fun b o e nb => ⟨e, fun z => nb (without_sub b z)⟩) l
theorem RSs.lend {O : List Addr} {H : Hp} {vs0 : List V} : ∀ {vs : List V} {ds : List D}, RSs true O H vs ds → (∀ v ∈ vs, v ∈ vs0) → DSs (without O vs0) H vs ds
  | _, _, .nil, _ => .nil
  | _, _, .cons h t, hm => .cons (CS.lend h (hm _ List.mem_cons_self)) (RSs.lend t fun v hv => hm v (List.mem_cons_of_mem _ hv))
/-- a cell that is lent is no tuple -/
theorem RSs.ntup {O : List Addr} {H : Hp} {a : Addr} (ha : a ∈ O) : ∀ {vs : List V} {ds : List D}, RSs true O H vs ds → V.ref a ∈ vs → ∀ xs, H a ≠ some (.tup xs)
  | _, _, .cons (d := d) (v := v) h t, hm, xs, e => by
    rcases List.mem_cons.mp hm with hv | hm
    · have h : CS O H v d := h
      rw [← hv] at h
      cases h with
      | ds h =>
        cases h with
        | lst _ n _ _ => exact n ha
        | tup _ n _ _ => exact n ha
        | dk _ n _ _ => exact n ha
        | dt _ n _ _ => exact n ha
      | lst hr _ _ => rcases hr with hr | ⟨o, hr⟩ <;> (rw [hr] at e; cases e)
      | dk hr _ _ => rw [hr] at e; cases e
      | dt hr _ _ => rw [hr] at e; cases e
    · exact RSs.ntup ha t hm xs e
mutual
theorem tup_back {O O' : List Addr} {H : Hp} (hn : ∀ a xs, H a = some (.tup xs) → a ∉ O' → a ∉ O) : ∀ (d : PyData) (v : V), tupD d = true → DS O' H v d → DS O H v d
  | .none, v, _, h => by rw [h.i_none]; exact .non
  | .bool b, v, _, h => by rw [h.i_bool]; exact .bl b
  | .int i, v, _, h => by rw [h.i_int]; exact .int i
  | .str s, v, _, h => by
    obtain ⟨e, l⟩ := h.i_str
    rw [e]
    exact .str s l
  | .tuple ds, v, ht, h => by
    obtain ⟨a, xs, rfl, h1, h2, h3, h4⟩ := h.i_tuple
    exact .tup h1 (hn a xs h1 h2) (tup_backs hn ds xs ht h3) h4.1
  | .list ds, v, ht, h => by cases ht
  | .dict es, v, ht, h => by cases ht
theorem tup_backs {O O' : List Addr} {H : Hp} (hn : ∀ a xs, H a = some (.tup xs) → a ∉ O' → a ∉ O) : ∀ (ds : List PyData) (vs : List V), tupAll ds = true → DSs O' H vs ds → DSs O H vs ds
  | [], vs, _, h => by cases h; exact .nil
  | d :: ds, vs, ht, h => by
    have ht : (tupD d && tupAll ds) = true := ht
    rw [Bool.and_eq_true] at ht
    cases h with
    | cons h t => exact .cons (tup_back hn d _ ht.1 h) (tup_backs hn ds _ ht.2 t)
end
theorem fin_callb {f : Nat} {addr : Addr} {fd : FuncData} {ps : List Str} {es : C} {Q : VK} (hb : ∀ ds, ds.length ≠ ps.length → sem f ds = .bad) (h : tE T sem false W (.callb f es) σ H Q) : tCallSD (spD T ps.length (sem f)) [] (fun σ => WE W σ) (tA T sem true W es) σ H Q := by
  obtain ⟨Oc, Of, en, r, q⟩ := h
  refine tA_bind r q fun d vs H1 s1 rv q1 => ?_
  refine ⟨without (Oc ++ Of) vs, asL d, (r.same s1).th.sub without_sub, by rw [List.append_nil]; exact rv.lend fun v hv => hv, ?_, ?_⟩
  · refine Decidable.byContradiction fun hn => ?_
    rw [hb _ hn] at q1
    exact q1
  · cases e : sem f (asL d) with
    | ok x =>
      rw [e] at q1
      have q1 : okR T W σ H1 (if tupD x then Res.ok x else .bad) _ := q1
      cases ht : tupD x with
      | false => rw [ht] at q1; exact q1.elim
      | true =>
        rw [ht] at q1
        have q2 := fin_Q s1 (show okR T W σ H1 (Res.ok x) _ from q1)
        intro v H' s2 hv
        refine q2 v H' s2 (tup_back (fun a xs ea na ha => ?_) x v ht hv)
        have hin : V.ref a ∈ vs := Decidable.byContradiction fun z => na (List.mem_filter.mpr ⟨ha, by rw [decide_eq_true_eq]; exact z⟩)
        cases e1 : H1 a with
        | none => exact (r.same s1).th.at_ a ha e1
        | some o =>
          have := s2 a o e1
          rw [ea] at this
          injection this with this
          exact RSs.ntup ha rv hin xs (by rw [e1, this])
    | err c xs => rw [e] at q1; exact q1
    | bad => rw [e] at q1; exact q1
theorem sd_callb {f : Nat} {es : C} (he : Sd T sem n N es) : Sd T sem n N (.callb f es) := by
  refine sd_of (fun w X k so sr W G e h => ?_) (fun _ _ _ _ _ => rfl) (fun _ _ _ _ => rfl) fun _ _ _ _ => rfl
  cases e with
  | Call fe l kw p =>
    cases fe with
    | Name x p2 =>
      cases kw with
      | cons _ _ => cases h
      | nil =>
        have h : (decide (n.fn f = some x) && glB sr x && chkL n N true so sr es l && !l.isEmpty) = true := h
        simp only [Bool.and_eq_true, decide_eq_true_eq] at h
        obtain ⟨⟨⟨h1, h2⟩, h3⟩, h4⟩ := h
        obtain ⟨addr, fd, ps, g1, g2, g3, g4, g5⟩ := G.fn f x h1
        obtain ⟨v1, v2⟩ := G.gl h2
        cases l with
        | nil => cases h4
        | cons y l =>
          have st := chkL_star h3
          have pe : PE X (.Call (.Name x p2) (y :: l) [] p) (tE T sem false W (.callb f es)) := pe_mono (pe_callSD (E := fun σ => WE W σ) g4 G.room v1 g1 g2 g3 .nil (fun σ => passAt G.tk σ) (he.l true X k so sr W G _ h3) v2 (star_cons (st y List.mem_cons_self)) (star_none (w := false) fun z hz => st z (List.mem_cons_of_mem _ hz))) fun σ H Q z => fin_callb (addr := addr) (fd := fd) g5 z
          exact ⟨pe_lift pe w, pt_of (w := false) pe fun _ => rfl⟩
    | _ => cases h
  | _ => cases h
theorem blt_red {b : Bi} {es : C} {Q : VK} (h : tE T sem false W (.blt b es) σ H Q) : tCB (rDL (blD b)) (tA T sem true W es) σ H Q := by
  obtain ⟨Oc, Of, en, r, q⟩ := h
  refine tA_bind r q fun d vs H1 s1 rv q1 => ?_
  obtain ⟨x, e, k⟩ := okR.noE q1
  exact ⟨Oc ++ Of, asL d, x, (r.same s1).th, rv.css, e, fin_Q s1 k⟩
theorem bi_call {b : Bi} {x : Str} {y : Expr} {l : List Expr} {t : TA} {p p2 : Pos} (G : Gd T sem n N X k so sr W) (hb : biOk b = true) (hx : ∃ c, biName b = some (x, c)) (hg : Gl X x) (ha : PA X (y :: l) t)
    (he : starEach (y :: l) X.env = (false, eval y X.env) :: starEach l X.env) (hpl : (backTo p (starEach l X.env)).any (·.1) = false) : PE X (.Call (.Name x p2) (y :: l) [] p) (tCB (rDL (blD b)) t) := by
  obtain ⟨c, hx⟩ := hx
  cases b with
  | len => cases hx; exact pe_callB s_len hg (G.blt _ (by decide)) boot_len ha (by decide) (by decide) he hpl
  | max1 => cases hx; exact pe_callB (s_max G.calm (.inl rfl)) hg (G.blt _ (by decide)) boot_max ha (by decide) (by decide) he hpl
  | max2 => cases hx; exact pe_callB (s_max G.calm (.inr rfl)) hg (G.blt _ (by decide)) boot_max ha (by decide) (by decide) he hpl
  | min1 => cases hx; exact pe_callB (s_min G.calm (.inl rfl)) hg (G.blt _ (by decide)) boot_min ha (by decide) (by decide) he hpl
  | min2 => cases hx; exact pe_callB (s_min G.calm (.inr rfl)) hg (G.blt _ (by decide)) boot_min ha (by decide) (by decide) he hpl
  | sum => cases hx; exact pe_callB (s_sum G.calm) hg (G.blt _ (by decide)) boot_sum ha (by decide) (by decide) he hpl
  | tuple => cases hx; exact pe_callTy s_tuple hg (G.blt _ (by decide)) PyProof.Rows.boot_tuple ha (by decide) (by decide) he hpl
  | sorted => cases hx; exact pe_callB (s_sorted G.calm G.hu) hg (G.blt _ (by decide)) PyProof.Rows.boot_sorted ha (by decide) (by decide) he hpl
  | list => cases hx; exact pe_callTy s_list hg (G.blt _ (by decide)) PyProof.Rows.boot_list ha (by decide) (by decide) he hpl
  | _ => cases hb
theorem sd_blt {b : Bi} {es : C} (he : Sd T sem n N es) (hsub : ∀ a r, es = .cons a r → Sd T sem n N a) : Sd T sem n N (.blt b es) := by
  refine sd_of (fun w X k so sr W G e h => ?_) (fun _ _ _ _ _ => rfl) (fun _ _ _ _ => rfl) fun _ _ _ _ => rfl
  cases e with
  | Call fe l kw p =>
    cases fe with
    | Name x p2 =>
      cases kw with
      | cons _ _ => cases h
      | nil =>
        have h : (biOk b && (match (generalizing := false) biName b with
          | some p => decide (p.1 = x)
          | none => false) && glB sr x && chkL n N true so sr es l && !l.isEmpty) = true := h
        simp only [Bool.and_eq_true] at h
        obtain ⟨⟨⟨⟨h0, h1⟩, h2⟩, h3⟩, h4⟩ := h
        obtain ⟨v1, v2⟩ := G.gl h2
        have hx : ∃ c, biName b = some (x, c) := by
          cases e : biName b with
          | none => rw [e] at h1; cases h1
          | some q =>
            rw [e, decide_eq_true_eq] at h1
            exact ⟨q.2, by rw [← h1]⟩
        cases l with
        | nil => cases h4
        | cons y l =>
          have st := chkL_star h3
          have pe : PE X (.Call (.Name x p2) (y :: l) [] p) (tE T sem false W (.blt b es)) := pe_mono (bi_call G h0 hx v1 (he.l true X k so sr W G _ h3) (star_cons (st y List.mem_cons_self)) (star_none (w := false) fun z hz => st z (List.mem_cons_of_mem _ hz))) fun σ H Q z => blt_red z
          exact ⟨pe_lift pe w, pt_of (w := false) pe fun _ => rfl⟩
    | _ => cases h
  | Compare x ops cs p =>
    match ops, cs, h with
    | [.NotIn], [.Call (.Name f p1) [.Constant (.int m) k2 p2] [] p3], h =>
      match b, es, h with
      | .nir, .cons a (.cons (.dat (.int m')) .nil), h =>
        have h : (decide (f = "range") && glB sr "range" && decide (m = m') && chkE n N false so sr a x) = true := h
        simp only [Bool.and_eq_true, decide_eq_true_eq] at h
        obtain ⟨⟨⟨rfl, h2⟩, rfl⟩, h4⟩ := h
        obtain ⟨v1, v2⟩ := G.gl h2
        have ha : Sd T sem n N a := hsub a _ rfl
        have pa := (ha.e false X k so sr W G x h4).1
        have pr : PE X (.Call (.Name "range" p1) [.Constant (.int m) k2 p2] [] p3) (tCB (fun vs H Q => ∃ j, vs = [V.int j] ∧ ∀ p, H p = none → Q (.ref p) (upd H p (.rng 0 j))) (tCons (tC (.int m)) tNil)) :=
          pe_callTy cr_range1 v1 (G.blt _ (by decide)) PyProof.Rows.boot_range (pa_cons pe_int pa_nil (star_cons rfl)) (by decide) (by decide) (star_cons rfl) rfl
        have red : ∀ {σ H} {Q : Bool → Hp → Prop} {Q0 : VK}, (∀ b H', Q b H' → Q0 (.bl b) H') → (∃ Oc Of en, Rep Oc Of σ H en ∧ okR T W σ H (ev sem (.blt .nir (.cons a (.cons (.dat (.int m)) .nil))) en) fun d => ∀ b H', d = .bool b → Same H H' → Q b H') → tOp (fun x y H Q => ∃ i a lo hi, x = V.int i ∧ y = V.ref a ∧ H a = some (.rng lo hi) ∧ Q (.bl (!decide (lo ≤ i ∧ i < hi))) H) (tE T sem false W a) (tCB (fun vs H Q => ∃ j, vs = [V.int j] ∧ ∀ p, H p = none → Q (.ref p) (upd H p (.rng 0 j))) (tCons (tC (.int m)) tNil)) σ H Q0 := fun {σ H Q Q0} hq ⟨Oc, Of, en, r, q⟩ => by
          have q : okR T W σ H (((ev sem a en).bind fun x => (Res.ok (PyData.list [PyData.int m])).bind fun l => Res.ok (PyData.list (x :: asL l))).bind fun l => (blD .nir (asL l)).noE) fun d => ∀ b H', d = .bool b → Same H H' → Q b H' := q
          rw [bind_assoc] at q
          refine tE_bind r q fun d v H1 s1 rv q1 => ?_
          cases d with
          | int i =>
            have e1 := DS.i_int rv
            subst e1
            refine ⟨m, rfl, fun p hp => ⟨i, p, 0, m, rfl, rfl, upd_same, ?_⟩⟩
            exact hq _ _ (q1 _ _ rfl (s1.trans (same_new hp)))
          | _ => exact q1.elim
        have pe : PE X (.Compare x [.NotIn] [.Call (.Name "range" p1) [.Constant (.int m) k2 p2] [] p3] p) (tE T sem false W (.blt .nir (.cons a (.cons (.dat (.int m)) .nil)))) := pe_mono (pe_cmpR op_nir pa pr rfl) fun σ H Q ⟨Oc, Of, en, r, q⟩ => red (Q := fun b H' => Q (.bl b) H') (fun _ _ z => z) ⟨Oc, Of, en, r, q.same (Same.refl _) fun d hd b H' e s => hd _ _ s (by subst e; exact .bl b)⟩
        have pt : PT X (.Compare x [.NotIn] [.Call (.Name "range" p1) [.Constant (.int m) k2 p2] [] p3] p) (tT T sem W (.blt .nir (.cons a (.cons (.dat (.int m)) .nil)))) := pt_mono (pt_cmpR op_nir pa pr rfl) fun σ H Q ⟨Oc, Of, en, r, q⟩ => red (Q := Q) (fun b H' h => ⟨b, rfl, h⟩) ⟨Oc, Of, en, r, q.same (Same.refl _) fun d hd b H' e s => by subst e; exact hd H' s⟩
        exact ⟨pe_lift pe w, pt⟩
  | _ => cases h
theorem sd_isl {a : C} (ha : Sd T sem n N a) : Sd T sem n N (.isl a) := by
  refine sd_of (fun w X k so sr W G e h => ?_) (fun _ _ _ _ _ => rfl) (fun _ _ _ _ => rfl) fun _ _ _ _ => rfl
  cases e with
  | Call fe l kw p =>
    match fe, l, kw, h with
    | .Name x p1, [y, .Name z p2], [], h =>
      have h : (decide (x = "isinstance") && decide (z = "list") && glB sr "isinstance" && glB sr "list" && chkE n N true so sr a y && notStar y) = true := h
      simp only [Bool.and_eq_true, decide_eq_true_eq] at h
      obtain ⟨⟨⟨⟨⟨rfl, rfl⟩, h3⟩, h4⟩, h5⟩, h6⟩ := h
      obtain ⟨v1, v2⟩ := G.gl h3
      obtain ⟨u1, u2⟩ := G.gl h4
      have pa := (ha.e true X k so sr W G y h5).1
      have pt : PE X (.Name "list" p2) (tC (.ty "list")) := pe_bltn u1 (G.blt _ (by decide)) PyProof.Rows.boot_list rfl
      have pe : PE X (.Call (.Name "isinstance" p1) [y, .Name "list" p2] [] p) (tE T sem false W (.isl a)) := pe_mono (pe_callB call_isL v1 (G.blt _ (by decide)) PyProof.Rows.boot_isinstance (pa_cons pa (pa_cons pt pa_nil (star_cons rfl)) (star_cons h6)) (by decide) (by decide) (star_cons h6) (by rfl)) fun σ H Q ⟨Oc, Of, en, r, q⟩ => by
        refine tE_bind r q fun d v H1 s1 rv q1 => ?_
        cases d with
        | list ds =>
          obtain ⟨b, xs, rfl, g1, _⟩ := rv.cs.i_list
          exact ⟨b, xs, rfl, g1, q1 _ _ s1 (.bl true)⟩
        | _ => exact q1.elim
      exact ⟨pe_lift pe w, pt_of (w := false) pe fun _ => rfl⟩
  | _ => cases h
theorem sd_ist {a : C} (ha : Sd T sem n N a) : Sd T sem n N (.ist a) := by
  refine sd_of (fun w X k so sr W G e h => ?_) (fun _ _ _ _ _ => rfl) (fun _ _ _ _ => rfl) fun _ _ _ _ => rfl
  cases e with
  | Call fe l kw p =>
    match fe, l, kw, h with
    | .Name x p1, [y, .Name z p2], [], h =>
      have h : (decide (x = "isinstance") && decide (z = "tuple") && glB sr "isinstance" && glB sr "tuple" && chkE n N true so sr a y && notStar y) = true := h
      simp only [Bool.and_eq_true, decide_eq_true_eq] at h
      obtain ⟨⟨⟨⟨⟨rfl, rfl⟩, h3⟩, h4⟩, h5⟩, h6⟩ := h
      obtain ⟨v1, v2⟩ := G.gl h3
      obtain ⟨u1, u2⟩ := G.gl h4
      have pa := (ha.e true X k so sr W G y h5).1
      have pt : PE X (.Name "tuple" p2) (tC (.ty "tuple")) := pe_bltn u1 (G.blt _ (by decide)) PyProof.Rows.boot_tuple rfl
      have pe : PE X (.Call (.Name "isinstance" p1) [y, .Name "tuple" p2] [] p) (tE T sem false W (.ist a)) := pe_mono (pe_callB call_isT v1 (G.blt _ (by decide)) PyProof.Rows.boot_isinstance (pa_cons pa (pa_cons pt pa_nil (star_cons rfl)) (star_cons h6)) (by decide) (by decide) (star_cons h6) (by rfl)) fun σ H Q ⟨Oc, Of, en, r, q⟩ => by
        refine tE_bind r q fun d v H1 s1 rv q1 => ?_
        cases d with
        | tuple ds =>
          obtain ⟨b, xs, rfl, g1, _⟩ := rv.cs.i_tuple
          exact ⟨b, xs, rfl, g1, q1 _ _ s1 (.bl true)⟩
        | _ => exact q1.elim
      exact ⟨pe_lift pe w, pt_of (w := false) pe fun _ => rfl⟩
  | _ => cases h
theorem rgV_data {O : List Addr} {H : Hp} (b : Int) : DSs O H (L2.rgV 0 b) (rngL 0 b 1) := by
  have : ∀ l : List Nat, DSs O H (l.map fun (i : Nat) => V.int (0 + (i : Nat))) (l.map fun (i : Nat) => PyData.int (0 + (i : Nat) * 1)) := fun l => by
    induction l with
    | nil => exact .nil
    | cons i l ih =>
      refine .cons ?_ ih
      show DS O H (V.int (0 + (i : Int))) (PyData.int (0 + (i : Int) * 1))
      rw [Int.mul_one]
      exact .int _
  unfold L2.rgV rngL
  rw [rangeSize_one]
  have e : (if (0 : Int) < b then b - 0 else 0).toNat = (b - 0).toNat := by split <;> omega
  rw [e]
  exact this _
/-- list(range(b)), tuple(range(b)) -/
theorem lrg_red {t : Bool} {a : C} {Q : VK} (h : tE T sem false W (.lrg t a) σ H Q) :
    L2.tRg1 (tE T sem false W a) σ H fun lo b H1 => L2.RgOk lo b ∧ ∀ q, H1 q = none → Q (.ref q) (upd H1 q (if t then .tup (L2.rgV lo b) else .lst (L2.rgV lo b))) := by
  obtain ⟨Oc, Of, en, r, q⟩ := h
  refine tE_bind r (f := fun y => match y with
    | .int b => if -(10 ^ 9) ≤ b ∧ b ≤ 1000000 then Res.ok (if t then PyData.tuple (rngL 0 b 1) else .list (rngL 0 b 1)) else .bad
    | _ => .bad) q fun d v H1 s1 rv q1 => ?_
  cases d with
  | int b =>
    have e1 := DS.i_int rv
    subst e1
    have q1 : okR T W σ H1 (if -(10 ^ 9) ≤ b ∧ b ≤ 1000000 then Res.ok (if t then PyData.tuple (rngL 0 b 1) else .list (rngL 0 b 1)) else .bad) _ := q1
    by_cases hb : -(10 ^ 9) ≤ b ∧ b ≤ 1000000
    · rw [if_pos hb] at q1
      have th := (r.same s1).th
      have len : (rngL 0 b 1).length ≤ lim := by
        rw [rngL_length, rangeSize_one]
        have l1 : lim = 1000000 := rfl
        split <;> omega
      refine ⟨b, rfl, ⟨by omega, by omega, by omega, by omega, by omega⟩, fun p hp => ?_⟩
      cases t with
      | true => exact q1 _ _ (s1.trans (same_new hp)) (.newT th hp (rgV_data b) len)
      | false => exact q1 _ _ (s1.trans (same_new hp)) (.newL th hp (rgV_data b) len)
    · rw [if_neg hb] at q1
      exact q1.elim
  | _ => exact q1.elim
theorem sd_lrg {t : Bool} {a : C} (ha : Sd T sem n N a) : Sd T sem n N (.lrg t a) := by
  refine sd_of (fun w X k so sr W G e h => ?_) (fun _ _ _ _ _ => rfl) (fun _ _ _ _ => rfl) fun _ _ _ _ => rfl
  cases e with
  | Call fe l kw p =>
    match fe, l, kw, h with
    | .Name x p1, [.Call (.Name y p2) [z] [] p3], [], h =>
      have h : (decide (x = if t then "tuple" else "list") && glB sr x && decide (y = "range") && glB sr "range" && chkE n N false so sr a z && notStar z) = true := h
      simp only [Bool.and_eq_true, decide_eq_true_eq] at h
      obtain ⟨⟨⟨⟨⟨h1, h2⟩, rfl⟩, h4⟩, h5⟩, h6⟩ := h
      obtain ⟨v1, v2⟩ := G.gl h2
      obtain ⟨u1, u2⟩ := G.gl h4
      have pr := L2.prg_1 (p := p2) (pos := p3) u1 (G.blt "range" (by decide)) (ha.e false X k so sr W G z h5).1 (star_cons h6)
      have pe : PE X (.Call (.Name x p1) [.Call (.Name "range" p2) [z] [] p3] [] p) (tE T sem false W (.lrg t a)) := by
        cases t with
        | true =>
          have h1 : x = "tuple" := h1
          subst h1
          exact pe_mono (L2.pe_tupRg G.calm v1 (G.blt _ (by decide)) pr) fun σ H Q z => lrg_red z
        | false =>
          have h1 : x = "list" := h1
          subst h1
          exact pe_mono (L2.pe_listRg G.calm v1 (G.blt _ (by decide)) pr) fun σ H Q z => lrg_red z
      exact ⟨pe_lift pe w, pt_of (w := false) pe fun _ => rfl⟩
  | _ => cases h
theorem mth_red {m : Mt} {a es : C} {Tn : String} {K : PySem.W.Frag} {Q : VK} (ty : ∀ (O : List Addr) (H : Hp) (v : V) (dx : D), CS O H v dx → mtTy m dx = true → tyV K Tn v H)
    (h : tE T sem false W (.mth m a es) σ H Q) : tBM K Tn (rDM m) (tE T sem true W a) (tA T sem false W es) σ H Q := by
  obtain ⟨Oc, Of, en, r, q⟩ := h
  refine tE_bind r q fun d v H1 s1 rv q1 => ?_
  cases e : mtTy m d with
  | false => rw [e, if_neg Bool.false_ne_true] at q1; exact q1.elim
  | true =>
    rw [e, if_pos rfl] at q1
    refine ⟨ty _ _ _ _ rv.cs e, tA_bind (r.same s1) q1 fun d2 vs H2 s2 rvs q2 => ?_⟩
    obtain ⟨x, e, k⟩ := okR.noE q2
    exact ⟨Oc ++ Of, d, asL d2, x, (r.same (s1.trans s2)).th, rv.cs.same s2, rvs.dss, e, fin_Q (s1.trans s2) k⟩
theorem sd_mth {m : Mt} {a es : C} (ha : Sd T sem n N a) (he : Sd T sem n N es) : Sd T sem n N (.mth m a es) := by
  refine sd_of (fun w X k so sr W G e h => ?_) (fun _ _ _ _ _ => rfl) (fun _ _ _ _ => rfl) fun _ _ _ _ => rfl
  cases e with
  | Call fe l kw cp =>
    cases fe with
    | Attribute o x ap =>
      cases kw with
      | cons _ _ => cases l <;> cases h
      | nil =>
        cases l with
        | nil => cases h
        | cons y l =>
          have h : ((match (generalizing := false) mtName m with
            | some p => decide (p.1 = x) && decide (l.length + 1 = p.2)
            | none => false) && plainO o && (ap.endLine == cp.line) && chkE n N true so sr a o && chkL n N false so sr es (y :: l)) = true := h
          simp only [Bool.and_eq_true] at h
          obtain ⟨⟨⟨⟨h1, h2⟩, h3⟩, h4⟩, h5⟩ := h
          have st := chkL_star h5
          have po := (ha.e true X k so sr W G o h4).1
          have pl := he.l false X k so sr W G _ h5
          have hbase : ∀ nm, attributeBase o nm X.env (eval o X.env) = eval o X.env := fun nm => by cases o <;> first | rfl | cases h2
          have hs := star_cons (env := X.env) (es := l) (st y List.mem_cons_self)
          have hpl : (backTo cp (starEach l X.env)).any (·.1) = false := star_none (w := false) fun z hz => st z (List.mem_cons_of_mem _ hz)
          have fin : ∀ {nm : Str} {id Tn : String}, x = nm → PlainAttrs Tn → Slot Tn nm id → typeOf (.builtin id) = pure (.type "method_descriptor") → MtR X id (rDM m) →
              ((backTo cp (starEach (y :: l) X.env)).all (fun x => !x.1) && (backToKw cp (keywordEach [] X.env)).all (fun x => x.1.isSome) && decide ((y :: l).length + ([] : List Keyword).length + (if ([] : List Keyword).isEmpty then 0 else 1) < 30)) = true →
              (∀ (O : List Addr) (H : Hp) (v : V) (dx : D), CS O H v dx → mtTy m dx = true → tyV X.K Tn v H) → PE X (.Call (.Attribute o x ap) (y :: l) [] cp) (tE T sem false W (.mth m a es)) := fun {nm id Tn} ex pa sl ty hm few tv => by
            subst ex
            exact pe_mono (pe_bm pa sl ty hm po pl (hbase _) few h3 hs hpl) fun σ H Q z => mth_red tv z
          have tstr : ∀ (O : List Addr) (H : Hp) (v : V) (dx : D), CS O H v dx → (∃ s, dx = .str s) → tyV X.K "str" v H := fun O H v dx hx ⟨s, e⟩ => by
            subst e
            rw [(hx.i_str).1]
            rfl
          have pe : PE X (.Call (.Attribute o x ap) (y :: l) [] cp) (tE T sem false W (.mth m a es)) := by
            cases m with
            | join =>
              have h1 : (decide ("join" = x) && decide (l.length + 1 = 1)) = true := h1
              rw [Bool.and_eq_true, decide_eq_true_eq, decide_eq_true_eq] at h1
              cases l with
              | cons _ _ => cases h1.2
              | nil => exact fin h1.1.symm PySem.F.plainAttrs_str PySem.F.slot_str_join PySem.F.type_str_join m_join (by rw [hs]; rfl) fun O H v dx hx e => tstr O H v dx hx (by cases dx <;> first | exact ⟨_, rfl⟩ | cases e)
            | split =>
              have h1 : (decide ("split" = x) && decide (l.length + 1 = 1)) = true := h1
              rw [Bool.and_eq_true, decide_eq_true_eq, decide_eq_true_eq] at h1
              cases l with
              | cons _ _ => cases h1.2
              | nil => exact fin h1.1.symm PySem.F.plainAttrs_str PySem.F.slot_str_split PySem.F.type_str_split m_split (by rw [hs]; rfl) fun O H v dx hx e => tstr O H v dx hx (by cases dx <;> first | exact ⟨_, rfl⟩ | cases e)
            | count =>
              have h1 : (decide ("count" = x) && decide (l.length + 1 = 1)) = true := h1
              rw [Bool.and_eq_true, decide_eq_true_eq, decide_eq_true_eq] at h1
              cases l with
              | cons _ _ => cases h1.2
              | nil => exact fin h1.1.symm PySem.F.plainAttrs_str PySem.F.slot_str_count PySem.F.type_str_count m_count (by rw [hs]; rfl) fun O H v dx hx e => tstr O H v dx hx (by cases dx <;> first | exact ⟨_, rfl⟩ | cases e)
            | sidx =>
              have h1 : (decide ("index" = x) && decide (l.length + 1 = 1)) = true := h1
              rw [Bool.and_eq_true, decide_eq_true_eq, decide_eq_true_eq] at h1
              cases l with
              | cons _ _ => cases h1.2
              | nil => exact fin h1.1.symm PySem.F.plainAttrs_str PySem.F.slot_str_index PySem.F.type_str_index m_sidx (by rw [hs]; rfl) fun O H v dx hx e => tstr O H v dx hx (by cases dx <;> first | exact ⟨_, rfl⟩ | cases e)
            | index =>
              have h1 : (decide ("index" = x) && decide (l.length + 1 = 1)) = true := h1
              rw [Bool.and_eq_true, decide_eq_true_eq, decide_eq_true_eq] at h1
              cases l with
              | cons _ _ => cases h1.2
              | nil =>
                refine fin h1.1.symm PySem.F.plainAttrs_list PySem.F.slot_list_index PySem.F.type_list_index (m_index G.hu) (by rw [hs]; rfl) fun O H v dx hx e => ?_
                cases dx with
                | list ds =>
                  obtain ⟨a, xs, rfl, g1, _⟩ := hx.i_list
                  exact .inl ⟨rfl, xs, rd_sql g1⟩
                | _ => cases e
            | get =>
              have h1 : (decide ("get" = x) && decide (l.length + 1 = 2)) = true := h1
              rw [Bool.and_eq_true, decide_eq_true_eq, decide_eq_true_eq] at h1
              cases l with
              | nil => cases h1.2
              | cons z l' => cases l' with
              | cons _ _ => cases h1.2
              | nil =>
                refine fin h1.1.symm PySem.F.plainAttrs_dict PySem.F.slot_dict_get PySem.F.type_dict_get (m_get G.hu) (by rw [hs, star_cons (st z (List.mem_cons_of_mem _ List.mem_cons_self))]; rfl) fun O H v dx hx e => ?_
                cases dx with
                | dict es =>
                  rcases hx.i_dict with ⟨a, kvs, rfl, g1, _⟩ | ⟨a, kvs, es', rfl, g1, _⟩
                  · exact .inr (.inr (.inl ⟨rfl, .inl ⟨kvs, g1⟩⟩))
                  · exact .inr (.inr (.inl ⟨rfl, .inr ⟨kvs, g1⟩⟩))
                | _ => cases e
            | _ => cases h1
          exact ⟨pe_lift pe w, pt_of (w := false) pe fun _ => rfl⟩
    | _ => cases l <;> cases kw <;> cases h
  | _ => cases h

/-! ### comprehensions -/
def isC1 : C → Bool
  | .cmp1 _ _ _ _ => true
  | _ => false
theorem own_slots (N : List Str) (l : List Nat) : (l.map fun i => (N.getD i "", i)).map (·.2) = l := by
  rw [List.map_map]
  exact List.map_id l
theorem lc_parts {tg0 : C} {x : Expr} {gens : List Comprehension} {scope : Scope} {p : Pos} {w : Bool} (G : Gd T sem n N X k so sr W) (h0 : isC1 tg0 = true) (h : chkE n N w so sr tg0 (.ListComp x gens scope p) = true)
    (ih : ∀ tg src elt cond, tg0 = .cmp1 tg src elt cond → Sd T sem n N src ∧ Sd T sem n N elt ∧ Sd T sem n N cond) : ∃ t it ifs tg src elt cond tt, gens = [⟨t, it, ifs, 0⟩] ∧ tg0 = .cmp1 tg src elt cond ∧ PI X t it (tI T sem true W src) ∧ BlkOk X.N X.env.scope scope ((slots tg).map fun i => (N.getD i "", i)) ∧
      (∀ (s : Shared) (H : Hp) (C : Addr) (cl : List (Str × Addr)) (fp : List Addr), PG (X.blk s H scope (compEnvC scope cl C X.env) fp) t (gT tg)) ∧ (∀ (s : Shared) (H : Hp) (C : Addr) (cl : List (Str × Addr)) (fp : List Addr), PTs (X.blk s H scope (compEnvC scope cl C X.env) fp) ifs tt) ∧
      (∀ (s : Shared) (H : Hp) (C : Addr) (cl : List (Str × Addr)) (fp : List Addr), PE (X.blk s H scope (compEnvC scope cl C X.env) fp) x (tE T sem false WF elt)) ∧ (∀ z, foldedSetIterable it X.env z = pure z) ∧
      (∀ σ H Q, tE T sem false W (.cmp1 tg src elt cond) σ H Q → tLc (tI T sem true W src) (gT tg) tt (tE T sem false WF elt) (slots tg) σ H Q) ∧
      ∀ σ H (Q : VK), (∃ Oc Of en, Rep Oc Of σ H en ∧ okR T W σ H (ev sem (.cmp1 tg src elt cond) en) fun d => ∀ ys, d = PyData.list ys → ∀ D xs H', Same H H' → H D = none → H' D = some (.lst xs) → DSs (Oc ++ (D :: Of)) H' xs ys → ys.length ≤ lim → Q (.ref D) H') → tLc (tI T sem true W src) (gT tg) tt (tE T sem false WF elt) (slots tg) σ H Q := by
  cases tg0 with
  | cmp1 tg src elt cond =>
    obtain ⟨hs, he, hc⟩ := ih tg src elt cond rfl
    match gens, h with
    | [⟨t, it, ifs, 0⟩], h =>
      have h : (chkS n N true so sr src it && notSet it && chkT N scope (relS scope sr) tg t && !sr.isGenerator && blkC N sr scope ((slots tg).map fun i => (N.getD i "", i)) && chkE n N false scope (relS scope sr) elt x && (match (generalizing := false) ifs with
          | [] => cond.isNa
          | [c] => !cond.isNa && chkE n N true scope (relS scope sr) cond c
          | _ => false)) = true := by
        cases src <;> exact h
      simp only [Bool.and_eq_true, Bool.not_eq_true'] at h
      obtain ⟨⟨⟨⟨⟨⟨h1, h2⟩, h3⟩, hng⟩, h4⟩, h5⟩, h6⟩ := h
      have hi := hs.s true X k so sr W G t it h1
      have ok := blkOk_by h4
      rw [← G.hN, ← G.sc] at ok
      have hg : ∀ (s : Shared) (H : Hp) (C : Addr) (cl : List (Str × Addr)) (fp : List Addr), PG (X.blk s H scope (compEnvC scope cl C X.env) fp) t (gT tg) := fun s H C cl fp => pg_T (G.blk hng s H scope C cl fp) h3
      have hel : ∀ (s : Shared) (H : Hp) (C : Addr) (cl : List (Str × Addr)) (fp : List Addr), PE (X.blk s H scope (compEnvC scope cl C X.env) fp) x (tE T sem false WF elt) := fun s H C cl fp => (he.e false _ k scope (relS scope sr) WF (G.blk hng s H scope C cl fp) x h5).1
      rw [G.hN] at ok
      rw [← G.hN] at ok
      match ifs, h6 with
      | [], h6 =>
        have h6 : cond.isNa = true := h6
        have key : ∀ (e1 : En) (Oc Of : List Addr) (σ2 : L2.St) (H2 : Hp) (b : Bool) (R : Bool → Hp → Prop), Rep Oc Of σ2 H2 e1 → (if cond.isNa then Res.ok true else (ev sem cond e1).bind fun b => .ok (truth b)) = .ok b → (∀ H3, Same H2 H3 → R b H3) → tYes σ2 H2 R := fun e1 Oc Of σ2 H2 b R r e q => by
          rw [h6, if_pos rfl] at e
          cases e
          exact q H2 (Same.refl _)
        refine ⟨t, it, [], tg, src, elt, cond, tYes, rfl, rfl, hi, by rw [← G.hN]; exact ok, hg, fun _ _ _ _ _ => pts_nil, hel, fun z => not_set h2 z, fun σ H Q z => lc_red rfl key z, fun σ H Q z => lc_redN rfl key z⟩
      | [c], h6 =>
        have h6 : (!cond.isNa && chkE n N true scope (relS scope sr) cond c) = true := h6
        rw [Bool.and_eq_true, Bool.not_eq_true'] at h6
        have key : ∀ (e1 : En) (Oc Of : List Addr) (σ2 : L2.St) (H2 : Hp) (b : Bool) (R : Bool → Hp → Prop), Rep Oc Of σ2 H2 e1 → (if cond.isNa then Res.ok true else (ev sem cond e1).bind fun b => .ok (truth b)) = .ok b → (∀ H3, Same H2 H3 → R b H3) → tT T sem WF cond σ2 H2 R := fun e1 Oc Of σ2 H2 b R r e q => by
          rw [h6.1, if_neg Bool.false_ne_true] at e
          refine ⟨Oc, Of, e1, r, ?_⟩
          obtain ⟨d, e2, e3⟩ := Res.bind_ok e
          cases e3
          rw [e2]
          exact q
        refine ⟨t, it, [c], tg, src, elt, cond, _, rfl, rfl, hi, by rw [← G.hN]; exact ok, hg, fun s H C cl fp => pts_T (hc.e true _ k scope (relS scope sr) WF (G.blk hng s H scope C cl fp) c h6.2).2, hel, fun z => not_set h2 z, fun σ H Q z => lc_red rfl key z, fun σ H Q z => lc_redN rfl key z⟩
      | _ :: _ :: _, h6 => cases h6
  | _ => cases h0
theorem sd_cmp1 {tg src elt cond : C} (hs : Sd T sem n N src) (he : Sd T sem n N elt) (hc : Sd T sem n N cond) : Sd T sem n N (.cmp1 tg src elt cond) := by
  refine sd_of (fun w X k so sr W G e h => ?_) (fun _ _ _ _ _ => rfl) (fun _ _ _ _ => rfl) fun _ _ _ _ => rfl
  cases e with
  | ListComp x gens scope p =>
    obtain ⟨t, it, ifs, tg', src', elt', cond', tt, rfl, e0, hi, ok, hg, hts, hel, hset, red, _⟩ := lc_parts G rfl h fun _ _ _ _ e => by cases e; exact ⟨hs, he, hc⟩
    cases e0
    have nd : X.N.Nodup := by rw [G.hN]; exact G.nd
    have lc := pe_lc (pos := p) G.calm nd hi ok hg hts hel hset
    rw [own_slots] at lc
    have pe := pe_mono lc red
    exact ⟨pe_lift pe w, pt_of (w := false) pe fun _ => rfl⟩
  | _ => cases h
theorem sd_cmp2 {tg src tg1 src1 elt : C} (hs : Sd T sem n N src) (hs1 : Sd T sem n N src1) (he : Sd T sem n N elt) : Sd T sem n N (.cmp2 tg src tg1 src1 elt) := by
  refine sd_of (fun w X k so sr W G e h => ?_) (fun _ _ _ _ _ => rfl) (fun _ _ _ _ => rfl) fun _ _ _ _ => rfl
  cases e with
  | ListComp x gens scope p =>
    match gens, h with
    | [⟨t, it, [], 0⟩, ⟨t1, it1, [], 0⟩], h =>
      have h : (chkE n N true so sr src it && notSet it && chkT N scope (relS scope sr) tg t && !sr.isGenerator &&
        blkC N sr scope ((slots tg ++ slots tg1).map fun i => (N.getD i "", i)) && chkE n N false scope (relS scope sr) src1 it1 && notSet it1 && chkT N scope (relS scope sr) tg1 t1 &&
        chkE n N false scope (relS scope sr) elt x) = true := h
      simp only [Bool.and_eq_true, Bool.not_eq_true'] at h
      obtain ⟨⟨⟨⟨⟨⟨⟨⟨h1, h2⟩, h3⟩, hng⟩, h4⟩, h5⟩, h6⟩, h7⟩, h8⟩ := h
      have nd : X.N.Nodup := by rw [G.hN]; exact G.nd
      have ok := blkOk_by h4
      rw [← G.hN, ← G.sc] at ok
      have hi := pi_D (tg := t) (hs.e true X k so sr W G it h1).1
      have lc := pe_lc2 (pos := p) (vs1 := slots tg1) G.calm nd hi ok (fun i hi => by rw [own_slots]; exact List.mem_append_right _ hi)
        (fun s H C cl fp => pg_T (G.blk hng s H scope C cl fp) h3) (fun _ _ _ _ _ => pts_nil)
        (fun s H C cl fp => pi_D (tg := t1) (hs1.e false _ k scope (relS scope sr) WF (G.blk hng s H scope C cl fp) it1 h5).1)
        (fun s H C cl fp => pg_T (G.blk hng s H scope C cl fp) h7) (fun _ _ _ _ _ => pts_nil)
        (fun s H C cl fp => (he.e false _ k scope (relS scope sr) WF (G.blk hng s H scope C cl fp) x h8).1) (fun z => not_set h2 z) (fun env z => not_set h6 z)
      rw [own_slots] at lc
      have pe := pe_mono lc fun σ H Q z => lc2_red z
      exact ⟨pe_lift pe w, pt_of (w := false) pe fun _ => rfl⟩
  | _ => cases h
theorem gen_fold {it : Expr} {env : Env} (h1 : notSet it = true) (h2 : notLst it = true) : ∀ v, genFold it env v = pure v := by
  intro v
  cases it <;> first | exact absurd h2 Bool.false_ne_true | exact (show foldedSetIterable _ env v = pure v from not_set h1 v)
theorem gl_gen {al : Bool} (G : Gd T sem n N X k so sr W) (h : glB sr (genNm al) = true) : Gl X (genNm al) ∧ X.mg (genNm al) = none := by
  refine ⟨(G.gl h).1, G.blt _ ?_⟩
  cases al <;> decide
theorem sd_gen {al : Bool} {tg src elt : C} (hs : Sd T sem n N src) (he : Sd T sem n N elt) : Sd T sem n N (.gen al tg src elt) := by
  refine sd_of (fun w X k so sr W G e h => ?_) (fun _ _ _ _ _ => rfl) (fun _ _ _ _ => rfl) fun _ _ _ _ => rfl
  cases e with
  | Call fe l kw p =>
    match fe, l, kw, h with
    | .Name nm p1, [.GeneratorExp x [⟨t, it, [], 0⟩] scope gp], [], h =>
      have h : (chkS n N true so sr src it && notSet it && notLst it && chkT N scope scope tg t && !sr.isGenerator &&
        blkC N sr scope ((slots tg).map fun i => (N.getD i "", i)) && decide (nm = genNm al) && glB sr nm && scope.isGenerator && !scope.isCoroutine && (scope.names.all fun y => !(decide (y.2 = .cell))) && decide (scope.names.lookup (".0" : Str) = some .local) &&
        chkE n N false scope scope elt x) = true := by
        cases src <;> exact h
      simp only [Bool.and_eq_true, Bool.not_eq_true', decide_eq_true_eq, List.all_eq_true, decide_eq_false_iff_not] at h
      obtain ⟨⟨⟨⟨⟨⟨⟨⟨⟨⟨⟨⟨h1, h2⟩, h3⟩, h4⟩, hng⟩, h5⟩, rfl⟩, h7⟩, h8⟩, h9⟩, h10⟩, h11⟩, h12⟩ := h
      obtain ⟨v1, v2⟩ := gl_gen G h7
      obtain ⟨hr, c, P, hP, hc, hT⟩ := G.cod hng
      have nd : X.N.Nodup := by rw [G.hN]; exact G.nd
      have ok := blkOk_by h5
      rw [← G.hN, ← G.sc] at ok
      have pe := pe_gen (p := p1) (pos := p) (gpos := gp) al hr v1 v2 G.calm hT hc nd (hs.s true X k so sr W G t it h1) ok h9 h10 h11
        (fun s H C code fp pn => pg_T (G.gen hng s H scope h8 _ C code fp pn) h4)
        (fun s H C code fp pn => (he.e false _ k scope scope WF (G.gen hng s H scope h8 _ C code fp pn) x h12).1) (gen_fold h2 h3)
      rw [own_slots] at pe
      have pe := pe_mono pe fun σ H Q z => gen_red hP z
      exact ⟨pe_lift pe w, pt_of (w := false) pe fun _ => rfl⟩
  | _ => cases h
end

section
variable {T : Tb} {sem : Nat → List D → Res D} {n : Nms} {N : List Str}
theorem sd_all2 (c : C) : Sd T sem n N c ∧ ∀ a r, c = .cons a r → Sd T sem n N a := by
  have none : ∀ {c : C}, (∀ w so sr e, chkE n N w so sr c e = false) → (∀ w so sr l, chkL n N w so sr c l = false) → (∀ w so sr e, chkS n N w so sr c e = chkE n N w so sr c e) → Sd T sem n N c := fun h1 h2 h3 => sd_no h1 h2 h3
  induction c with
  | var i => exact ⟨sd_var i, fun _ _ e => nomatch e⟩
  | wv i => exact ⟨sd_wv i, fun _ _ e => nomatch e⟩
  | dat d => exact ⟨sd_dat d, fun _ _ e => nomatch e⟩
  | con x d => exact ⟨sd_con x d, fun _ _ e => nomatch e⟩
  | nil => exact ⟨sd_nil , fun _ _ e => nomatch e⟩
  | cons a r ha hr => exact ⟨sd_cons ha.1 hr.1, fun _ _ e => by cases e; exact ha.1⟩
  | neg a ha => exact ⟨sd_neg ha.1, fun _ _ e => nomatch e⟩
  | bin o a b ha hb => exact ⟨sd_bin ha.1 hb.1, fun _ _ e => nomatch e⟩
  | cmp o a b ha hb => exact ⟨sd_cmp ha.1 hb.1, fun _ _ e => nomatch e⟩
  | isn a ha => exact ⟨sd_isn ha.1, fun _ _ e => nomatch e⟩
  | nisn a ha => exact ⟨sd_nisn ha.1, fun _ _ e => nomatch e⟩
  | isl a ha => exact ⟨sd_isl ha.1, fun _ _ e => nomatch e⟩
  | ist a ha => exact ⟨sd_ist ha.1, fun _ _ e => nomatch e⟩
  | lrg t a ha => exact ⟨sd_lrg ha.1, fun _ _ e => nomatch e⟩
  | chn o o' a b c ha hb hc => exact ⟨sd_chn ha.1 hb.1 hc.1, fun _ _ e => nomatch e⟩
  | and a b ha hb => exact ⟨sd_and ha.1 hb.1, fun _ _ e => nomatch e⟩
  | or a b ha hb => exact ⟨sd_or ha.1 hb.1, fun _ _ e => nomatch e⟩
  | not a ha => exact ⟨sd_not ha.1, fun _ _ e => nomatch e⟩
  | ite t a b ht ha hb => exact ⟨sd_ite ht.1 ha.1 hb.1, fun _ _ e => nomatch e⟩
  | tup es he => exact ⟨sd_tup he.1, fun _ _ e => nomatch e⟩
  | lst es he => exact ⟨sd_lst he.1, fun _ _ e => nomatch e⟩
  | dic ks vs _ _ => exact ⟨sd_dic , fun _ _ e => nomatch e⟩
  | idx a i ha hi => exact ⟨sd_idx ha.1 hi.1, fun _ _ e => nomatch e⟩
  | slc a lo hi ha hl hh => exact ⟨sd_slc ha.1 hl.1 hh.1, fun _ _ e => nomatch e⟩
  | rev a ha => exact ⟨sd_rev ha.1, fun _ _ e => nomatch e⟩
  | rng lo hi st hl hh hs => exact ⟨sd_rng hl.1 hh.1 hs.1, fun _ _ e => nomatch e⟩
  | call f es he => exact ⟨sd_call he.1, fun _ _ e => nomatch e⟩
  | callb f es he => exact ⟨sd_callb he.1, fun _ _ e => nomatch e⟩
  | blt b es he => exact ⟨sd_blt he.1 he.2, fun _ _ e => nomatch e⟩
  | mth m a es ha he => exact ⟨sd_mth ha.1 he.1, fun _ _ e => nomatch e⟩
  | cmp1 tg src elt cond _ hs he hc => exact ⟨sd_cmp1 hs.1 he.1 hc.1, fun _ _ e => nomatch e⟩
  | cmp2 tg src tg1 src1 elt _ hs _ hs1 he => exact ⟨sd_cmp2 hs.1 hs1.1 he.1, fun _ _ e => nomatch e⟩
  | gen al tg src elt _ hs he => exact ⟨sd_gen hs.1 he.1, fun _ _ e => nomatch e⟩
  | _ => exact ⟨none (fun _ _ _ e => by cases e <;> rfl) (fun _ _ _ l => rfl) (fun _ _ _ _ => rfl), fun _ _ e => nomatch e⟩
theorem sd_all (c : C) : Sd T sem n N c := (sd_all2 c).1
end
end SQ

/-! SqChk2: statements: is this piece of the program's syntax that piece of C? -/
namespace SQ
open PySem L2

def noComp : Expr → Bool
  | .ListComp _ _ _ _ => false
  | .SetComp _ _ _ _ => false
  | .DictComp _ _ _ _ _ => false
  | _ => true
def noTup : Expr → Bool
  | .Tuple _ _ _ => false
  | _ => true
def notLoc (sr : Scope) (ts : List Expr) : Bool := ts.any fun t => match t with
  | .Name id _ => !decide (sr.names.lookup id = some .local)
  | _ => true
section
variable (n : Nms) (N : List Str) (as : List Nat)
def nmB (so sr : Scope) (i : Nat) (x : Str) : Bool := decide (N[i]? = some x) && locB so x && locB sr x && (decide (so.names.lookup x = some .cell) || decide (sr.names.lookup x = some .local)) && decide (i ∈ as)
def isNm : Expr → Bool
  | .Name u _ => !(u == ("__debug__" : Str))
  | _ => false
/-- x, y = (a, b): two plain names, stored from the right -/
def parB (so sr : Scope) : C → C → List Expr → Expr → Bool
  | .tup (.cons (.var i) (.cons (.var j) .nil)), .tup es, [.Name x px, .Name y py], .Tuple [a, b] _ _ => decide (i ≠ j) && decide (x ≠ y) && nmB N as so sr i x && nmB N as so sr j y && decide (sr.names.lookup x = some .local) && decide (sr.names.lookup y = some .local) && decide (sr.kind = .function) && (px.line == py.line) && isNm a && notStar b && chkL n N false so sr es [a, b]
  | _, _, _, _ => false
/-- nm.f, f the i-th field -/
def chkF (nm : Str) (names : List Str) (i : Nat) : Expr → Bool
  | .Attribute (.Name y _) f _ => decide (y = nm) && decide (names[i]? = some f)
  | _ => false
def chkFs (nm : Str) (names : List Str) : List Nat → List Expr → Bool
  | [], [] => true
  | i :: r, e :: l => chkF nm names i e && chkFs nm names r l
  | _, _ => false
mutual
/-- a statement -/
def chk1 (so sr : Scope) : C → Stmt → Bool
  | .skip, s => match s with
    | .Pass _ => true
    | .Expr (.Constant (.str _) _ _) _ => true
    | _ => false
  | .na, s => match s with
    | .Raise _ _ _ => true
    | _ => false
  | .rse c es, s => match s with
    | .Raise (some (.Call (.Name x _) l [] _)) none _ => (match n.ex.lookup x with
      | some (c', fs) => decide (c' = c) && decide (l.length = fs.length)
      | none => false) && glB sr x && chkL n N false so sr es l && !l.isEmpty
    | _ => false
  | .tryr a c j fs one, s => match s with
    | .Try [.Return (some e) _] [.ExceptHandler (some (.Name x _)) (some nm) [.Return (some r) _] _] [] [] _ => (match n.ex.lookup x with
      | some (c', names) => decide (c' = c) && (if one then (match fs with
        | [i] => chkF nm names i r
        | _ => false) else (match r with
        | .Tuple l _ _ => chkFs nm names fs l && decide (l.length ≤ 10)
        | _ => false))
      | none => false) && glB sr x && chkE n N false so sr a e && decide (N[j]? = some nm) && locB so nm && locB sr nm && decide (sr.names.lookup nm = some .local) && varB N sr j nm && decide (j ∈ as)
    | _ => false
  | .ext i c, s => match s with
    | .Expr (.Call (.Attribute (.Name x _) a ap) [e] [] cp) _ => decide (a = "extend") && varB N sr i x && chkE n N false so sr c e && notStar e && (ap.endLine == cp.line)
    | _ => false
  | .xpr c, s => match s with
    | .Expr e _ => noComp e && chkE n N true so sr c e
    | _ => false
  | .set i c, s => match s with
    | .Assign [.Name x py] e pos => nmB N as so sr i x && chkE n N false so sr c e && (noComp e || match e with
      | .ListComp _ _ _ _ => decide (sr.kind = .function) && isC1 c
      | _ => false)
    | _ => false
  | .seto i c, s => match s with
    | .Assign [.Name x _] (.List l _) _ => (match c with
      | .lst es => nmB N as so sr i x && chkL n N false so sr es l && decide (l.length ≤ 1000)
      | _ => false)
    | .Assign [.Name x _] (.ListComp elt gens scope p) _ => nmB N as so sr i x && isC1 c && chkE n N false so sr c (.ListComp elt gens scope p) && decide (sr.kind = .function)
    | .Assign [.Name x _] (.Call (.Name f _) [y] [] _) _ => (match c with
      | .blt .list (.cons a .nil) => nmB N as so sr i x && decide (f = "list") && glB sr "list" && chkE n N true so sr a y && notStar y
      | _ => false)
    | .Assign [.Name x _] (.BinOp l op m _) _ => (match c with
      | .bin .add a b => nmB N as so sr i x && opIs .add op && chkE n N true so sr a l && chkE n N true so sr b m
      | _ => false)
    | .Assign [.Name x _] (.Dict l m _) _ => (match c with
      | .dic ks vs => nmB N as so sr i x && chkD ks vs l m && decide (l.length ≤ 15) && (match kvsOf ks vs with
        | some kvs => decide ((kvs.map (·.1)).Nodup)
        | none => false)
      | .dat (.dict [(.none, .none)]) => nmB N as so sr i x && l.isEmpty && m.isEmpty
      | _ => false)
    | _ => false
  | .pop j i, s => match s with
    | .Assign [.Name y _] (.Call (.Attribute (.Name x _) a ap) [] [] cp) _ => nmB N as so sr j y && varB N sr i x && decide (a = "pop") && (ap.endLine == cp.line)
    | _ => false
  | .puti i k c, s => match s with
    | .Assign [.Subscript (.Name x _) y _] e _ => varB N sr i x && decide (i ∈ as) && chkE n N false so sr k y && notSlice y && chkE n N false so sr c e
    | _ => false
  | .sett tg c, s => match s with
    | .Assign [.Tuple ts k p] e _ => ((noTup e || notLoc sr ts) && noComp e && chkT N so sr tg (.Tuple ts k p) && ((slots tg).all fun i => decide (i ∈ as)) && chkE n N false so sr c e) || parB n N as so sr tg c ts e
    | _ => false
  | .app i c, s => match s with
    | .Expr (.Call (.Attribute (.Name x _) a ap) [e] [] cp) _ => decide (a = "append") && varB N sr i x && chkE n N false so sr c e && notStar e && (ap.endLine == cp.line)
    | _ => false
  | .aug i o c, s => match s with
    | .AugAssign (.Name x _) op e _ => nmB N as so sr i x && opIs o op && (decide (o = .add) || decide (o = .sub)) && chkE n N false so sr c e
    | _ => false
  | .iff t a b, s => match s with
    | .If c l r _ => chkE n N true so sr t c && chkB so sr a l && chkB so sr b r
    | _ => false
  | .for_ tg src body, s => match s with
    | .For t it l [] _ => chkS n N false so sr src it && notSet it && chkT N so sr tg t && ((slots tg).all fun i => decide (i ∈ as)) && chkB so sr body l
    | _ => false
  | .whl t body, s => match s with
    | .While c l [] _ => chkE n N true so sr t c && chkB so sr body l
    | _ => false
  | .ret c, s => match s with
    | .Return (some e) _ => chkE n N false so sr c e
    | _ => false
  | .retn, s => match s with
    | .Return none _ => true
    | _ => false
  | .brk, s => match s with
    | .Break _ => true
    | _ => false
  | .cnt, s => match s with
    | .Continue _ => true
    | _ => false
  | _, _ => false
/-- a block -/
def chkB (so sr : Scope) : C → List Stmt → Bool
  | .fz _ s, l => chkB so sr s l
  | .seq a b, l => match l with
    | s :: l => chk1 so sr a s && chkB so sr b l
    | [] => false
  | .sll i c k j a b, l => match l with
    | .Assign [.Name x py] (.ListComp elt [⟨t, it, [], 0⟩] scope _) _ :: .Assign [.Subscript (.Subscript (.Name x' _) y1 _) y2 _] e _ :: l => (match c, elt with
      | .cmp1 tg src (.blt .list (.cons q .nil)) .na, .Call (.Name f _) [y] [] _ => (decide (sr.kind = .function) && !sr.isGenerator) && nmB N as so sr i x && decide (x' = x) && varB N sr i x && chkS n N true so sr src it && notSet it && chkT N scope (relS scope sr) tg t &&
        blkC N sr scope ((slots tg).map fun i => (N.getD i "", i)) && decide (f = "list") && glB (relS scope sr) "list" && chkE n N true scope (relS scope sr) q y && notStar y &&
        chkE n N false so sr k y1 && notSlice y1 && chkE n N false so sr j y2 && notSlice y2 && chkE n N false so sr a e
      | _, _ => false) && chkB so sr b l
    | _ => false
  | .skip, l => l.isEmpty
  | _, _ => false
end
end
end SQ

/-! SqStm: what ex reckons of a statement is what the machine does. -/
set_option maxHeartbeats 4000000
namespace SQ
open PySem PySem.Spec PyProof.Rows L2
variable [TabsC]

/-! ### slots of owned objects -/
section
variable {Oc Of : List Addr} {σ : L2.St} {H : Hp} {en : En}
theorem Own.sub {O O' : List Addr} {H : Hp} {p : Addr} {d : D} (hs : ∀ b ∈ O', b ∈ O) (h : Own O H p d) : Own O' H p d := by
  have st : ∀ b o, H b = some o → b ∉ O → H b = some o ∧ b ∉ O' := fun b o e z => ⟨e, fun y => z (hs b y)⟩
  cases h with
  | lst h t l => exact .lst h (t.step st) l
  | dk h t l => exact .dk h (t.step st) l
  | dt h t l => exact .dt h (t.step st) l
theorem Own.ds {O O' : List Addr} {H : Hp} {p : Addr} {d : D} (hs : ∀ b ∈ O', b ∈ O) (np : p ∉ O') (h : Own O H p d) : DS O' H (.ref p) d := by
  cases h.sub hs with
  | lst e t l => exact .lst (.inl e) np t l
  | dk e t l => exact .dk e np t l
  | dt e t l => exact .dt e np t l
theorem Rep.congr (r : Rep Oc Of σ H en) {e' : En} (hl : e'.length = en.length) (ha : ∀ j, e'.at j = en.at j) : Rep Oc Of σ H e' :=
  ⟨r.len.trans hl.symm, fun i d e => r.val i d (by rw [← ha]; exact e), fun i d e => r.own i d (by rw [← ha]; exact e), fun i j d d' p e1 e2 => r.inj i j d d' p (by rw [← ha]; exact e1) (by rw [← ha]; exact e2), r.th, r.dj⟩
theorem Rep.frz1 (r : Rep Oc Of σ H en) (i : Nat) : ∃ Of', Rep Oc Of' σ H (en.put i (en.at i).froz) ∧ ∀ p ∈ Of', p ∈ Of := by
  cases e : en.at i with
  | u => exact ⟨Of, r.congr (En.len_put ..) fun j => by rw [En.at_put]; split; (rename_i h; rw [h.1, e]; rfl); rfl, fun _ h => h⟩
  | v d => exact ⟨Of, r.congr (En.len_put ..) fun j => by rw [En.at_put]; split; (rename_i h; rw [h.1, e]; rfl); rfl, fun _ h => h⟩
  | o d =>
    obtain ⟨p, h1, h2, h3⟩ := r.own i d e
    have sb : ∀ b ∈ Of.filter (fun q => decide (q ≠ p)), b ∈ Of := fun b hb => (List.mem_filter.mp hb).1
    have sb2 : ∀ b ∈ Oc ++ Of.filter (fun q => decide (q ≠ p)), b ∈ Oc ++ Of := fun b hb => (List.mem_append.mp hb).elim (fun z => List.mem_append_left _ z) fun z => List.mem_append_right _ (sb b z)
    have np : p ∉ Oc ++ Of.filter (fun q => decide (q ≠ p)) := fun z => (List.mem_append.mp z).elim (r.dj p h2) fun z => of_decide_eq_true (List.mem_filter.mp z).2 rfl
    refine ⟨Of.filter fun q => decide (q ≠ p), ⟨r.len.trans (En.len_put ..).symm, fun j d' ej => ?_, fun j d' ej => ?_, fun a b d1 d2 q e1 e2 => ?_, r.th.sub sb2, fun q hq => r.dj q (sb q hq)⟩, sb⟩
    · rw [En.at_put] at ej
      split at ej
      · rename_i hj
        cases ej
        rw [hj.1]
        exact ⟨.ref p, h1, h3.ds sb2 np⟩
      · obtain ⟨v, h4, h5⟩ := r.val j d' ej
        exact ⟨v, h4, h5.sub sb2⟩
    · rw [En.at_put] at ej
      split at ej
      · cases ej
      · rename_i hj
        obtain ⟨q, h4, h5, h6⟩ := r.own j d' ej
        refine ⟨q, h4, List.mem_filter.mpr ⟨h5, decide_eq_true fun z => ?_⟩, h6.sub sb2⟩
        subst z
        have ij := r.inj j i d' d q ej e h4 h1
        exact hj ⟨ij, by rw [← r.len, ← ij]; exact (List.getElem?_eq_some_iff.mp h4).1⟩
    · rw [En.at_put] at e1 e2
      split at e1
      · cases e1
      · split at e2
        · cases e2
        · exact r.inj a b d1 d2 q e1 e2
theorem Rep.frz : ∀ {is : List Nat} {Of : List Addr} {en : En}, Rep Oc Of σ H en → ∃ Of', Rep Oc Of' σ H (en.frz is) ∧ ∀ p ∈ Of', p ∈ Of
  | [], Of, en, r => ⟨Of, r, fun _ h => h⟩
  | i :: is, Of, en, r => by
    obtain ⟨O1, r1, h1⟩ := r.frz1 i
    obtain ⟨O2, r2, h2⟩ := Rep.frz (is := is) r1
    exact ⟨O2, r2, fun p hp => h1 p (h2 p hp)⟩
/-- a new object, stored in a slot alone -/
theorem Rep.putO (r : Rep Oc Of σ H en) (i : Nat) {p : Addr} {o : HO} {d : D} (hp : H p = none) (ho : Own (Oc ++ (p :: Of)) (upd H p o) p d) : Rep Oc (p :: Of) (σ.set i (some (.ref p))) (upd H p o) (en.put i (.o d)) := by
  have r1 := r.hold (o := o) hp
  have np : ∀ j d', en.at j = .o d' → σ[j]? ≠ some (some (.ref p)) := fun j d' e z => by
    obtain ⟨q, h1, h2, h3⟩ := r.own j d' e
    rw [h1] at z
    cases z
    exact r.th.at_ p (List.mem_append_right _ h2) hp
  have lt : ∀ {j : Nat} {v : Option V}, σ[j]? = some v → j < en.length := fun h => by rw [← r.len]; exact (List.getElem?_eq_some_iff.mp h).1
  have ne : ∀ {j : Nat} {v : Option V}, ¬ (j = i ∧ i < en.length) → σ[j]? = some v → i ≠ j := fun hj h z => hj ⟨z.symm, by rw [z]; exact lt h⟩
  refine ⟨by rw [List.length_set, En.len_put]; exact r.len, fun j d' ej => ?_, fun j d' ej => ?_, fun a b d1 d2 q e1 e2 q1 q2 => ?_, r1.th, r1.dj⟩
  · rw [En.at_put] at ej
    split at ej
    · cases ej
    · rename_i hj
      obtain ⟨v, h4, h5⟩ := r1.val j d' ej
      exact ⟨v, by rw [List.getElem?_set_ne (ne hj h4)]; exact h4, h5⟩
  · rw [En.at_put] at ej
    split at ej
    · rename_i hj
      cases ej
      refine ⟨p, by rw [hj.1, List.getElem?_set_self (by rw [r.len]; exact hj.2)], List.mem_cons_self, ho⟩
    · rename_i hj
      obtain ⟨q, h4, h5, h6⟩ := r1.own j d' ej
      exact ⟨q, by rw [List.getElem?_set_ne (ne hj h4)]; exact h4, h5, h6⟩
  · have out : ∀ {j : Nat} {d' : D}, ¬ (j = i ∧ i < en.length) → en.at j = .o d' → (σ.set i (some (.ref p)))[j]? = σ[j]? := fun {j d'} hj e => by
      obtain ⟨q', h4, _, _⟩ := r.own j d' e
      rw [List.getElem?_set_ne (ne hj h4)]
    rw [En.at_put] at e1 e2
    split at e1
    · rename_i ha
      split at e2
      · rename_i hb
        exact ha.1.trans hb.1.symm
      · rename_i hb
        rw [ha.1, List.getElem?_set_self (by rw [r.len]; exact ha.2)] at q1
        cases q1
        rw [out hb e2] at q2
        exact absurd q2 (np b d2 e2)
    · rename_i ha
      split at e2
      · rename_i hb
        rw [hb.1, List.getElem?_set_self (by rw [r.len]; exact hb.2)] at q2
        cases q2
        rw [out ha e1] at q1
        exact absurd q1 (np a d1 e1)
      · rename_i hb
        rw [out ha e1] at q1
        rw [out hb e2] at q2
        exact r.inj a b d1 d2 q e1 e2 q1 q2
/-- an owned object changed -/
theorem Rep.mut (r : Rep Oc Of σ H en) {i : Nat} {p : Addr} {o : HO} {d d' : D} (ei : en.at i = .o d) (hi : σ[i]? = some (some (.ref p))) (hp : p ∈ Of) (ho : Own (Oc ++ Of) (upd H p o) p d') : Rep Oc Of σ (upd H p o) (en.put i (.o d')) := by
  have st : ∀ b u, H b = some u → b ∉ Oc ++ Of → upd H p o b = some u ∧ b ∉ Oc ++ Of := fun b u hb hn => ⟨by
    rw [upd_ne (fun z => hn (List.mem_append_right _ (by rw [z]; exact hp)))]; exact hb, hn⟩
  have li : i < en.length := by rw [← r.len]; exact (List.getElem?_eq_some_iff.mp hi).1
  refine ⟨by rw [En.len_put]; exact r.len, fun j d1 ej => ?_, fun j d1 ej => ?_, fun a b d1 d2 q e1 e2 => ?_, ?_, r.dj⟩
  · rw [En.at_put] at ej
    split at ej
    · cases ej
    · obtain ⟨v, h4, h5⟩ := r.val j d1 ej
      exact ⟨v, h4, h5.step st⟩
  · rw [En.at_put] at ej
    split at ej
    · rename_i hj
      cases ej
      exact ⟨p, by rw [hj.1]; exact hi, hp, ho⟩
    · rename_i hj
      obtain ⟨q, h4, h5, h6⟩ := r.own j d1 ej
      have nq : q ≠ p := fun z => by
        subst z
        exact hj ⟨r.inj j i d1 d q ej ei h4 hi, li⟩
      refine ⟨q, h4, h5, ?_⟩
      cases h6 with
      | lst a t l => exact .lst (by rw [upd_ne nq]; exact a) (t.step st) l
      | dk a t l => exact .dk (by rw [upd_ne nq]; exact a) (t.step st) l
      | dt a t l => exact .dt (by rw [upd_ne nq]; exact a) (t.step st) l
  · have key : ∀ {j : Nat} {d1 : D}, (en.put i (.o d')).at j = .o d1 → ∃ d2, en.at j = .o d2 := fun {j d1} e => by
      rw [En.at_put] at e
      split at e
      · rename_i hj
        rw [hj.1]
        exact ⟨d, ei⟩
      · exact ⟨d1, e⟩
    obtain ⟨x, ex1⟩ := key e1
    obtain ⟨y, ey1⟩ := key e2
    exact r.inj a b x y q ex1 ey1
  · obtain ⟨p', g1, _, g2⟩ := r.own i d ei
    rw [hi] at g1
    cases g1
    exact r.th.turn fun φ z => by
      cases g2 with
      | lst a => rw [a] at z; cases z
      | dk a => rw [a] at z; cases z
      | dt a => rw [a] at z; cases z
end

/-! ### the reading of a statement -/
def okS (T : Tb) (W : WX) (Oc Of : List Addr) (as : List Nat) (σ : L2.St) (H : Hp) (r : Res Fl) (k : Fl → Prop) : Prop := match r with
  | .ok a => k a
  | .err c xs => ∀ cls d σ' H' Of', Stp Of H Of' H' → There (Oc ++ Of') H' → (∀ p ∈ Of', p ∉ Oc) → wipe σ' as = wipe σ as → ExcIs T c xs cls d H' → W cls d σ' H'
  | .bad => False
def kF (D : Ends) (Oc Of : List Addr) (as : List Nat) (σ : L2.St) (H : Hp) : Fl → Prop
  | .nx e => ∀ σ' Of' H', Stp Of H Of' H' → Rep Oc Of' σ' H' e → wipe σ' as = wipe σ as → D.nx σ' H'
  | .bk e => ∀ σ' Of' H', Stp Of H Of' H' → Rep Oc Of' σ' H' e → wipe σ' as = wipe σ as → D.bk σ' H'
  | .ct e => ∀ σ' Of' H', Stp Of H Of' H' → Rep Oc Of' σ' H' e → wipe σ' as = wipe σ as → D.ct σ' H'
  | .rt d => ∀ v Of' H', Stp Of H Of' H' → DS (Oc ++ Of') H' v d → D.rt v H'
def okF (D : Ends) (T : Tb) (W : WX) (Oc Of : List Addr) (as : List Nat) (σ : L2.St) (H : Hp) (r : Res Fl) : Prop := okS T W Oc Of as σ H r (kF D Oc Of as σ H)
def tP (T : Tb) (sem : Nat → List D → Res D) (W : WX) (as : List Nat) (c : C) : TS := fun D σ H => ∃ Oc Of en, Rep Oc Of σ H en ∧ okF D T W Oc Of as σ H (ex sem c en)
theorem okF.step {D : Ends} {T : Tb} {W : WX} {Oc Of Of1 : List Addr} {as : List Nat} {σ σ1 : L2.St} {H H1 : Hp} {r : Res Fl} (st : Stp Of H Of1 H1) (hw : wipe σ1 as = wipe σ as) (h : okF D T W Oc Of as σ H r) : okF D T W Oc Of1 as σ1 H1 r := by
  cases r with
  | ok f => cases f with
    | nx e => exact fun σ' Of' H' s r w => h σ' Of' H' (st.trans s) r (w.trans hw)
    | bk e => exact fun σ' Of' H' s r w => h σ' Of' H' (st.trans s) r (w.trans hw)
    | ct e => exact fun σ' Of' H' s r w => h σ' Of' H' (st.trans s) r (w.trans hw)
    | rt d => exact fun v Of' H' s r => h v Of' H' (st.trans s) r
  | err c xs => exact fun cls d σ' H' Of' s t dj w e => h cls d σ' H' Of' (st.trans s) t dj (w.trans hw) e
  | bad => exact h
theorem okF.same {D : Ends} {T : Tb} {W : WX} {Oc Of : List Addr} {as : List Nat} {σ : L2.St} {H H1 : Hp} {r : Res Fl} (s : Same H H1) (h : okF D T W Oc Of as σ H r) : okF D T W Oc Of as σ H1 r := h.step (.same s) rfl
theorem Stp.refl {Of : List Addr} {H : Hp} : Stp Of H Of H := .same (Same.refl _)
theorem ps_mono {X : Cx} {s : Stmt} {t t' : TS} (h : PS X s t) (m : ∀ D σ H, t' D σ H → t D σ H) : PS X s t' := ⟨fun pins s σ H D I q => h.run pins s σ H D I (m _ _ _ q)⟩
theorem pss_mono {X : Cx} {s : List Stmt} {t t' : TS} (h : PSs X s t) (m : ∀ D σ H, t' D σ H → t D σ H) : PSs X s t' := ⟨fun pins s σ H D I q => h.run pins s σ H D I (m _ _ _ q)⟩

section
variable {T : Tb} {sem : Nat → List D → Res D} {n : Nms} {N : List Str}
variable {X : Cx} {W : WX} {k : Nat} {so sr : Scope} {σ : L2.St} {H : Hp} {E : Ends} {Oc Of : List Addr} {as : List Nat} {en : En}
/-- an exception of an expression is one of the statement -/
theorem ok_err {c : Nat} {xs : List D} {k : Fl → Prop} (r : Rep Oc Of σ H en) (h : okS T W Oc Of as σ H (.err c xs) k) : ∀ cls d H', Same H H' → ExcIs T c xs cls d H' → W cls d σ H' :=
  fun cls d H' s e => h cls d σ H' Of (.same s) (r.th.same s) r.dj rfl e
theorem sE {a : C} {f : D → Res Fl} {w : Bool} {R : VK} (r : Rep Oc Of σ H en) (h : okF E T W Oc Of as σ H ((ev sem a en).bind f))
    (hk : ∀ d v H1, Same H H1 → RS w (Oc ++ Of) H1 v d → okF E T W Oc Of as σ H1 (f d) → R v H1) : tE T sem w W a σ H R := by
  refine ⟨Oc, Of, en, r, ?_⟩
  cases e : ev sem a en with
  | ok d => rw [e] at h; exact fun v H1 s rv => hk d v H1 s rv (h.same s)
  | err c xs => rw [e] at h; exact ok_err r h
  | bad => rw [e] at h; exact h
theorem sT {a : C} {f : D → Res Fl} {R : Bool → Hp → Prop} (r : Rep Oc Of σ H en) (h : okF E T W Oc Of as σ H ((ev sem a en).bind f))
    (hk : ∀ d H1, Same H H1 → okF E T W Oc Of as σ H1 (f d) → R (truth d) H1) : tT T sem W a σ H R := by
  refine ⟨Oc, Of, en, r, ?_⟩
  cases e : ev sem a en with
  | ok d => rw [e] at h; exact fun H1 s => hk d H1 s (h.same s)
  | err c xs => rw [e] at h; exact ok_err r h
  | bad => rw [e] at h; exact h
theorem sA {es : C} {l : List Expr} {f : D → Res Fl} {w : Bool} {R : List V → Hp → Prop} (r : Rep Oc Of σ H en) (hl : chkL n N w so sr es l = true) (h : okF E T W Oc Of as σ H ((ev sem es en).bind f))
    (hk : ∀ d vs H1, Same H H1 → RSs w (Oc ++ Of) H1 vs (asL d) → (asL d).length = l.length → okF E T W Oc Of as σ H1 (f d) → R vs H1) : tA T sem w W es σ H R := by
  refine ⟨Oc, Of, en, r, ?_⟩
  cases e : ev sem es en with
  | ok d => rw [e] at h; exact fun v H1 s rv => hk d v H1 s rv (chkL_len hl e) (h.same s)
  | err c xs => rw [e] at h; exact ok_err r h
  | bad => rw [e] at h; exact h

/-- a def's block: exceptions pass, its frame is the uppermost one -/
structure FnC (X : Cx) : Prop where
  po : PassesOwn (model X.prog X.w) X.A X.env X.xe
  hs : X.stack = X.env :: X.outer
  hf : X.env.frame = some X.env.locals
structure SndP (T : Tb) (sem : Nat → List D → Res D) (n : Nms) (N : List Str) (c : C) : Prop where
  one : ∀ (X : Cx) (k : Nat) (so sr : Scope) (W : WX) (as : List Nat), Gd T sem n N X k so sr W → FnC X → ∀ s, chk1 n N as so sr c s = true → PS X s (tP T sem W as c)
  blk : ∀ (X : Cx) (k : Nat) (so sr : Scope) (W : WX) (as : List Nat), Gd T sem n N X k so sr W → FnC X → ∀ l, chkB n N as so sr c l = true → PSs X l (tP T sem W as c)
theorem sp_one {c : C} (h1 : ∀ (X : Cx) (k : Nat) (so sr : Scope) (W : WX) (as : List Nat), Gd T sem n N X k so sr W → FnC X → ∀ s, chk1 n N as so sr c s = true → PS X s (tP T sem W as c))
    (h2 : ∀ as so sr l, chkB n N as so sr c l = false) : SndP T sem n N c := ⟨h1, fun X k so sr W as G hp l h => by rw [h2] at h; cases h⟩
theorem sp_no {c : C} (h1 : ∀ as so sr l, chk1 n N as so sr c l = false) (h2 : ∀ as so sr l, chkB n N as so sr c l = false) : SndP T sem n N c :=
  sp_one (fun X k so sr W as G hp l h => by rw [h1] at h; cases h) h2

theorem nm_get (G : Gd T sem n N X k so sr W) {i : Nat} {x : Str} (h : nmB N as so sr i x = true) : X.N[i]? = some x ∧ Loc X.env.scope x ∧ (X.fn x = true ∨ X.env.scope.names.lookup x = some .local) ∧ i ∈ as := by
  unfold nmB at h
  simp only [Bool.and_eq_true, Bool.or_eq_true, decide_eq_true_eq] at h
  obtain ⟨⟨⟨⟨h1, h2⟩, h3⟩, h4⟩, h5⟩ := h
  refine ⟨by rw [G.hN]; exact h1, ?_, ?_, h5⟩
  · rw [G.sc]
    unfold locB at h3
    unfold L2.Loc
    split at h3
    · exact .inl (by assumption)
    · exact .inr (by assumption)
    · cases h3
  · rcases h4 with h4 | h4
    · exact .inl (G.fnc x h4)
    · rw [G.sc]; exact .inr h4
theorem no_swap {e : Expr} {t : Option Expr} {l : Nat} {env : Env} (h : noComp e = true) : swapsWith e t l env = pure false := by
  cases e <;> first | rfl | cases h
theorem no_swapped {e : Expr} {ts : List Expr} {k : Nat} {p : Pos} {env : Env} {c} (h : noTup e = true) : swappedStores [.Tuple ts c p] e env = pure none := by
  cases e <;> first | rfl | cases h

theorem sole_no {e t : Expr} {l : Nat} {env : Env} (h : noComp e = true) : swapsWithSole [t] e l env = pure false := by
  show swapsWith e (some t) l env = pure false
  exact no_swap h

/-! ### the statements -/
theorem sp_skip : SndP T sem n N .skip where
  one := fun X k so sr W as G hp s h => by
    have red : ∀ D σ H, tP T sem W as .skip D σ H → tNext D σ H := fun D σ H ⟨Oc, Of, en, r, q⟩ => q σ Of H .refl r rfl
    cases s with
    | Pass p => exact ps_mono ps_pass red
    | Expr e p =>
      match e, h with
      | .Constant (.str _) _ _, h => exact ps_mono ps_doc red
    | _ => cases h
  blk := fun X k so sr W as G hp l h => by
    cases l with
    | nil => exact pss_mono pss_nil fun D σ H ⟨Oc, Of, en, r, q⟩ => q σ Of H .refl r rfl
    | cons _ _ => cases h
theorem sp_xpr {c : C} : SndP T sem n N (.xpr c) := by
  refine sp_one (fun X k so sr W as G hp s h => ?_) fun _ _ _ _ => rfl
  cases s with
  | Expr e p =>
    have h : (noComp e && chkE n N true so sr c e) = true := h
    rw [Bool.and_eq_true] at h
    exact ps_mono (ps_expr ((sd_all c).e true X k so sr W G e h.2).1 (no_swap h.1)) fun D σ H ⟨Oc, Of, en, r, q⟩ => sE r q fun d v H1 s1 rv q1 => q1 σ Of H1 .refl (r.same s1) rfl
  | _ => cases h
theorem sp_ret {c : C} : SndP T sem n N (.ret c) := by
  refine sp_one (fun X k so sr W as G hp s h => ?_) fun _ _ _ _ => rfl
  cases s with
  | Return e p =>
    cases e with
    | none => cases h
    | some e => exact ps_mono (ps_ret ((sd_all c).e false X k so sr W G e h).1) fun D σ H ⟨Oc, Of, en, r, q⟩ => sE r q fun d v H1 s1 rv q1 => q1 v Of H1 .refl rv
  | _ => cases h
theorem sp_retn : SndP T sem n N .retn := by
  refine sp_one (fun X k so sr W as G hp s h => ?_) fun _ _ _ _ => rfl
  cases s with
  | Return e p =>
    cases e with
    | none => exact ps_mono ps_retN fun D σ H ⟨Oc, Of, en, r, q⟩ => q .non Of H .refl .non
    | some e => cases h
  | _ => cases h
theorem sp_brk : SndP T sem n N .brk := by
  refine sp_one (fun X k so sr W as G hp s h => ?_) fun _ _ _ _ => rfl
  cases s with
  | Break p => exact ps_mono ps_break fun D σ H ⟨Oc, Of, en, r, q⟩ => q σ Of H .refl r rfl
  | _ => cases h
theorem sp_cnt : SndP T sem n N .cnt := by
  refine sp_one (fun X k so sr W as G hp s h => ?_) fun _ _ _ _ => rfl
  cases s with
  | Continue p => exact ps_mono ps_continue fun D σ H ⟨Oc, Of, en, r, q⟩ => q σ Of H .refl r rfl
  | _ => cases h
theorem sp_iff {t a b : C} (ha : SndP T sem n N a) (hb : SndP T sem n N b) : SndP T sem n N (.iff t a b) := by
  refine sp_one (fun X k so sr W as G hp s h => ?_) fun _ _ _ _ => rfl
  cases s with
  | If c l r p =>
    have h : (chkE n N true so sr t c && chkB n N as so sr a l && chkB n N as so sr b r) = true := h
    rw [Bool.and_eq_true, Bool.and_eq_true] at h
    refine ps_mono (ps_if ((sd_all t).e true X k so sr W G c h.1.1).2 (ha.blk X k so sr W as G hp l h.1.2) (hb.blk X k so sr W as G hp r h.2)) fun D σ H ⟨Oc, Of, en, r, q⟩ => sT r q fun d H1 s1 q1 => ?_
    cases e : truth d with
    | true => rw [e, if_pos rfl] at q1; rw [if_pos rfl]; exact ⟨Oc, Of, en, r.same s1, q1⟩
    | false => rw [e, if_neg Bool.false_ne_true] at q1; rw [if_neg Bool.false_ne_true]; exact ⟨Oc, Of, en, r.same s1, q1⟩
  | _ => cases h
theorem seq_red {a b : C} (h : tP T sem W as (.seq a b) E σ H) : tSeq (tP T sem W as a) (tP T sem W as b) E σ H := by
  obtain ⟨Oc, Of, en, r, q⟩ := h
  have q : okF E T W Oc Of as σ H ((ex sem a en).bind fun w => match w with
    | .nx e1 => ex sem b e1
    | w => .ok w) := q
  refine ⟨Oc, Of, en, r, ?_⟩
  cases e : ex sem a en with
  | ok w =>
    rw [e] at q
    cases w with
    | nx e1 => exact fun σ' Of' H' st r' hw => ⟨Oc, Of', e1, r', okF.step st hw q⟩
    | bk e1 => exact q
    | ct e1 => exact q
    | rt d => exact q
  | err c xs => rw [e] at q; exact q
  | bad => rw [e] at q; exact q
theorem sp_seq {a b : C} (ha : SndP T sem n N a) (hb : SndP T sem n N b) : SndP T sem n N (.seq a b) where
  one := fun X k so sr W as G hp s h => by cases s <;> exact absurd h Bool.false_ne_true
  blk := fun X k so sr W as G hp l h => by
    cases l with
    | nil => cases h
    | cons s l =>
      have h : (chk1 n N as so sr a s && chkB n N as so sr b l) = true := h
      rw [Bool.and_eq_true] at h
      exact pss_mono (pss_cons (ha.one X k so sr W as G hp s h.1) (hb.blk X k so sr W as G hp l h.2)) fun D σ H z => seq_red z
theorem sp_fz {is : List Nat} {a : C} (ha : SndP T sem n N a) : SndP T sem n N (.fz is a) where
  one := fun X k so sr W as G hp s h => by cases s <;> exact absurd h Bool.false_ne_true
  blk := fun X k so sr W as G hp l h => by
    refine pss_mono (ha.blk X k so sr W as G hp l h) fun D σ H ⟨Oc, Of, en, r, q⟩ => ?_
    obtain ⟨Of', r', hs⟩ := r.frz (is := is)
    exact ⟨Oc, Of', _, r', okF.step ⟨fun _ _ e _ => e, fun p hp => .inl (hs p hp)⟩ rfl q⟩
theorem sp_aug {i : Nat} {o : Op} {c : C} : SndP T sem n N (.aug i o c) := by
  refine sp_one (fun X k so sr W as G hp s h => ?_) fun _ _ _ _ => rfl
  cases s with
  | AugAssign t op e p =>
    cases t with
    | Name x py =>
      have h : (nmB N as so sr i x && opIs o op && (decide (o = .add) || decide (o = .sub)) && chkE n N false so sr c e) = true := h
      rw [Bool.and_eq_true, Bool.and_eq_true, Bool.and_eq_true, Bool.or_eq_true, decide_eq_true_eq, decide_eq_true_eq] at h
      obtain ⟨⟨⟨h1, h2⟩, h3⟩, h4⟩ := h
      obtain ⟨n1, n2, n3, n4⟩ := nm_get G h1
      have nd : X.N.Nodup := by rw [G.hN]; exact G.nd
      have pe := ((sd_all c).e false X k so sr W G e h4).1
      have red : ∀ (f : Int → Int → Int) D σ H, (∀ a b : Int, augD o (.int a) (.int b) = .ok (.int (f a b))) → tP T sem W as (.aug i o c) D σ H → tAug i (tE T sem false W c) (ipI f) D σ H := fun f D σ H hf ⟨Oc, Of, en, r, q⟩ => by
        have q : okF D T W Oc Of as σ H (match en.at i with
          | .v x => (ev sem c en).bind fun y => (augD o x y).noE.bind fun d => .ok (.nx (en.put i (.v d)))
          | _ => .bad) := q
        cases e : en.at i with
        | v x =>
          rw [e] at q
          obtain ⟨v, v1, v2⟩ := r.val i x e
          refine ⟨v, v1, sE r q fun d u H1 s1 ru q1 => ?_⟩
          cases x with
          | int a =>
            cases d with
            | int b =>
              rw [hf] at q1
              have e1 := DS.i_int v2
              have e2 := DS.i_int ru
              subst e1 e2
              exact ⟨a, b, rfl, rfl, q1 _ Of H1 .refl ((r.same s1).put i (.int _)) (wipe_set n4)⟩
            | _ => exact q1.elim
          | _ => exact q1.elim
        | u => rw [e] at q; exact q.elim
        | o d => rw [e] at q; exact q.elim
      cases o with
      | add => cases op <;> first | exact absurd h2 Bool.false_ne_true | exact ps_mono (ps_aug nd n1 n2 pe ip_add n3) fun D σ H z => red _ D σ H (fun _ _ => rfl) z
      | sub => cases op <;> first | exact absurd h2 Bool.false_ne_true | exact ps_mono (ps_aug nd n1 n2 pe ip_sub n3) fun D σ H z => red _ D σ H (fun _ _ => rfl) z
      | _ => exact absurd h3 (fun z => z.elim (fun z => nomatch z) fun z => nomatch z)
    | _ => cases h
  | _ => cases h
theorem set_red {i : Nat} {c : C} (hi : i ∈ as) (h : tP T sem W as (.set i c) E σ H) : tAsg (tE T sem false W c) (gName i) E σ H := by
  obtain ⟨Oc, Of, en, r, q⟩ := h
  exact sE r q fun d v H1 s1 rv q1 => q1 (σ.set i (some v)) Of H1 .refl ((r.same s1).put i rv) (wipe_set hi)
theorem sp_set {i : Nat} {c : C} : SndP T sem n N (.set i c) := by
  refine sp_one (fun X k so sr W as G hp s h => ?_) fun _ _ _ _ => rfl
  cases s with
  | Assign ts e pos =>
    match ts, h with
    | [.Name x py], h =>
      have h : (nmB N as so sr i x && chkE n N false so sr c e && (noComp e || match (generalizing := false) e with
        | .ListComp _ _ _ _ => decide (sr.kind = .function) && isC1 c
        | _ => false)) = true := h
      rw [Bool.and_eq_true, Bool.and_eq_true] at h
      obtain ⟨⟨h1, h2⟩, h3⟩ := h
      obtain ⟨n1, n2, n3, n4⟩ := nm_get G h1
      have nd : X.N.Nodup := by rw [G.hN]; exact G.nd
      have plain : swapsWith e (some (.Name x py)) pos.line X.env = pure false → PS X (.Assign [.Name x py] e pos) (tP T sem W as (.set i c)) := fun sw => ps_mono (ps_set nd n1 n2 ((sd_all c).e false X k so sr W G e h2).1 sw n3) fun D σ H z => set_red n4 z
      cases hc : noComp e with
      | true => exact plain (no_swap hc)
      | false =>
        rw [hc, Bool.false_or] at h3
        cases e with
        | ListComp x' gens scope p =>
          have h3 : (decide (sr.kind = .function) && isC1 c) = true := h3
          rw [Bool.and_eq_true, decide_eq_true_eq] at h3
          obtain ⟨h3, h30⟩ := h3
          have hk : X.env.scope.kind = .function := by rw [G.sc]; exact h3
          have hb : X.env.blockKind = .function := by unfold Env.blockKind; rw [hk]; rfl
          cases l1 : (py.line == p.line) with
          | false =>
            refine plain ?_
            unfold swapsWith
            simp only [Expr.pos, l1, Bool.and_false, Bool.false_and]
          | true =>
            cases l4 : (scope.names.any fun (m, k) => m == x && (k == .local || k == .cell)) with
            | true =>
              refine plain ?_
              unfold swapsWith
              simp only [l4, Bool.not_true, Bool.and_false]
            | false =>
              by_cases l2 : X.env.scope.names.lookup x = some .local
              · have sw : swapsWith (.ListComp x' gens scope p) (some (.Name x py)) pos.line X.env = pure true := sw_true hk l2 l1 l4
                obtain ⟨t, it, ifs, tg, src, elt, cond, tt, rfl, rfl, hi, ok, hg, hts, hel, hset, red, _⟩ := lc_parts G h30 h2 fun _ _ _ _ _ => ⟨sd_all _, sd_all _, sd_all _⟩
                refine ps_mono (ps_setLc G.calm nd n1 l2 sw hi ok hg hts hel hset) fun D σ H z => ?_
                rw [own_slots]
                have z := set_red n4 z
                exact red σ H _ z
              · refine plain ?_
                have ky : (X.env.kindOf x == some .local) = false := by
                  have e : X.env.kindOf x = X.env.scope.names.lookup x := rfl
                  rw [e]
                  exact beq_eq_false_iff_ne.mpr l2
                unfold swapsWith
                simp only [ky, Bool.and_false, Bool.false_and]
        | _ => cases h3
  | _ => cases h
theorem seto_red {i : Nat} {es : C} {l : List Expr} (hi : i ∈ as) (hl : chkL n N false so sr es l = true) (h5 : l.length ≤ 1000) (h : tP T sem W as (.seto i (.lst es)) E σ H) : tAsg (tLst (tA T sem false W es)) (gName i) E σ H := by
  obtain ⟨Oc, Of, en, r, q⟩ := h
  have q : okF E T W Oc Of as σ H (((ev sem es en).bind fun l => .ok (.list (asL l))).bind fun d => (ownD d).bind fun d => .ok (.nx (en.put i (.o d)))) := q
  rw [bind_assoc] at q
  refine sA r hl q fun d vs H1 s1 rv len q1 => ⟨by rw [rv.length, len, sizeLine_eq]; omega, fun p hp => ?_⟩
  have st : ∀ b u, H1 b = some u → b ∉ Oc ++ Of → upd H1 p (.lst vs) b = some u ∧ b ∉ Oc ++ (p :: Of) := fun b u hb hn => ⟨by rw [upd_ne (ne_of_none hb hp)]; exact hb, fun z => by
    rcases List.mem_append.mp z with z | z
    · exact hn (List.mem_append_left _ z)
    · rcases List.mem_cons.mp z with rfl | z
      · rw [hp] at hb; cases hb
      · exact hn (List.mem_append_right _ z)⟩
  refine q1 _ (p :: Of) _ ⟨fun b o e _ => by rw [upd_ne (ne_of_none e hp)]; exact e, fun b hb => (List.mem_cons.mp hb).elim (fun z => .inr (by rw [z]; exact hp)) .inl⟩ ((r.same s1).putO i hp (.lst upd_same (rv.dss.step st) ?_)) (wipe_set hi)
  rw [len]
  have : lim = 1000000 := rfl
  omega
/-- a new dict, stored in a slot alone -/
theorem new_dict {i : Nat} {o : HO} {d : D} {p : Addr} (hi : i ∈ as) (r : Rep Oc Of σ H en) (hp : H p = none) (ho : Own (Oc ++ (p :: Of)) (upd H p o) p d) (q : okF E T W Oc Of as σ H (.ok (.nx (en.put i (.o d))))) : E.nx (σ.set i (some (.ref p))) (upd H p o) :=
  q _ (p :: Of) _ ⟨fun b o e _ => by rw [upd_ne (ne_of_none e hp)]; exact e, fun b hb => (List.mem_cons.mp hb).elim (fun z => .inr (by rw [z]; exact hp)) .inl⟩ (r.putO i hp ho) (wipe_set hi)
theorem upd_upd {H : Hp} {p : Addr} {o o' : HO} : upd (upd H p o) p o' = upd H p o' := by
  funext b
  by_cases h : b = p
  · rw [h, upd_same, upd_same]
  · rw [upd_ne h, upd_ne h, upd_ne h]
/-! a list made by + -/
def rCat : R2 := fun x y H Q => ∃ a b xs zs, x = .ref a ∧ y = .ref b ∧ Rd H a (.lst xs) ∧ Rd H b (.lst zs) ∧ xs.length + zs.length ≤ sizeLine ∧ ∀ p, H p = none → Q (.ref p) (upd H p (.lst (xs ++ zs)))
theorem op_cat {X : Cx} : OpR X (binaryOp .Add) rCat := by
  intro pins s σ H x y v u Q I rx ry ⟨a, b, xs, zs, ex, ey, ha, hb, hz, q⟩
  subst ex ey
  cases rx
  cases ry
  exact s_cat I ha hb hz q
theorem own_add {x y d : D} (e : ((opD .add x y).noE.bind ownD) = .ok d) : ∃ xs ys, x = .list xs ∧ y = .list ys ∧ xs.length + ys.length ≤ lim ∧ d = .list (xs ++ ys) := by
  obtain ⟨z, e1, e2⟩ := Res.bind_ok e
  have e1 : opD .add x y = .ok z := by
    cases h : opD .add x y with
    | ok w => rw [h] at e1; exact e1
    | err c l => rw [h] at e1; cases e1
    | bad => rw [h] at e1; cases e1
  cases x with
  | int a => cases y with
    | int b => cases e1; cases e2
    | _ => cases e1
  | str a => cases y with
    | str b =>
      have e1 : (if a.cps.size + b.cps.size ≤ lim then Res.ok (PyData.str ⟨a.cps ++ b.cps⟩) else .bad) = .ok z := e1
      split at e1
      · cases e1; cases e2
      · cases e1
    | _ => cases e1
  | tuple a => cases y with
    | tuple b =>
      have e1 : (if a.length + b.length ≤ lim then Res.ok (PyData.tuple (a ++ b)) else .bad) = .ok z := e1
      split at e1
      · cases e1; cases e2
      · cases e1
    | _ => cases e1
  | list a => cases y with
    | list b =>
      have e1 : (if a.length + b.length ≤ lim then Res.ok (PyData.list (a ++ b)) else .bad) = .ok z := e1
      split at e1
      · rename_i hl
        cases e1
        cases e2
        exact ⟨a, b, rfl, rfl, hl, rfl⟩
      · cases e1
    | _ => cases e1
  | none => cases y <;> cases e1
  | bool a => cases y <;> cases e1
  | dict a => cases y <;> cases e1
theorem cat_red {i : Nat} {a b : C} (hi : i ∈ as) (h : tP T sem W as (.seto i (.bin .add a b)) E σ H) : tAsg (tOp rCat (tE T sem true W a) (tE T sem true W b)) (gName i) E σ H := by
  obtain ⟨Oc, Of, en, r, q⟩ := h
  have q : okF E T W Oc Of as σ H (((ev sem a en).bind fun x => (ev sem b en).bind fun y => (opD .add x y).noE).bind fun d => (ownD d).bind fun d => .ok (.nx (en.put i (.o d)))) := q
  rw [bind_assoc] at q
  refine sE r q fun dx vx H1 s1 rx q1 => ?_
  rw [bind_assoc] at q1
  refine sE (r.same s1) q1 fun dy vy H2 s2 ry q2 => ?_
  rw [← bind_assoc] at q2
  cases e : (opD .add dx dy).noE.bind ownD with
  | err c xs => rw [e] at q2; exact absurd e (by
      cases h : opD .add dx dy with
      | ok w => cases w <;> exact fun z => nomatch z
      | err c l => exact fun z => nomatch z
      | bad => exact fun z => nomatch z)
  | bad => rw [e] at q2; exact q2.elim
  | ok d =>
    rw [e] at q2
    obtain ⟨xs, ys, rfl, rfl, hl, rfl⟩ := own_add e
    obtain ⟨p1, vs, rfl, h1, h3, h4, h5⟩ := (rx.same s2).cs.i_list
    obtain ⟨p2, ws, rfl, g1, g3, g4, g5⟩ := ry.cs.i_list
    have hlim := lim_le
    refine ⟨p1, p2, vs, ws, rfl, rfl, h1, g1, by omega, fun p hp => ?_⟩
    have st : ∀ b u, H2 b = some u → b ∉ Oc ++ Of → upd H2 p (.lst (vs ++ ws)) b = some u ∧ b ∉ Oc ++ (p :: Of) := fun b u hb hn => ⟨by rw [upd_ne (ne_of_none hb hp)]; exact hb, fun z => by
      rcases List.mem_append.mp z with z | z
      · exact hn (List.mem_append_left _ z)
      · rcases List.mem_cons.mp z with rfl | z
        · rw [hp] at hb; cases hb
        · exact hn (List.mem_append_right _ z)⟩
    exact new_dict (d := .list (xs ++ ys)) hi ((r.same s1).same s2) hp (.lst upd_same ((h3.append g3).step st) (by rw [List.length_append]; exact hl)) q2
def rLn (K : PySem.W.Frag) : List V → Hp → VK → Prop := fun xs H Q => ∃ a ys, xs = [.ref a] ∧ (SqL K H a ys ∨ SqT K H a ys) ∧ ∀ p, H p = none → Q (.ref p) (upd H p (.lst ys))
theorem lst_red {i : Nat} {a : C} {K : PySem.W.Frag} (hi : i ∈ as) (h : tP T sem W as (.seto i (.blt .list (.cons a .nil))) E σ H) : tAsg (tCB (rLn K) (tCons (tE T sem true W a) tNil)) (gName i) E σ H := by
  obtain ⟨Oc, Of, en, r, q⟩ := h
  have q : okF E T W Oc Of as σ H ((((ev sem a en).bind fun x => (Res.ok (PyData.list [])).bind fun l => Res.ok (PyData.list (x :: asL l))).bind fun l => (blD .list (asL l)).noE).bind fun d => (ownD d).bind fun d => .ok (.nx (en.put i (.o d)))) := q
  rw [bind_assoc, bind_assoc] at q
  refine sE r q fun d v H1 s1 rv q1 => ?_
  have fin : ∀ {a' : Addr} {ys : List V} {l : List PyData}, v = .ref a' → (SqL K H1 a' ys ∨ SqT K H1 a' ys) → DSs (Oc ++ Of) H1 ys l → l.length ≤ lim → okF E T W Oc Of as σ H1 (.ok (.nx (en.put i (.o (.list l))))) → rLn K [v] H1 fun x H2 => gName i x σ H2 E.nx := fun {a' ys l} ev hs t hl q2 => ⟨a', ys, by rw [ev], hs, fun p hp => by
    have st : ∀ b u, H1 b = some u → b ∉ Oc ++ Of → upd H1 p (.lst ys) b = some u ∧ b ∉ Oc ++ (p :: Of) := fun b u hb hn => ⟨by rw [upd_ne (ne_of_none hb hp)]; exact hb, fun z => by
      rcases List.mem_append.mp z with z | z
      · exact hn (List.mem_append_left _ z)
      · rcases List.mem_cons.mp z with rfl | z
        · rw [hp] at hb; cases hb
        · exact hn (List.mem_append_right _ z)⟩
    exact new_dict (d := .list l) hi (r.same s1) hp (.lst upd_same (t.step st) hl) q2⟩
  cases d with
  | list l =>
    obtain ⟨a', ys, rfl, h1, h3, h4, h5⟩ := rv.cs.i_list
    exact fin rfl (.inl (rd_sql h1)) h3 h4 q1
  | tuple l =>
    obtain ⟨a', ys, rfl, h1, h2, h3, h4, h5⟩ := rv.cs.i_tuple
    exact fin rfl (.inr (t_sqt h1)) h3 h4 q1
  | _ => exact q1.elim
/-- a new list at D, stored in a slot alone -/
theorem new_at {i : Nat} {D : Addr} {xs : List V} {ys : List PyData} {H' : Hp} (hi : i ∈ as) (r : Rep Oc Of σ H en) (s1 : Same H H') (hn : H D = none) (hD : H' D = some (.lst xs)) (ht : DSs (Oc ++ (D :: Of)) H' xs ys) (hl : ys.length ≤ lim)
    (q : okF E T W Oc Of as σ H (.ok (.nx (en.put i (.o (.list ys)))))) : E.nx (σ.set i (some (.ref D))) H' := by
  let H2 : Hp := fun b => if b = D then none else H' b
  have e2 : upd H2 D (.lst xs) = H' := by
    funext b
    by_cases h : b = D
    · rw [h, upd_same, hD]
    · rw [upd_ne h]
      show (if b = D then none else H' b) = _
      rw [if_neg h]
  have s2 : Same H H2 := fun b o e => by
    show (if b = D then none else H' b) = _
    rw [if_neg (fun z => by rw [z, hn] at e; cases e)]
    exact s1 b o e
  have hp : H2 D = none := if_pos rfl
  have r2 := (r.same s2).putO i hp (o := .lst xs) (d := .list ys) (.lst upd_same (by rw [e2]; exact ht) hl)
  rw [e2] at r2
  exact q _ (D :: Of) _ ⟨fun b o e _ => s1 b o e, fun b hb => (List.mem_cons.mp hb).elim (fun z => .inr (by rw [z]; exact hn)) .inl⟩ r2 (wipe_set hi)
theorem lcO_red {i : Nat} {c : C} (hi : i ∈ as) (hc : isC1 c = true) (h : tP T sem W as (.seto i c) E σ H) : ∃ Oc Of en, Rep Oc Of σ H en ∧ okR T W σ H (ev sem c en) fun d => ∀ ys, d = PyData.list ys → ∀ D xs H', Same H H' → H D = none → H' D = some (.lst xs) → DSs (Oc ++ (D :: Of)) H' xs ys → ys.length ≤ lim → gName i (.ref D) σ H' E.nx := by
  obtain ⟨Oc, Of, en, r, q⟩ := h
  have q : okF E T W Oc Of as σ H ((ev sem c en).bind fun d => (ownD d).bind fun d => .ok (.nx (en.put i (.o d)))) := q
  refine ⟨Oc, Of, en, r, ?_⟩
  cases e : ev sem c en with
  | ok d =>
    rw [e] at q
    intro ys ed D xs H' s1 hn hD ht hl
    subst ed
    exact new_at hi r s1 hn hD ht hl q
  | err c' xs => rw [e] at q; exact ok_err r q
  | bad => rw [e] at q; exact q.elim
theorem sp_seto {i : Nat} {c : C} : SndP T sem n N (.seto i c) := by
  refine sp_one (fun X k so sr W as G hp s h => ?_) fun _ _ _ _ => rfl
  cases s with
  | Assign ts e pos =>
    match ts, e, h with
    | [.Name x py], .List l p, h =>
      cases c with
      | lst es =>
        have h : (nmB N as so sr i x && chkL n N false so sr es l && decide (l.length ≤ 1000)) = true := h
        rw [Bool.and_eq_true, Bool.and_eq_true, decide_eq_true_eq] at h
        obtain ⟨⟨h1, h2⟩, h3⟩ := h
        obtain ⟨n1, n2, n3, n4⟩ := nm_get G h1
        have nd : X.N.Nodup := by rw [G.hN]; exact G.nd
        exact ps_mono (ps_set nd n1 n2 (pe_lst ((sd_all es).l false X k so sr W G l h2)) (no_swap rfl) n3) fun D σ H z => seto_red n4 h2 h3 z
      | _ => exact absurd h Bool.false_ne_true
    | [.Name x py], .ListComp x' gens scope p, h =>
      have h : (nmB N as so sr i x && isC1 c && chkE n N false so sr c (.ListComp x' gens scope p) && decide (sr.kind = .function)) = true := h
      rw [Bool.and_eq_true, Bool.and_eq_true, Bool.and_eq_true, decide_eq_true_eq] at h
      obtain ⟨⟨⟨h1, h30⟩, h2⟩, h3⟩ := h
      obtain ⟨n1, n2, n3, n4⟩ := nm_get G h1
      have nd : X.N.Nodup := by rw [G.hN]; exact G.nd
      have hk : X.env.scope.kind = .function := by rw [G.sc]; exact h3
      obtain ⟨t, it, ifs, tg, src, elt, cond, tt, rfl, rfl, hI, ok, hg, hts, hel, hset, _, redN⟩ := lc_parts G h30 h2 fun _ _ _ _ _ => ⟨sd_all _, sd_all _, sd_all _⟩
      have lc := pe_lc (pos := p) G.calm nd hI ok hg hts hel hset
      rw [own_slots] at lc
      have plain : swapsWith (.ListComp x' [⟨t, it, ifs, 0⟩] scope p) (some (.Name x py)) pos.line X.env = pure false → PS X (.Assign [.Name x py] (.ListComp x' [⟨t, it, ifs, 0⟩] scope p) pos) (tP T sem W as (.seto i (.cmp1 tg src elt cond))) := fun sw => ps_mono (ps_set nd n1 n2 lc sw n3) fun D σ H z => redN σ H _ (lcO_red n4 rfl z)
      cases l1 : (py.line == p.line) with
      | false =>
        refine plain ?_
        unfold swapsWith
        simp only [Expr.pos, l1, Bool.and_false, Bool.false_and]
      | true =>
        cases l4 : (scope.names.any fun (m, k) => m == x && (k == .local || k == .cell)) with
        | true =>
          refine plain ?_
          unfold swapsWith
          simp only [l4, Bool.not_true, Bool.and_false]
        | false =>
          by_cases l2 : X.env.scope.names.lookup x = some .local
          · have sw : swapsWith (.ListComp x' [⟨t, it, ifs, 0⟩] scope p) (some (.Name x py)) pos.line X.env = pure true := sw_true hk l2 l1 l4
            refine ps_mono (ps_setLc G.calm nd n1 l2 sw hI ok hg hts hel hset) fun D σ H z => ?_
            rw [own_slots]
            exact redN σ H _ (lcO_red n4 rfl z)
          · refine plain ?_
            have ky : (X.env.kindOf x == some .local) = false := by
              have e : X.env.kindOf x = X.env.scope.names.lookup x := rfl
              rw [e]
              exact beq_eq_false_iff_ne.mpr l2
            unfold swapsWith
            simp only [ky, Bool.and_false, Bool.false_and]
    | [.Name x py], .Call (.Name f p1) [y] [] p, h =>
      have nd : X.N.Nodup := by rw [G.hN]; exact G.nd
      match c, h with
      | .blt .list (.cons a .nil), h =>
        have h : (nmB N as so sr i x && decide (f = "list") && glB sr "list" && chkE n N true so sr a y && notStar y) = true := h
        simp only [Bool.and_eq_true, decide_eq_true_eq] at h
        obtain ⟨⟨⟨⟨h1, rfl⟩, h3⟩, h4⟩, h5⟩ := h
        obtain ⟨n1, n2, n3, n4⟩ := nm_get G h1
        obtain ⟨v1, v2⟩ := G.gl h3
        exact ps_mono (ps_set nd n1 n2 (pe_callTy (r := rLn X.K) call_list_of v1 (G.blt _ (by decide)) PyProof.Rows.boot_list (pa_cons ((sd_all a).e true X k so sr W G y h4).1 pa_nil (star_cons h5)) (by decide) (by decide) (star_cons h5) rfl) (no_swap rfl) n3) fun D σ H z => lst_red n4 z
    | [.Name x py], .BinOp l op m p, h =>
      have nd : X.N.Nodup := by rw [G.hN]; exact G.nd
      match c, h with
      | .bin .add a b, h =>
        have h : (nmB N as so sr i x && opIs .add op && chkE n N true so sr a l && chkE n N true so sr b m) = true := h
        rw [Bool.and_eq_true, Bool.and_eq_true, Bool.and_eq_true] at h
        obtain ⟨⟨⟨h1, h2⟩, h3⟩, h4⟩ := h
        obtain ⟨n1, n2, n3, n4⟩ := nm_get G h1
        cases op <;> first | exact absurd h2 Bool.false_ne_true | exact ps_mono (ps_set nd n1 n2 (pe_op op_cat ((sd_all a).e true X k so sr W G l h3).1 ((sd_all b).e true X k so sr W G m h4).1) (no_swap rfl) n3) fun D σ H z => cat_red n4 z
    | [.Name x py], .Dict l m p, h =>
      have nd : X.N.Nodup := by rw [G.hN]; exact G.nd
      cases c with
      | dic ks vs =>
        have h : (nmB N as so sr i x && chkD ks vs l m && decide (l.length ≤ 15) && (match (generalizing := false) kvsOf ks vs with
          | some kvs => decide ((kvs.map (·.1)).Nodup)
          | none => false)) = true := h
        rw [Bool.and_eq_true, Bool.and_eq_true, Bool.and_eq_true, decide_eq_true_eq] at h
        obtain ⟨⟨⟨h1, h2⟩, h3⟩, h4⟩ := h
        obtain ⟨n1, n2, n3, n4⟩ := nm_get G h1
        cases ek : kvsOf ks vs with
        | none => rw [ek] at h4; cases h4
        | some kvs =>
          rw [ek] at h4
          have h4 : (kvs.map (·.1)).Nodup := of_decide_eq_true h4
          obtain ⟨trs, g1, g2, g3, g4, g5, g6⟩ := dic_parts (X := X) (pos := p) (sem := sem) ek h2
          have own : ∀ {Oc Of : List Addr} {H : Hp} {q : Addr} {a b : List D}, (∀ O H, DKs O H kvs (a.zip b)) → Own (Oc ++ (q :: Of)) (upd H q (.dK kvs)) q (.dict (a.zip b)) := fun {Oc Of H q a b} e3 => .dk upd_same (e3 _ _) (by
            have h5 := (e3 [] (fun _ => none)).length
            have l1 : lim = 1000000 := rfl
            omega)
          have sem_red : ∀ {D σ H} {Oc Of : List Addr} {en : En}, okF D T W Oc Of as σ H (ex sem (.seto i (.dic ks vs)) en) → ∃ a b : List PyData, (∀ O H, DKs O H kvs (a.zip b)) ∧ okF D T W Oc Of as σ H (.ok (.nx (en.put i (.o (.dict (a.zip b)))))) := fun {D σ H Oc Of en} q => by
            obtain ⟨a, b, e1, e2, e3⟩ := g6 en
            refine ⟨a, b, e3, ?_⟩
            have q : okF D T W Oc Of as σ H (((ev sem ks en).bind fun l => (ev sem vs en).bind fun m => .ok (.dict ((asL l).zip (asL m)))).bind fun d => (ownD d).bind fun d => .ok (.nx (en.put i (.o d)))) := q
            rw [e1, Res.ok_bind, e2, Res.ok_bind] at q
            exact q
          match l, h3, g1, g3, g5 with
          | [], h3, g1, g3, g5 =>
            have e0 : kvs = [] := List.eq_nil_of_length_eq_zero g3.symm
            subst e0
            have em : m = [] := List.eq_nil_of_length_eq_zero g4
            subst em
            refine ps_mono (ps_set nd n1 n2 pe_dnewK (no_swap rfl) n3) fun D σ H ⟨Oc, Of, en, r, q⟩ q' hq' => ?_
            obtain ⟨a, b, e3, q⟩ := sem_red q
            exact new_dict n4 r hq' (own e3) q
          | y :: l, h3, g1, g3, g5 =>
            refine ps_mono (ps_set nd n1 n2 (pe_disp g1 g5 (g3.trans g4.symm) (fun z => nomatch z) h3) (no_swap rfl) n3) fun D σ H ⟨Oc, Of, en, r, q⟩ q' hq' => ?_
            obtain ⟨a, b, e3, q⟩ := sem_red q
            refine g2 σ _ _ ⟨upd_same, kvs, rfl, by omega, ?_⟩
            rw [mergeK_new (by rw [List.nil_append]; exact h4), List.nil_append, upd_upd]
            exact new_dict n4 r hq' (own e3) q
      | dat d =>
        match d, h with
        | .dict [(.none, .none)], h =>
          have h : (nmB N as so sr i x && l.isEmpty && m.isEmpty) = true := h
          rw [Bool.and_eq_true, Bool.and_eq_true, List.isEmpty_iff, List.isEmpty_iff] at h
          obtain ⟨⟨h1, rfl⟩, rfl⟩ := h
          obtain ⟨n1, n2, n3, n4⟩ := nm_get G h1
          refine ps_mono (ps_set nd n1 n2 pe_dnewT (no_swap rfl) n3) fun D σ H ⟨Oc, Of, en, r, q⟩ q' hq' => ?_
          exact new_dict (d := .dict [(.none, .none)]) n4 r hq' (.dt upd_same .nil (Nat.zero_le _)) q
      | _ => exact absurd h Bool.false_ne_true
  | _ => cases h
/-! stores by index, by key -/
theorem DKs.put {O : List Addr} {H : Hp} {v : V} {d : D} (k : Key) (hv : DS O H v d) {kvs : List (Key × V)} {es : List (D × D)} (h : DKs O H kvs es) : DKs O H (putK kvs k v) (kvPut (keyV k) d es) := by
  have hany : (kvs.any fun kv => decide (kv.1 = k)) = es.any fun p => PyData.eqv p.1 (keyV k) := by
    clear hv
    induction kvs generalizing es with
    | nil => cases h; rfl
    | cons a r ih => cases h with
      | cons h1 h2 => rw [List.any_cons, List.any_cons, ih h2, eqv_key]
  have hmap : DKs O H (kvs.map fun kv => if kv.1 = k then (kv.1, v) else kv) (es.map fun p => if PyData.eqv p.1 (keyV k) = true then (p.1, d) else p) := by
    clear hany
    induction kvs generalizing es with
    | nil => cases h; exact .nil
    | cons a r ih => cases h with
      | cons h1 h2 =>
        rename_i k' v' d' es'
        rw [List.map_cons, List.map_cons]
        by_cases e : k' = k
        · show DKs O H ((if k' = k then (k', v) else (k', v')) :: _) ((if PyData.eqv (keyV k') (keyV k) = true then (keyV k', d) else (keyV k', d')) :: _)
          rw [if_pos e, if_pos (show PyData.eqv (keyV k') (keyV k) = true by rw [eqv_key, decide_eq_true e])]
          exact .cons hv (ih h2)
        · show DKs O H ((if k' = k then (k', v) else (k', v')) :: _) ((if PyData.eqv (keyV k') (keyV k) = true then (keyV k', d) else (keyV k', d')) :: _)
          rw [if_neg e, if_neg (show ¬ PyData.eqv (keyV k') (keyV k) = true by rw [eqv_key, decide_eq_false e]; exact Bool.false_ne_true)]
          exact .cons h1 (ih h2)
  have happ : DKs O H (kvs ++ [(k, v)]) (es ++ [(keyV k, d)]) := by
    clear hany hmap
    induction kvs generalizing es with
    | nil => cases h; exact .cons hv .nil
    | cons a r ih => cases h with
      | cons h1 h2 => exact .cons h1 (ih h2)
  unfold putK kvPut
  rw [← hany]
  split
  · exact hmap
  · exact happ
theorem DTs.put {O : List Addr} {H : Hp} {v : V} {d : D} (k : List Key) (hv : DS O H v d) {kvs : List (List Key × V)} {es : List (D × D)} (h : DTs O H kvs es) : DTs O H (putK kvs k v) (kvPut (.tuple (k.map keyV)) d es) := by
  have hany : (kvs.any fun kv => decide (kv.1 = k)) = es.any fun p => PyData.eqv p.1 (.tuple (k.map keyV)) := by
    clear hv
    induction kvs generalizing es with
    | nil => cases h; rfl
    | cons a r ih => cases h with
      | cons h1 h2 => rw [List.any_cons, List.any_cons, ih h2, eqv_keys]
  have hmap : DTs O H (kvs.map fun kv => if kv.1 = k then (kv.1, v) else kv) (es.map fun p => if PyData.eqv p.1 (.tuple (k.map keyV)) = true then (p.1, d) else p) := by
    clear hany
    induction kvs generalizing es with
    | nil => cases h; exact .nil
    | cons a r ih => cases h with
      | cons h1 h2 =>
        rename_i k' v' d' es'
        rw [List.map_cons, List.map_cons]
        by_cases e : k' = k
        · show DTs O H ((if k' = k then (k', v) else (k', v')) :: _) ((if PyData.eqv (.tuple (k'.map keyV)) (.tuple (k.map keyV)) = true then (.tuple (k'.map keyV), d) else (.tuple (k'.map keyV), d')) :: _)
          rw [if_pos e, if_pos (show PyData.eqv (.tuple (k'.map keyV)) (.tuple (k.map keyV)) = true by rw [eqv_keys, decide_eq_true e])]
          exact .cons hv (ih h2)
        · show DTs O H ((if k' = k then (k', v) else (k', v')) :: _) ((if PyData.eqv (.tuple (k'.map keyV)) (.tuple (k.map keyV)) = true then (.tuple (k'.map keyV), d) else (.tuple (k'.map keyV), d')) :: _)
          rw [if_neg e, if_neg (show ¬ PyData.eqv (.tuple (k'.map keyV)) (.tuple (k.map keyV)) = true by rw [eqv_keys, decide_eq_false e]; exact Bool.false_ne_true)]
          exact .cons h1 (ih h2)
  have happ : DTs O H (kvs ++ [(k, v)]) (es ++ [(.tuple (k.map keyV), d)]) := by
    clear hany hmap
    induction kvs generalizing es with
    | nil => cases h; exact .cons hv .nil
    | cons a r ih => cases h with
      | cons h1 h2 => exact .cons h1 (ih h2)
  unfold putK kvPut
  rw [← hany]
  split
  · exact hmap
  · exact happ
theorem kvPut_mark {k : List D} {d : D} {es : List (D × D)} : kvPut (.tuple k) d ((.none, .none) :: es) = (.none, .none) :: kvPut (.tuple k) d es := by
  unfold kvPut
  rw [List.any_cons, show PyData.eqv .none (.tuple k) = false by simp [PyData.eqv], Bool.false_or]
  split
  · rw [List.map_cons, show PyData.eqv .none (.tuple k) = false by simp [PyData.eqv]]
    rfl
  · rfl
theorem kvPut_len {k d : D} {es : List (D × D)} : (kvPut k d es).length ≤ es.length + 1 := by
  unfold kvPut
  split
  · rw [List.length_map]; omega
  · rw [List.length_append]; exact Nat.le_refl _
def rPut : V → V → V → Hp → (Hp → Prop) → Prop := fun o i v H Q => rSetL o i v H Q ∨ ∃ a H', o = .ref a ∧ DPut H a i v H' ∧ Q H'
theorem set_put {X : Cx} (hu : X.A.units + 64 < cLine) : PSet X rPut := by
  intro pins s σ H o i v ov iv u Q I ro ri rv h
  rcases h with h | ⟨a, H', rfl, g, q⟩
  · exact set_list pins s σ H o i v ov iv u Q I ro ri rv h
  · cases ro
    exact d_setItem (hu1 hu) I g ri rv fun s' I' => ⟨H', I', q⟩
theorem put_own {p : Addr} {x y z d : D} {vy v : V} (hp : p ∈ Of) (ho : Own (Oc ++ Of) H p x) (hy : DS (Oc ++ Of) H vy y) (hv : DS (Oc ++ Of) H v d) (e : putD x y d = .ok z) : ∃ ob, Own (Oc ++ Of) (upd H p ob) p z ∧ ∀ Q : Hp → Prop, Q (upd H p ob) → rPut (.ref p) vy v H Q := by
  have st : ∀ {ob : HO} b u, H b = some u → b ∉ Oc ++ Of → upd H p ob b = some u ∧ b ∉ Oc ++ Of := fun b u hb hn => ⟨by
    rw [upd_ne (fun z => hn (List.mem_append_right _ (by rw [z]; exact hp)))]; exact hb, hn⟩
  have l1 : lim = 1000000 := rfl
  cases ho with
  | lst h t l =>
    rename_i vs ds
    cases y with
    | int m =>
      have e : (match ixOf ds.length m with
        | some j => Res.ok (PyData.list (ds.set j d))
        | none => .bad) = .ok z := e
      cases e1 : ixOf ds.length m with
      | none => rw [e1] at e; cases e
      | some j =>
        rw [e1] at e
        cases e
        have ey := DS.i_int hy
        subst ey
        refine ⟨.lst (vs.set j v), .lst upd_same ((t.set j hv).step st) (by rw [List.length_set]; exact l), fun Q q => .inl ⟨p, vs, m, j, rfl, rfl, h, by rw [t.length]; exact e1, q⟩⟩
    | _ => cases e
  | dk h t l =>
    rename_i kvs es
    have e : (if keyD es y = true ∧ es.length < lim then Res.ok (PyData.dict (kvPut y d es)) else .bad) = .ok z := e
    by_cases c : keyD es y = true ∧ es.length < lim
    · rw [if_pos c] at e
      cases e
      have nt := t.notT
      have fk : flatD y = true := by
        have kd := c.1
        cases y with
        | int => rfl
        | str => rfl
        | tuple xs => rw [keyD, nt] at kd; cases kd
        | _ => cases kd
      obtain ⟨k, rfl⟩ := flat_key fk
      have ek := C_key (CS.ds hy)
      subst ek
      have hl := t.length
      have hlim := lim_le
      refine ⟨.dK (putK kvs k v), .dk upd_same ((t.put k hv).step st) (Nat.le_trans kvPut_len (by omega)), fun Q q => .inr ⟨p, _, rfl, .k h (by omega), q⟩⟩
    · rw [if_neg c] at e
      cases e
  | dt h t l =>
    rename_i kvs es
    have e : (if keyD ((.none, .none) :: es) y = true ∧ es.length + 1 < lim then Res.ok (PyData.dict (kvPut y d ((.none, .none) :: es))) else .bad) = .ok z := e
    by_cases c : keyD ((.none, .none) :: es) y = true ∧ es.length + 1 < lim
    · rw [if_pos c] at e
      cases e
      match y, c.1 with
      | .tuple xs, kd =>
        rw [keyD, Bool.and_eq_true] at kd
        obtain ⟨ks, rfl⟩ := flat_keys kd.2
        obtain ⟨b, ys, rfl, hb, _, hy', _, _⟩ := (CS.ds hy).i_tuple
        have ek := key_vals hy'
        subst ek
        have hl := t.length
        have hlim := lim_le
        rw [kvPut_mark]
        refine ⟨.dT (putK kvs ks v), .dt upd_same ((t.put ks hv).step st) (Nat.le_trans kvPut_len (by omega)), fun Q q => .inr ⟨p, _, rfl, .t h hb (by omega), q⟩⟩
    · rw [if_neg c] at e
      cases e
theorem pop_red {j i : Nat} {K : PySem.W.Frag} (hj : j ∈ as) (h : tP T sem W as (.pop j i) E σ H) : tAsg (tBM0 K "list" rPop (tVar i)) (gName j) E σ H := by
  obtain ⟨Oc, Of, en, r, q⟩ := h
  have q : okF E T W Oc Of as σ H (match en.at i with
    | .o (.list xs) => match xs.getLast? with
      | some d => .ok (.nx ((en.put i (.o (.list xs.dropLast))).put j (.v d)))
      | none => .bad
    | _ => .bad) := q
  cases e : en.at i with
  | o d =>
    rw [e] at q
    cases d with
    | list xs =>
      obtain ⟨p, h1, h2, h3⟩ := r.own i _ e
      cases h3 with
      | lst hp t l =>
        rename_i vs
        have q : okF E T W Oc Of as σ H (match xs.getLast? with
          | some d => .ok (.nx ((en.put i (.o (.list xs.dropLast))).put j (.v d)))
          | none => .bad) := q
        cases el : xs.getLast? with
        | none => rw [el] at q; exact q.elim
        | some d =>
          rw [el] at q
          have el2 : xs[xs.length - 1]? = some d := by rw [← List.getLast?_eq_getElem?]; exact el
          obtain ⟨v, v1, v2⟩ := t.get el2
          have st : ∀ b u, H b = some u → b ∉ Oc ++ Of → upd H p (.lst vs.dropLast) b = some u ∧ b ∉ Oc ++ Of := fun b u hb hn => ⟨by
            rw [upd_ne (fun z => hn (List.mem_append_right _ (by rw [z]; exact h2)))]; exact hb, hn⟩
          have r2 := r.mut e h1 h2 (o := .lst vs.dropLast) (d' := .list xs.dropLast) (.lst upd_same (t.dropLast.step st) (by rw [List.length_dropLast]; omega))
          refine ⟨.ref p, h1, .inl ⟨rfl, vs, .inl (.inl hp)⟩, p, vs, v, rfl, rfl, hp, by rw [t.length]; exact v1, q _ Of _ ⟨fun b o eb nb => ?_, fun b hb => .inl hb⟩ (r2.put j (v2.step st)) (wipe_set hj)⟩
          rw [upd_ne (fun z => nb (by rw [z]; exact h2))]
          exact eb
    | _ => exact q.elim
  | u => rw [e] at q; exact q.elim
  | v d => rw [e] at q; exact q.elim
theorem sp_pop {j i : Nat} : SndP T sem n N (.pop j i) := by
  refine sp_one (fun X k so sr W as G hp s h => ?_) fun _ _ _ _ => rfl
  cases s with
  | Assign ts e pos =>
    match ts, e, h with
    | [.Name y py], .Call (.Attribute (.Name x p1) a ap) [] [] cp, h =>
      have h : (nmB N as so sr j y && varB N sr i x && decide (a = "pop") && (ap.endLine == cp.line)) = true := h
      simp only [Bool.and_eq_true, decide_eq_true_eq] at h
      obtain ⟨⟨⟨h1, h2⟩, rfl⟩, h4⟩ := h
      obtain ⟨n1, n2, n3, n4⟩ := nm_get G h1
      have nd : X.N.Nodup := by rw [G.hN]; exact G.nd
      exact ps_mono (ps_set nd n1 n2 (pe_bm0 PySem.F.plainAttrs_list PySem.F.slot_list_pop PySem.F.type_list_pop mt_pop (G.var h2) (by rfl) h4) (no_swap rfl) n3) fun D σ H z => pop_red n4 z
  | _ => cases h
theorem sp_puti {i : Nat} {k c : C} : SndP T sem n N (.puti i k c) := by
  refine sp_one (fun X kk so sr W as G hp s h => ?_) fun _ _ _ _ => rfl
  cases s with
  | Assign ts e pos =>
    match ts, h with
    | [.Subscript (.Name x p1) y p2], h =>
      have h : (varB N sr i x && decide (i ∈ as) && chkE n N false so sr k y && notSlice y && chkE n N false so sr c e) = true := h
      simp only [Bool.and_eq_true, decide_eq_true_eq] at h
      obtain ⟨⟨⟨⟨h1, h2⟩, h3⟩, h4⟩, h5⟩ := h
      have hs : swapsWithSole [.Subscript (.Name x p1) y p2] e pos.line X.env = pure false := by cases e <;> rfl
      have hw : swappedStores [.Subscript (.Name x p1) y p2] e X.env = pure none := by cases e <;> rfl
      have pg : PG X (.Subscript (.Name x p1) y p2) (gSub (tVar i) (tE T sem false W k) rPut) := pg_sub (G.var h1) ((sd_all k).e false X kk so sr W G y h3).1 (set_put G.hu) (by intro v; cases y <;> first | rfl | cases h4)
      refine ps_mono (ps_asg ((sd_all c).e false X kk so sr W G e h5).1 pg hs hw) fun D σ H ⟨Oc, Of, en, r, q⟩ => ?_
      have q : okF D T W Oc Of as σ H ((ev sem c en).bind fun d => match en.at i with
        | .o x => (ev sem k en).bind fun y => (putD x y d).noE.bind fun z => .ok (.nx (en.put i (.o z)))
        | _ => .bad) := q
      refine sE r q fun d v H1 s1 rv q1 => ?_
      cases ei : en.at i with
      | u => rw [ei] at q1; exact q1.elim
      | v d => rw [ei] at q1; exact q1.elim
      | o x =>
        rw [ei] at q1
        obtain ⟨p, g1, g2, g3⟩ := (r.same s1).own i x ei
        refine ⟨.ref p, g1, sE (r.same s1) q1 fun y vy H2 s2 ry q2 => ?_⟩
        cases ez : putD x y d with
        | err c xs => rw [ez] at q2; exact q2.elim
        | bad => rw [ez] at q2; exact q2.elim
        | ok z =>
          rw [ez] at q2
          have r2 := (r.same s1).same s2
          obtain ⟨ob, o1, o2⟩ := put_own g2 (g3.same s2) ry (DS.same s2 rv) ez
          refine o2 _ (q2 σ Of _ ⟨fun b o eb nb => ?_, fun b hb => .inl hb⟩ (r2.mut ei g1 g2 o1) rfl)
          rw [upd_ne (fun z => nb (by rw [z]; exact g2))]
          exact eb
  | _ => cases h
theorem bindT_no : ∀ {tg : C} {d : D} {en : En} {c : Nat} {xs : List D}, bindT tg d en ≠ .err c xs := by
  intro tg
  induction tg with
  | var i => intro d en c xs h; cases h
  | tup es ih => intro d en c xs h; cases d with
    | tuple ys => exact ih h
    | _ => cases h
  | nil => intro d en c xs h; cases d with
    | list ys => cases ys <;> cases h
    | _ => cases h
  | cons a r iha ihr => intro d en c xs h; cases d with
    | list ys => cases ys with
      | nil => cases h
      | cons y ys =>
        rcases Res.bind_err (show (bindT a y en).bind _ = .err c xs from h) with h | ⟨e1, _, h⟩
        · exact iha h
        · exact ihr h
    | _ => cases h
  | _ => intro d en c xs h; cases h
theorem all_in {tg : C} (h : ((slots tg).all fun i => decide (i ∈ as)) = true) : ∀ i ∈ slots tg, i ∈ as := fun i hi => of_decide_eq_true (List.all_eq_true.mp h i hi)
theorem swapped_par {x y u : Str} {px py pu pt pt2 : Pos} {kt k2} {b : Expr} {env : Env} (hk : env.blockKind = .function) (hx : env.kindOf x = some .local) (hy : env.kindOf y = some .local) (hl : (px.line == py.line) = true) (hxy : x ≠ y) (hu : (u == ("__debug__" : Str)) = false) (hb : notStar b = true) :
    swappedStores [.Tuple [.Name x px, .Name y py] kt pt] (.Tuple [.Name u pu, b] k2 pt2) env = pure (some [x, y]) := by
  have l1 : (py.line == px.line) = true := by rw [beq_iff_eq] at hl ⊢; exact hl.symm
  have l0 : (px.line == px.line) = true := by rw [beq_iff_eq]
  have hxy' : (y == x) = false := beq_eq_false_iff_ne.mpr hxy.symm
  have hxy2 : (x == y) = false := beq_eq_false_iff_ne.mpr hxy
  have k1 : (env.kindOf x == some .local) = true := by rw [hx]; rfl
  have k2' : (env.kindOf y == some .local) = true := by rw [hy]; rfl
  have kk : (env.blockKind != .function) = false := by rw [hk]; rfl
  have st : ([Expr.Name u pu, b].any fun | .Starred .. => true | _ => false) = false := by
    cases b <;> first | rfl | cases hb
  have nm : ([Expr.Name x px, Expr.Name y py].filterMap fun
    | .Name id pos => if env.kindOf id == some .local && pos.line == (([Expr.Name x px, Expr.Name y py].head?.map (·.pos.line)).getD 0) then some id else none
    | _ => none) = [x, y] := by
    have pz : (([Expr.Name x px, Expr.Name y py].head?.map (·.pos.line)).getD 0) = px.line := rfl
    have le : py.line = px.line := beq_iff_eq.mp l1
    rw [pz]
    simp [hx, hy, le]
  have ed : ([x, y].eraseDups).length = 2 := by
    rw [List.eraseDups_cons]
    simp [hxy', hxy2, List.eraseDups_cons]
  have f1 : ([Expr.Name u pu, b].all (foldedForSure 8)) = false := rfl
  have f2 : ([Expr.Name u pu, b].all (constantsAlone 8)) = false := by
    show ((u == ("__debug__" : Str)) && _) = false
    rw [hu]; rfl
  unfold swappedStores
  dsimp only
  refine (if_neg ?_).trans ?_
  · rw [kk]
    exact fun z => Bool.false_ne_true z
  refine (if_neg fun z => Bool.false_ne_true (st.symm.trans z)).trans ?_
  refine (if_neg ?_).trans ?_
  · intro z
    have z : (([Expr.Name x px, Expr.Name y py].filterMap fun
    | .Name id pos => if env.kindOf id == some .local && pos.line == (([Expr.Name x px, Expr.Name y py].head?.map (·.pos.line)).getD 0) then some id else none
    | _ => none).length != 2 || (([Expr.Name x px, Expr.Name y py].filterMap fun
    | .Name id pos => if env.kindOf id == some .local && pos.line == (([Expr.Name x px, Expr.Name y py].head?.map (·.pos.line)).getD 0) then some id else none
    | _ => none).eraseDups).length != ([Expr.Name x px, Expr.Name y py].filterMap fun
    | .Name id pos => if env.kindOf id == some .local && pos.line == (([Expr.Name x px, Expr.Name y py].head?.map (·.pos.line)).getD 0) then some id else none
    | _ => none).length) = true := z
    rw [nm, ed] at z
    cases z
  refine (if_neg fun z => Bool.false_ne_true (f1.symm.trans z)).trans ?_
  refine (if_neg fun z => Bool.false_ne_true (f2.symm.trans z)).trans ?_
  exact congrArg (fun l => pure (some l)) nm
theorem no_swapped2 {e : Expr} {ts : List Expr} {p : Pos} {env : Env} {c} {sr : Scope} (hs : env.scope = sr) (h : notLoc sr ts = true) : swappedStores [.Tuple ts c p] e env = pure none := by
  cases e with
  | Tuple vs k q =>
    unfold swappedStores
    dsimp only
    by_cases c1 : (!(ts.length == 2 || ts.length == 3) || vs.length != ts.length || env.blockKind != .function) = true
    · exact if_pos c1
    · refine (if_neg c1).trans ?_
      by_cases c2 : (vs.any fun | .Starred .. => true | _ => false) = true
      · exact if_pos c2
      · refine (if_neg c2).trans ?_
        refine if_pos ?_
        rw [Bool.or_eq_true]
        left
        obtain ⟨t, ht, hf⟩ := List.any_eq_true.mp h
        refine bne_iff_ne.mpr (Nat.ne_of_lt (List.length_filterMap_lt_length_iff_exists.mpr ⟨t, ht, ?_⟩))
        cases t with
        | Name id q =>
          have hf : (!decide (sr.names.lookup id = some .local)) = true := hf
          rw [Bool.not_eq_true', decide_eq_false_iff_not, ← hs] at hf
          refine if_neg fun z => ?_
          rw [Bool.and_eq_true] at z
          exact hf (beq_iff_eq.mp z.1)
        | _ => rfl
  | _ => rfl
theorem sp_par {i j : Nat} {es : C} {x y u : Str} {px py pu pt pt2 pos : Pos} {kt k2} {b : Expr} (G : Gd T sem n N X k so sr W) (hij : i ≠ j) (hxy : x ≠ y) (n1 : nmB N as so sr i x = true) (n2 : nmB N as so sr j y = true) (hx : sr.names.lookup x = some .local) (hy : sr.names.lookup y = some .local) (hk : sr.kind = .function) (hl : (px.line == py.line) = true) (hu : (u == ("__debug__" : Str)) = false) (hb : notStar b = true) (h5 : chkL n N false so sr es [.Name u pu, b] = true) :
    PS X (.Assign [.Tuple [.Name x px, .Name y py] kt pt] (.Tuple [.Name u pu, b] k2 pt2) pos) (tP T sem W as (.sett (.tup (.cons (.var i) (.cons (.var j) .nil))) (.tup es))) := by
  obtain ⟨a1, _, _, a4⟩ := nm_get G n1
  obtain ⟨b1, _, _, b4⟩ := nm_get G n2
  have nd : X.N.Nodup := by rw [G.hN]; exact G.nd
  have hk' : X.env.scope.kind = .function := by rw [G.sc]; exact hk
  have hb' : X.env.blockKind = .function := by unfold Env.blockKind; rw [hk']; rfl
  have hx' : X.env.scope.names.lookup x = some .local := by rw [G.sc]; exact hx
  have hy' : X.env.scope.names.lookup y = some .local := by rw [G.sc]; exact hy
  refine ps_mono (ps_par G.calm nd a1 b1 hij hx' hy' ((sd_all es).l false X k so sr W G _ h5) (swapped_par hb' hx' hy' hl hxy hu hb) (sole_no rfl)) fun D σ H ⟨Oc, Of, en, r, q⟩ => ?_
  have q : okF D T W Oc Of as σ H ((ev sem es en).bind fun l => (bindT (.tup (.cons (.var i) (.cons (.var j) .nil))) (.tuple (asL l)) en).bind fun e1 => .ok (.nx e1)) := by
    have e : ex sem (.sett (.tup (.cons (.var i) (.cons (.var j) .nil))) (.tup es)) en = (ev sem es en).bind fun l => (bindT (.tup (.cons (.var i) (.cons (.var j) .nil))) (.tuple (asL l)) en).bind fun e1 => .ok (.nx e1) := by
      show ((ev sem es en).bind fun l => Res.ok (PyData.tuple (asL l))).bind _ = _
      cases ev sem es en <;> rfl
    rw [← e]
    exact q
  refine sA r h5 q fun d vs H1 s1 rv hlen q1 => ?_
  match he : asL d, hlen with
  | [d1, d2], _ =>
    rw [he] at rv q1
    cases rv with
    | cons r1 rv =>
      cases rv with
      | cons r2 rv =>
        cases rv
        exact ⟨_, _, rfl, q1 _ Of H1 .refl (((r.same s1).put i r1).put j r2) ((wipe_set b4).trans (wipe_set a4))⟩
theorem sp_sett {tg c : C} : SndP T sem n N (.sett tg c) := by
  refine sp_one (fun X k so sr W as G hp s h => ?_) fun _ _ _ _ => rfl
  cases s with
  | Assign ts e pos =>
    match ts, h with
    | [.Tuple l kk p], h =>
      have h : (((noTup e || notLoc sr l) && noComp e && chkT N so sr tg (.Tuple l kk p) && ((slots tg).all fun i => decide (i ∈ as)) && chkE n N false so sr c e) || parB n N as so sr tg c l e) = true := h
      rw [Bool.or_eq_true] at h
      rcases h with h | h
      rotate_left
      · unfold parB at h
        split at h
        · rename_i a b _ _ _ _
          simp only [Bool.and_eq_true, decide_eq_true_eq] at h
          obtain ⟨⟨⟨⟨⟨⟨⟨⟨⟨⟨g1, g2⟩, g3⟩, g4⟩, g5⟩, g6⟩, g7⟩, g8⟩, g9⟩, g10⟩, g11⟩ := h
          cases a with
          | Name u pu => exact sp_par G g1 g2 g3 g4 g5 g6 g7 g8 (by unfold isNm at g9; rwa [Bool.not_eq_true'] at g9) g10 g11
          | _ => cases g9
        · cases h
      rw [Bool.and_eq_true, Bool.and_eq_true, Bool.and_eq_true, Bool.and_eq_true] at h
      obtain ⟨⟨⟨⟨h1, h2⟩, h3⟩, h4⟩, h5⟩ := h
      refine ps_mono (ps_asg ((sd_all c).e false X k so sr W G e h5).1 (pg_T G h3) (sole_no h2) ((Bool.or_eq_true _ _ ▸ h1 : noTup e = true ∨ notLoc sr l = true).elim (fun h1 => no_swapped (k := 0) h1) fun h1 => no_swapped2 G.sc h1)) fun D σ H ⟨Oc, Of, en, r, q⟩ => sE r q fun d v H1 s1 rv q1 => ?_
      cases e : bindT tg d en with
      | ok e1 =>
        rw [e] at q1
        exact ⟨Oc, Of, en, d, e1, r.same s1, rv, e, fun σ' r' hw => q1 σ' Of H1 .refl r' (hw as (all_in h4))⟩
      | err c xs => exact absurd e bindT_no
      | bad => rw [e] at q1; exact q1.elim
  | _ => cases h
theorem app_red {i : Nat} {c : C} {K : PySem.W.Frag} (h : tP T sem W as (.app i c) E σ H) : tDrop (tBM K "list" rAppend (tVar i) (tCons (tE T sem false W c) tNil)) E σ H := by
  obtain ⟨Oc, Of, en, r, q⟩ := h
  have q : okF E T W Oc Of as σ H (match en.at i with
    | .o (.list xs) => (ev sem c en).bind fun d => if xs.length < lim then .ok (.nx (en.put i (.o (.list (xs ++ [d]))))) else .bad
    | _ => .bad) := q
  cases e : en.at i with
  | o d =>
    rw [e] at q
    cases d with
    | list xs =>
      obtain ⟨p, h1, h2, h3⟩ := r.own i _ e
      cases h3 with
      | lst hp t l =>
        rename_i vs
        refine ⟨.ref p, h1, .inl ⟨rfl, vs, .inl (.inl hp)⟩, sE r q fun d v H1 s1 rv q1 => ?_⟩
        have lv := t.length
        by_cases hx : xs.length < lim
        · have q1 : okF E T W Oc Of as σ H1 (if xs.length < lim then .ok (.nx (en.put i (.o (.list (xs ++ [d]))))) else .bad) := q1
          rw [if_pos hx] at q1
          have np : p ∉ Oc := r.dj p h2
          have st : ∀ b u, H1 b = some u → b ∉ Oc ++ Of → upd H1 p (.lst (vs ++ [v])) b = some u ∧ b ∉ Oc ++ Of := fun b u hb hn => ⟨by
            rw [upd_ne (fun z => hn (List.mem_append_right _ (by rw [z]; exact h2)))]; exact hb, hn⟩
          refine ⟨p, vs, v, rfl, rfl, s1 _ _ hp, by rw [lv]; exact Nat.lt_of_lt_of_le hx lim_le, q1 σ Of _ ⟨fun b o eb nb => ?_, fun b hb => .inl hb⟩ ((r.same s1).mut e h1 h2 (.lst upd_same (((t.same s1).append (.cons rv .nil)).step st) ?_)) rfl⟩
          · rw [upd_ne (fun z => nb (by rw [z]; exact h2))]; exact eb
          · rw [List.length_append]; exact hx
        · have q1 : okF E T W Oc Of as σ H1 (if xs.length < lim then .ok (.nx (en.put i (.o (.list (xs ++ [d]))))) else .bad) := q1
          rw [if_neg hx] at q1
          exact q1.elim
    | _ => exact q.elim
  | u => rw [e] at q; exact q.elim
  | v d => rw [e] at q; exact q.elim
theorem sp_app {i : Nat} {c : C} : SndP T sem n N (.app i c) := by
  refine sp_one (fun X k so sr W as G hp s h => ?_) fun _ _ _ _ => rfl
  cases s with
  | Expr e pos =>
    match e, h with
    | .Call (.Attribute (.Name x p1) a ap) [e] [] cp, h =>
      have h : (decide (a = "append") && varB N sr i x && chkE n N false so sr c e && notStar e && (ap.endLine == cp.line)) = true := h
      simp only [Bool.and_eq_true, decide_eq_true_eq] at h
      obtain ⟨⟨⟨⟨rfl, h2⟩, h3⟩, h4⟩, h5⟩ := h
      have pa := pa_cons ((sd_all c).e false X k so sr W G e h3).1 pa_nil (star_cons h4)
      refine ps_mono (ps_expr (pe_bm PySem.F.plainAttrs_list PySem.F.slot_list_append PySem.F.type_list_append mt_append (G.var h2) pa (by rfl) (by rw [star_cons h4]; rfl) h5 (star_cons h4) rfl) (no_swap rfl)) fun D σ H z => app_red z
  | _ => cases h
theorem extD_ok {xs : List D} {d z : D} (h : extD xs d = .ok z) : ∃ ys, (d = .list ys ∨ d = .tuple ys) ∧ xs.length + ys.length ≤ lim ∧ z = .list (xs ++ ys) := by
  cases d with
  | list ys =>
    have h : (if xs.length + ys.length ≤ lim then Res.ok (PyData.list (xs ++ ys)) else .bad) = .ok z := h
    split at h
    · rename_i hl
      cases h
      exact ⟨ys, .inl rfl, hl, rfl⟩
    · cases h
  | tuple ys =>
    have h : (if xs.length + ys.length ≤ lim then Res.ok (PyData.list (xs ++ ys)) else .bad) = .ok z := h
    split at h
    · rename_i hl
      cases h
      exact ⟨ys, .inr rfl, hl, rfl⟩
    · cases h
  | _ => cases h
theorem ext_red {i : Nat} {c : C} {K : PySem.W.Frag} (h : tP T sem W as (.ext i c) E σ H) : tDrop (tBM K "list" rExt (tVar i) (tCons (tE T sem false W c) tNil)) E σ H := by
  obtain ⟨Oc, Of, en, r, q⟩ := h
  have q : okF E T W Oc Of as σ H (match en.at i with
    | .o (.list xs) => (ev sem c en).bind fun d => (extD xs d).noE.bind fun z => .ok (.nx (en.put i (.o z)))
    | _ => .bad) := q
  cases e : en.at i with
  | o d =>
    rw [e] at q
    cases d with
    | list xs =>
      obtain ⟨p, h1, h2, h3⟩ := r.own i _ e
      cases h3 with
      | lst hp t l =>
        rename_i vs
        refine ⟨.ref p, h1, .inl ⟨rfl, vs, .inl (.inl hp)⟩, sE r q fun d v H1 s1 rv q1 => ?_⟩
        have lv := t.length
        cases ez : extD xs d with
        | err c xs => rw [ez] at q1; exact q1.elim
        | bad => rw [ez] at q1; exact q1.elim
        | ok z =>
          rw [ez] at q1
          obtain ⟨ys, hd, hl, rfl⟩ := extD_ok ez
          have hlim := lim_le
          have key : ∀ (b : Addr) (ws : List V), v = .ref b → (Rd H1 b (.lst ws) ∨ H1 b = some (.tup ws)) → DSs (Oc ++ Of) H1 ws ys → rExt (.ref p) [v] H1 (fun _ H2 => E.nx σ H2) := fun b ws ev hb tw => by
            have lw := tw.length
            have st : ∀ b u, H1 b = some u → b ∉ Oc ++ Of → upd H1 p (.lst (vs ++ ws)) b = some u ∧ b ∉ Oc ++ Of := fun b u hb hn => ⟨by
              rw [upd_ne (fun z => hn (List.mem_append_right _ (by rw [z]; exact h2)))]; exact hb, hn⟩
            refine ⟨p, b, vs, ws, rfl, by rw [ev], s1 _ _ hp, hb, by omega, q1 σ Of _ ⟨fun b o eb nb => ?_, fun b hb => .inl hb⟩ ((r.same s1).mut e h1 h2 (.lst upd_same (((t.same s1).append tw).step st) ?_)) rfl⟩
            · rw [upd_ne (fun z => nb (by rw [z]; exact h2))]; exact eb
            · rw [List.length_append]; exact hl
          rcases hd with rfl | rfl
          · obtain ⟨b, ws, ev, g1, _, g3, _, _⟩ := DS.i_list rv
            exact key b ws ev (.inl g1) g3
          · obtain ⟨b, ws, ev, g1, _, g3, _, _⟩ := DS.i_tuple rv
            exact key b ws ev (.inr g1) g3
    | _ => exact q.elim
  | u => rw [e] at q; exact q.elim
  | v d => rw [e] at q; exact q.elim
theorem sp_ext {i : Nat} {c : C} : SndP T sem n N (.ext i c) := by
  refine sp_one (fun X k so sr W as G hp s h => ?_) fun _ _ _ _ => rfl
  cases s with
  | Expr e pos =>
    match e, h with
    | .Call (.Attribute (.Name x p1) a ap) [e] [] cp, h =>
      have h : (decide (a = "extend") && varB N sr i x && chkE n N false so sr c e && notStar e && (ap.endLine == cp.line)) = true := h
      simp only [Bool.and_eq_true, decide_eq_true_eq] at h
      obtain ⟨⟨⟨⟨rfl, h2⟩, h3⟩, h4⟩, h5⟩ := h
      have pa := pa_cons ((sd_all c).e false X k so sr W G e h3).1 pa_nil (star_cons h4)
      refine ps_mono (ps_expr (pe_bm PySem.F.plainAttrs_list PySem.F.slot_list_extend PySem.F.type_list_extend m_extend (G.var h2) pa (by rfl) (by rw [star_cons h4]; rfl) h5 (star_cons h4) rfl) (no_swap rfl)) fun D σ H z => ext_red z
  | _ => cases h
/-- a statement that is not reached -/
theorem sp_na : SndP T sem n N .na := by
  refine sp_one (fun X k so sr W as G hp s h => ⟨fun pins s' σ H D I q => ?_⟩) fun _ _ _ _ => rfl
  obtain ⟨Oc, Of, en, r, q⟩ := q
  exact q.elim

/-! ### loops -/
theorem for_red {tg src body : C} (hs : ∀ i ∈ slots tg, i ∈ as) (h : tP T sem W as (.for_ tg src body) E σ H) : tFor (tI T sem false W src) (gT tg) (tP T sem W as body) E σ H := by
  obtain ⟨Oc, Of, en, r, q⟩ := h
  have q : okF E T W Oc Of as σ H ((ev sem src en).bind fun s => (itemsD s).bind fun xs => forL (fun x e1 => (bindT tg x e1).bind fun e2 => ex sem body e2) xs en) := q
  rw [← bind_assoc] at q
  refine ⟨Oc, Of, en, r, ?_⟩
  cases e : (ev sem src en).bind itemsD with
  | err c xs => rw [e] at q; exact ok_err r q
  | bad => rw [e] at q; exact q
  | ok ds =>
    rw [e] at q
    have q : okF E T W Oc Of as σ H (forL (fun x e1 => (bindT tg x e1).bind fun e2 => ex sem body e2) ds en) := q
    intro J H1 hl s1 hJ
    refine ⟨fun i m σ' H' => m = ds.length - i ∧ i ≤ ds.length ∧ ∃ Of' e', Stp Of H1 Of' H' ∧ Rep Oc Of' σ' H' e' ∧ wipe σ' as = wipe σ as ∧ okF E T W Oc Of' as σ' H' (forL (fun x e1 => (bindT tg x e1).bind fun e2 => ex sem body e2) (ds.drop i) e'),
      ⟨ds.length, by simp, Nat.zero_le _, Of, en, .refl, r.same s1, rfl, q.same s1⟩, ?_⟩
    rintro i m σ2 H2 ⟨rfl, hi, Of2, e2, st, r2, hw, q2⟩
    have hIt := hJ Of2 H2 st
    by_cases hlt : i < ds.length
    · refine .inr ⟨hIt.1 i hlt, fun σ' H' => ∃ Of' e', Stp Of H1 Of' H' ∧ Rep Oc Of' σ' H' e' ∧ wipe σ' as = wipe σ as ∧ okF E T W Oc Of' as σ' H' (forL (fun x e1 => (bindT tg x e1).bind fun e2 => ex sem body e2) (ds.drop (i + 1)) e'), fun σ' H' hN => ⟨ds.length - (i + 1), by omega, rfl, hlt, hN⟩, fun x H3 hyl => ?_⟩
      obtain ⟨e3, hx⟩ := hIt.2.2 i x H3 hyl
      subst e3
      have dx := hx ds[i] (List.getElem?_eq_getElem hlt)
      rw [List.drop_eq_getElem_cons hlt] at q2
      have q2 : okF E T W Oc Of2 as σ2 H3 (((bindT tg ds[i] e2).bind fun e2 => ex sem body e2).bind fun w => match w with
        | .nx e1 => forL (fun x e1 => (bindT tg x e1).bind fun e2 => ex sem body e2) (ds.drop (i + 1)) e1
        | .ct e1 => forL (fun x e1 => (bindT tg x e1).bind fun e2 => ex sem body e2) (ds.drop (i + 1)) e1
        | .bk e1 => .ok (.nx e1)
        | .rt d => .ok (.rt d)) := q2
      cases eb : bindT tg ds[i] e2 with
      | err c xs => exact absurd eb bindT_no
      | bad => rw [eb] at q2; exact q2.elim
      | ok e3 =>
        rw [eb, Res.ok_bind] at q2
        refine ⟨Oc, Of2, e2, ds[i], e3, r2, dx, eb, fun σ3 r3 hw3 => ⟨Oc, Of2, e3, r3, ?_⟩⟩
        have w3 := hw3 as hs
        have q3 := okF.step (.refl) w3 q2
        cases ee : ex sem body e3 with
        | err c xs => rw [ee] at q3; exact q3
        | bad => rw [ee] at q3; exact q3
        | ok w =>
          rw [ee] at q3
          cases w with
          | nx e4 => exact fun σ4 Of4 H4 st4 r4 hw4 => ⟨Of4, e4, st.trans st4, r4, hw4.trans (w3.trans hw), okF.step st4 hw4 q3⟩
          | ct e4 => exact fun σ4 Of4 H4 st4 r4 hw4 => ⟨Of4, e4, st.trans st4, r4, hw4.trans (w3.trans hw), okF.step st4 hw4 q3⟩
          | bk e4 => exact q3
          | rt d => exact q3
    · have ei : i = ds.length := by omega
      subst ei
      rw [List.drop_length] at q2
      exact .inl ⟨hIt.2.1 _ (Nat.le_refl _), q2 σ2 Of2 H2 .refl r2 rfl⟩
theorem sp_for {tg src body : C} (hb : SndP T sem n N body) : SndP T sem n N (.for_ tg src body) := by
  refine sp_one (fun X k so sr W as G hp s h => ?_) fun _ _ _ _ => rfl
  cases s with
  | For t it l els p =>
    cases els with
    | cons _ _ => cases h
    | nil =>
      have h : (chkS n N false so sr src it && notSet it && chkT N so sr tg t && ((slots tg).all fun i => decide (i ∈ as)) && chkB n N as so sr body l) = true := h
      simp only [Bool.and_eq_true] at h
      obtain ⟨⟨⟨⟨h1, h2⟩, h3⟩, h4⟩, h5⟩ := h
      exact ps_mono (ps_for hp.po G.calm ((sd_all src).s false X k so sr W G t it h1) (pg_T G h3) (hb.blk X k so sr W as G hp l h5) fun x => not_set h2 x) fun D σ H z => for_red (all_in h4) z
  | _ => cases h
theorem whl_red {t body : C} (h : tP T sem W as (.whl t body) E σ H) : tWhile (tT T sem W t) (tP T sem W as body) E σ H := by
  obtain ⟨Oc, Of, en, r, q⟩ := h
  have q : okF E T W Oc Of as σ H (whlN (fun e1 => (ev sem t e1).bind fun x => .ok (truth x)) (fun e1 => ex sem body e1) lim en) := q
  refine ⟨fun m σ' H' => ∃ Of' e', Stp Of H Of' H' ∧ Rep Oc Of' σ' H' e' ∧ wipe σ' as = wipe σ as ∧ okF E T W Oc Of' as σ' H' (whlN (fun e1 => (ev sem t e1).bind fun x => .ok (truth x)) (fun e1 => ex sem body e1) m e'), ⟨lim, Of, en, .refl, r, rfl, q⟩, ?_⟩
  rintro m σ2 H2 ⟨Of2, e2, st, r2, hw, q2⟩
  cases m with
  | zero => exact q2.elim
  | succ m =>
    have q2 : okF E T W Oc Of2 as σ2 H2 (((ev sem t e2).bind fun x => .ok (truth x)).bind fun b => if b then (ex sem body e2).bind fun w => match w with
      | .nx e1 => whlN (fun e1 => (ev sem t e1).bind fun x => .ok (truth x)) (fun e1 => ex sem body e1) m e1
      | .ct e1 => whlN (fun e1 => (ev sem t e1).bind fun x => .ok (truth x)) (fun e1 => ex sem body e1) m e1
      | .bk e1 => .ok (.nx e1)
      | .rt d => .ok (.rt d)
      else .ok (.nx e2)) := q2
    rw [bind_assoc] at q2
    refine sT r2 q2 fun d H3 s3 q3 => ?_
    rw [Res.ok_bind] at q3
    cases e : truth d with
    | false => rw [e, if_neg Bool.false_ne_true] at q3; rw [if_neg Bool.false_ne_true]; exact q3 σ2 Of2 H3 .refl (r2.same s3) rfl
    | true =>
      rw [e, if_pos rfl] at q3
      rw [if_pos rfl]
      refine ⟨fun σ' H' => ∃ Of' e', Stp Of H Of' H' ∧ Rep Oc Of' σ' H' e' ∧ wipe σ' as = wipe σ as ∧ okF E T W Oc Of' as σ' H' (whlN (fun e1 => (ev sem t e1).bind fun x => .ok (truth x)) (fun e1 => ex sem body e1) m e'), fun σ' H' hN => ⟨m, Nat.lt_succ_self m, hN⟩, Oc, Of2, e2, r2.same s3, ?_⟩
      have st3 := st.trans (Stp.same s3)
      cases ee : ex sem body e2 with
      | err c xs => rw [ee] at q3; exact q3
      | bad => rw [ee] at q3; exact q3
      | ok w =>
        rw [ee] at q3
        cases w with
        | nx e4 => exact fun σ4 Of4 H4 st4 r4 hw4 => ⟨Of4, e4, st3.trans st4, r4, hw4.trans hw, okF.step st4 hw4 q3⟩
        | ct e4 => exact fun σ4 Of4 H4 st4 r4 hw4 => ⟨Of4, e4, st3.trans st4, r4, hw4.trans hw, okF.step st4 hw4 q3⟩
        | bk e4 => exact q3
        | rt d => exact q3
theorem sp_whl {t body : C} (hb : SndP T sem n N body) : SndP T sem n N (.whl t body) := by
  refine sp_one (fun X k so sr W as G hp s h => ?_) fun _ _ _ _ => rfl
  cases s with
  | While c l els p =>
    cases els with
    | cons _ _ => cases h
    | nil =>
      have h : (chkE n N true so sr t c && chkB n N as so sr body l) = true := h
      rw [Bool.and_eq_true] at h
      exact ps_mono (ps_while hp.po ((sd_all t).e true X k so sr W G c h.1).2 (hb.blk X k so sr W as G hp l h.2)) fun D σ H z => whl_red z
  | _ => cases h
end
end SQ

/-! SqExc: raise, try .. except .. as: what ex reckons is what the machine does. -/
set_option maxHeartbeats 4000000
namespace SQ
open PySem PySem.Spec PyProof.Rows L2
variable [TabsC]

section
variable {T : Tb} {sem : Nat → List D → Res D} {n : Nms} {N : List Str}
variable {X : Cx} {W : WX} {k : Nat} {so sr : Scope} {σ : L2.St} {H : Hp} {E : Ends} {Oc Of : List Addr} {as : List Nat} {en : En}

/-! ### raise C(..) -/
theorem rse_red {K : PySem.W.Frag} {c : Nat} {es : C} {l : List Expr} {fs : List Str} (hl : chkL n N false so sr es l = true) (hlen : l.length = fs.length) (h10 : fs.length ≤ 10) (nd : fs.Nodup) (ht : T.en c = fs) (O : OexC K (T.ea c)) (h : tP T sem W as (.rse c es) E σ H) :
    tMkO (T.ea c) (spI K (T.ea c) fs) [] (tA T sem false W es) σ H fun cls d H' => W cls d σ H' := by
  obtain ⟨Oc, Of, en, r, q⟩ := h
  have q : okF E T W Oc Of as σ H ((ev sem es en).bind fun l => .err c (asL l)) := q
  refine sA r hl q fun d vs H1 s1 rv len q1 => ⟨by rw [rv.length, len]; omega, fun a ha => ?_⟩
  have tw := rv.dss
  have hvl : (vs ++ []).length = fs.length := by rw [List.append_nil, rv.length, len, hlen]
  refine ⟨a, vs ++ [], rfl, hvl, O, upd_same, fun dx H2 g1 g2 g3 g4 g5 => ⟨rfl, dx, _, g3, g4, ?_, ?_⟩⟩
  · rw [upd_ne g2] at g1; exact g1
  · have hd : H1 dx = none := by rw [upd_ne g2] at g1; exact g1
    have e : upd (del H2 a) dx (.xd (fs.zip (vs ++ [])).reverse) = upd H1 dx (.xd (fs.zip (vs ++ [])).reverse) := by
      funext b
      by_cases h1 : b = dx
      · rw [h1, upd_same, upd_same]
      · rw [upd_ne h1, upd_ne h1]
        by_cases h2 : b = a
        · rw [h2, del_same, ha]
        · rw [del_ne h2, g5 b h2 h1, upd_ne h2]
    rw [e]
    refine q1 _ _ σ _ Of (.same (same_new hd)) ((r.same s1).th.same (same_new hd)) r.dj rfl ⟨rfl, dx, _, rfl, upd_same, by rw [ht, len, hlen], fun p hp => ?_⟩
    rw [ht] at hp
    obtain ⟨i, hi⟩ := List.getElem?_of_mem hp
    rw [List.getElem?_zip_eq_some] at hi
    obtain ⟨v, v1, v2⟩ := tw.get hi.2
    refine ⟨v, binds_get nd hi.1 (by rw [List.append_nil]; exact v1) hvl, (v2.sub (O' := []) fun b hb => by cases hb).same (same_new hd)⟩
theorem sp_rse {c : Nat} {es : C} : SndP T sem n N (.rse c es) := by
  refine sp_one (fun X k so sr W as G hp s h => ?_) fun _ _ _ _ => rfl
  cases s with
  | Raise e f p =>
    match e, f, h with
    | some (.Call (.Name x p1) l [] p2), none, h =>
      have h : ((match (generalizing := false) n.ex.lookup x with
        | some (c', fs) => decide (c' = c) && decide (l.length = fs.length)
        | none => false) && glB sr x && chkL n N false so sr es l && !l.isEmpty) = true := h
      simp only [Bool.and_eq_true] at h
      obtain ⟨⟨⟨h1, h2⟩, h3⟩, h4⟩ := h
      cases ex : n.ex.lookup x with
      | none => rw [ex] at h1; cases h1
      | some cf =>
        obtain ⟨c', fs⟩ := cf
        rw [ex] at h1
        have h1 : (decide (c' = c) && decide (l.length = fs.length)) = true := h1
        rw [Bool.and_eq_true, decide_eq_true_eq, decide_eq_true_eq] at h1
        obtain ⟨rfl, hlen⟩ := h1
        have Z := G.ex x c' fs ex
        obtain ⟨fI, fd, ps, z1, z2, z3, z4⟩ := Z.ini
        obtain ⟨g1, g2⟩ := G.gl h2
        cases l with
        | nil => cases h4
        | cons e l =>
          have st := chkL_star h3
          have ks := G.k2
          have mk : PMk X (.Call (.Name x p1) (e :: l) [] p2) (tMkO (T.ea c') (spI X.K (T.ea c') fs) [] (tA T sem false W es)) :=
            pmk_oex (CX := L2.CX X.prog X.w) (k := 1) (fd := fd) (ps := ps) (ds := []) (dvs := []) Z.oex z1 z2 z3 (G.room.mono (by omega)) z4 .nil (passes_call G.tk fun _ _ _ _ z => z.elim) g1 Z.gl ((sd_all es).l false X k so sr W G _ h3) g2
              (star_cons (st e List.mem_cons_self)) (star_none (w := false) fun e he => st e (List.mem_cons_of_mem _ he))
          exact ps_mono (ps_raise G.calm G.tk mk) fun D σ H z => rse_red h3 hlen Z.len Z.nd Z.en Z.oex z
  | _ => cases h

/-! ### try: return e, except C as x: return x.f -/
def fldT (a : Addr) (cls : Value) (d : Option Addr) (C : Addr) (j : Nat) (names : List Str) : List Nat → TA
  | [] => tNil
  | i :: r => tCons (tXf a cls d C (names.getD i "") (tVar j)) (fldT a cls d C j names r)
theorem chkF_get {nm : Str} {names : List Str} {i : Nat} {r : Expr} (h : chkF nm names i r = true) : ∃ p1 p2 f, r = .Attribute (.Name nm p1) f p2 ∧ names[i]? = some f := by
  unfold chkF at h
  split at h
  · rw [Bool.and_eq_true, decide_eq_true_eq, decide_eq_true_eq] at h
    obtain ⟨rfl, h2⟩ := h
    exact ⟨_, _, _, rfl, h2⟩
  · cases h
theorem flat_any {O O' : List Addr} {H H' : Hp} {v : V} {d : D} (hd : flatD d = true) (h : DS O H v d) : DS O' H' v d := by
  cases h <;> first | cases hd | skip
  · exact .int _
  · rename_i hx; exact .str _ hx
section
variable {a : Addr} {oe : Obj} {cls : Value} {d : Option Addr} {pn : List (Addr × Obj)} {C : Addr} {j : Nat} {nm : Str} {names : List Str}
theorem pe_fld (G : Gd T sem n N X k so sr W) (T2 : XfC X.K C) (own : ∀ f ∈ names, PySem.W.findIn X.K (.ref C) f = some none) (hz : Zc cls d oe) (hf : ∃ vs, oe.data = .fields vs) (hv : varB N sr j nm = true) {i : Nat} {r : Expr} (h : chkF nm names i r = true) :
    PE (X.suite a ((a, oe) :: pn)) r (tXf a cls d C (names.getD i "") (tVar j)) ∧ notStar r = true := by
  obtain ⟨p1, p2, f, rfl, e⟩ := chkF_get h
  have e2 : names.getD i "" = f := by rw [List.getD_eq_getElem?_getD, e]; rfl
  rw [e2]
  exact ⟨pe_xf T2 (own f (List.mem_of_getElem? e)) hz hf (var_of (X := X.suite a ((a, oe) :: pn)) G.hN G.sc hv), rfl⟩
theorem pa_fld (G : Gd T sem n N X k so sr W) (T2 : XfC X.K C) (own : ∀ f ∈ names, PySem.W.findIn X.K (.ref C) f = some none) (hz : Zc cls d oe) (hf : ∃ vs, oe.data = .fields vs) (hv : varB N sr j nm = true) : ∀ {fs : List Nat} {l : List Expr}, chkFs nm names fs l = true →
    PA (X.suite a ((a, oe) :: pn)) l (fldT a cls d C j names fs)
  | [], [], _ => pa_nil
  | [], _ :: _, h => by cases h
  | _ :: _, [], h => by cases h
  | i :: fs, e :: l, h => by
    have h : (chkF nm names i e && chkFs nm names fs l) = true := h
    rw [Bool.and_eq_true] at h
    obtain ⟨h1, h2⟩ := pe_fld (a := a) (pn := pn) G T2 own hz hf hv h.1
    exact pa_cons h1 (pa_fld G T2 own hz hf hv h.2) (star_cons h2)
/-- the fields of the exception that was caught -/
theorem fld_red {names : List Str} {c : Nat} {xs : List D} {H' : Hp} (ht : T.en c = names) (nd : names.Nodup) (hx : ExcIs T c xs cls d H') (hj : σ[j]? = some (some (.ref a))) {fs : List Nat} : ∀ {ds : List D} {Q : List V → Hp → Prop}, pickX xs fs = .ok ds → (∀ vs, DSs [] H' vs ds → (∀ d ∈ ds, flatD d = true) → Q vs H') → fldT a cls d (T.ea c) j names fs σ H' Q := by
  induction fs with
  | nil =>
    intro ds Q e q
    cases e
    exact q [] .nil fun _ h => by cases h
  | cons i fs ih =>
    intro ds Q e q
    have e : (match xs[i]? with
      | some d => if flatD d then (pickX xs fs).bind fun l => .ok (d :: l) else .bad
      | none => .bad) = Res.ok ds := e
    cases ei : xs[i]? with
    | none => rw [ei] at e; cases e
    | some x =>
      rw [ei] at e
      have e : (if flatD x then (pickX xs fs).bind fun l => .ok (x :: l) else .bad) = Res.ok ds := e
      by_cases fx : flatD x = true
      · rw [if_pos fx] at e
        obtain ⟨l, e1, e2⟩ := Res.bind_ok e
        cases e2
        have hx0 := hx
        obtain ⟨rfl, dd, fs', rfl, h3, h4, h5⟩ := hx
        rw [ht] at h4 h5
        have hi : i < names.length := by rw [h4]; exact (List.getElem?_eq_some_iff.mp ei).1
        have en : names[i]? = some names[i] := List.getElem?_eq_getElem hi
        have eg : names.getD i "" = names[i] := by rw [List.getD_eq_getElem?_getD, en]; rfl
        obtain ⟨v, v1, v2⟩ := h5 (names[i], x) (by
          refine List.mem_of_getElem? (i := i) ?_
          rw [List.getElem?_zip_eq_some]
          exact ⟨en, ei⟩)
        refine ⟨.ref a, hj, rfl, rfl, dd, fs', v, rfl, h3, by rw [eg]; exact v1, ih e1 fun vs t fl => q (v :: vs) (.cons v2 t) fun d hd => ?_⟩
        rcases List.mem_cons.mp hd with rfl | hd
        · exact fx
        · exact fl d hd
      · rw [if_neg fx] at e; cases e
end
theorem flats_any {O : List Addr} {H H' : Hp} : ∀ {vs : List V} {ds : List D}, DSs [] H vs ds → (∀ d ∈ ds, flatD d = true) → DSs O H' vs ds
  | _, _, .nil, _ => .nil
  | _, _, .cons h t, f => .cons (flat_any (f _ List.mem_cons_self) h) (flats_any t fun d hd => f d (List.mem_cons_of_mem _ hd))
theorem pickX_len {xs : List D} : ∀ {fs : List Nat} {ds : List D}, pickX xs fs = .ok ds → ds.length = fs.length
  | [], ds, e => by cases e; rfl
  | i :: fs, ds, e => by
    have e : (match xs[i]? with
      | some d => if flatD d then (pickX xs fs).bind fun l => .ok (d :: l) else .bad
      | none => .bad) = Res.ok ds := e
    split at e
    · split at e
      · obtain ⟨l, e1, e2⟩ := Res.bind_ok e
        cases e2
        rw [List.length_cons, List.length_cons, pickX_len e1]
      · cases e
    · cases e
/-- the readings of the body, of the suite -/
def tBody (T : Tb) (sem : Nat → List D → Res D) (a : C) (W : WX) : TS := tSeq (tRet (tE T sem false W a)) tNext
def tSui (j : Nat) (names : List Str) (fs : List Nat) (one : Bool) (C : Addr) (a : Addr) (cls : Value) (d : Option Addr) : TS := tSeq (tRet (if one then (match fs with
  | [i] => tXf a cls d C (names.getD i "") (tVar j)
  | _ => fun _ _ _ => False) else tTup (fldT a cls d C j names fs))) tNext
theorem oneX_no {one : Bool} {l : List D} {c : Nat} {xs : List D} : oneX one l ≠ .err c xs := by
  intro e
  cases one with
  | false => cases e
  | true =>
    match l, e with
    | [], e => cases e
    | [_], e => cases e
    | _ :: _ :: _, e => cases e
theorem tryr_red {K : PySem.W.Frag} {a : C} {c j : Nat} {fs : List Nat} {one : Bool} {names : List Str} (ht : T.en c = names) (nd : names.Nodup) (hj : j < σ.length) (ja : j ∈ as) (hfs : fs.length ≤ 10) (hex : PySem.W.exmOne K (.ref (T.ea c)) (.ref (T.ea c)) = some true) (h : tP T sem W as (.tryr a c j fs one) E σ H) :
    tBody T sem a (wAs K (.ref (T.ea c)) j (tSui j names fs one (T.ea c)) W E) E σ H := by
  obtain ⟨Oc, Of, en, r, q⟩ := h
  have q : okF E T W Oc Of as σ H (match ev sem a en with
    | .ok d => .ok (.rt d)
    | .err c' xs => if c' = c then (pickX xs fs).bind fun l => (oneX one l).bind fun d => .ok (.rt d) else .bad
    | .bad => .bad) := q
  refine ⟨Oc, Of, en, r, ?_⟩
  cases e : ev sem a en with
  | bad => rw [e] at q; exact q.elim
  | ok d => rw [e] at q; exact fun v H1 s1 rv => q v Of H1 (.same s1) rv
  | err c' xs =>
    rw [e] at q
    have q : okF E T W Oc Of as σ H (if c' = c then (pickX xs fs).bind fun l => (oneX one l).bind fun d => .ok (.rt d) else .bad) := q
    by_cases hc : c' = c
    · subst hc
      rw [if_pos rfl] at q
      intro cls d H1 s1 hx
      have ecl := hx.1
      refine ⟨true, by rw [ecl]; exact hex, fun _ b hb => ?_, fun z => nomatch z⟩
      have hjs : (σ.set j (some (.ref b)))[j]? = some (some (.ref b)) := List.getElem?_set_self hj
      cases ep : pickX xs fs with
      | err c2 x2 =>
        have : ∀ fs : List Nat, pickX xs fs ≠ .err c2 x2 := fun fs => by
          induction fs with
          | nil => intro e; cases e
          | cons i fs ih =>
            intro e
            have e : (match xs[i]? with
              | some d => if flatD d then (pickX xs fs).bind fun l => .ok (d :: l) else .bad
              | none => .bad) = Res.err c2 x2 := e
            split at e
            · split at e
              · rcases Res.bind_err e with e | ⟨_, _, e⟩
                · exact ih e
                · cases e
              · cases e
            · cases e
        exact absurd ep (this fs)
      | bad => rw [ep] at q; exact q.elim
      | ok ds =>
        rw [ep] at q
        have q : okF E T W Oc Of as σ H ((oneX one ds).bind fun d => .ok (.rt d)) := q
        have pl := pickX_len ep
        cases one with
        | true =>
          match fs, ds, pl, ep, q with
          | [i], [d0], _, ep, q =>
            have z : fldT b cls d (T.ea c') j names [i] (σ.set j (some (.ref b))) H1 (fun vs H2 => ∃ v, vs = [v] ∧ E.rt v H2) := fld_red ht nd hx hjs ep fun vs t fl => by
              cases t with
              | cons h1 t => cases t with
                | nil => exact ⟨_, rfl, q _ Of H1 (.same s1) (flat_any (fl d0 List.mem_cons_self) h1)⟩
            · obtain ⟨x, hx1, hx2, hx3, dd, f2, v, g1, g2, g3, g4⟩ := z
              obtain ⟨v', ev, g5⟩ := g4
              cases ev
              exact ⟨x, hx1, hx2, hx3, dd, f2, v, g1, g2, g3, g5⟩
          | [], [], _, _, q => exact q.elim
          | _ :: _ :: _, _ :: _ :: _, _, _, q => exact q.elim
        | false =>
          refine fld_red ht nd hx hjs ep fun vs t fl => ⟨?_, fun p hp => ?_⟩
          · rw [t.length, pl, sizeLine_eq]; omega
          · refine q (.ref p) Of _ (.same (s1.trans (same_new hp))) (.tup upd_same (fun z => ?_) (flats_any t fl) ?_)
            · exact (r.th.same s1).at_ p z hp
            · rw [pl]
              have : lim = 1000000 := rfl
              omega
    · rw [if_neg hc] at q; exact q.elim
def tryB (n : Nms) (N : List Str) (as : List Nat) (so sr : Scope) (a : C) (c j : Nat) (fs : List Nat) (one : Bool) (e : Expr) (x nm : Str) (r : Expr) : Bool := (match n.ex.lookup x with
      | some (c', names) => decide (c' = c) && (if one then (match fs with
        | [i] => chkF nm names i r
        | _ => false) else (match r with
        | .Tuple l _ _ => chkFs nm names fs l && decide (l.length ≤ 10)
        | _ => false))
      | none => false) && glB sr x && chkE n N false so sr a e && decide (N[j]? = some nm) && locB so nm && locB sr nm && decide (sr.names.lookup nm = some .local) && varB N sr j nm && decide (j ∈ as)
theorem tryr_get {a : C} {c j : Nat} {fs : List Nat} {one : Bool} {s : Stmt} (h : chk1 n N as so sr (.tryr a c j fs one) s = true) :
    ∃ e p1 x p2 nm r p3 p4 pos, s = .Try [.Return (some e) p1] [.ExceptHandler (some (.Name x p2)) (some nm) [.Return (some r) p3] p4] [] [] pos ∧ tryB n N as so sr a c j fs one e x nm r = true := by
  have h : (match (generalizing := false) s with
    | .Try [.Return (some e) _] [.ExceptHandler (some (.Name x _)) (some nm) [.Return (some r) _] _] [] [] _ => tryB n N as so sr a c j fs one e x nm r
    | _ => false) = true := h
  split at h
  · exact ⟨_, _, _, _, _, _, _, _, _, rfl, h⟩
  · cases h
theorem sp_tryr {a : C} {c j : Nat} {fs : List Nat} {one : Bool} : SndP T sem n N (.tryr a c j fs one) := by
  refine sp_one (fun X k so sr W as G hp s h => ?_) fun _ _ _ _ => rfl
  obtain ⟨e, p1, x, p2, nm, r, p3, p4, pos, rfl, h0⟩ := tryr_get h
  clear h
  have h := h0
  unfold tryB at h
  simp only [Bool.and_eq_true, decide_eq_true_eq] at h
  obtain ⟨⟨⟨⟨⟨⟨⟨⟨h1, h2⟩, h3⟩, h4⟩, h5⟩, h6⟩, h7⟩, h8⟩, h9⟩ := h
  cases ex : n.ex.lookup x with
  | none => rw [ex] at h1; cases h1
  | some cf =>
    obtain ⟨c', names⟩ := cf
    rw [ex] at h1
    have h1 : (decide (c' = c) && (if one then (match (generalizing := false) fs with
      | [i] => chkF nm names i r
      | _ => false) else (match (generalizing := false) r with
      | .Tuple l _ _ => chkFs nm names fs l && decide (l.length ≤ 10)
      | _ => false))) = true := h1
    rw [Bool.and_eq_true, decide_eq_true_eq] at h1
    obtain ⟨rfl, hF⟩ := h1
    have Z := G.ex x c' names ex
    obtain ⟨g1, g2⟩ := G.gl h2
    have nd : X.N.Nodup := by rw [G.hN]; exact G.nd
    have hi : X.N[j]? = some nm := by rw [G.hN]; exact h4
    have hln : X.env.kindOf nm = some .local := by
      show X.env.scope.names.lookup nm = _
      rw [G.sc]; exact h7
    have sui : fs.length ≤ 10 ∧ ∀ (b : Addr) (oe : Obj) (cls : Value) (d : Option Addr) (pn : List (Addr × Obj)), Zc cls d oe → (∃ vs, oe.data = .fields vs) → PSs (X.suite b ((b, oe) :: pn)) [.Return (some r) p3] (tSui j names fs one (T.ea c') b cls d) := by
      cases one with
      | true =>
        have h1 : (match (generalizing := false) fs with
          | [i] => chkF nm names i r
          | _ => false) = true := hF
        match fs, h1 with
        | [i], h1 =>
          have h1 : chkF nm names i r = true := h1
          exact ⟨Nat.le_trans (Nat.le_refl 1) (by decide), fun b oe cls d pn hz hf => pss_cons (ps_ret (pe_fld G Z.xf Z.own hz hf h8 h1).1) pss_nil⟩
      | false =>
        have h1 : (match (generalizing := false) r with
          | .Tuple l _ _ => chkFs nm names fs l && decide (l.length ≤ 10)
          | _ => false) = true := hF
        clear ex hF
        match r, h1 with
        | .Tuple l ct p5, h1 =>
          have h1 : (chkFs nm names fs l && decide (l.length ≤ 10)) = true := h1
          rw [Bool.and_eq_true, decide_eq_true_eq] at h1
          have ll : ∀ {fs : List Nat} {l : List Expr}, chkFs nm names fs l = true → fs.length = l.length := by
            intro fs
            induction fs with
            | nil => intro l h; cases l with
              | nil => rfl
              | cons => cases h
            | cons i fs ih => intro l h; cases l with
              | nil => cases h
              | cons e l =>
                have h : (chkF nm names i e && chkFs nm names fs l) = true := h
                rw [Bool.and_eq_true] at h
                rw [List.length_cons, List.length_cons, ih h.2]
          exact ⟨by rw [ll h1.1]; exact h1.2, fun b oe cls d pn hz hf => pss_cons (ps_ret (pe_tup (pa_fld G Z.xf Z.own hz hf h8 h1.1))) pss_nil⟩
    have P := ps_try_as (X := X) (x := x) (np := p2) (pos := pos) (pos' := p4) (body := [.Return (some e) p1]) hp.hs hp.hf nd hi hln ⟨g1, g2, .inl Z.gl⟩ G.tk (tb := tBody T sem a) (ts := tSui j names fs one (T.ea c')) (fun W' pn xe t _ => pss_cons (ps_ret ((sd_all a).e false (X.tr pn xe) k so sr W' (G.tr t) e h3).1) pss_nil) sui.2
    refine ⟨fun pins s σ H D I z => P.run pins s σ H D I ?_⟩
    refine tryr_red Z.en Z.nd ?_ h9 sui.1 Z.exm z
    rw [I.len]
    exact (List.getElem?_eq_some_iff.mp hi).1
end
end SQ

/-! SqSll: rows = [list(r) for r in ..]; rows[i][j] = e: the new rows are nobody's else. -/
set_option maxHeartbeats 4000000
namespace SQ
open PySem PySem.Spec PyProof.Rows L2
variable [TabsC]

/-- these objects are lists with these data -/
inductive FrL (O : List Addr) (H : Hp) : List Addr → List D → Prop
  | nil : FrL O H [] []
  | cons {p : Addr} {vs : List V} {ds : List D} {qs : List Addr} {ys : List D} : H p = some (.lst vs) → DSs O H vs ds → ds.length ≤ lim → FrL O H qs ys → FrL O H (p :: qs) (.list ds :: ys)
section
variable {O O' : List Addr} {H H' : Hp}
theorem FrL.step (hk : ∀ b o, H b = some o → b ∉ O → H' b = some o ∧ b ∉ O') : ∀ {qs : List Addr} {ys : List D}, (∀ p ∈ qs, ∀ o, H p = some o → H' p = some o) → FrL O H qs ys → FrL O' H' qs ys
  | _, _, _, .nil => .nil
  | _, _, hq, .cons h t l r => .cons (hq _ List.mem_cons_self _ h) (t.step hk) l (FrL.step hk (fun p hp => hq p (List.mem_cons_of_mem _ hp)) r)
theorem FrL.same (s : Same H H') {qs : List Addr} {ys : List D} (h : FrL O H qs ys) : FrL O H' qs ys := h.step (fun b o e n => ⟨s b o e, n⟩) fun p _ o e => s p o e
theorem FrL.length : ∀ {qs : List Addr} {ys : List D}, FrL O H qs ys → qs.length = ys.length
  | _, _, .nil => rfl
  | _, _, .cons _ _ _ r => by simp [FrL.length r]
theorem FrL.snoc {p : Addr} {vs : List V} {ds : List D} (h : H p = some (.lst vs)) (t : DSs O H vs ds) (l : ds.length ≤ lim) : ∀ {qs : List Addr} {ys : List D}, FrL O H qs ys → FrL O H (qs ++ [p]) (ys ++ [.list ds])
  | _, _, .nil => .cons h t l .nil
  | _, _, .cons a b c r => .cons a b c (FrL.snoc h t l r)
theorem FrL.get : ∀ {qs : List Addr} {ys : List D} {j : Nat} {d : D}, FrL O H qs ys → ys[j]? = some d → ∃ p vs ds, qs[j]? = some p ∧ d = .list ds ∧ H p = some (.lst vs) ∧ DSs O H vs ds ∧ ds.length ≤ lim
  | _, _, _, _, .nil, e => by simp at e
  | _, _, 0, _, .cons h t l _, e => by simp at e; subst e; exact ⟨_, _, _, rfl, rfl, h, t, l⟩
  | _, _, j + 1, d, .cons _ _ _ r, e => by
    obtain ⟨p, vs, ds, h1, h2⟩ := FrL.get (j := j) r (by simpa using e)
    exact ⟨p, vs, ds, by simpa using h1, h2⟩
/-- as data, apart from O' -/
theorem FrL.dss (hs : ∀ b ∈ O', b ∈ O) : ∀ {qs : List Addr} {ys : List D}, (∀ p ∈ qs, p ∉ O') → FrL O H qs ys → DSs O' H (qs.map .ref) ys
  | _, _, _, .nil => .nil
  | _, _, hq, .cons h t l r => .cons (.lst (.inl h) (hq _ List.mem_cons_self) (t.sub hs) l) (FrL.dss hs (fun p hp => hq p (List.mem_cons_of_mem _ hp)) r)
/-- one of them changed -/
theorem FrL.put {p : Addr} {vs : List V} {ds : List D} (hp : p ∈ O) (t : DSs O H vs ds) (l : ds.length ≤ lim) : ∀ {qs : List Addr} {ys : List D} {j : Nat}, qs.Nodup → qs[j]? = some p → FrL O H qs ys → FrL O (upd H p (.lst vs)) qs (ys.set j (.list ds)) := by
  have st : ∀ b o, H b = some o → b ∉ O → upd H p (.lst vs) b = some o ∧ b ∉ O := fun b o e n => ⟨by rw [upd_ne (fun z => n (by rw [z]; exact hp))]; exact e, n⟩
  intro qs ys j nd hj h
  induction h generalizing j with
  | nil => simp at hj
  | cons a b c r ih =>
    rename_i p' vs' ds' qs ys
    rw [List.nodup_cons] at nd
    cases j with
    | zero =>
      simp at hj
      subst hj
      exact .cons upd_same (t.step st) l (r.step st fun q hq o e => by rw [upd_ne (fun z => nd.1 (by rw [← z]; exact hq))]; exact e)
    | succ j =>
      have hj : qs[j]? = some p := by simpa using hj
      have ne : p' ≠ p := fun z => nd.1 (by rw [z]; exact List.mem_of_getElem? hj)
      exact .cons (by rw [upd_ne ne]; exact a) (b.step st) c (ih nd.2 hj)
end

section
variable {T : Tb} {sem : Nat → List D → Res D} {n : Nms} {N : List Str}
variable {X : Cx} {W : WX} {k : Nat} {so sr : Scope} {σ : L2.St} {H : Hp} {E : Ends} {Oc Of : List Addr} {as : List Nat} {en : En}
/-- the rows -/
theorem lst_get {d : D} {y : D} (e : blD .list [d] = .ok y) : ∃ l, (d = .list l ∨ d = .tuple l) ∧ y = .list l := by
  cases d with
  | list l => cases e; exact ⟨l, .inl rfl, rfl⟩
  | tuple l => cases e; exact ⟨l, .inr rfl, rfl⟩
  | _ => cases e
theorem lc_redF {K : PySem.W.Frag} {tg src qe : C} {σ : L2.St} {H : Hp} {Q : VK}
    (h : ∃ Oc Of en, Rep Oc Of σ H en ∧ okR T W σ H (ev sem (.cmp1 tg src (.blt .list (.cons qe .nil)) .na) en) fun d => ∀ ys, d = .list ys → ∀ D hs H', Same H H' → H D = none → H' D = some (.lst (hs.reverse.map .ref)) → D ∉ hs → hs.Nodup → (∀ p ∈ hs, H p = none) → FrL (Oc ++ (hs ++ D :: Of)) H' hs.reverse ys → ys.length ≤ lim → Q (.ref D) H') :
    tLc (tI T sem true W src) (gT tg) tYes (tCB (rLn K) (tCons (tE T sem true WF qe) tNil)) (slots tg) σ H Q := by
  obtain ⟨Oc, Of, en, r, q⟩ := h
  have q : okR T W σ H ((ev sem src en).bind fun s => (itemsD s).bind fun xs =>
      (compL (fun x => if C.na.isNa then .ok true else (bindT tg x (en.wip (slots tg))).bind fun e1 => (ev sem .na e1).bind fun b => .ok (truth b)) (fun x => (bindT tg x (en.wip (slots tg))).bind fun e1 => ev sem (.blt .list (.cons qe .nil)) e1) xs).noE.bind fun l => Res.ok (PyData.list l)) fun d => ∀ ys, d = PyData.list ys → ∀ D hs H', Same H H' → H D = none → H' D = some (.lst (hs.reverse.map .ref)) → D ∉ hs → hs.Nodup → (∀ p ∈ hs, H p = none) → FrL (Oc ++ (hs ++ D :: Of)) H' hs.reverse ys → ys.length ≤ lim → Q (.ref D) H' := q
  rw [← bind_assoc] at q
  refine ⟨Oc, Of, en, r, q.bind.same (Same.refl _) fun ds ⟨_, hd⟩ J H1 hl s1 hJ => ?_⟩
  obtain ⟨ys, hys, _, hk⟩ := okR.noE hd.bind
  intro D hD
  have r1 : Rep Oc (D :: Of) (wipe σ (slots tg)) (upd H1 D (.lst [])) (en.wip (slots tg)) := ((r.same s1).wip _).hold hD
  have no1 : ∀ {b : Addr}, H1 b = none → H b = none := fun {b} hb => by
    cases hh : H b with
    | none => rfl
    | some o => rw [s1 _ _ hh] at hb; cases hb
  refine ⟨fun i m H2 => m = ds.length - i ∧ i ≤ ds.length ∧ ∃ hs accD rest, H2 D = some (.lst (hs.reverse.map .ref)) ∧ FrL (Oc ++ (hs ++ D :: Of)) H2 hs.reverse accD ∧ accD.length ≤ i ∧ Same H1 H2 ∧ Rep Oc (hs ++ D :: Of) (wipe σ (slots tg)) H2 (en.wip (slots tg)) ∧ D ∉ hs ∧ hs.Nodup ∧ (∀ p ∈ hs, H1 p = none) ∧
      compL (fun x => if C.na.isNa then .ok true else (bindT tg x (en.wip (slots tg))).bind fun e1 => (ev sem .na e1).bind fun b => .ok (truth b)) (fun x => (bindT tg x (en.wip (slots tg))).bind fun e1 => ev sem (.blt .list (.cons qe .nil)) e1) (ds.drop i) = .ok rest ∧ accD ++ rest = ys,
    ⟨ds.length, by simp, Nat.zero_le _, [], [], ys, upd_same, .nil, Nat.zero_le _, same_new hD, r1, by simp, List.nodup_nil, by simp, by simpa using hys, rfl⟩, ?_⟩
  rintro i m H2 ⟨rfl, hi, hs, accD, rest, hH, hacc, hal, s2, r2, dnh, hnd, hno, hc, hy⟩
  have nO : ∀ b o, H1 b = some o → b ∉ Oc ++ Of → b ∉ Oc ++ (hs ++ D :: Of) := fun b o e nn z => by
    rcases List.mem_append.mp z with z | z
    · exact nn (List.mem_append_left _ z)
    · rcases List.mem_append.mp z with z | z
      · rw [hno b z] at e; cases e
      · rcases List.mem_cons.mp z with rfl | z
        · rw [hD] at e; cases e
        · exact nn (List.mem_append_right _ z)
  have hIt := hJ (Oc ++ (hs ++ D :: Of)) H2 s2 nO
  by_cases hlt : i < ds.length
  · refine .inr ⟨hIt.1 i hlt, fun H' => ∃ hs accD rest, H' D = some (.lst (hs.reverse.map .ref)) ∧ FrL (Oc ++ (hs ++ D :: Of)) H' hs.reverse accD ∧ accD.length ≤ i + 1 ∧ Same H1 H' ∧ Rep Oc (hs ++ D :: Of) (wipe σ (slots tg)) H' (en.wip (slots tg)) ∧ D ∉ hs ∧ hs.Nodup ∧ (∀ p ∈ hs, H1 p = none) ∧
      compL (fun x => if C.na.isNa then .ok true else (bindT tg x (en.wip (slots tg))).bind fun e1 => (ev sem .na e1).bind fun b => .ok (truth b)) (fun x => (bindT tg x (en.wip (slots tg))).bind fun e1 => ev sem (.blt .list (.cons qe .nil)) e1) (ds.drop (i + 1)) = .ok rest ∧ accD ++ rest = ys, fun H' hN => ⟨ds.length - (i + 1), by omega, rfl, hlt, hN⟩, fun x H3 hyl => ?_⟩
    obtain ⟨e3, hx⟩ := hIt.2.2 i x H3 hyl
    subst e3
    have dx := hx ds[i] (List.getElem?_eq_getElem hlt)
    have ed : ds.drop i = ds[i] :: ds.drop (i + 1) := List.drop_eq_getElem_cons hlt
    rw [ed] at hc
    rcases compL_cons hc with ⟨h1, _⟩ | ⟨y, l, _, h2, h3, h4⟩
    · cases h1
    obtain ⟨e1, h5, h6⟩ := Res.bind_ok h2
    subst h4
    refine ⟨Oc, hs ++ D :: Of, en.wip (slots tg), ds[i], e1, r2, dx, h5, fun σ2 r3 hw => ⟨by rw [hw (slots tg) fun i hi => hi, wipe_wipe], ?_⟩⟩
    have key : ∀ R : Bool → Hp → Prop, R true H3 → tYes σ2 H3 R := fun _ q => q
    refine key _ ?_
    rw [if_pos rfl]
    have h6 : (((ev sem qe e1).bind fun x => (Res.ok (PyData.list [])).bind fun l => Res.ok (PyData.list (x :: asL l))).bind fun l => (blD .list (asL l)).noE) = .ok y := h6
    rw [bind_assoc] at h6
    obtain ⟨d, e6, h7⟩ := Res.bind_ok h6
    have h7 : (blD .list [d]).noE = .ok y := h7
    have h8 : blD .list [d] = .ok y := by
      cases hb : blD .list [d] with
      | ok z => rw [hb] at h7; exact h7
      | err c xs => rw [hb] at h7; cases h7
      | bad => rw [hb] at h7; cases h7
    obtain ⟨rl, hrl, rfl⟩ := lst_get h8
    refine ⟨Oc, hs ++ D :: Of, e1, r3, ?_⟩
    rw [e6]
    intro v H4 s4 rv
    have rv : CS (Oc ++ (hs ++ D :: Of)) H4 v d := rv
    have fin : ∀ {a' : Addr} {ws : List V}, v = .ref a' → (SqL K H4 a' ws ∨ SqT K H4 a' ws) → DSs (Oc ++ (hs ++ D :: Of)) H4 ws rl → rl.length ≤ lim → rLn K [v] H4 (fun y H5 => ∃ acc, H5 D = some (.lst acc) ∧ acc.length < sizeLine ∧ ∃ hs accD rest, upd H5 D (.lst (acc ++ [y])) D = some (.lst (hs.reverse.map .ref)) ∧ FrL (Oc ++ (hs ++ D :: Of)) (upd H5 D (.lst (acc ++ [y]))) hs.reverse accD ∧ accD.length ≤ i + 1 ∧ Same H1 (upd H5 D (.lst (acc ++ [y]))) ∧ Rep Oc (hs ++ D :: Of) (wipe σ (slots tg)) (upd H5 D (.lst (acc ++ [y]))) (en.wip (slots tg)) ∧ D ∉ hs ∧ hs.Nodup ∧ (∀ p ∈ hs, H1 p = none) ∧
        compL (fun x => if C.na.isNa then .ok true else (bindT tg x (en.wip (slots tg))).bind fun e1 => (ev sem .na e1).bind fun b => .ok (truth b)) (fun x => (bindT tg x (en.wip (slots tg))).bind fun e1 => ev sem (.blt .list (.cons qe .nil)) e1) (ds.drop (i + 1)) = .ok rest ∧ accD ++ rest = ys) := fun {a' ws} ev0 hsq tw hrl => by
      refine ⟨a', ws, by rw [ev0], hsq, fun p hp => ?_⟩
      have hHD := s4 _ _ hH
      have pD : p ≠ D := fun z => by rw [z, hHD] at hp; cases hp
      have ph : p ∉ hs := fun z => by
        have : H4 p ≠ none := (r2.same s4).th.at_ p (List.mem_append_right _ (List.mem_append_left _ z))
        exact this hp
      have p1 : H1 p = none := by
        cases hh : H1 p with
        | none => rfl
        | some o => rw [s4 _ _ (s2 _ _ hh)] at hp; cases hp
      have hlen : hs.length = accD.length := by have := hacc.length; rw [List.length_reverse] at this; exact this
      refine ⟨hs.reverse.map .ref, by rw [upd_ne (Ne.symm pD)]; exact hHD, ?_, p :: hs, accD ++ [.list rl], l, ?_, ?_, ?_, ?_, ?_, ?_, ?_, ?_, h3, ?_⟩
      · rw [List.length_map, List.length_reverse, hlen]
        have := lim_lt
        omega
      · rw [upd_same, List.reverse_cons, List.map_append]; rfl
      · rw [List.reverse_cons]
        have st1 : ∀ b o, H4 b = some o → b ∉ Oc ++ (hs ++ D :: Of) → upd (upd H4 p (.lst ws)) D (.lst (hs.reverse.map .ref ++ [.ref p])) b = some o ∧ b ∉ Oc ++ (p :: hs ++ D :: Of) := fun b o hb hn => by
          have b1 : b ≠ D := fun z => hn (List.mem_append_right _ (List.mem_append_right _ (by rw [z]; exact List.mem_cons_self)))
          have b2 : b ≠ p := ne_of_none hb hp
          refine ⟨by rw [upd_ne b1, upd_ne b2]; exact hb, fun z => ?_⟩
          rcases List.mem_append.mp z with z | z
          · exact hn (List.mem_append_left _ z)
          · rcases List.mem_cons.mp z with z | z
            · exact b2 z
            · exact hn (List.mem_append_right _ z)
        refine FrL.snoc ?_ (tw.step st1) hrl ((hacc.same s4).step st1 fun q hq o e => ?_)
        · rw [upd_ne pD, upd_same]
        · have q1 : q ∈ hs := List.mem_reverse.mp hq
          rw [upd_ne (fun z => dnh (by rw [← z]; exact q1)), upd_ne (fun z => ph (by rw [← z]; exact q1))]
          exact e
      · rw [List.length_append]; exact Nat.succ_le_succ hal
      · intro b o e
        rw [upd_ne (ne_of_none e hD), upd_ne (ne_of_none e p1)]
        exact s4 _ _ (s2 _ _ e)
      · refine ((r2.same s4).hold (o := .lst ws) hp).turn (p := D) (List.mem_cons_of_mem _ (List.mem_append_right _ List.mem_cons_self)) (fun φ z => by rw [upd_ne (Ne.symm pD), hHD] at z; cases z) fun j d' e' z => ?_
        obtain ⟨p', g1, g2, g3⟩ := (r.wip (slots tg)).own j d' e'
        rw [g1] at z
        cases z
        exact r.th.at_ D (List.mem_append_right _ g2) (no1 hD)
      · intro z
        rcases List.mem_cons.mp z with z | z
        · exact pD z.symm
        · exact dnh z
      · exact List.nodup_cons.mpr ⟨ph, hnd⟩
      · intro q hq
        rcases List.mem_cons.mp hq with rfl | hq
        · exact p1
        · exact hno q hq
      · rw [List.append_assoc]; exact hy
    rcases hrl with rfl | rfl
    · obtain ⟨a', ws, e7, g1, g3, g4, g5⟩ := rv.i_list
      exact fin e7 (.inl (rd_sql g1)) g3 g4
    · obtain ⟨a', ws, e7, g1, g2, g3, g4, g5⟩ := rv.i_tuple
      exact fin e7 (.inr (t_sqt g1)) g3 g4
  · have ei : i = ds.length := by omega
    subst ei
    rw [List.drop_length] at hc
    cases hc
    rw [List.append_nil] at hy
    subst hy
    refine .inl ⟨hIt.2.1 _ (Nat.le_refl _), hk _ rfl D hs H2 (s1.trans s2) (no1 hD) hH dnh hnd (fun p hp => no1 (hno p hp)) hacc (by omega)⟩
end
end SQ

/-! SqStm2: the nested store; every statement. -/
set_option maxHeartbeats 4000000
namespace SQ
open PySem PySem.Spec PyProof.Rows L2
variable [TabsC]
section
variable {T : Tb} {sem : Nat → List D → Res D} {n : Nms} {N : List Str}
variable {X : Cx} {W : WX} {k : Nat} {so sr : Scope} {σ : L2.St} {H : Hp} {E : Ends} {Oc Of : List Addr} {as : List Nat} {en : En}
theorem put2_ok {ys : List D} {a b x w : D} (h : put2 (.list ys) a b x = .ok w) : flatD x = true ∧ ∃ ia ja ds ib jb, a = .int ia ∧ ixOf ys.length ia = some ja ∧ ys[ja]? = some (.list ds) ∧ b = .int ib ∧ ixOf ds.length ib = some jb ∧ w = .list (ys.set ja (.list (ds.set jb x))) := by
  have h : (if flatD x then (idxD (.list ys) a).bind fun r => match r with
    | .list _ => (putD r b x).bind fun r' => putD (.list ys) a r'
    | _ => .bad else .bad) = Res.ok w := by
    rw [← h]
    unfold put2
    by_cases f : flatD x = true
    · rw [if_pos f, if_pos f]
      cases idxD (.list ys) a with
      | ok r => cases r <;> rfl
      | err _ _ => rfl
      | bad => rfl
    · rw [if_neg f, if_neg f]
  by_cases f : flatD x = true
  · rw [if_pos f] at h
    refine ⟨f, ?_⟩
    obtain ⟨r, e1, h⟩ := Res.bind_ok h
    cases a with
    | int ia =>
      obtain ⟨ja, g1, g2⟩ := atL_ok (show atL ys ia = .ok r from e1)
      cases r with
      | list ds =>
        have h : ((putD (.list ds) b x).bind fun r' => putD (.list ys) (.int ia) r') = Res.ok w := h
        obtain ⟨r', e2, e3⟩ := Res.bind_ok h
        cases b with
        | int ib =>
          have e2 : (match ixOf ds.length ib with
            | some j => Res.ok (PyData.list (ds.set j x))
            | none => .bad) = .ok r' := e2
          cases e4 : ixOf ds.length ib with
          | none => rw [e4] at e2; cases e2
          | some jb =>
            rw [e4] at e2
            cases e2
            have e3 : (match ixOf ys.length ia with
              | some j => Res.ok (PyData.list (ys.set j (.list (ds.set jb x))))
              | none => .bad) = .ok w := e3
            have g1' : ixOf ys.length ia = some ja := g1
            rw [g1'] at e3
            cases e3
            exact ⟨ia, ja, ds, ib, jb, rfl, g1, g2, rfl, e4, rfl⟩
        | _ => cases e2
      | _ => cases h
    | _ => cases e1
  · rw [if_neg f] at h; cases h
theorem sll_red {K : PySem.W.Frag} {i : Nat} {tg src qe kk jj a b : C} (hi : i ∈ as) (hlen : i < σ.length) (h : tP T sem W as (.sll i (.cmp1 tg src (.blt .list (.cons qe .nil)) .na) kk jj a b) E σ H) :
    tSeq (tAsg (tLc (tI T sem true W src) (gT tg) tYes (tCB (rLn K) (tCons (tE T sem true WF qe) tNil)) (slots tg)) (gName i)) (tSeq (tAsg (tE T sem false W a) (gSub (tOp (rIxL K) (tVar i) (tE T sem false W kk)) (tE T sem false W jj) rPut)) (tP T sem W as b)) E σ H := by
  obtain ⟨Oc, Of, en, r, q⟩ := h
  have q : okF E T W Oc Of as σ H ((ev sem (.cmp1 tg src (.blt .list (.cons qe .nil)) .na) en).bind fun d => (ev sem a (en.put i (.v d))).bind fun x => (ev sem kk (en.put i (.v d))).bind fun y => (ev sem jj (en.put i (.v d))).noE.bind fun z => (put2 d y z x).noE.bind fun w => ex sem b (en.put i (.v w))) := q
  unfold tSeq tAsg
  refine lc_redF (W := W) ⟨Oc, Of, en, r, ?_⟩
  cases e : ev sem (.cmp1 tg src (.blt .list (.cons qe .nil)) .na) en with
  | bad => rw [e] at q; exact q.elim
  | err c xs => rw [e] at q; exact ok_err r q
  | ok d0 =>
    rw [e, Res.ok_bind] at q
    intro ys ed D hs H' s hD hHD dnh hnd hno hfr hl
    subst ed
    have nO : ∀ p ∈ hs, p ∉ Oc ++ Of := fun p hp z => r.th.at_ p z (hno p hp)
    have sb : ∀ b ∈ Oc ++ Of, b ∈ Oc ++ (hs ++ D :: Of) := fun b hb => (List.mem_append.mp hb).elim (fun z => List.mem_append_left _ z) fun z => List.mem_append_right _ (List.mem_append_right _ (List.mem_cons_of_mem _ z))
    have dD : DS (Oc ++ Of) H' (.ref D) (.list ys) := .lst (.inl hHD) (r.th.nin hD) (hfr.dss sb fun p hp => nO p (List.mem_reverse.mp hp)) hl
    have r1 := (r.same s).put i dD
    -- e
    refine ⟨Oc, Of, en.put i (.v (.list ys)), r1, ?_⟩
    cases ea : ev sem a (en.put i (.v (.list ys))) with
    | bad => rw [ea] at q; exact q.elim
    | err c xs => rw [ea] at q; exact ok_err r1 (okF.step (σ1 := σ.set i (some (.ref D))) (.same s) (wipe_set hi) q)
    | ok x =>
    rw [ea, Res.ok_bind] at q
    intro v H1 s1 rv
    -- rows[k]
    refine ⟨.ref D, List.getElem?_set_self hlen, Oc, Of, en.put i (.v (.list ys)), r1.same s1, ?_⟩
    cases ek : ev sem kk (en.put i (.v (.list ys))) with
    | bad => rw [ek] at q; exact q.elim
    | err c xs => rw [ek] at q; exact ok_err (r1.same s1) (okF.step (σ1 := σ.set i (some (.ref D))) (.same (s.trans s1)) (wipe_set hi) q)
    | ok y =>
    rw [ek, Res.ok_bind] at q
    intro vy H2 s2 ry
    cases ej : ev sem jj (en.put i (.v (.list ys))) with
    | bad => rw [ej] at q; exact q.elim
    | err c xs => rw [ej] at q; exact q.elim
    | ok z =>
    rw [ej] at q
    have q : okF E T W Oc Of as σ H ((put2 (.list ys) y z x).noE.bind fun w => ex sem b (en.put i (.v w))) := q
    cases ew : put2 (.list ys) y z x with
    | bad => rw [ew] at q; exact q.elim
    | err c xs => rw [ew] at q; exact q.elim
    | ok w =>
    rw [ew] at q
    have q : okF E T W Oc Of as σ H (ex sem b (en.put i (.v w))) := q
    obtain ⟨fx, ia, ja, ds, ib, jb, rfl, g1, g2, rfl, g3, rfl⟩ := put2_ok ew
    have ey := DS.i_int (show DS (Oc ++ Of) H2 vy (.int ia) from ry)
    subst ey
    have fr2 := hfr.same (s1.trans s2)
    obtain ⟨p, vs, ds', h1, h2, h3, h4, h5⟩ := fr2.get g2
    cases h2
    have hHD2 := s2 _ _ (s1 _ _ hHD)
    have ql : hs.reverse.length = ys.length := hfr.length
    refine ⟨D, hs.reverse.map .ref, ia, .ref p, rfl, rfl, rd_sql (.inl hHD2), ?_, ?_⟩
    · unfold atI
      rw [List.length_map, ql]
      have : ixN ys.length ia = some ja := g1
      rw [this]
      show (hs.reverse.map V.ref)[ja]? = _
      rw [List.getElem?_map, h1]
      rfl
    · refine ⟨Oc, Of, en.put i (.v (.list ys)), (r1.same s1).same s2, ?_⟩
      rw [ej]
      intro vz H3 s3 rz
      have ez := DS.i_int (show DS (Oc ++ Of) H3 vz (.int ib) from rz)
      subst ez
      refine .inl ⟨p, vs, ib, jb, rfl, rfl, s3 _ _ h3, by rw [h4.length]; exact g3, ?_⟩
      have pm : p ∈ hs := List.mem_reverse.mp (List.mem_of_getElem? h1)
      have sA : Same H (upd H3 p (.lst (vs.set jb v))) := fun b' o eb => by
        rw [upd_ne (ne_of_none eb (hno p pm))]
        exact s3 _ _ (s2 _ _ (s1 _ _ (s _ _ eb)))
      have fr3 := fr2.same s3
      have tv : DSs (Oc ++ (hs ++ D :: Of)) H3 (vs.set jb v) (ds.set jb x) := (h4.same s3).set jb (flat_any fx rv)
      have fr4 := FrL.put (p := p) (List.mem_append_right _ (List.mem_append_left _ pm)) tv (by rw [List.length_set]; exact h5) ((List.reverse_perm _).nodup_iff.mpr hnd) h1 fr3
      have pD : D ≠ p := fun z => dnh (by rw [z]; exact pm)
      have dN : DS (Oc ++ Of) (upd H3 p (.lst (vs.set jb v))) (.ref D) (.list (ys.set ja (.list (ds.set jb x)))) :=
        .lst (.inl (by rw [upd_ne pD]; exact s3 _ _ hHD2)) (r.th.nin hD) (fr4.dss sb fun p hp => nO p (List.mem_reverse.mp hp)) (by rw [List.length_set]; exact hl)
      exact ⟨Oc, Of, _, (r.same sA).put i dN, okF.step (σ1 := σ.set i (some (.ref D))) (.same sA) (wipe_set hi) q⟩
def sllB (n : Nms) (N : List Str) (as : List Nat) (so sr : Scope) (i : Nat) (c k j a : C) (x py : Str) (elt t it : Expr) (scope : Scope) (x' : Str) (y1 y2 e : Expr) : Bool := (match c, elt with
      | .cmp1 tg src (.blt .list (.cons q .nil)) .na, .Call (.Name f _) [y] [] _ => (decide (sr.kind = .function) && !sr.isGenerator) && nmB N as so sr i x && decide (x' = x) && varB N sr i x && chkS n N true so sr src it && notSet it && chkT N scope (relS scope sr) tg t &&
        blkC N sr scope ((slots tg).map fun i => (N.getD i "", i)) && decide (f = "list") && glB (relS scope sr) "list" && chkE n N true scope (relS scope sr) q y && notStar y &&
        chkE n N false so sr k y1 && notSlice y1 && chkE n N false so sr j y2 && notSlice y2 && chkE n N false so sr a e
      | _, _ => false)
theorem sll_get {i : Nat} {c kk jj a b : C} {l : List Stmt} (h : chkB n N as so sr (.sll i c kk jj a b) l = true) :
    ∃ x py elt t it scope lp pos x' p1 y1 p2 y2 p3 e pos2 l', l = .Assign [.Name x py] (.ListComp elt [⟨t, it, [], 0⟩] scope lp) pos :: .Assign [.Subscript (.Subscript (.Name x' p1) y1 p2) y2 p3] e pos2 :: l' ∧
      sllB n N as so sr i c kk jj a x "" elt t it scope x' y1 y2 e = true ∧ chkB n N as so sr b l' = true := by
  have h : (match (generalizing := false) l with
    | .Assign [.Name x py] (.ListComp elt [⟨t, it, [], 0⟩] scope _) _ :: .Assign [.Subscript (.Subscript (.Name x' _) y1 _) y2 _] e _ :: l => sllB n N as so sr i c kk jj a x "" elt t it scope x' y1 y2 e && chkB n N as so sr b l
    | _ => false) = true := h
  split at h
  · rw [Bool.and_eq_true] at h
    exact ⟨_, _, _, _, _, _, _, _, _, _, _, _, _, _, _, _, _, rfl, h.1, h.2⟩
  · cases h
theorem sllB_get {i : Nat} {c kk jj a : C} {x py : Str} {elt t it : Expr} {scope : Scope} {x' : Str} {y1 y2 e : Expr} (h : sllB n N as so sr i c kk jj a x py elt t it scope x' y1 y2 e = true) :
    ∃ tg src q f pf y pc, c = .cmp1 tg src (.blt .list (.cons q .nil)) .na ∧ elt = .Call (.Name f pf) [y] [] pc ∧ ((decide (sr.kind = .function) && !sr.isGenerator) && nmB N as so sr i x && decide (x' = x) && varB N sr i x && chkS n N true so sr src it && notSet it && chkT N scope (relS scope sr) tg t &&
        blkC N sr scope ((slots tg).map fun i => (N.getD i "", i)) && decide (f = "list") && glB (relS scope sr) "list" && chkE n N true scope (relS scope sr) q y && notStar y &&
        chkE n N false so sr kk y1 && notSlice y1 && chkE n N false so sr jj y2 && notSlice y2 && chkE n N false so sr a e) = true := by
  unfold sllB at h
  split at h
  · exact ⟨_, _, _, _, _, _, _, rfl, rfl, h⟩
  · cases h
theorem sp_sll {i : Nat} {c kk jj a b : C} (hb : SndP T sem n N b) : SndP T sem n N (.sll i c kk jj a b) where
  one := fun X k so sr W as G hp s h => by cases s <;> exact absurd h Bool.false_ne_true
  blk := fun X k so sr W as G hp l h => by
    obtain ⟨x, py, elt, t, it, scope, lp, pos, x', p1, y1, p2, y2, p3, e, pos2, l', rfl, h1, h2⟩ := sll_get h
    obtain ⟨tg, src, q, f, pf, y, pc, rfl, rfl, h3⟩ := sllB_get h1
    clear h h1
    simp only [Bool.and_eq_true, decide_eq_true_eq, Bool.not_eq_true'] at h3
    obtain ⟨⟨⟨⟨⟨⟨⟨⟨⟨⟨⟨⟨⟨⟨⟨⟨⟨hkf, hng⟩, hnm⟩, rfl⟩, hv⟩, hsrc⟩, hset⟩, htg⟩, hblk⟩, rfl⟩, hgl⟩, hq⟩, hst⟩, hk1⟩, hk2⟩, hj1⟩, hj2⟩, ha⟩ := h3
    obtain ⟨n1, n2, n3, n4⟩ := nm_get G hnm
    have nd : X.N.Nodup := by rw [G.hN]; exact G.nd
    have hi := (sd_all src).s true X k so sr W G t it hsrc
    have ok := blkOk_by hblk
    rw [← G.hN, ← G.sc] at ok
    rw [G.hN] at ok
    rw [← G.hN] at ok
    have hg : ∀ (s : Shared) (H : Hp) (C : Addr) (cl : List (Str × Addr)) (fp : List Addr), PG (X.blk s H scope (compEnvC scope cl C X.env) fp) t (gT tg) := fun s H C cl fp => pg_T (G.blk hng s H scope C cl fp) htg
    have hel : ∀ (s : Shared) (H : Hp) (C : Addr) (cl : List (Str × Addr)) (fp : List Addr), PE (X.blk s H scope (compEnvC scope cl C X.env) fp) (.Call (.Name "list" pf) [y] [] pc) (tCB (rLn X.K) (tCons (tE T sem true WF q) tNil)) := fun s H C cl fp => by
      have G2 := G.blk hng s H scope C cl fp
      obtain ⟨v1, v2⟩ := G2.gl hgl
      exact pe_callTy (r := rLn X.K) call_list_of v1 (G2.blt _ (by decide)) PyProof.Rows.boot_list (pa_cons ((sd_all q).e true _ k scope (relS scope sr) WF G2 y hq).1 pa_nil (star_cons hst)) (by decide) (by decide) (star_cons hst) rfl
    have P1 : PS X (.Assign [.Name x' py] (.ListComp (.Call (.Name "list" pf) [y] [] pc) [⟨t, it, [], 0⟩] scope lp) pos) (tAsg (tLc (tI T sem true W src) (gT tg) tYes (tCB (rLn X.K) (tCons (tE T sem true WF q) tNil)) (slots tg)) (gName i)) := by
      have hkd : X.env.scope.kind = .function := by rw [G.sc]; exact hkf
      have plain : swapsWith (.ListComp (.Call (.Name "list" pf) [y] [] pc) [⟨t, it, [], 0⟩] scope lp) (some (.Name x' py)) pos.line X.env = pure false → PS X (.Assign [.Name x' py] (.ListComp (.Call (.Name "list" pf) [y] [] pc) [⟨t, it, [], 0⟩] scope lp) pos) (tAsg (tLc (tI T sem true W src) (gT tg) tYes (tCB (rLn X.K) (tCons (tE T sem true WF q) tNil)) (slots tg)) (gName i)) := fun sw => by
        have lc := pe_lc (pos := lp) G.calm nd hi ok hg (fun _ _ _ _ _ => pts_nil) hel (fun z => not_set hset z)
        rw [G.hN, own_slots] at lc
        exact ps_set nd n1 n2 lc sw n3
      cases l1 : (py.line == lp.line) with
      | false =>
        refine plain ?_
        unfold swapsWith
        simp only [Expr.pos, l1, Bool.and_false, Bool.false_and]
      | true =>
        cases l4 : (scope.names.any fun (m, k) => m == x' && (k == .local || k == .cell)) with
        | true =>
          refine plain ?_
          unfold swapsWith
          simp only [l4, Bool.not_true, Bool.and_false]
        | false =>
          by_cases l2 : X.env.scope.names.lookup x' = some .local
          · have sw : swapsWith (.ListComp (.Call (.Name "list" pf) [y] [] pc) [⟨t, it, [], 0⟩] scope lp) (some (.Name x' py)) pos.line X.env = pure true := sw_true hkd l2 l1 l4
            have P := ps_setLc G.calm nd n1 l2 sw hi ok hg (fun _ _ _ _ _ => pts_nil) hel (fun z => not_set hset z)
            rw [G.hN, own_slots] at P
            exact P
          · refine plain ?_
            have ky : (X.env.kindOf x' == some .local) = false := by
              have e : X.env.kindOf x' = X.env.scope.names.lookup x' := rfl
              rw [e]
              exact beq_eq_false_iff_ne.mpr l2
            unfold swapsWith
            simp only [ky, Bool.and_false, Bool.false_and]
    have hs : swapsWithSole [.Subscript (.Subscript (.Name x' p1) y1 p2) y2 p3] e pos2.line X.env = pure false := by cases e <;> rfl
    have hw : swappedStores [.Subscript (.Subscript (.Name x' p1) y1 p2) y2 p3] e X.env = pure none := by cases e <;> rfl
    have pg : PG X (.Subscript (.Subscript (.Name x' p1) y1 p2) y2 p3) (gSub (tOp (rIxL X.K) (tVar i) (tE T sem false W kk)) (tE T sem false W jj) rPut) := pg_sub (pe_ix ix_list (G.var hv) ((sd_all kk).e false X k so sr W G y1 hk1).1 (plain_ix hk2)) ((sd_all jj).e false X k so sr W G y2 hj1).1 (set_put G.hu) (by intro v; cases y2 <;> first | rfl | cases hj2)
    have P2 := ps_asg (pos := pos2) ((sd_all a).e false X k so sr W G e ha).1 pg hs hw
    refine ⟨fun pins s σ H D I z => (pss_cons P1 (pss_cons P2 (hb.blk X k so sr W as G hp l' h2))).run pins s σ H D I ?_⟩
    refine sll_red n4 ?_ z
    rw [I.len]
    exact (List.getElem?_eq_some_iff.mp n1).1
theorem sp_all (c : C) : SndP T sem n N c := by
  induction c with
  | skip => exact sp_skip
  | seq a b ha hb => exact sp_seq ha hb
  | fz is a ha => exact sp_fz ha
  | xpr c _ => exact sp_xpr
  | set i c _ => exact sp_set
  | seto i c _ => exact sp_seto
  | sett tg c _ _ => exact sp_sett
  | puti i k c _ _ => exact sp_puti
  | pop j i => exact sp_pop
  | app i c _ => exact sp_app
  | ext i c _ => exact sp_ext
  | na => exact sp_na
  | rse c es _ => exact sp_rse
  | tryr a c j fs one _ => exact sp_tryr
  | sll i c k j a b _ _ _ _ hb => exact sp_sll hb
  | aug i o c _ => exact sp_aug
  | iff t a b _ ha hb => exact sp_iff ha hb
  | for_ tg src body _ _ hb => exact sp_for hb
  | whl t body _ hb => exact sp_whl hb
  | ret c _ => exact sp_ret
  | retn => exact sp_retn
  | brk => exact sp_brk
  | cnt => exact sp_cnt
  | _ => exact sp_no (fun _ _ _ s => by cases s <;> rfl) fun _ _ _ l => rfl
end
end SQ

/-! SqFun: the defs of a table keep what run reckons. -/
set_option maxHeartbeats 4000000
namespace SQ
open PySem PySem.Spec PyProof.Rows L2

/-- a def of the table: its name, its statement, the names of its slots, of its parameters -/
structure Df where
  x : Str
  st : Stmt
  N : List Str
  ps : List Str
/-- what is seen of a table without running anything -/
def tabB (nms : Nms) (Δ : Nat → Option Fn) (dfs : List Df) (i : Nat) : Bool := match dfs[i]?, Δ i with
  | some d, some F => decide (F.ps = d.ps.length) && decide (F.ns = d.N.length) && chkB nms d.N (List.range d.N.length) (defScope d.st) (defScope d.st) F.body (defBody d.st)
  | _, _ => false
structure Tab (nms : Nms) (Δ : Nat → Option Fn) (dfs : List Df) : Prop where
  sc : ∀ (i : Nat) (d : Df), dfs[i]? = some d → FnScope d.N d.ps (defScope d.st)
  chk : ∀ i, i < dfs.length → tabB nms Δ dfs i = true
  out : ∀ i, dfs.length ≤ i → Δ i = none
  nm : ∀ i, nms.fn i = (dfs[i]?).map (·.x)
/-- a def as the top has left it -/
def Here (K : PySem.W.Frag) (mg : Str → Option Value) (d : Df) : Prop := ∃ (f : Addr) (fd : FuncData), Fun K d.x d.x d.st f fd ∧ mg d.x = some (.ref f) ∧ Binds K fd d.ps []

variable [TabsC]
/-- a def's code object: its table is held -/
def Cod (mg : Str → Option Value) (base : Heap) (fd : FuncData) : Prop := ∃ (c P : Addr), P ∈ TabsC.l ∧ fd.code = .ref c ∧ GxR.TabB base mg c P
theorem rep_start {O : List Addr} {H : Hp} {N ps : List Str} {F : Fn} {vs : List V} {ds : List D} (th : There O H) (h : DSs O H vs ds) (hn : F.ns = N.length) (hp : F.ps = ds.length) : Rep O [] (start N vs) H (enter F ds) := by
  have hl := h.length
  have at_ : ∀ (i : Nat) (d : D), (enter F ds).at i = .v d → ds[i]? = some d := by
    have key : ∀ (ds : List D) (m i : Nat) (d : D), En.at (ds.map Sl.v ++ List.replicate m .u) i = .v d → ds[i]? = some d := by
      intro ds
      induction ds with
      | nil =>
        intro m
        induction m with
        | zero => intro i d h; cases h
        | succ m ih =>
          intro i d h
          cases i with
          | zero => cases h
          | succ i => have := ih i d (by simpa [List.replicate_succ, En.at] using h); simp at this
      | cons x r ih =>
        intro m i d h
        cases i with
        | zero => cases h; rfl
        | succ i => exact ih m i d h
    exact key ds _
  have at_o : ∀ (i : Nat) (d : D), (enter F ds).at i ≠ .o d := by
    have key : ∀ (ds : List D) (m i : Nat) (d : D), En.at (ds.map Sl.v ++ List.replicate m .u) i ≠ .o d := by
      intro ds
      induction ds with
      | nil =>
        intro m
        induction m with
        | zero => intro i d h; cases h
        | succ m ih =>
          intro i d h
          cases i with
          | zero => cases h
          | succ i => exact ih i d (by simpa [List.replicate_succ, En.at] using h)
      | cons x r ih =>
        intro m i d h
        cases i with
        | zero => cases h
        | succ i => exact ih m i d h
    exact key ds _
  refine ⟨?_, fun i d e => ?_, fun i d e => absurd e (at_o i d), fun i j d d' p e => absurd e (at_o i d), th.sub (fun p hp => by simpa using hp), fun p hp => by cases hp⟩
  · unfold L2.start enter
    rw [List.length_append, List.length_append, List.length_map, List.length_map, List.length_replicate, List.length_replicate, hl, hn, hp]
  · obtain ⟨v, e1, e2⟩ := h.get (at_ i d e)
    refine ⟨v, ?_, by rw [List.append_nil]; exact e2⟩
    unfold L2.start
    have lt : i < vs.length := (List.getElem?_eq_some_iff.mp e1).1
    rw [List.getElem?_append_left (by rw [List.length_map]; exact lt), List.getElem?_map, e1]
    rfl

section
variable {P : Program} {w : World} {K : PySem.W.Frag} {mg : Str → Option Value} {base : Heap} {T : Tb} {nms : Nms} {Δ : Nat → Option Fn} {dfs : List Df}
theorem body_red {F : Fn} {f : Nat} {O : List Addr} {H : Hp} {ds : List D} {Q : VK} {E : XK} {m : Nat} {as : List Nat} {σ : L2.St} (hF : Δ f = some F) (hl : ds.length = F.ps)
    (q : okR T (fun cls d _ H' => E cls d H') [] H (run Δ (m + 1) f ds) fun d => ∀ v H', Same H H' → DS O H' v d → Q v H') : okF { nx := fun _ H' => Q .non H', rt := Q } T (fun cls d _ H' => E cls d H') O [] as σ H (ex (run Δ m) F.body (enter F ds)) := by
  have e : run Δ (m + 1) f ds = (ex (run Δ m) F.body (enter F ds)).bind endF := by
    show (match Δ f with
      | some F => if ds.length = F.ps then (ex (run Δ m) F.body (enter F ds)).bind endF else .bad
      | none => .bad) = _
    rw [hF]
    exact if_pos hl
  rw [e] at q
  have sm : ∀ {Of' : List Addr} {H' : Hp}, Stp [] H Of' H' → Same H H' := fun s b o e => s.keep b o e (by simp)
  cases ee : ex (run Δ m) F.body (enter F ds) with
  | ok fl =>
    rw [ee] at q
    cases fl with
    | nx e1 => exact fun σ' Of' H' st _ _ => q .non H' (sm st) .non
    | bk e1 => exact q.elim
    | ct e1 => exact q.elim
    | rt d => exact fun v Of' H' st hv => q v H' (sm st) (hv.sub fun b hb => List.mem_append_left _ hb)
  | err c xs => rw [ee] at q; exact fun cls d σ' H' Of' st _ _ _ hx => q cls d H' (sm st) hx
  | bad => rw [ee] at q; exact q
theorem run_bad (tab : Tab nms Δ dfs) {i : Nat} {d : Df} (hd : dfs[i]? = some d) (m : Nat) (ds : List D) (hn : ds.length ≠ d.ps.length) : run Δ m i ds = .bad := by
  cases m with
  | zero => rfl
  | succ m =>
    have ck := tab.chk i (List.getElem?_eq_some_iff.mp hd).1
    unfold tabB at ck
    rw [hd] at ck
    show (match Δ i with
      | some F => if ds.length = F.ps then (ex (run Δ m) F.body (enter F ds)).bind endF else .bad
      | none => .bad) = _
    cases eF : Δ i with
    | none => rfl
    | some F =>
      rw [eF] at ck
      have ck : (decide (F.ps = d.ps.length) && decide (F.ns = d.N.length) && chkB nms d.N (List.range d.N.length) (defScope d.st) (defScope d.st) F.body (defBody d.st)) = true := ck
      rw [Bool.and_eq_true, Bool.and_eq_true, decide_eq_true_eq] at ck
      exact if_neg (by rw [ck.1.1]; exact hn)
theorem fn_all (tab : Tab nms Δ dfs) (here : ∀ d ∈ dfs, Here K mg d) (hb : ∀ x ∈ bltNames, mg x = none) (hc : ∀ x d, nms.cn.lookup x = some d → ∃ u, mg x = some u ∧ RelV (dV d) u) (hx : ∀ x c fs, nms.ex.lookup x = some (c, fs) → ExK T P w K mg base x c fs)
    (cod : ∀ d ∈ dfs, ∀ (f : Addr) (fd : FuncData), Fun K d.x d.x d.st f fd → mg d.x = some (.ref f) → Cod mg base fd) :
    ∀ (m i : Nat) (d : Df), dfs[i]? = some d → ∀ (f : Addr) (fd : FuncData), Fun K d.x d.x d.st f fd → mg d.x = some (.ref f) → FnOk P w K mg base (L2.CX P w) (2 * m + 2) f fd d.ps (spD T d.ps.length (run Δ m i)) := by
  intro m
  induction m with
  | zero =>
    intro i d hd f fd F _
    refine ⟨fun vs H Q E h => ?_, fun A outer s H args us vs Q E _ _ _ _ h => ?_⟩
    · obtain ⟨O, ds, _, _, _, q⟩ := h
      exact q.elim
    · obtain ⟨O, ds, _, _, _, q⟩ := h
      exact q.elim
  | succ m ih =>
    intro i d hd f fd F hmg
    have ck := tab.chk i (List.getElem?_eq_some_iff.mp hd).1
    unfold tabB at ck
    rw [hd] at ck
    cases eF : Δ i with
    | none => rw [eF] at ck; cases ck
    | some Fn =>
      rw [eF] at ck
      have ck : (decide (Fn.ps = d.ps.length) && decide (Fn.ns = d.N.length) && chkB nms d.N (List.range d.N.length) (defScope d.st) (defScope d.st) Fn.body (defBody d.st)) = true := ck
      rw [Bool.and_eq_true, Bool.and_eq_true, decide_eq_true_eq, decide_eq_true_eq] at ck
      obtain ⟨⟨c1, c2⟩, c3⟩ := ck
      have S := tab.sc i d hd
      have C := cod d (List.mem_of_getElem? hd) f fd F hmg
      obtain ⟨oc, od, kV, doc, pm, an, cdv, ct, osl, rfl, lk, hcd⟩ := F.ex
      refine fn_of (k := 2 * m + 3) lk hcd S (fun vs H Q E h => ?_) (fun A outer s H vs Q E hr h => ?_)
      · obtain ⟨O, ds, _, hv, hl, _⟩ := h
        rw [hv.length]
        exact hl
      · obtain ⟨O, ds, th, hv, hl, q⟩ := h
        obtain ⟨c, Pt, hP, hcode, hT⟩ := C
        have G : Gd T (run Δ m) nms d.N (cxOf (L2.CX P w) P w K mg base d.N d.x (defScope d.st) f cdv A outer s H E) (2 * m + 2) (defScope d.st) (defScope d.st) (fun cls d _ H' => E cls d H') :=
          { hN := rfl, nd := S.nd, sc := rfl, fnc := fun _ _ => rfl, calm := rfl, room := hr.mono (by omega), k2 := Nat.le_add_left 2 (2 * m), ex := hx, tk := takes_of rfl rfl rfl rfl, blt := hb, cn := hc,
            cod := fun _ => ⟨hr, c, Pt, hP, hcode, hT⟩,
            fn := fun j x hx => by
              rw [tab.nm] at hx
              cases e2 : dfs[j]? with
              | none => rw [e2] at hx; cases hx
              | some d2 =>
                rw [e2] at hx
                cases hx
                obtain ⟨f2, fd2, F2, h1, h2⟩ := here d2 (List.mem_of_getElem? e2)
                exact ⟨f2, fd2, d2.ps, h1, F2.kp, h2, ih j d2 e2 f2 fd2 F2 h1, run_bad tab e2 m⟩ }
        exact ⟨_, (sp_all Fn.body).blk _ (2 * m + 2) _ _ _ _ G ⟨passes_of rfl, rfl, rfl⟩ _ c3, O, [], _, rep_start (ps := d.ps) th hv c2 (by rw [hl, c1]), body_red eF (by rw [hl, c1]) q⟩

/-! ### the law -/
def noLst (K : PySem.W.Frag) : Bool := K.all fun p => match p.2.cls with
  | .type "list" => false
  | _ => true
/-- the law's promise: no exception -/
def spL (n : Nat) (g : List D → Res D) : Sp := fun vs H Q _ => ∃ O ds d, There O H ∧ DSs O H vs ds ∧ ds.length = n ∧ g ds = .ok d ∧ ∀ v H', Same H H' → DS O H' v d → Q v H'
theorem spL_D {n : Nat} {g : List D → Res D} {vs : List V} {H : Hp} {Q : VK} {E : XK} (h : spL n g vs H Q E) : spD T n g vs H Q E := by
  obtain ⟨O, ds, d, h1, h2, h3, h4, h5⟩ := h
  exact ⟨O, ds, h1, h2, h3, by rw [h4]; exact h5⟩
end
end SQ

/-! SqExk: an exception of the program as its top has left it. -/
set_option maxHeartbeats 4000000
namespace SQ
open PySem PySem.Spec PyProof.Rows L2

/-- the def __init__ in a class's body -/
def clsInit : Stmt → Stmt
  | .ClassDef _ _ _ body _ _ _ _ _ _ _ => (body.find? fun s => match s with
    | .FunctionDef .. => true
    | _ => false).getD (.Pass ⟨0, 0, 0, 0⟩)
  | s => s
/-- super().__init__(z), then the fields -/
def iniB (N fs : List Str) (sc : Scope) (params : Arguments) (l : List Stmt) : Bool := match l with
  | .Expr (.Call (.Attribute (.Call (.Name s _) [] [] _) i p2) [.Name z _] [] p3) _ :: rest => decide (s = "super") && decide (i = "__init__") && (p2.endLine == p3.line) &&
    decide (sc.kind = .function) && !sc.isCoroutine && !sc.isGenerator && decide (N.Nodup) && decide (N = ("self" : Str) :: fs) && N.all (fun x => decide (sc.names.lookup x = some .local)) && sc.names.all (fun x => decide (x.2 ≠ .cell)) &&
    sc.names.all (fun x => !decide (x.2 = .free) || decide (x.1 = ("__class__" : Str))) && decide (sc.names.lookup ("super" : Str) = some .globalImplicit) && decide (sc.names.lookup ("__class__" : Str) = some .free) &&
    (match (params.posonlyargs ++ params.args).head? with
      | some ar => decide (ar.arg = ("self" : Str))
      | none => false) && (List.range N.length).any (fun i => varB N sc i z) && restB N sc "self" 1 fs rest && decide (fs ≠ []) && decide (fs.length ≤ 10) && decide (fs.Nodup)
  | _ => false
theorem iniB_get {N fs : List Str} {sc : Scope} {params : Arguments} {l : List Stmt} (h : iniB N fs sc params l = true) : ∃ p0 p1 p2 z zp p3 p4 rest, l = .Expr (.Call (.Attribute (.Call (.Name "super" p0) [] [] p1) "__init__" p2) [.Name z zp] [] p3) p4 :: rest ∧ (p2.endLine == p3.line) = true ∧ IniOk N fs sc params z rest ∧ fs.length ≤ 10 ∧ fs.Nodup := by
  unfold iniB at h
  split at h
  · simp only [Bool.and_eq_true, decide_eq_true_eq, Bool.not_eq_true'] at h
    obtain ⟨⟨⟨⟨⟨⟨⟨⟨⟨⟨⟨⟨⟨⟨⟨⟨⟨⟨rfl, rfl⟩, h3⟩, h4⟩, h5⟩, h6⟩, h7⟩, h8⟩, h9⟩, h10⟩, h11⟩, h12⟩, h13⟩, h14⟩, h15⟩, h16⟩, h17⟩, h18⟩, h19⟩ := h
    refine ⟨_, _, _, _, _, _, _, _, rfl, h3, ⟨h4, h5, h6, h7, h8, fun x hx => of_decide_eq_true (List.all_eq_true.mp h9 x hx), fun x hx => of_decide_eq_true (List.all_eq_true.mp h10 x hx), fun x hx e => ?_, h12, h13, ?_, ?_, ?_, by omega⟩, h18, h19⟩
    · have := List.all_eq_true.mp h11 x hx
      rw [e] at this
      simpa using this
    · split at h14
      · rename_i ar e
        exact ⟨ar, e, of_decide_eq_true h14⟩
      · cases h14
    · obtain ⟨i, hi, hv⟩ := List.any_eq_true.mp h15
      exact ⟨i, hv, List.mem_range.mp hi⟩
    · cases fs with
      | nil => exact absurd rfl h17
      | cons f fs' => exact ⟨f, fs', rfl, h16⟩
  · cases h
section
variable {P : Program} {w : World} {K : PySem.W.Frag} {mg : Str → Option Value} {base : Heap} {T : Tb} {N fs : List Str} {x name qual : Str} {scope : Scope} {c : Nat} {C CN f cc cda : Addr} {params : Arguments} {body : List Stmt}
  {kV doc pm ct oc ccl ocl : Value} {an od cdd odd : Option Addr} {osl ccs ocs : Array (Option Value)} {cvs : Array Value} {file : Str} {tf : Tok}
  {nm q : Str} {bs bm : List Value} {sn : List Str} {sub : List Value} {ab : Bool} {col : Option Bool} {dd : Option Addr} {k0 k1 k2 k3 k5 : Option Value}
variable [TabsC]
theorem exk_mk (hea : T.ea c = C) (hen : T.en c = fs) (hI : iniB N fs scope params body = true) (hsup : mg "super" = none) (htop : (P.main.scope.names.lookup ("super" : Str)).isSome = false) (hmg : mg x = some (.ref C))
    (hbind : ∀ us : List Value, us.length = N.length → bindArgs (PySem.W.ksFn name qual params body scope .none kV doc pm an (.ref cda) ct cc) ⟨us, []⟩ = pure (N.zip us))
    (x1 : K.lookup C = some (excClassObj nm q C CN bs bm true sn sub ab col dd k0 k1 k2 k3 k5 "ValueError.__new__")) (x2 : PySem.HandSPX.refsVE bm = true)
    (x3 : PySem.W.findIn K (.ref C) "__setattr__" = some (some (.builtin "object.__setattr__"))) (x4 : PySem.W.subIn K (.ref C) (.type "BaseException") = some true) (x5 : PySem.W.typeIn K (.ref C) = some (.type "type")) (x6 : PySem.W.keepIn K (.ref C) = true)
    (x7 : PySem.W.findIn K (.ref C) "__init__" = some (some (.ref f))) (x8 : PySem.W.typeIn K (.ref f) = some (.type "function"))
    (x9 : K.lookup f = some ⟨oc, od, .func (PySem.W.ksFn name qual params body scope .none kV doc pm an (.ref cda) ct cc), osl⟩) (x10 : PySem.W.codeIn K (.ref cda) qual = true) (x11 : K.lookup cda = some ⟨ccl, cdd, .fields cvs, ccs⟩) (x12 : cvs[2]? = some (.str file tf)) (x13 : ((P.main.file : Str) == file) = true)
    (x14 : K.lookup cc = some ⟨ocl, odd, .cell (some (.ref C)), ocs⟩) (x15 : PySem.W.nsIn K cStatics "thirdparty.any" = some none) (x16 : PySem.W.ks_superIn K C C "__init__" = some (some (.builtin "ValueError.__init__")))
    (x17 : PySem.W.subIn K (.ref C) (.type "ValueError") = some true) (x18 : PySem.W.mroIn K C (.ref C) = some true) (x19 : ∀ f ∈ fs, PySem.W.findIn K (.ref C) f = some none)
    (x20 : PySem.W.findIn K (.ref C) "__getattribute__" = some (some (.builtin "BaseException.__getattribute__"))) (x21 : PySem.W.findIn K (.ref C) "__getattr__" = some none) (x22 : PySem.W.hasDictIn K C = true) (x23 : PySem.W.subIn K (.ref C) (.ref C) = some true) : ExK T P w K mg base x c fs := by
  obtain ⟨p0, p1, p2, z, zp, p3, p4, rest, rfl, hline, S, h10, hnd⟩ := iniB_get hI
  subst hea
  have hcl : (PySem.W.clsIn K (T.ea c)).isSome = true := by unfold PySem.W.clsIn; rw [x1] <;> rfl
  have x23 : PySem.W.exmOne K (.ref (T.ea c)) (.ref (T.ea c)) = some true := by
    unfold PySem.W.exmOne PySem.W.kitCls
    simp only [x4, hcl, x5, x23, beq_self_eq_true, Bool.and_self, if_true]
  exact ⟨hmg, hen, hnd, h10, ⟨⟨_, _, _, _, _, _, _, _, _, _, _, _, _, _, _, x1, x2⟩, x3, x4, x5, x6⟩, ⟨f, _, N, x7, x8, fn_init S hline x9 x10 x11 x12 x13 x14 hsup x15 x16 x17 x18 htop x19, .all hbind⟩, ⟨x20, x21, x4, x22⟩, x19, x23⟩
end
end SQ

/-! SqEnd: the end of a law whose defs may make generator expressions: their tables of code objects are held as tabF. -/
set_option maxHeartbeats 4000000
namespace SQ
open PySem PySem.Spec PyProof.Rows L2

abbrev tabO : Obj := { cls := .none, data := .fields #[] }
/-- neither a list of the module nor an empty table is written in K -/
def cleanK (K : PySem.W.Frag) : Bool := K.all fun p => match p.2.cls with
  | .type "list" => false
  | .none => (match p.2.data with
    | .fields vs => decide (vs.size ≠ 0)
    | _ => true)
  | _ => true
theorem frag_mem {K : PySem.W.Frag} {a : Addr} {o : Obj} (h : K.lookup a = some o) : (a, o) ∈ K := by
  induction K with
  | nil => cases h
  | cons p r ih =>
    rw [List.lookup_cons] at h
    split at h
    · rename_i e
      cases h
      rw [eq_of_beq e]
      exact List.mem_cons_self
    · exact List.mem_cons_of_mem _ (ih h)
theorem clean_list {K : PySem.W.Frag} (hK : cleanK K = true) {a : Addr} {o : Obj} (hc : o.cls = .type "list") : K.lookup a ≠ some o := fun h => by
  have z := List.all_eq_true.mp hK _ (frag_mem h)
  simp only [hc] at z
  cases z
theorem clean_tab {K : PySem.W.Frag} (hK : cleanK K = true) {a : Addr} : K.lookup a ≠ some tabO := fun h => by
  have z := List.all_eq_true.mp hK _ (frag_mem h)
  simp at z

/-- the abstract heap at the law's call: the script a, the tables at Ts -/
def H1st (a : Addr) (o : Obj) (ns : List Int) (Ts : List Addr) : Hp := fun b => if b = a then some (.frz o (.lst (ns.map V.int))) else if b ∈ Ts then some (tabF b) else none
section
variable {a : Addr} {o : Obj} {ns : List Int} {Ts : List Addr}
theorem h1_a : H1st a o ns Ts a = some (.frz o (.lst (ns.map V.int))) := if_pos rfl
theorem h1_t {b : Addr} (h : b ≠ a) (ht : b ∈ Ts) : H1st a o ns Ts b = some (tabF b) := by unfold H1st; rw [if_neg h, if_pos ht]
theorem h1_n {b : Addr} (h : b ≠ a) (ht : b ∉ Ts) : H1st a o ns Ts b = none := by unfold H1st; rw [if_neg h, if_neg ht]
end

theorem call_law {P : Program} {w : World} {K : PySem.W.Frag} {mg mb : Str → Option Value} {k : Nat} {fa a : Addr} {cs : List (Addr × Addr)} {fd : FuncData} {x : Str} {g : List D → Res D} {s₁ : Shared} {vs : List Value} {ns : List Int}
    (KX : K.In s₁.heap) (hK : cleanK K = true) (gG : s₁.heap.Ns mainGlobals mg) (gB : s₁.heap.Ns builtinsNs mb) (gb : ∀ x : Str, x ≠ "__name__" → mb x = bootBuiltins x) (gl : s₁.heap.NoLimit) (gg : s₁.gens = #[])
    (tT : ∀ p ∈ cs, s₁.heap.get? p.2 = some tabO) (tC : ∀ p ∈ cs, PySem.W.CodeHd s₁.heap p.1 p.2)
    (gm : ∃ (bm : Addr) (ob : Obj), mg "__builtins__" = some (.ref bm) ∧ bm ≠ builtinsNs ∧ s₁.heap.get? bm = some ob ∧ ob.cls = .type "module" ∧ ob.dict = some builtinsNs ∧ ob.data = .plain)
    (ha : s₁.heap.get? a = some { cls := .type "list", data := .seq vs.toArray }) (hi : IntsAre vs ns) (hl : ns.length ≤ 63) (hr : Room k callerA) (hok : g [.list (ns.map .int)] = .ok (.bool true))
    (F : ∀ base : Heap, K.In base → base.Ns mainGlobals mg → (∀ p ∈ cs, GxR.TabB base mg p.1 p.2) → FnOk P w K mg base (L2.CX P w) k fa fd [x] (@spL ⟨cs.map (·.2)⟩ 1 g)) (hb : ∀ (s : Shared) (u : Value), BindsTo s fd ⟨[u], []⟩ [(x, u)]) :
    codeAny (model P w) callerA (.call (.ref fa) ⟨[.ref a], []⟩) (fun r s' => r = .ok (.ret (.bool true)) ∧ OldK s₁.heap s'.heap ∧ s'.os = s₁.os ∧ AllBare s'.gens) s₁ := by
  have rv := vals_ints hi
  generalize hTs : cs.map (·.2) = Ts at F
  have isT : ∀ b ∈ Ts, s₁.heap.get? b = some tabO := fun b hb => by
    rw [← hTs] at hb
    obtain ⟨p, hp, e⟩ := List.mem_map.mp hb
    rw [← e]; exact tT p hp
  have memT : ∀ p ∈ cs, p.2 ∈ Ts := fun p hp => by rw [← hTs]; exact List.mem_map.mpr ⟨p, hp, rfl⟩
  have neA : ∀ b ∈ Ts, b ≠ a := fun b hb z => by
    have q := isT b hb
    rw [z, ha] at q
    cases q
  generalize hH : H1st a { cls := .type "list", data := .seq vs.toArray } ns Ts = H
  have Ha : H a = some (.frz { cls := .type "list", data := .seq vs.toArray } (.lst (ns.map V.int))) := by rw [← hH]; exact h1_a
  have Ht : ∀ b ∈ Ts, H b = some (tabF b) := fun b hb => by rw [← hH]; exact h1_t (neA b hb) hb
  have Hn : ∀ b, b ≠ a → b ∉ Ts → H b = none := fun b h1 h2 => by rw [← hH]; exact h1_n h1 h2
  -- an object that is neither a list nor a table is not tracked
  have free : ∀ {b : Addr} {o : Obj}, s₁.heap.get? b = some o → (∀ us n, o.data ≠ .seq us n) → o.data ≠ .fields #[] → H b = none := fun {b o} e h1 h2 => by
    refine Hn b (fun z => ?_) fun z => ?_
    · rw [z, ha] at e; cases e; exact h1 _ _ rfl
    · rw [isT b z] at e; cases e; exact h2 rfl
  have hHok : HOk P w H s₁.heap := fun b u e => by
    by_cases h1 : b = a
    · subst h1
      rw [Ha] at e; cases e
      refine ⟨ha, ?_, vs, _, rv, ha⟩
      rw [List.length_map, sizeLine_eq]; omega
    · by_cases h2 : b ∈ Ts
      · rw [Ht b h2] at e; cases e
        exact tabF_ok ⟨#[], isT b h2, trivial⟩
      · rw [Hn b h1 h2] at e; cases e
  have up : ∀ {b : Addr} {o : Obj}, s₁.heap.get? b = some o → H b = none → (hidT s₁.heap H).get? b = some o := fun e n => hidT_get e n
  have nsU : ∀ {b : Addr} {m : Str → Option Value}, s₁.heap.Ns b m → (hidT s₁.heap H).Ns b m := fun {b m} ⟨o, es, ep, e, d, r⟩ => by
    refine ⟨o, es, ep, up e (free e (fun us n z => ?_) fun z => ?_), d, r⟩ <;> (rw [d] at z; cases z)
  have kU : K.In (hidT s₁.heap H) := fun b o e => by
    refine up (KX b o e) (Hn b (fun z => ?_) fun z => ?_)
    · rw [z] at e
      have := KX a o e
      rw [ha] at this; cases this
      exact clean_list hK rfl e
    · have := KX b o e
      rw [isT b z] at this; cases this
      exact clean_tab hK e
  have tabs : ∀ p ∈ cs, GxR.TabB (hidT s₁.heap H) mg p.1 p.2 := fun p hp => by
    have hTp := tT p hp
    refine ⟨?_, ?_, fun z => ?_⟩
    · obtain ⟨o, us, q1, q2, q3, q4, q5, q6, q7, e1, e2, e3, e4, r⟩ := tC p hp
      refine ⟨o, us, q1, q2, q3, q4, q5, q6, q7, up e1 (free e1 (fun us n z => ?_) fun z => ?_), e2, e3, e4, r⟩
      · rw [e3] at z; cases z
      · rw [e3] at z; cases z; simp at e4
    · obtain ⟨bm, ob, b1, b2, b3, b4, b5, b6⟩ := gm
      refine ⟨bm, ob, b1, b2, fun q => ?_, fun q => ?_, up b3 (free b3 (fun us n z => ?_) fun z => ?_), b4, b5, b6⟩
      · obtain ⟨o, es, ep, e, hd, _⟩ := gG
        rw [q, e] at b3; cases b3
        rw [hd] at b6; cases b6
      · rw [q, hTp] at b3; cases b3; cases b6
      · rw [b6] at z; cases z
      · rw [b6] at z; cases z
    · obtain ⟨o, es, ep, e, hd, _⟩ := gG
      rw [z, hTp] at e; cases e; cases hd
  have e0 : Env0 P w K mg (hidT s₁.heap H) callerA [] s₁ H :=
    ⟨rfl, ⟨kU, nsU gG, ⟨mb, nsU gB, gb⟩, let ⟨mc, h1, h2⟩ := gl; ⟨mc, nsU h1, h2⟩⟩, fun b o e => of_hidT e, Nat.le_of_eq (hidT_size _ _), trivial, fun b hb => absurd (show b ∈ ([] : List Addr) from hb) (by simp), hHok, .of_eq gg⟩
  have hd : ∀ l : List Int, DSs [] H (l.map V.int) (l.map .int) := fun l => by
    induction l with
    | nil => exact .nil
    | cons x r ih => exact .cons (.int x) ih
  letI tc : TabsC := ⟨Ts⟩
  have sp0 : spL 1 g [.ref a] H (fun v H' => v = .bl true ∧ ∀ b ∈ Ts, H' b = some (tabF b)) (fun _ _ _ => False) := by
    refine ⟨[], [.list (ns.map .int)], .bool true, ⟨fun p hp => absurd hp (by simp), fun b hb => Ht b hb⟩, DSs.cons (DS.lst (.inr ⟨_, Ha⟩) (by simp) (hd ns) ?_) DSs.nil, rfl, hok, fun v H' s hv => ⟨DS.i_bool hv, fun b hb => s b _ (Ht b hb)⟩⟩
    rw [List.length_map]
    have : lim = 1000000 := rfl
    omega
  refine codeAny_mono ((F _ kU (nsU gG) tabs).run callerA [] s₁ H ⟨[.ref a], []⟩ [.ref a] [.ref a] _ _ hr e0 (hb s₁ (.ref a)) (.cons rfl .nil) sp0) fun r s' h => ?_
  cases r with
  | error e =>
    obtain ⟨_, _, _, _, _, _, _, _, _, _, _, _, z⟩ := h
    exact z.elim
  | ok fl =>
    cases fl with
    | next => exact False.elim h
    | brk => exact False.elim h
    | cont => exact False.elim h
    | ret u =>
      obtain ⟨v, H', os, bare, un, hok', r', q1, q2⟩ := h
      subst q1
      obtain rfl : u = Value.bool true := r'
      have later : ∀ b ∈ Ts, ∃ more : Array Value, s'.heap.get? b = some { cls := .none, data := .fields more } := fun b hb => by
        obtain ⟨⟨ps, e, _⟩, _⟩ := hok' b _ (q2 b hb)
        exact ⟨ps, e⟩
      have kept : ∀ b o, b ∉ Ts → s₁.heap.get? b = some o → s'.heap.get? b = some o := fun b o nb e => by
        by_cases h1 : b = a
        · subst h1
          obtain ⟨e1, _⟩ := hok' b _ (un.frzs b _ _ Ha)
          rw [ha] at e; cases e
          exact e1
        · exact un.keep b o e (Hn b h1 nb) (fun z => absurd (show b ∈ ([] : List Addr) from z) (by simp)) (by simp)
      refine ⟨rfl, ⟨fun b o e => ?_, fun b o e => ?_⟩, os, bare⟩
      · by_cases hb2 : b ∈ Ts
        · have hb3 := hb2
          rw [← hTs] at hb3
          obtain ⟨p, hp, ep⟩ := List.mem_map.mp hb3
          obtain ⟨more, hm⟩ := later b hb2
          rw [isT b hb2] at e
          cases e
          refine .inr (.inl ⟨?_, rfl, #[], more, rfl, by rw [Array.empty_append]; exact hm⟩)
          rw [← ep]
          exact ((tC p hp).tab (tT p hp)).isCodeTable
        · exact .inl (kept b o hb2 e)
      · by_cases hb2 : b ∈ Ts
        · obtain ⟨more, hm⟩ := later b hb2
          exact ⟨_, hm⟩
        · exact ⟨o, kept b o hb2 e⟩

/-- the defs of q stand with their code objects (cs) -/
def CodsAt (q : Program) (mg : Str → Option Value) (h : Heap) (cs : List (Addr × Addr)) : Prop := ∀ (y : Str), ((recsOf q).any fun e => e.name == y) = true → ∀ (f : Addr) (o : Obj) (fd : FuncData), mg y = some (.ref f) → h.get? f = some o → o.data = .func fd → ∃ p ∈ cs, fd.code = .ref p.1
theorem cods_of {mg : Str → Option Value} {h : Heap} : ∀ l : List DefRec, (∀ d ∈ l, ∃ a o fd c P, mg d.name = some (.ref a) ∧ h.get? a = some o ∧ o.data = .func fd ∧ fd.code = .ref c ∧ h.IsCode c P #[] ∧ h.TableAt c P #[]) →
    ∃ cs : List (Addr × Addr), (∀ p ∈ cs, h.get? p.2 = some tabO ∧ PySem.W.CodeHd h p.1 p.2) ∧ ∀ d ∈ l, ∀ (f : Addr) (o : Obj) (fd : FuncData), mg d.name = some (.ref f) → h.get? f = some o → o.data = .func fd → ∃ p ∈ cs, fd.code = .ref p.1 := by
  intro l
  induction l with
  | nil => intro _; exact ⟨[], fun p hp => (by simp at hp), fun d hd => (by simp at hd)⟩
  | cons d l ih =>
    intro hl
    obtain ⟨cs, h1, h2⟩ := ih fun e he => hl e (List.mem_cons_of_mem _ he)
    obtain ⟨a, o, fd, c, P, q1, q2, q3, q4, q5, q6⟩ := hl d List.mem_cons_self
    refine ⟨(c, P) :: cs, fun p hp => ?_, fun e he f o' fd' m1 m2 m3 => ?_⟩
    · rcases List.mem_cons.mp hp with rfl | hp
      · exact ⟨q6.2, PySem.W.CodeHd.of q5 q6⟩
      · exact h1 p hp
    · rcases List.mem_cons.mp he with rfl | he
      · rw [q1] at m1; cases m1
        rw [q2] at m2; cases m2
        rw [q3] at m3; cases m3
        exact ⟨(c, P), List.mem_cons_self, q4⟩
      · obtain ⟨p, hp, e⟩ := h2 e he f o' fd' m1 m2 m3
        exact ⟨p, List.mem_cons_of_mem _ hp, e⟩

theorem walk_gen {l : PySem.W.OpenLaw} {k : Nat} {q : Program} {loose : List Str} {XP : (Str → Option Value) → Heap → Prop} {YP : World → Heap → Prop} {d : DefRec} {K : Params → PySem.W.Frag} {x : Str} {g : List D → Res D}
    (hn : l.most = some 63) (hdf : d.params.defaults = []) (hr : Room k callerA) (hY : ∀ (w : World) (h : Heap), YP w h → (K w.params).In h) (hK : ∀ w : World, cleanK (K w.params) = true)
    (hok : ∀ ns : List Int, ns.length ≤ 63 → g [.list (ns.map .int)] = .ok (.bool true))
    (F : ∀ (w : World) (mg : Str → Option Value) (fa : Addr) (h : Heap) (cs : List (Addr × Addr)), (K w.params).In h → h.Ns mainGlobals mg → mg d.name = some (.ref fa) → CodsAt q mg h cs →
      ∃ fd : FuncData, (∀ (s : Shared) (u : Value), BindsTo s fd ⟨[u], []⟩ [(x, u)]) ∧ ∀ base : Heap, (K w.params).In base → base.Ns mainGlobals mg → (∀ p ∈ cs, GxR.TabB base mg p.1 p.2) → FnOk l.prog w (K w.params) mg base (L2.CX l.prog w) k fa fd [x] (@spL ⟨cs.map (·.2)⟩ 1 g)) :
    PySem.W.WalkO q loose XP YP l.row.toRowW d [] (fun f vs => PySem.call f vs) := by
  refine Att.attach_callB hn hdf fun w s₀ s₁ mg mb fa o pm cd doc a vs ns G Y ho hd hcd hmg hobj hints hlen hbits hg => ?_
  have KX := hY w _ Y
  obtain ⟨cs, t1, t2⟩ := cods_of (recsOf q) G.T.tab
  obtain ⟨fd, hb, hF⟩ := F w mg fa _ cs KX G.T.g hmg fun y hy => by
    obtain ⟨e, he, en⟩ := List.any_eq_true.mp hy
    rw [← eq_of_beq en]
    exact t2 e he
  exact call_law KX (hK w) G.T.g G.T.b G.T.builtins G.T.nolimit hg (fun p hp => (t1 p hp).1) (fun p hp => (t1 p hp).2) G.T.bmain hobj hints hlen hr (hok ns hlen) hF hb
end SQ
namespace SQ
open PySem PySem.Spec PyProof.Rows L2
theorem cod_of {q : Program} {mg : Str → Option Value} {h base : Heap} {cs : List (Addr × Addr)} {K : PySem.W.Frag} {dfs : List Df} (X : K.In h) (hcs : CodsAt q mg h cs) (hT : ∀ p ∈ cs, GxR.TabB base mg p.1 p.2)
    (v : (dfs.all fun d => (recsOf q).any fun e => e.name == d.x) = true) : ∀ d ∈ dfs, ∀ (f : Addr) (fd : FuncData), Fun K d.x d.x d.st f fd → mg d.x = some (.ref f) → @Cod ⟨cs.map (·.2)⟩ mg base fd := by
  intro d hd f fd F hm
  obtain ⟨oc, od, kV, doc, pm, an, cdv, ct, osl, e, lk, _⟩ := F.ex
  obtain ⟨p, hp, ep⟩ := hcs d.x (List.all_eq_true.mp v d hd) f _ fd hm (X _ _ lk) rfl
  exact ⟨p.1, p.2, List.mem_map.mpr ⟨p, hp, rfl⟩, ep, hT p hp⟩
end SQ

/-! SqPlain: rules for reckoning with ev and ex by hand. -/
namespace SQ
open PySem

/-! ### comprehensions, loops -/
theorem compL_map {f : D → Res D} {g : D → D} : ∀ {xs : List D}, (∀ x ∈ xs, f x = .ok (g x)) → compL (fun _ => .ok true) f xs = .ok (xs.map g)
  | [], _ => rfl
  | x :: r, h => by
    show (f x).bind (fun y => (compL (fun _ => .ok true) f r).bind fun l => Res.ok (y :: l)) = _
    rw [h x List.mem_cons_self, Res.ok_bind, compL_map fun y hy => h y (List.mem_cons_of_mem _ hy)]
    rfl
theorem compL_filter {t : D → Res Bool} {p : D → Bool} {f : D → Res D} {g : D → D} : ∀ {xs : List D}, (∀ x ∈ xs, t x = .ok (p x)) → (∀ x ∈ xs, p x = true → f x = .ok (g x)) → compL t f xs = .ok ((xs.filter p).map g)
  | [], _, _ => rfl
  | x :: r, h, hf => by
    show (t x).bind (fun b => if b then (f x).bind fun y => (compL t f r).bind fun l => Res.ok (y :: l) else compL t f r) = _
    have ih := compL_filter (fun y hy => h y (List.mem_cons_of_mem _ hy)) (fun y hy => hf y (List.mem_cons_of_mem _ hy))
    rw [h x List.mem_cons_self, Res.ok_bind, ih]
    cases e : p x with
    | true => rw [if_pos rfl, hf x List.mem_cons_self e, List.filter_cons_of_pos e]; rfl
    | false => rw [if_neg Bool.false_ne_true, List.filter_cons_of_neg (by rw [e]; exact Bool.false_ne_true)]
theorem forL_inv {f : D → En → Res Fl} (I : Nat → En → Prop) : ∀ {xs : List D} {e : En} {k : Nat}, I k e → (∀ i x e, xs[i]? = some x → I (k + i) e → ∃ e', (f x e = .ok (.nx e') ∨ f x e = .ok (.ct e')) ∧ I (k + i + 1) e') → ∃ e', forL f xs e = .ok (.nx e') ∧ I (k + xs.length) e'
  | [], e, k, h0, _ => ⟨e, rfl, h0⟩
  | x :: r, e, k, h0, hs => by
    obtain ⟨e1, h1, h2⟩ := hs 0 x e rfl h0
    obtain ⟨e2, h3, h4⟩ := forL_inv I (xs := r) (e := e1) (k := k + 1) h2 fun i y e' hy hi => by
      have := hs (i + 1) y e' (by simpa using hy) (by rw [show k + (i + 1) = k + 1 + i by omega]; exact hi)
      rwa [show k + (i + 1) + 1 = k + 1 + i + 1 by omega] at this
    refine ⟨e2, ?_, by rw [List.length_cons, show k + (r.length + 1) = k + 1 + r.length by omega]; exact h4⟩
    show (f x e).bind _ = _
    rcases h1 with h1 | h1 <;> rw [h1] <;> exact h3
/-- a loop with one state that is told -/
theorem forL_fold {f : D → En → Res Fl} {α : Type} (st : α → En) (step : α → D → α) {xs : List D} {a : α} (hs : ∀ x ∈ xs, ∀ a, f x (st a) = .ok (.nx (st (step a x)))) : forL f xs (st a) = .ok (.nx (st (xs.foldl step a))) := by
  induction xs generalizing a with
  | nil => rfl
  | cons x r ih =>
    show (f x (st a)).bind _ = _
    rw [hs x List.mem_cons_self]
    exact ih fun y hy b => hs y (List.mem_cons_of_mem _ hy) b

/-! ### ints and texts -/
def iR (n : Nat) : List D := (List.range n).map fun (i : Nat) => PyData.int i
theorem rngL_nat (n : Nat) : rngL 0 n 1 = iR n := by
  unfold rngL iR
  rw [rangeSize_one]
  have e : (if (0 : Int) < n then ((n : Int) - 0) else 0).toNat = n := by split <;> omega
  rw [e]
  refine List.map_congr_left fun i _ => ?_
  rw [Int.zero_add, Int.mul_one]
theorem iR_get {n i : Nat} {x : D} (h : (iR n)[i]? = some x) : x = .int i ∧ i < n := by
  unfold iR at h
  rw [List.getElem?_map] at h
  cases e : (List.range n)[i]? with
  | none => rw [e] at h; cases h
  | some j =>
    rw [e] at h
    obtain ⟨h1, h2⟩ := List.getElem?_eq_some_iff.mp e
    rw [List.getElem_range] at h2
    subst h2
    cases h
    exact ⟨rfl, by simpa using h1⟩
theorem iR_length (n : Nat) : (iR n).length = n := by simp [iR]
section
variable {K : Nat → List D → Res D}
theorem ev_rngN {hi : C} {e : En} {n : Nat} (h : ev K hi e = .ok (.int n)) (hl : n ≤ lim) : ev K (.rng (.dat (.int 0)) hi (.dat (.int 1))) e = .ok (.list (iR n)) := by
  show (Res.ok (PyData.int 0)).bind (fun x => (ev K hi e).bind fun y => (Res.ok (PyData.int 1)).bind fun z => _) = _
  rw [h]
  simp only [Res.ok_bind]
  have e0 : (Builtin.Range.rangeSize 0 n 1).toNat = n := by rw [rangeSize_one]; split <;> omega
  have l1 : lim = 1000000 := rfl
  rw [if_pos ⟨by omega, by omega, by omega, by omega, by omega, by decide, by omega⟩, rngL_nat]
end
section
variable {K : Nat → List D → Res D} {e e1 : En}
theorem ex_seq {a b : C} (h : ex K a e = .ok (.nx e1)) : ex K (.seq a b) e = ex K b e1 := by
  show (ex K a e).bind _ = _
  rw [h]; rfl
theorem ex_seqR {a b : C} {d : D} (h : ex K a e = .ok (.rt d)) : ex K (.seq a b) e = .ok (.rt d) := by
  show (ex K a e).bind _ = _
  rw [h]; rfl
theorem ex_iffT {t a b : C} {d : D} (h : ev K t e = .ok d) (ht : truth d = true) : ex K (.iff t a b) e = ex K a e := by
  show (ev K t e).bind (fun x => if truth x then ex K a e else ex K b e) = _
  rw [h, Res.ok_bind, ht, if_pos rfl]
theorem ex_iffF {t a b : C} {d : D} (h : ev K t e = .ok d) (ht : truth d = false) : ex K (.iff t a b) e = ex K b e := by
  show (ev K t e).bind (fun x => if truth x then ex K a e else ex K b e) = _
  rw [h, Res.ok_bind, ht, if_neg Bool.false_ne_true]
theorem ex_set {i : Nat} {c : C} {d : D} (h : ev K c e = .ok d) : ex K (.set i c) e = .ok (.nx (e.put i (.v d))) := by
  show (ev K c e).bind _ = _
  rw [h]; rfl
theorem ex_for {tg src body : C} {s : D} {xs : List D} (h : ev K src e = .ok s) (hx : itemsD s = .ok xs) : ex K (.for_ tg src body) e = forL (fun x e1 => (bindT tg x e1).bind fun e2 => ex K body e2) xs e := by
  show (ev K src e).bind (fun s => (itemsD s).bind fun xs => forL (fun x e1 => (bindT tg x e1).bind fun e2 => ex K body e2) xs e) = _
  rw [h, Res.ok_bind, hx, Res.ok_bind]
theorem ex_ret {c : C} {d : D} (h : ev K c e = .ok d) : ex K (.ret c) e = .ok (.rt d) := by
  show (ev K c e).bind _ = _
  rw [h]; rfl
/-- [elt for tg in src], each item turned by g -/
theorem ev_cmp1 {tg src elt : C} {s : D} {xs : List D} {g : D → D} (h : ev K src e = .ok s) (hx : itemsD s = .ok xs) (hg : ∀ x ∈ xs, ∃ e1, bindT tg x (e.wip (slots tg)) = .ok e1 ∧ ev K elt e1 = .ok (g x)) : ev K (.cmp1 tg src elt .na) e = .ok (.list (xs.map g)) := by
  show (ev K src e).bind (fun s => (itemsD s).bind fun xs => (compL (fun x => if C.isNa .na then .ok true else (bindT tg x (e.wip (slots tg))).bind fun e1 => (ev K .na e1).bind fun b => .ok (truth b)) (fun x => (bindT tg x (e.wip (slots tg))).bind fun e1 => ev K elt e1) xs).noE.bind fun l => Res.ok (PyData.list l)) = _
  rw [h, Res.ok_bind, hx, Res.ok_bind]
  have : (fun x => if C.isNa .na then Res.ok true else (bindT tg x (e.wip (slots tg))).bind fun e1 => (ev K .na e1).bind fun b => .ok (truth b)) = fun _ => Res.ok true := rfl
  rw [this, compL_map (g := g) fun x hx => by obtain ⟨e1, h1, h2⟩ := hg x hx; rw [h1]; exact h2]
  rfl
theorem compL_mapT {α : Type} {enc out : α → D} {f : D → Res D} : ∀ {l : List α}, (∀ a ∈ l, f (enc a) = .ok (out a)) → compL (fun _ => .ok true) f (l.map enc) = .ok (l.map out)
  | [], _ => rfl
  | x :: r, h => by
    show (f (enc x)).bind (fun y => (compL (fun _ => .ok true) f (r.map enc)).bind fun l => Res.ok (y :: l)) = _
    rw [h x List.mem_cons_self, Res.ok_bind, compL_mapT fun y hy => h y (List.mem_cons_of_mem _ hy)]
    rfl
/-- .. over items that are known by a list of another kind -/
theorem ev_cmpT {α : Type} (l : List α) (enc out : α → D) {tg src elt : C} {s : D} (h : ev K src e = .ok s) (hx : itemsD s = .ok (l.map enc)) (hg : ∀ a ∈ l, ∃ e1, bindT tg (enc a) (e.wip (slots tg)) = .ok e1 ∧ ev K elt e1 = .ok (out a)) : ev K (.cmp1 tg src elt .na) e = .ok (.list (l.map out)) := by
  show (ev K src e).bind (fun s => (itemsD s).bind fun xs => (compL (fun x => if C.isNa .na then .ok true else (bindT tg x (e.wip (slots tg))).bind fun e1 => (ev K .na e1).bind fun b => .ok (truth b)) (fun x => (bindT tg x (e.wip (slots tg))).bind fun e1 => ev K elt e1) xs).noE.bind fun l => Res.ok (PyData.list l)) = _
  rw [h, Res.ok_bind, hx, Res.ok_bind]
  have : (fun x => if C.isNa .na then Res.ok true else (bindT tg x (e.wip (slots tg))).bind fun e1 => (ev K .na e1).bind fun b => .ok (truth b)) = fun _ => Res.ok true := rfl
  rw [this, compL_mapT (enc := enc) (out := out) fun x hx => by obtain ⟨e1, h1, h2⟩ := hg x hx; rw [h1]; exact h2]
  rfl
theorem compL_filterT {α : Type} {enc out : α → D} {p : α → Bool} {t : D → Res Bool} {f : D → Res D} : ∀ {l : List α}, (∀ a ∈ l, t (enc a) = .ok (p a)) → (∀ a ∈ l, p a = true → f (enc a) = .ok (out a)) → compL t f (l.map enc) = .ok ((l.filter p).map out)
  | [], _, _ => rfl
  | x :: r, h, hf => by
    show (t (enc x)).bind (fun b => if b then (f (enc x)).bind fun y => (compL t f (r.map enc)).bind fun l => Res.ok (y :: l) else compL t f (r.map enc)) = _
    have ih := compL_filterT (fun y hy => h y (List.mem_cons_of_mem _ hy)) (fun y hy => hf y (List.mem_cons_of_mem _ hy))
    rw [h x List.mem_cons_self, Res.ok_bind, ih]
    cases e : p x with
    | true => rw [if_pos rfl, hf x List.mem_cons_self e, List.filter_cons_of_pos e]; rfl
    | false => rw [if_neg Bool.false_ne_true, List.filter_cons_of_neg (by rw [e]; exact Bool.false_ne_true)]
theorem ev_cmpF {α : Type} (l : List α) (enc out : α → D) (p : α → Bool) {tg src elt cond : C} {s : D} (hn : cond.isNa = false) (h : ev K src e = .ok s) (hx : itemsD s = .ok (l.map enc)) (hg : ∀ a ∈ l, ∃ e1 d, bindT tg (enc a) (e.wip (slots tg)) = .ok e1 ∧ ev K cond e1 = .ok d ∧ truth d = p a ∧ (p a = true → ev K elt e1 = .ok (out a))) : ev K (.cmp1 tg src elt cond) e = .ok (.list ((l.filter p).map out)) := by
  show (ev K src e).bind (fun s => (itemsD s).bind fun xs => (compL (fun x => if cond.isNa then .ok true else (bindT tg x (e.wip (slots tg))).bind fun e1 => (ev K cond e1).bind fun b => .ok (truth b)) (fun x => (bindT tg x (e.wip (slots tg))).bind fun e1 => ev K elt e1) xs).noE.bind fun l => Res.ok (PyData.list l)) = _
  rw [h, Res.ok_bind, hx, Res.ok_bind, compL_filterT (enc := enc) (out := out) (p := p) (fun x hx => by
    obtain ⟨e1, d, h1, h2, h3, h4⟩ := hg x hx
    rw [if_neg (by rw [hn]; exact Bool.false_ne_true), h1, Res.ok_bind, h2, Res.ok_bind, h3]) fun x hx hp => by
      obtain ⟨e1, d, h1, h2, h3, h4⟩ := hg x hx
      rw [h1]; exact h4 hp]
  rfl
theorem ev_orF {a b : C} {x : D} (h : ev K a e = .ok x) (ht : truth x = false) : ev K (.or a b) e = ev K b e := by
  show (ev K a e).bind (fun x => if truth x then .ok x else ev K b e) = _
  rw [h, Res.ok_bind, ht, if_neg Bool.false_ne_true]
theorem ev_orT {a b : C} {x : D} (h : ev K a e = .ok x) (ht : truth x = true) : ev K (.or a b) e = .ok x := by
  show (ev K a e).bind (fun x => if truth x then .ok x else ev K b e) = _
  rw [h, Res.ok_bind, ht, if_pos rfl]
theorem ev_andF {a b : C} {x : D} (h : ev K a e = .ok x) (ht : truth x = false) : ev K (.and a b) e = .ok x := by
  show (ev K a e).bind (fun x => if truth x then ev K b e else .ok x) = _
  rw [h, Res.ok_bind, ht, if_neg Bool.false_ne_true]
theorem ev_andT {a b : C} {x : D} (h : ev K a e = .ok x) (ht : truth x = true) : ev K (.and a b) e = ev K b e := by
  show (ev K a e).bind (fun x => if truth x then ev K b e else .ok x) = _
  rw [h, Res.ok_bind, ht, if_pos rfl]
theorem ev_cmp {o : Cm} {a b : C} {x y : D} {k : Bool} (ha : ev K a e = .ok x) (hb : ev K b e = .ok y) (h : cmD o x y = .ok k) : ev K (.cmp o a b) e = .ok (.bool k) := by
  show (ev K a e).bind (fun x => (ev K b e).bind fun y => (cmD o x y).noE.bind fun k => Res.ok (PyData.bool k)) = _
  rw [ha, Res.ok_bind, hb, Res.ok_bind, h]; rfl
theorem ev_bin {o : Op} {a b : C} {x y d : D} (ha : ev K a e = .ok x) (hb : ev K b e = .ok y) (h : opD o x y = .ok d) : ev K (.bin o a b) e = .ok d := by
  show (ev K a e).bind (fun x => (ev K b e).bind fun y => (opD o x y).noE) = _
  rw [ha, Res.ok_bind, hb, Res.ok_bind, h]; rfl
theorem ev_idx {a b : C} {x y d : D} (ha : ev K a e = .ok x) (hb : ev K b e = .ok y) (h : idxD x y = .ok d) : ev K (.idx a b) e = .ok d := by
  show (ev K a e).bind (fun x => (ev K b e).bind fun y => (idxD x y).noE) = _
  rw [ha, Res.ok_bind, hb, Res.ok_bind, h]; rfl
theorem ev_call {f : Nat} {es : C} {l : List D} {d : D} (h : ev K es e = .ok (.list l)) (hk : K f l = .ok d) : ev K (.call f es) e = .ok d := by
  show (ev K es e).bind (fun l => K f (asL l)) = _
  rw [h]; exact hk
theorem ev_blt {b : Bi} {es : C} {l : List D} {d : D} (h : ev K es e = .ok (.list l)) (hk : blD b l = .ok d) : ev K (.blt b es) e = .ok d := by
  show (ev K es e).bind (fun l => (blD b (asL l)).noE) = _
  rw [h]
  show (blD b l).noE = _
  rw [hk]; rfl
theorem ev_cons {a r : C} {x : D} {l : List D} (h : ev K a e = .ok x) (hr : ev K r e = .ok (.list l)) : ev K (.cons a r) e = .ok (.list (x :: l)) := by
  show (ev K a e).bind (fun x => (ev K r e).bind fun l => Res.ok (PyData.list (x :: asL l))) = _
  rw [h, Res.ok_bind, hr]; rfl
theorem ev_nil : ev K .nil e = .ok (.list []) := rfl
theorem ev_one {a : C} {x : D} (h : ev K a e = .ok x) : ev K (.cons a .nil) e = .ok (.list [x]) := ev_cons h ev_nil
theorem run_eq {Δ : Nat → Option Fn} {m f : Nat} {F : Fn} {args : List D} {d : D} (hF : Δ f = some F) (hl : args.length = F.ps) (h : (ex (run Δ m) F.body (enter F args)).bind endF = .ok d) : run Δ (m + 1) f args = .ok d := by
  show (match Δ f with
    | some F => if args.length = F.ps then (ex (run Δ m) F.body (enter F args)).bind endF else .bad
    | none => .bad) = _
  rw [hF]
  show (if args.length = F.ps then (ex (run Δ m) F.body (enter F args)).bind endF else .bad) = _
  rw [if_pos hl]
  exact h
theorem run_rt {Δ : Nat → Option Fn} {m f : Nat} {F : Fn} {args : List D} {d : D} (hF : Δ f = some F) (hl : args.length = F.ps) (h : ex (run Δ m) F.body (enter F args) = .ok (.rt d)) : run Δ (m + 1) f args = .ok d :=
  run_eq hF hl (by rw [h]; rfl)
end
theorem cm_eqI (a b : Int) : cmD .eq (.int a) (.int b) = .ok (decide (a = b)) := by
  show (if fl (.int a) && fl (.int b) then Res.ok (PyData.eqv (.int a) (.int b)) else .bad) = _
  rw [if_pos (by rfl)]
  show Res.ok (a == b) = _
  rw [Bool.beq_eq_decide_eq]
theorem cm_neI (a b : Int) : cmD .ne (.int a) (.int b) = .ok (!decide (a = b)) := by
  show (if fl (.int a) && fl (.int b) then Res.ok (!PyData.eqv (.int a) (.int b)) else .bad) = _
  rw [if_pos (by rfl)]
  show Res.ok (!(a == b)) = _
  rw [Bool.beq_eq_decide_eq]
theorem cm_ltI (a b : Int) : cmD .lt (.int a) (.int b) = .ok (decide (a < b)) := rfl
theorem cm_gtI (a b : Int) : cmD .gt (.int a) (.int b) = .ok (decide (b < a)) := rfl
theorem cm_leI (a b : Int) : cmD .le (.int a) (.int b) = .ok (!decide (b < a)) := rfl
theorem cm_geI (a b : Int) : cmD .ge (.int a) (.int b) = .ok (!decide (a < b)) := rfl
theorem T_inj {a b : List Nat} : T a = T b ↔ a = b := by
  constructor
  · intro h
    have := congrArg (fun d => match d with | PyData.str s => s.cps.toList | _ => []) h
    simpa [T] using this
  · rintro rfl; rfl
theorem cm_eqT (a b : List Nat) : cmD .eq (T a) (T b) = .ok (decide (a = b)) := by
  show (if fl (T a) && fl (T b) then Res.ok (PyData.eqv (T a) (T b)) else .bad) = _
  rw [if_pos (by rfl)]
  show Res.ok ((⟨a.toArray⟩ : Str) == ⟨b.toArray⟩) = _
  congr 1
  rw [Bool.eq_iff_iff]
  rw [decide_eq_true_iff, beq_iff_eq]
  constructor
  · intro h
    have := congrArg (fun s : Str => s.cps.toList) h
    simpa using this
  · rintro rfl; rfl
theorem len_T (l : List Nat) : lenD (T l) = .ok (.int l.length) := by
  show Res.ok (PyData.int (l.toArray.size : Nat)) = _
  simp
theorem ixOf_nat {n i : Nat} (h : i < n) : ixOf n (i : Int) = some i := by
  unfold ixOf
  rw [if_pos (by omega), if_pos (by omega)]
  simp
theorem atL_nat {xs : List D} {i : Nat} (h : i < xs.length) : atL xs (i : Int) = .ok xs[i] := by
  unfold atL
  rw [ixOf_nat h, Option.bind_some, List.getElem?_eq_getElem h]
theorem idx_T {l : List Nat} {i : Nat} (h : i < l.length) : idxD (T l) (.int (i : Int)) = .ok (T [l[i]]) := by
  show (match (ixOf l.toArray.size (i : Int)).bind fun j => l.toArray[j]? with
    | some c => Res.ok (T [c])
    | none => .bad) = _
  rw [ixOf_nat (by simpa using h), Option.bind_some]
  simp [h]
theorem add_T (a b : List Nat) (h : a.length + b.length ≤ lim) : opD .add (T a) (T b) = .ok (T (a ++ b)) := by
  show (if a.toArray.size + b.toArray.size ≤ lim then Res.ok (PyData.str ⟨a.toArray ++ b.toArray⟩) else .bad) = _
  rw [if_pos (by simpa using h)]
  simp [T]
theorem fmod_pos (a : Int) {b : Int} (h : 0 < b) : 0 ≤ a.fmod b ∧ a.fmod b < b := by
  rw [Int.fmod_eq_emod_of_nonneg a (by omega)]
  exact ⟨Int.emod_nonneg a (by omega), Int.emod_lt_of_pos a h⟩
/-- a loop over a range that appends an item each turn -/
theorem app_loop {f : D → En → Res Fl} (st : List D → Sl → En) (out : Nat → D) {n : Nat} (h : ∀ i < n, ∀ acc s, acc.length = i → f (.int i) (st acc s) = .ok (.nx (st (acc ++ [out i]) (.v (.int i))))) (s0 : Sl) : ∃ s', forL f (iR n) (st [] s0) = .ok (.nx (st ((List.range n).map out) s')) := by
  obtain ⟨e', h1, s', h2⟩ := forL_inv (fun i e => ∃ s, e = st ((List.range i).map out) s) (k := 0) (xs := iR n) (f := f) (e := st [] s0) ⟨s0, rfl⟩ (fun i x e hx hi => by
    obtain ⟨s, rfl⟩ := hi
    obtain ⟨rfl, hi⟩ := iR_get hx
    rw [Nat.zero_add]
    refine ⟨_, .inl (h i hi _ s (by simp)), .v (.int i), ?_⟩
    rw [List.range_succ, List.map_append]
    rfl)
  rw [Nat.zero_add, iR_length] at h2
  exact ⟨s', by rw [h1, h2]⟩
theorem getD_lt {l : List Int} {i : Nat} {d : Int} (h : i < l.length) : l.getD i d = l[i] := by
  rw [List.getD_eq_getElem?_getD, List.getElem?_eq_getElem h, Option.getD_some]
theorem getD_app {l : List Int} {i : Nat} {d x : Int} (h : i < l.length) : (l ++ [x]).getD i d = l.getD i d := by
  rw [List.getD_eq_getElem?_getD, List.getD_eq_getElem?_getD, List.getElem?_append_left h]
theorem getD_last {l : List Int} {d x : Int} : (l ++ [x]).getD l.length d = x := by
  rw [List.getD_eq_getElem?_getD, List.getElem?_append_right (Nat.le_refl _), Nat.sub_self]
  rfl
theorem snocI (l : List Int) (x : Int) : l.map PyData.int ++ [PyData.int x] = (l ++ [x]).map .int := by rw [List.map_append]; rfl
end SQ

/-! SqDraw: the laws' own two functions that draw from the script. -/
namespace SQ
open PySem C

/-- cell k of the script, or 0 -/
def cellB : C :=
    (.seq (.iff (.cmp .lt (.var 1) (.blt .len (.cons (.var 0) .nil))) (.seq (.ret (.idx (.var 0) (.var 1)))
      .skip) .skip)
      (.seq (.ret (.dat (.int 0)))
      .skip))
/-- so many digits by sizes; c: the number of the function above -/
def drawB (c : Nat) : C :=
    (.seq (.set 3 (.call c (.cons (.var 0) (.cons (.var 1) .nil))))
      (.seq (.iff (.cmp .lt (.var 3) (.dat (.int 0))) (.seq (.set 3 (.neg (.var 3)))
      .skip) .skip)
      (.seq (.seto 4 (.lst .nil))
      (.seq (.iff (.cmp .ge (.var 3) (.bin .pow (.dat (.int 10)) (.dat (.int 18)))) (.seq (.set 3 (.bin .sub (.var 3) (.bin .pow (.dat (.int 10)) (.dat (.int 18)))))
      (.seq (.for_ (.var 7) (.var 2) (.seq (.app 4 (.bin .mod (.var 3) (.var 7)))
      (.seq (.set 3 (.bin .fdiv (.var 3) (.var 7)))
      .skip)))
      (.fz [4] (.seq (.ret (.var 4))
      .skip)))) .skip)
      (.seq (.set 5 (.bin .mod (.bin .add (.bin .add (.var 3) (.dat (.int 1))) (.bin .mul (.dat (.int 31)) (.var 1))) (.dat (.int 2147483647))))
      (.seq (.for_ (.var 6) (.rng (.dat (.int 0)) (.blt .len (.cons (.var 2) .nil)) (.dat (.int 1))) (.seq (.set 5 (.bin .mod (.bin .add (.bin .add (.bin .mul (.var 5) (.dat (.int 48271))) (.dat (.int 11))) (.var 6)) (.dat (.int 2147483647))))
      (.seq (.set 5 (.bin .mod (.bin .add (.bin .mul (.var 5) (.dat (.int 69621))) (.dat (.int 3))) (.dat (.int 2147483647))))
      (.seq (.app 4 (.bin .mod (.bin .fdiv (.var 5) (.dat (.int 7))) (.idx (.var 2) (.var 6))))
      .skip))))
      (.fz [4] (.seq (.ret (.var 4))
      .skip))))))))

section
variable {K : Nat → List D → Res D}
theorem cell_run (ns : List Int) (k : Nat) : ∃ z : Int, ex K cellB [.v (.list (ns.map .int)), .v (.int k)] = .ok (.rt (.int z)) := by
  by_cases h : k < ns.length
  · refine ⟨ns[k], ?_⟩
    have h1 : ((k : Int) < ((ns.map PyData.int).length : Nat)) := by rw [List.length_map]; omega
    have h2 : atL (ns.map PyData.int) (k : Int) = .ok (.int ns[k]) := by rw [atL_nat (by rw [List.length_map]; exact h)]; simp
    simp only [cellB, ex, ev, En.at, Sl.strict, Res.ok_bind, asL, blD, bl1, lenD, Res.noE_ok, cm_ltI, truth, h1, decide_true, if_true, idxD, h2]
  · refine ⟨0, ?_⟩
    have h1 : ¬ ((k : Int) < ((ns.map PyData.int).length : Nat)) := by rw [List.length_map]; omega
    simp only [cellB, ex, ev, En.at, Sl.strict, Res.ok_bind, asL, blD, bl1, lenD, Res.noE_ok, cm_ltI, truth, h1, decide_false, Bool.false_eq_true, if_false]

/-- digits by sizes -/
def Drawn (ss ds : List Int) : Prop := ds.length = ss.length ∧ ∀ j, j < ss.length → 0 ≤ ds.getD j 0 ∧ ds.getD j 0 < ss.getD j 1
def Part (ss ds : List Int) (i : Nat) : Prop := ds.length = i ∧ ∀ j, j < i → 0 ≤ ds.getD j 0 ∧ ds.getD j 0 < ss.getD j 1
theorem Part.snoc {ss ds : List Int} {i : Nat} (p : Part ss ds i) {d : Int} (h : 0 ≤ d ∧ d < ss.getD i 1) : Part ss (ds ++ [d]) (i + 1) := by
  refine ⟨by rw [List.length_append, p.1]; rfl, fun j hj => ?_⟩
  by_cases e : j < i
  · rw [getD_app (by rw [p.1]; exact e)]
    exact p.2 j e
  · have e : j = i := by omega
    subst e
    obtain ⟨rfl, _⟩ := p
    rw [getD_last]
    exact h
theorem pow18 : opD .pow (.int 10) (.int 18) = .ok (.int 1000000000000000000) := rfl

theorem draw_run (c : Nat) (s : D) (k : Int) (ss : List Int) (hc : ∃ z : Int, K c [s, .int k] = .ok (.int z)) (hs : ∀ s ∈ ss, 0 < s ∧ s < 1000000000) (hl : ss.length ≤ 1000) :
    ∃ ds : List Int, ex K (drawB c) [.v s, .v (.int k), .v (.list (ss.map .int)), .u, .u, .u, .u, .u] = .ok (.rt (.list (ds.map .int))) ∧ Drawn ss ds := by
  obtain ⟨z0, hc⟩ := hc
  have gs : ∀ i, i < ss.length → (0 < ss.getD i 1 ∧ ss.getD i 1 < 1000000000) := fun i hi => by
    rw [getD_lt hi]
    exact hs _ (List.getElem_mem hi)
  have gx : ∀ {i : Nat} {x : D}, (ss.map PyData.int)[i]? = some x → x = .int (ss.getD i 1) ∧ i < ss.length := fun {i x} h => by
    rw [List.getElem?_map] at h
    cases e : ss[i]? with
    | none => rw [e] at h; cases h
    | some y =>
      rw [e] at h
      cases h
      obtain ⟨h1, h2⟩ := List.getElem?_eq_some_iff.mp e
      exact ⟨by rw [getD_lt h1, h2], h1⟩
  have l1 : lim = 1000000 := rfl
  -- the first loop
  have loop1 : ∀ z : Int, ∃ e' ds, forL (fun x e1 => (bindT (.var 7) x e1).bind fun e2 => ex K (.seq (.app 4 (.bin .mod (.var 3) (.var 7))) (.seq (.set 3 (.bin .fdiv (.var 3) (.var 7))) .skip)) e2) (ss.map PyData.int) [.v s, .v (.int k), .v (.list (ss.map .int)), .v (.int z), .o (.list []), .u, .u, .u] = .ok (.nx e') ∧ e'.at 4 = .o (.list (ds.map .int)) ∧ e'.length = 8 ∧ Drawn ss ds := fun z => by
    obtain ⟨e', h1, z', ds, s7, h2, h3⟩ := forL_inv (fun i e => ∃ z ds s7, e = [.v s, .v (.int k), .v (.list (ss.map .int)), .v (.int z), .o (.list (ds.map .int)), .u, .u, s7] ∧ Part ss ds i) (k := 0) (xs := ss.map PyData.int)
      (f := fun x e1 => (bindT (.var 7) x e1).bind fun e2 => ex K (.seq (.app 4 (.bin .mod (.var 3) (.var 7))) (.seq (.set 3 (.bin .fdiv (.var 3) (.var 7))) .skip)) e2) (e := [.v s, .v (.int k), .v (.list (ss.map .int)), .v (.int z), .o (.list []), .u, .u, .u])
      ⟨z, [], .u, rfl, rfl, fun j hj => by omega⟩ (fun i x e hx hi => by
        obtain ⟨z, ds, s7, rfl, hp⟩ := hi
        obtain ⟨rfl, hi⟩ := gx hx
        have g := gs i hi
        rw [Nat.zero_add] at hp ⊢
        have h1 : (ds.map PyData.int).length < lim := by rw [List.length_map, hp.1]; omega
        have h2 : ss.getD i 1 ≠ 0 := by omega
        have h3 : (ss.getD i 1).natAbs < 1073741824 := by omega
        refine ⟨_, .inl (by simp only [bindT, Res.ok_bind, ex, ev, En.at, En.put, Sl.strict, opD, h2, h3, ne_eq, not_false_eq_true, true_and, and_self, if_true, Res.noE_ok, h1]; rfl), _, ds ++ [z.fmod (ss.getD i 1)], _, by rw [snocI], hp.snoc (fmod_pos z g.1)⟩)
    rw [Nat.zero_add, List.length_map] at h3
    subst h2
    exact ⟨_, ds, h1, rfl, rfl, h3⟩
  have loop2 : ∀ (z : D) (m : Int), ∃ e' ds, forL (fun x e1 => (bindT (.var 6) x e1).bind fun e2 => ex K (.seq (.set 5 (.bin .mod (.bin .add (.bin .add (.bin .mul (.var 5) (.dat (.int 48271))) (.dat (.int 11))) (.var 6)) (.dat (.int 2147483647))))
      (.seq (.set 5 (.bin .mod (.bin .add (.bin .mul (.var 5) (.dat (.int 69621))) (.dat (.int 3))) (.dat (.int 2147483647)))) (.seq (.app 4 (.bin .mod (.bin .fdiv (.var 5) (.dat (.int 7))) (.idx (.var 2) (.var 6)))) .skip))) e2) (iR ss.length) [.v s, .v (.int k), .v (.list (ss.map .int)), .v z, .o (.list []), .v (.int m), .u, .u] = .ok (.nx e') ∧ e'.at 4 = .o (.list (ds.map .int)) ∧ e'.length = 8 ∧ Drawn ss ds := fun z m => by
    obtain ⟨e', h1, m', ds, s6, h2, h3⟩ := forL_inv (fun i e => ∃ m ds s6, e = [.v s, .v (.int k), .v (.list (ss.map .int)), .v z, .o (.list (ds.map .int)), .v (.int m), s6, .u] ∧ Part ss ds i) (k := 0) (xs := iR ss.length)
      (f := fun x e1 => (bindT (.var 6) x e1).bind fun e2 => ex K (.seq (.set 5 (.bin .mod (.bin .add (.bin .add (.bin .mul (.var 5) (.dat (.int 48271))) (.dat (.int 11))) (.var 6)) (.dat (.int 2147483647))))
      (.seq (.set 5 (.bin .mod (.bin .add (.bin .mul (.var 5) (.dat (.int 69621))) (.dat (.int 3))) (.dat (.int 2147483647)))) (.seq (.app 4 (.bin .mod (.bin .fdiv (.var 5) (.dat (.int 7))) (.idx (.var 2) (.var 6)))) .skip))) e2) (e := [.v s, .v (.int k), .v (.list (ss.map .int)), .v z, .o (.list []), .v (.int m), .u, .u])
      ⟨m, [], .u, rfl, rfl, fun j hj => by omega⟩ (fun i x e hx hi => by
        obtain ⟨m, ds, s6, rfl, hp⟩ := hi
        obtain ⟨rfl, hi⟩ := iR_get hx
        have g := gs i hi
        rw [Nat.zero_add] at hp ⊢
        have h1 : (ds.map PyData.int).length < lim := by rw [List.length_map, hp.1]; omega
        have h2 : ss.getD i 1 ≠ 0 := by omega
        have ha : atL (ss.map PyData.int) (i : Int) = .ok (.int (ss.getD i 1)) := by
          rw [atL_nat (by rw [List.length_map]; exact hi), getD_lt hi]; simp
        have b1 : (2147483647 : Int) ≠ 0 := by decide
        have b2 : ((7 : Int) ≠ 0 ∧ (7 : Int).natAbs < 1073741824) := by decide
        have b3 : small64 48271 = true := by decide
        have b4 : small64 69621 = true := by decide
        refine ⟨_, .inl (by simp only [bindT, Res.ok_bind, ex, ev, En.at, En.put, Sl.strict, opD, b3, b4, Bool.or_true, b1, b2, idxD, ha, h2, ne_eq, not_false_eq_true, true_and, and_self, if_true, Res.noE_ok, h1]; rfl), _, ds ++ [((((m * 48271 + 11 + i).fmod 2147483647 * 69621 + 3).fmod 2147483647).fdiv 7).fmod (ss.getD i 1)], _, by rw [snocI], hp.snoc (fmod_pos _ g.1)⟩)
    rw [Nat.zero_add, iR_length] at h3
    subst h2
    exact ⟨_, ds, h1, rfl, rfl, h3⟩
  have fin : ∀ {e' : En} {ds : List Int}, e'.at 4 = .o (.list (ds.map .int)) → e'.length = 8 → ex K (.fz [4] (.seq (.ret (.var 4)) .skip)) e' = .ok (.rt (.list (ds.map .int))) := fun {e' ds} h hl => by
    have h1 : (e'.put 4 (e'.at 4).froz).at 4 = .v (.list (ds.map .int)) := by
      rw [En.at_put, if_pos ⟨rfl, by omega⟩, h]
      rfl
    simp only [ex, ev, En.frz, h1, Sl.strict, Res.ok_bind]
  have b31 : small64 31 = true := by decide
  have b1 : (2147483647 : Int) ≠ 0 := by decide
  have lenS : (ss.map PyData.int).length = ss.length := List.length_map ..
  -- behind the sign
  have rest : ∀ z : Int, ∃ ds : List Int, ex K (.seq (.seto 4 (.lst .nil))
      (.seq (.iff (.cmp .ge (.var 3) (.bin .pow (.dat (.int 10)) (.dat (.int 18)))) (.seq (.set 3 (.bin .sub (.var 3) (.bin .pow (.dat (.int 10)) (.dat (.int 18)))))
      (.seq (.for_ (.var 7) (.var 2) (.seq (.app 4 (.bin .mod (.var 3) (.var 7)))
      (.seq (.set 3 (.bin .fdiv (.var 3) (.var 7)))
      .skip)))
      (.fz [4] (.seq (.ret (.var 4))
      .skip)))) .skip)
      (.seq (.set 5 (.bin .mod (.bin .add (.bin .add (.var 3) (.dat (.int 1))) (.bin .mul (.dat (.int 31)) (.var 1))) (.dat (.int 2147483647))))
      (.seq (.for_ (.var 6) (.rng (.dat (.int 0)) (.blt .len (.cons (.var 2) .nil)) (.dat (.int 1))) (.seq (.set 5 (.bin .mod (.bin .add (.bin .add (.bin .mul (.var 5) (.dat (.int 48271))) (.dat (.int 11))) (.var 6)) (.dat (.int 2147483647))))
      (.seq (.set 5 (.bin .mod (.bin .add (.bin .mul (.var 5) (.dat (.int 69621))) (.dat (.int 3))) (.dat (.int 2147483647))))
      (.seq (.app 4 (.bin .mod (.bin .fdiv (.var 5) (.dat (.int 7))) (.idx (.var 2) (.var 6))))
      .skip))))
      (.fz [4] (.seq (.ret (.var 4))
      .skip)))))) [.v s, .v (.int k), .v (.list (ss.map .int)), .v (.int z), .u, .u, .u, .u] = .ok (.rt (.list (ds.map .int))) ∧ Drawn ss ds := fun z => by
    rw [ex_seq (e1 := [.v s, .v (.int k), .v (.list (ss.map .int)), .v (.int z), .o (.list []), .u, .u, .u]) rfl]
    by_cases hz : z < 1000000000000000000
    · rw [ex_seq (e1 := [.v s, .v (.int k), .v (.list (ss.map .int)), .v (.int z), .o (.list []), .u, .u, .u]) (by
        simp only [ex, ev, En.at, Sl.strict, Res.ok_bind, pow18, Res.noE_ok, cm_geI, hz, truth, decide_true, Bool.not_true, Bool.false_eq_true, if_false])]
      rw [ex_seq (e1 := [.v s, .v (.int k), .v (.list (ss.map .int)), .v (.int z), .o (.list []), .v (.int ((z + 1 + 31 * k).fmod 2147483647)), .u, .u]) (by
        simp only [ex, ev, En.at, En.put, Sl.strict, Res.ok_bind, opD, Res.noE_ok, b31, Bool.true_or, if_true, b1, ne_eq, not_false_eq_true])]
      obtain ⟨e', ds, h1, h2, h3, h4⟩ := loop2 (.int z) ((z + 1 + 31 * k).fmod 2147483647)
      have hr : ev K (.rng (.dat (.int 0)) (.blt .len (.cons (.var 2) .nil)) (.dat (.int 1))) [.v s, .v (.int k), .v (.list (ss.map .int)), .v (.int z), .o (.list []), .v (.int ((z + 1 + 31 * k).fmod 2147483647)), .u, .u] = .ok (.list (iR ss.length)) := by
        refine ev_rngN ?_ (by omega)
        simp only [ev, En.at, Sl.strict, Res.ok_bind, asL, blD, bl1, lenD, Res.noE_ok, lenS]
      refine ⟨ds, ?_, h4⟩
      rw [ex_seq ((ex_for hr rfl).trans h1)]
      exact fin h2 h3
    · obtain ⟨e', ds, h1, h2, h3, h4⟩ := loop1 (z - 1000000000000000000)
      refine ⟨ds, ex_seqR ?_, h4⟩
      rw [ex_iffT (d := .bool true) (by simp only [ev, En.at, Sl.strict, Res.ok_bind, pow18, Res.noE_ok, cm_geI, hz, decide_false, Bool.not_false]) rfl]
      rw [ex_seq (e1 := [.v s, .v (.int k), .v (.list (ss.map .int)), .v (.int (z - 1000000000000000000)), .o (.list []), .u, .u, .u]) (by
        simp only [ex, ev, En.at, En.put, Sl.strict, Res.ok_bind, pow18, Res.noE_ok]
        rfl)]
      rw [ex_seq ((ex_for (s := .list (ss.map .int)) rfl rfl).trans h1)]
      exact fin h2 h3
  have first : ∃ z : Int, ex K (drawB c) [.v s, .v (.int k), .v (.list (ss.map .int)), .u, .u, .u, .u, .u] = ex K (.seq (.seto 4 (.lst .nil))
      (.seq (.iff (.cmp .ge (.var 3) (.bin .pow (.dat (.int 10)) (.dat (.int 18)))) (.seq (.set 3 (.bin .sub (.var 3) (.bin .pow (.dat (.int 10)) (.dat (.int 18)))))
      (.seq (.for_ (.var 7) (.var 2) (.seq (.app 4 (.bin .mod (.var 3) (.var 7)))
      (.seq (.set 3 (.bin .fdiv (.var 3) (.var 7)))
      .skip)))
      (.fz [4] (.seq (.ret (.var 4))
      .skip)))) .skip)
      (.seq (.set 5 (.bin .mod (.bin .add (.bin .add (.var 3) (.dat (.int 1))) (.bin .mul (.dat (.int 31)) (.var 1))) (.dat (.int 2147483647))))
      (.seq (.for_ (.var 6) (.rng (.dat (.int 0)) (.blt .len (.cons (.var 2) .nil)) (.dat (.int 1))) (.seq (.set 5 (.bin .mod (.bin .add (.bin .add (.bin .mul (.var 5) (.dat (.int 48271))) (.dat (.int 11))) (.var 6)) (.dat (.int 2147483647))))
      (.seq (.set 5 (.bin .mod (.bin .add (.bin .mul (.var 5) (.dat (.int 69621))) (.dat (.int 3))) (.dat (.int 2147483647))))
      (.seq (.app 4 (.bin .mod (.bin .fdiv (.var 5) (.dat (.int 7))) (.idx (.var 2) (.var 6))))
      .skip))))
      (.fz [4] (.seq (.ret (.var 4))
      .skip)))))) [.v s, .v (.int k), .v (.list (ss.map .int)), .v (.int z), .u, .u, .u, .u] := by
    by_cases h : z0 < 0
    · refine ⟨-z0, ?_⟩
      rw [drawB]
      rw [ex]
      have t1 : ex K (.set 3 (.call c (.cons (.var 0) (.cons (.var 1) .nil)))) [.v s, .v (.int k), .v (.list (ss.map .int)), .u, .u, .u, .u, .u] = .ok (.nx [.v s, .v (.int k), .v (.list (ss.map .int)), .v (.int z0), .u, .u, .u, .u]) := by
        simp only [ex, ev, En.at, En.put, Sl.strict, Res.ok_bind, asL, hc]
      rw [t1]
      simp only [Res.ok_bind]
      rw [ex]
      have t2 : ex K (.iff (.cmp .lt (.var 3) (.dat (.int 0))) (.seq (.set 3 (.neg (.var 3))) .skip) .skip) [.v s, .v (.int k), .v (.list (ss.map .int)), .v (.int z0), .u, .u, .u, .u] = .ok (.nx [.v s, .v (.int k), .v (.list (ss.map .int)), .v (.int (-z0)), .u, .u, .u, .u]) := by
        simp only [ex, ev, En.at, En.put, Sl.strict, Res.ok_bind, cm_ltI, Res.noE_ok, h, decide_true, truth, if_true]
      rw [t2]
      rfl
    · refine ⟨z0, ?_⟩
      rw [drawB]
      rw [ex]
      have t1 : ex K (.set 3 (.call c (.cons (.var 0) (.cons (.var 1) .nil)))) [.v s, .v (.int k), .v (.list (ss.map .int)), .u, .u, .u, .u, .u] = .ok (.nx [.v s, .v (.int k), .v (.list (ss.map .int)), .v (.int z0), .u, .u, .u, .u]) := by
        simp only [ex, ev, En.at, En.put, Sl.strict, Res.ok_bind, asL, hc]
      rw [t1]
      simp only [Res.ok_bind]
      rw [ex]
      have t2 : ex K (.iff (.cmp .lt (.var 3) (.dat (.int 0))) (.seq (.set 3 (.neg (.var 3))) .skip) .skip) [.v s, .v (.int k), .v (.list (ss.map .int)), .v (.int z0), .u, .u, .u, .u] = .ok (.nx [.v s, .v (.int k), .v (.list (ss.map .int)), .v (.int z0), .u, .u, .u, .u]) := by
        simp only [ex, ev, En.at, En.put, Sl.strict, Res.ok_bind, cm_ltI, Res.noE_ok, h, decide_false, Bool.false_eq_true, truth, if_false]
      rw [t2]
      rfl
  obtain ⟨z, hz⟩ := first
  obtain ⟨ds, h1, h2⟩ := rest z
  exact ⟨ds, hz.trans h1, h2⟩
end
end SQ

/-! SqSym: cells, patterns, and what the program's symmetries and the laws' own ones make of them. -/
namespace SQ
open PySem C

inductive Cell where
  | pl (x : Nat)
  | dg (x : Nat) (up : Bool) (y : Nat)
  deriving DecidableEq
def encC : Cell → D
  | .pl x => T [x]
  | .dg x up y => T [x, if up then 47 else 92, y]
def tcC : Cell → Cell
  | .pl x => .pl x
  | .dg x up y => if up then .dg x false y else .dg y true x
def mcC : Cell → Cell
  | .pl x => .pl x
  | .dg x up y => .dg x (!up) y
def encR (rows : List (List D)) : D := .tuple (rows.map .tuple)
def encP (p : List (List Cell)) : D := encR (p.map (·.map encC))
def Rect {α : Type} (h w : Nat) (rows : List (List α)) : Prop := rows.length = h ∧ ∀ r ∈ rows, r.length = w

/-! ### the bodies -/
def turnedCellB : C :=
    (.seq (.iff (.cmp .eq (.blt .len (.cons (.var 0) .nil)) (.dat (.int 1))) (.seq (.ret (.var 0))
      .skip) .skip)
      (.seq (.iff (.cmp .eq (.idx (.var 0) (.dat (.int 1))) (.dat (.str "/"))) (.seq (.ret (.bin .add (.bin .add (.idx (.var 0) (.dat (.int 0))) (.dat (.str "\\"))) (.idx (.var 0) (.dat (.int 2)))))
      .skip) .skip)
      (.seq (.ret (.bin .add (.bin .add (.idx (.var 0) (.dat (.int 2))) (.dat (.str "/"))) (.idx (.var 0) (.dat (.int 0)))))
      .skip)))
def mirroredCellB : C :=
    (.seq (.iff (.cmp .eq (.blt .len (.cons (.var 0) .nil)) (.dat (.int 1))) (.seq (.ret (.var 0))
      .skip) .skip)
      (.seq (.ret (.bin .add (.bin .add (.idx (.var 0) (.dat (.int 0))) (.ite (.cmp .eq (.idx (.var 0) (.dat (.int 1))) (.dat (.str "/"))) (.dat (.str "\\")) (.dat (.str "/")))) (.idx (.var 0) (.dat (.int 2)))))
      .skip))
def mirroredCell2B : C :=
    (.seq (.iff (.cmp .eq (.blt .len (.cons (.var 0) .nil)) (.dat (.int 1))) (.seq (.ret (.var 0))
      .skip) .skip)
      (.seq (.ret (.bin .add (.bin .add (.idx (.var 0) (.dat (.int 0))) (.idx (.dic (.cons (.dat (.str "/")) (.cons (.dat (.str "\\")) .nil)) (.cons (.dat (.str "\\")) (.cons (.dat (.str "/")) .nil))) (.idx (.var 0) (.dat (.int 1))))) (.idx (.var 0) (.dat (.int 2)))))
      .skip))
def turnedRowsB : C :=
    (.seq (.ret (.blt .tuple (.cons (.cmp1 (.var 1) (.rng (.dat (.int 0)) (.blt .len (.cons (.idx (.var 0) (.dat (.int 0))) .nil)) (.dat (.int 1))) (.blt .tuple (.cons (.cmp1 (.var 2) (.rev (.var 0)) (.idx (.var 2) (.var 1)) .na) .nil)) .na) .nil)))
      .skip)
def movedRowsB (t : Nat) : C :=
    (.seq (.iff (.cmp .ge (.var 1) (.dat (.int 4))) (.seq (.set 0 (.blt .tuple (.cons (.cmp1 (.var 3) (.var 0) (.rev (.var 3)) .na) .nil)))
      .skip) .skip)
      (.seq (.for_ (.var 2) (.rng (.dat (.int 0)) (.bin .mod (.var 1) (.dat (.int 4))) (.dat (.int 1))) (.seq (.set 0 (.call t (.cons (.var 0) .nil)))
      .skip))
      (.seq (.ret (.var 0))
      .skip)))
def changedCellB (m t : Nat) : C :=
    (.seq (.iff (.cmp .ge (.var 1) (.dat (.int 4))) (.seq (.set 0 (.call m (.cons (.var 0) .nil)))
      .skip) .skip)
      (.seq (.for_ (.var 2) (.rng (.dat (.int 0)) (.bin .mod (.var 1) (.dat (.int 4))) (.dat (.int 1))) (.seq (.set 0 (.call t (.cons (.var 0) .nil)))
      .skip))
      (.seq (.ret (.var 0))
      .skip)))
def transformedB (m c : Nat) : C :=
    (.seq (.ret (.blt .tuple (.cons (.cmp1 (.var 2) (.call m (.cons (.var 0) (.cons (.var 1) .nil))) (.blt .tuple (.cons (.cmp1 (.var 3) (.var 2) (.call c (.cons (.var 3) (.cons (.var 1) .nil))) .na) .nil)) .na) .nil)))
      .skip)
def lawTurnedB (t : Nat) : C :=
    (.seq (.seto 1 (.lst .nil))
      (.seq (.for_ (.var 2) (.rng (.dat (.int 0)) (.blt .len (.cons (.idx (.var 0) (.dat (.int 0))) .nil)) (.dat (.int 1))) (.seq (.app 1 (.blt .tuple (.cons (.cmp1 (.var 3) (.rng (.bin .sub (.blt .len (.cons (.var 0) .nil)) (.dat (.int 1))) (.neg (.dat (.int 1))) (.neg (.dat (.int 1)))) (.call t (.cons (.idx (.idx (.var 0) (.var 3)) (.var 2)) .nil)) .na) .nil)))
      .skip))
      (.seq (.ret (.blt .tuple (.cons (.wv 1) .nil)))
      .skip)))
def lawImageB (m t : Nat) : C :=
    (.seq (.iff (.cmp .gt (.var 1) (.dat (.int 3))) (.seq (.set 0 (.blt .tuple (.cons (.cmp1 (.var 3) (.var 0) (.blt .tuple (.cons (.cmp1 (.var 4) (.rev (.var 3)) (.call m (.cons (.var 4) .nil)) .na) .nil)) .na) .nil)))
      .skip) .skip)
      (.seq (.for_ (.var 2) (.rng (.dat (.int 0)) (.bin .mod (.var 1) (.dat (.int 4))) (.dat (.int 1))) (.seq (.set 0 (.call t (.cons (.var 0) .nil)))
      .skip))
      (.seq (.ret (.var 0))
      .skip)))

/-! ### the plain law -/
section
variable {α β : Type}
def colAt (k : Nat) (rows : List (List α)) : List α := rows.filterMap (·[k]?)
def turnR (rows : List (List α)) : List (List α) := (List.range (rows.headD []).length).map fun k => colAt k rows.reverse
def iter (n : Nat) (f : α → α) (a : α) : α := match n with
  | 0 => a
  | n + 1 => f (iter n f a)
theorem iter_succ' (n : Nat) (f : α → α) (a : α) : iter n f (f a) = f (iter n f a) := by
  induction n with
  | zero => rfl
  | succ n ih => exact congrArg f ih
def movedR (rows : List (List α)) (s : Nat) : List (List α) := iter (s % 4) turnR (if 4 ≤ s then rows.map List.reverse else rows)
def changedC (s : Nat) (c : Cell) : Cell := iter (s % 4) tcC (if 4 ≤ s then mcC c else c)
def trP (p : List (List Cell)) (s : Nat) : List (List Cell) := (movedR p s).map (·.map (changedC s))
def turnP (p : List (List Cell)) : List (List Cell) := (turnR p).map (·.map tcC)
def imgP (p : List (List Cell)) (s : Nat) : List (List Cell) := iter (s % 4) turnP (if 4 ≤ s then p.map fun r => r.reverse.map mcC else p)
theorem colAt_map (f : α → β) (k : Nat) (rows : List (List α)) : colAt k (rows.map (·.map f)) = (colAt k rows).map f := by
  unfold colAt
  rw [List.filterMap_map, List.map_filterMap]
  refine congrArg (List.filterMap · rows) ?_
  funext r
  simp
theorem turnR_map (f : α → β) (rows : List (List α)) : turnR (rows.map (·.map f)) = (turnR rows).map (·.map f) := by
  unfold turnR
  have e : ((rows.map (·.map f)).headD []).length = (rows.headD []).length := by cases rows <;> simp
  rw [e, List.map_map]
  refine List.map_congr_left fun k _ => ?_
  rw [← List.map_reverse, colAt_map]
  rfl
theorem iter_map (f : Cell → Cell) (n : Nat) (q : List (List Cell)) : iter n turnP (q.map (·.map f)) = (iter n turnR q).map (·.map fun c => iter n tcC (f c)) := by
  induction n with
  | zero => rfl
  | succ n ih =>
    show turnP (iter n turnP (q.map (·.map f))) = (turnR (iter n turnR q)).map _
    rw [ih]
    unfold turnP
    rw [turnR_map, List.map_map]
    refine List.map_congr_left fun r _ => ?_
    simp [iter]
theorem img_tr (p : List (List Cell)) (s : Nat) : imgP p s = trP p s := by
  unfold imgP trP movedR changedC
  by_cases h : 4 ≤ s
  · simp only [h, if_true]
    have e : (p.map fun r => r.reverse.map mcC) = (p.map List.reverse).map (·.map mcC) := by rw [List.map_map]; rfl
    rw [e, iter_map]
  · simp only [h, if_false]
    have e : p = p.map (·.map fun c => c) := by simp
    rw [e, iter_map]
    simp
theorem colAt_eq {d : α} {k w : Nat} : ∀ {rows : List (List α)}, (∀ r ∈ rows, r.length = w) → k < w → colAt k rows = rows.map fun r => r.getD k d
  | [], _, _ => rfl
  | r :: rows, h, hk => by
    have h1 := h r List.mem_cons_self
    have e : r[k]? = some (r.getD k d) := by rw [List.getD_eq_getElem?_getD, List.getElem?_eq_getElem (by omega)]; rfl
    unfold colAt
    rw [List.filterMap_cons, e]
    exact congrArg _ (colAt_eq (fun y hy => h y (List.mem_cons_of_mem _ hy)) hk)
theorem colAt_len {k w : Nat} {rows : List (List α)} (h : ∀ r ∈ rows, r.length = w) (hk : k < w) : (colAt k rows).length = rows.length := by
  induction rows with
  | nil => rfl
  | cons r rows ih =>
    have h1 := h r List.mem_cons_self
    unfold colAt at ih ⊢
    rw [List.filterMap_cons, List.getElem?_eq_getElem (by omega)]
    exact congrArg (· + 1) (ih fun y hy => h y (List.mem_cons_of_mem _ hy))
theorem Rect.head {h w : Nat} {rows : List (List α)} (r : Rect h w rows) (hh : 0 < h) : (rows.headD []).length = w := by
  obtain ⟨r1, r2⟩ := r
  cases rows with
  | nil => simp at r1; omega
  | cons x xs => exact r2 x List.mem_cons_self
theorem Rect.turn {h w : Nat} {rows : List (List α)} (r : Rect h w rows) (hh : 0 < h) : Rect w h (turnR rows) := by
  unfold turnR
  rw [r.head hh]
  refine ⟨by simp, fun x hx => ?_⟩
  obtain ⟨k, hk, rfl⟩ := List.mem_map.mp hx
  rw [colAt_len (w := w) (fun y hy => r.2 y (List.mem_reverse.mp hy)) (List.mem_range.mp hk), List.length_reverse]
  exact r.1
theorem Rect.rev {h w : Nat} {rows : List (List α)} (r : Rect h w rows) : Rect h w (rows.map List.reverse) := by
  refine ⟨by rw [List.length_map]; exact r.1, fun x hx => ?_⟩
  obtain ⟨y, hy, rfl⟩ := List.mem_map.mp hx
  rw [List.length_reverse]
  exact r.2 y hy
theorem Rect.map {h w : Nat} {rows : List (List α)} (r : Rect h w rows) (f : α → β) : Rect h w (rows.map (·.map f)) := by
  refine ⟨by rw [List.length_map]; exact r.1, fun x hx => ?_⟩
  obtain ⟨y, hy, rfl⟩ := List.mem_map.mp hx
  rw [List.length_map]
  exact r.2 y hy
/-- at least one row, one column; at most m of either -/
def Box (m : Nat) (rows : List (List α)) : Prop := ∃ h w, Rect h w rows ∧ 0 < h ∧ 0 < w ∧ h ≤ m ∧ w ≤ m
theorem Box.turn {m : Nat} {rows : List (List α)} (b : Box m rows) : Box m (turnR rows) := by
  obtain ⟨h, w, r, h1, h2, h3, h4⟩ := b
  exact ⟨w, h, r.turn h1, h2, h1, h4, h3⟩
theorem Box.rev {m : Nat} {rows : List (List α)} (b : Box m rows) : Box m (rows.map List.reverse) := by
  obtain ⟨h, w, r, h1⟩ := b
  exact ⟨h, w, r.rev, h1⟩
theorem Box.map {m : Nat} {rows : List (List α)} (b : Box m rows) (f : α → β) : Box m (rows.map (·.map f)) := by
  obtain ⟨h, w, r, h1⟩ := b
  exact ⟨h, w, r.map f, h1⟩
theorem Box.iter {m : Nat} {rows : List (List α)} (b : Box m rows) : ∀ n, Box m (SQ.iter n turnR rows)
  | 0 => b
  | n + 1 => (Box.iter b n).turn
theorem Box.moved {m : Nat} {rows : List (List α)} (b : Box m rows) (s : Nat) : Box m (movedR rows s) := by
  unfold movedR
  refine Box.iter ?_ _
  split
  · exact b.rev
  · exact b
theorem Box.tr {m : Nat} {p : List (List Cell)} (b : Box m p) (s : Nat) : Box m (trP p s) := (b.moved s).map _
theorem moved_map (f : α → β) (rows : List (List α)) (s : Nat) : movedR (rows.map (·.map f)) s = (movedR rows s).map (·.map f) := by
  have it : ∀ (n : Nat) (q : List (List α)), SQ.iter n turnR (q.map (·.map f)) = (SQ.iter n turnR q).map (·.map f) := by
    intro n q
    induction n with
    | zero => rfl
    | succ n ih =>
      show turnR (SQ.iter n turnR (q.map (·.map f))) = (turnR (SQ.iter n turnR q)).map _
      rw [ih, turnR_map]
  unfold movedR
  by_cases h : 4 ≤ s
  · simp only [h, if_true]
    rw [← it]
    congr 1
    rw [List.map_map, List.map_map]
    refine List.map_congr_left fun r _ => ?_
    simp
  · simp only [h, if_false]
    exact it _ _
end

/-! ### what the bodies do -/
section
variable {K : Nat → List D → Res D}
theorem lit_sl : PyData.str "/" = T [47] := rfl
theorem lit_bs : PyData.str "\\" = T [92] := rfl
theorem i3_0 (x y z : Nat) : idxD (T [x, y, z]) (.int 0) = .ok (T [x]) := rfl
theorem i3_1 (x y z : Nat) : idxD (T [x, y, z]) (.int 1) = .ok (T [y]) := rfl
theorem i3_2 (x y z : Nat) : idxD (T [x, y, z]) (.int 2) = .ok (T [z]) := rfl
theorem l1_T (x : Nat) : lenD (T [x]) = .ok (.int 1) := rfl
theorem l3_T (x y z : Nat) : lenD (T [x, y, z]) = .ok (.int 3) := rfl
theorem a11_T (x y : Nat) : opD .add (T [x]) (T [y]) = .ok (T [x, y]) := rfl
theorem a21_T (x y z : Nat) : opD .add (T [x, y]) (T [z]) = .ok (T [x, y, z]) := rfl
theorem one_one : cmD .eq (.int 1) (.int 1) = .ok true := rfl
theorem three_one : cmD .eq (.int 3) (.int 1) = .ok false := rfl
theorem sl_sl : cmD .eq (T [47]) (T [47]) = .ok true := by rw [cm_eqT]; rfl
theorem bs_sl : cmD .eq (T [92]) (T [47]) = .ok false := by rw [cm_eqT]; rfl
theorem turnedCell_run (c : Cell) : ex K turnedCellB [.v (encC c)] = .ok (.rt (encC (tcC c))) := by
  cases c with
  | pl x => simp only [turnedCellB, encC, tcC, ex, ev, En.at, Sl.strict, Res.ok_bind, asL, blD, bl1, l1_T, Res.noE_ok, one_one, truth, if_true]
  | dg x up y => cases up <;> simp only [turnedCellB, encC, tcC, ex, ev, En.at, Sl.strict, Res.ok_bind, asL, blD, bl1, l3_T, Res.noE_ok, three_one, truth, if_true, Bool.false_eq_true, if_false, i3_0, i3_1, i3_2, lit_sl, lit_bs, sl_sl, bs_sl, a11_T, a21_T]
theorem mirroredCell_run (c : Cell) : ex K mirroredCellB [.v (encC c)] = .ok (.rt (encC (mcC c))) := by
  cases c with
  | pl x => simp only [mirroredCellB, encC, mcC, ex, ev, En.at, Sl.strict, Res.ok_bind, asL, blD, bl1, l1_T, Res.noE_ok, one_one, truth, if_true]
  | dg x up y => cases up <;> simp only [mirroredCellB, encC, mcC, ex, ev, En.at, Sl.strict, Res.ok_bind, asL, blD, bl1, l3_T, Res.noE_ok, three_one, truth, if_true, Bool.false_eq_true, if_false, i3_0, i3_1, i3_2, lit_sl, lit_bs, sl_sl, bs_sl, a11_T, a21_T, Bool.not_true, Bool.not_false]
theorem dic_sl : idxD (.dict [(T [47], T [92]), (T [92], T [47])]) (T [47]) = .ok (T [92]) := rfl
theorem dic_bs : idxD (.dict [(T [47], T [92]), (T [92], T [47])]) (T [92]) = .ok (T [47]) := rfl
theorem mirroredCell2_run (c : Cell) : ex K mirroredCell2B [.v (encC c)] = .ok (.rt (encC (mcC c))) := by
  cases c with
  | pl x => simp only [mirroredCell2B, encC, mcC, ex, ev, En.at, Sl.strict, Res.ok_bind, asL, blD, bl1, l1_T, Res.noE_ok, one_one, truth, if_true]
  | dg x up y => cases up <;> simp only [mirroredCell2B, encC, mcC, ex, ev, En.at, Sl.strict, Res.ok_bind, asL, blD, bl1, l3_T, Res.noE_ok, three_one, truth, if_true, Bool.false_eq_true, if_false, i3_0, i3_1, i3_2, lit_sl, lit_bs, List.zip_cons_cons, List.zip_nil_right, dic_sl, dic_bs, a11_T, a21_T, Bool.not_true, Bool.not_false]
theorem head_idx {rows : List (List D)} (h : rows ≠ []) : idxD (encR rows) (.int 0) = .ok (.tuple (rows.headD [])) := by
  cases rows with
  | nil => exact absurd rfl h
  | cons r rs =>
    show atL ((r :: rs).map .tuple) ((0 : Nat) : Int) = _
    rw [atL_nat (by simp)]
    rfl
theorem Box.ne {α : Type} {m : Nat} {rows : List (List α)} (b : Box m rows) : rows ≠ [] := by
  obtain ⟨h, w, r, h1, _⟩ := b
  intro e
  subst e
  have := r.1
  simp at this
  omega
theorem box_wid {α : Type} {m : Nat} {rows : List (List α)} (b : Box m rows) : (rows.headD []).length ≤ m := by
  obtain ⟨h, w, r, h1, h2, h3, h4⟩ := b
  rw [r.head h1]
  exact h4
theorem turnedRows_run {m : Nat} {rows : List (List D)} (b : Box m rows) (hm : m ≤ 1000) (s1 s2 : Sl) : ex K turnedRowsB [.v (encR rows), s1, s2] = .ok (.rt (encR (turnR rows))) := by
  have l1 : lim = 1000000 := rfl
  have hw := box_wid b
  obtain ⟨h, w, rc, h1, h2, h3, h4⟩ := id b
  have e2 := rc.head h1
  refine ex_seqR (ex_ret (ev_blt (ev_one (ev_cmpT (List.range (rows.headD []).length) (fun (k : Nat) => .int k) (fun k => .tuple (colAt k rows.reverse)) (s := .list (iR (rows.headD []).length)) ?_ rfl fun k hk => ?_)) ?_))
  · refine ev_rngN (ev_blt (ev_one (x := .tuple (rows.headD [])) ?_) rfl) (by omega)
    exact ev_idx rfl rfl (head_idx b.ne)
  · have kl := List.mem_range.mp hk
    refine ⟨_, rfl, ev_blt (ev_one (ev_cmpT rows.reverse .tuple (fun r => r.getD k .none) (s := .tuple (rows.reverse.map .tuple)) ?_ rfl fun r hr => ?_)) ?_⟩
    · show Res.ok (PyData.tuple (rows.map PyData.tuple).reverse) = _
      rw [List.map_reverse]
    · have e1 := rc.2 r (List.mem_reverse.mp hr)
      refine ⟨_, rfl, ev_idx rfl rfl ?_⟩
      show atL r (k : Int) = _
      rw [atL_nat (by omega), List.getD_eq_getElem?_getD, List.getElem?_eq_getElem (by omega)]
      rfl
    · rw [colAt_eq (d := PyData.none) (w := w) (fun r hr => rc.2 r (List.mem_reverse.mp hr)) (by omega)]
      rfl
  · show Res.ok (PyData.tuple _) = _
    unfold encR turnR
    rw [List.map_map]
    rfl
theorem mod4 (s : Nat) : opD .mod (.int (s : Int)) (.int 4) = .ok (.int ((s % 4 : Nat) : Int)) := by
  show (if (4 : Int) ≠ 0 then Res.ok (PyData.int ((s : Int).fmod 4)) else .bad) = _
  rw [if_pos (by decide), Int.fmod_eq_emod_of_nonneg _ (by decide)]
  rfl
/-- for _ in range(s % 4): x = f(x) -/
theorem loop4 {α : Type} {P : α → Prop} {enc : α → D} {f : α → α} {t : Nat} (ht : ∀ a, P a → K t [enc a] = .ok (enc (f a))) (hP : ∀ a, P a → P (f a)) {a : α} (ha : P a) (s : Nat) (rest : En) (s2 : Sl) :
    ∃ s2', ex K (.for_ (.var 2) (.rng (.dat (.int 0)) (.bin .mod (.var 1) (.dat (.int 4))) (.dat (.int 1))) (.seq (.set 0 (.call t (.cons (.var 0) .nil))) .skip)) (.v (enc a) :: .v (.int (s : Int)) :: s2 :: rest) = .ok (.nx (.v (enc (iter (s % 4) f a)) :: .v (.int (s : Int)) :: s2' :: rest)) := by
  have hr : ev K (.rng (.dat (.int 0)) (.bin .mod (.var 1) (.dat (.int 4))) (.dat (.int 1))) (.v (enc a) :: .v (.int (s : Int)) :: s2 :: rest) = .ok (.list (iR (s % 4))) := by
    refine ev_rngN ?_ (by have : lim = 1000000 := rfl; omega)
    exact ev_bin rfl rfl (mod4 s)
  obtain ⟨e', h1, s2', h2, _⟩ := forL_inv (fun i e => ∃ s2, e = .v (enc (iter i f a)) :: .v (.int (s : Int)) :: s2 :: rest ∧ P (iter i f a)) (k := 0) (xs := iR (s % 4))
    (f := fun x e1 => (bindT (.var 2) x e1).bind fun e2 => ex K (.seq (.set 0 (.call t (.cons (.var 0) .nil))) .skip) e2) (e := .v (enc a) :: .v (.int (s : Int)) :: s2 :: rest) ⟨s2, rfl, ha⟩ (fun i x e hx hi => by
      obtain ⟨s2, rfl, hp⟩ := hi
      rw [Nat.zero_add] at hp ⊢
      refine ⟨_, .inl (ex_seq (e := .v (enc (iter i f a)) :: .v (.int (s : Int)) :: .v x :: rest) (ex_set (ev_call (ev_one rfl) (ht _ hp)))), .v x, rfl, hP _ hp⟩)
  rw [Nat.zero_add, iR_length] at h2
  exact ⟨s2', by rw [ex_for hr rfl, h1, h2]⟩
theorem ge4 (s : Nat) : cmD .ge (.int (s : Int)) (.int 4) = .ok (decide (4 ≤ s)) := by
  rw [cm_geI]
  congr 1
  by_cases h : 4 ≤ s
  · rw [decide_eq_true h, decide_eq_false (by omega)]; rfl
  · rw [decide_eq_false h, decide_eq_true (by omega)]; rfl
theorem movedRows_run {t m : Nat} (hm : m ≤ 1000) (ht : ∀ rows : List (List D), Box m rows → K t [encR rows] = .ok (encR (turnR rows))) {rows : List (List D)} (b : Box m rows) (s : Nat) (s2 s3 : Sl) :
    ex K (movedRowsB t) [.v (encR rows), .v (.int (s : Int)), s2, s3] = .ok (.rt (encR (movedR rows s))) := by
  have go : ∀ rows : List (List D), Box m rows → ex K (.seq (.for_ (.var 2) (.rng (.dat (.int 0)) (.bin .mod (.var 1) (.dat (.int 4))) (.dat (.int 1))) (.seq (.set 0 (.call t (.cons (.var 0) .nil))) .skip)) (.seq (.ret (.var 0)) .skip)) [.v (encR rows), .v (.int (s : Int)), s2, s3] = .ok (.rt (encR (iter (s % 4) turnR rows))) := fun rows b => by
    obtain ⟨s2', h⟩ := loop4 (P := Box m) (enc := encR) (f := turnR) ht (fun a => Box.turn) b s [s3] s2
    rw [ex_seq h]
    rfl
  have hc : ev K (.cmp .ge (.var 1) (.dat (.int 4))) [.v (encR rows), .v (.int (s : Int)), s2, s3] = .ok (.bool (decide (4 ≤ s))) := by
    exact ev_cmp rfl rfl (ge4 s)
  unfold movedRowsB movedR
  by_cases h : 4 ≤ s
  · rw [if_pos h]
    refine (ex_seq (e1 := [.v (encR (rows.map List.reverse)), .v (.int (s : Int)), s2, s3]) ?_).trans (go _ b.rev)
    rw [ex_iffT hc (by rw [decide_eq_true h]; rfl)]
    refine (ex_seq (ex_set (d := encR (rows.map List.reverse)) (ev_blt (ev_one (ev_cmpT rows .tuple (fun r => .tuple r.reverse) (s := encR rows) rfl rfl fun r hr => ⟨_, rfl, rfl⟩)) ?_))).trans rfl
    show Res.ok (PyData.tuple _) = Res.ok (PyData.tuple _)
    rw [List.map_map]
    rfl
  · rw [if_neg h]
    refine (ex_seq (e1 := [.v (encR rows), .v (.int (s : Int)), s2, s3]) ?_).trans (go _ b)
    rw [ex_iffF hc (by rw [decide_eq_false h]; rfl)]
    rfl
theorem changedCell_run {m t : Nat} (hm : ∀ c, K m [encC c] = .ok (encC (mcC c))) (ht : ∀ c, K t [encC c] = .ok (encC (tcC c))) (c : Cell) (s : Nat) (s2 : Sl) :
    ex K (changedCellB m t) [.v (encC c), .v (.int (s : Int)), s2] = .ok (.rt (encC (changedC s c))) := by
  have go : ∀ c : Cell, ex K (.seq (.for_ (.var 2) (.rng (.dat (.int 0)) (.bin .mod (.var 1) (.dat (.int 4))) (.dat (.int 1))) (.seq (.set 0 (.call t (.cons (.var 0) .nil))) .skip)) (.seq (.ret (.var 0)) .skip)) [.v (encC c), .v (.int (s : Int)), s2] = .ok (.rt (encC (iter (s % 4) tcC c))) := fun c => by
    obtain ⟨s2', h⟩ := loop4 (P := fun _ => True) (enc := encC) (f := tcC) (fun a _ => ht a) (fun _ _ => trivial) (a := c) trivial s [] s2
    rw [ex_seq h]
    rfl
  have hc : ev K (.cmp .ge (.var 1) (.dat (.int 4))) [.v (encC c), .v (.int (s : Int)), s2] = .ok (.bool (decide (4 ≤ s))) := by
    exact ev_cmp rfl rfl (ge4 s)
  unfold changedCellB changedC
  by_cases h : 4 ≤ s
  · rw [if_pos h]
    refine (ex_seq (e1 := [.v (encC (mcC c)), .v (.int (s : Int)), s2]) ?_).trans (go _)
    rw [ex_iffT hc (by rw [decide_eq_true h]; rfl)]
    exact ex_seq (ex_set (ev_call (ev_one rfl) (hm c)))
  · rw [if_neg h]
    refine (ex_seq (e1 := [.v (encC c), .v (.int (s : Int)), s2]) ?_).trans (go _)
    rw [ex_iffF hc (by rw [decide_eq_false h]; rfl)]
    rfl
theorem transformed_run {mo ch m : Nat} (hmo : ∀ (rows : List (List D)) (s : Nat), Box m rows → K mo [encR rows, .int (s : Int)] = .ok (encR (movedR rows s))) (hch : ∀ (c : Cell) (s : Nat), K ch [encC c, .int (s : Int)] = .ok (encC (changedC s c)))
    {p : List (List Cell)} (b : Box m p) (s : Nat) (s2 s3 : Sl) : ex K (transformedB mo ch) [.v (encP p), .v (.int (s : Int)), s2, s3] = .ok (.rt (encP (trP p s))) := by
  have hmv := hmo (p.map (·.map encC)) s (b.map encC)
  rw [moved_map] at hmv
  refine ex_seqR (ex_ret (ev_blt (ev_one (ev_cmpT (movedR p s) (fun r => .tuple (r.map encC)) (fun r => .tuple (r.map fun c => encC (changedC s c))) (s := encR ((movedR p s).map fun (r : List Cell) => r.map encC)) (ev_call (ev_cons rfl (ev_one rfl)) (show K mo [encP p, .int (s : Int)] = _ from hmv)) ?_ fun r hr => ?_)) ?_))
  · show Res.ok _ = Res.ok _
    rw [List.map_map]
    rfl
  · exact ⟨_, rfl, ev_blt (ev_one (ev_cmpT r encC (fun c => encC (changedC s c)) (s := .tuple (r.map encC)) rfl rfl fun c hc => ⟨_, rfl, ev_call (ev_cons rfl (ev_one rfl)) (hch c s)⟩)) rfl⟩
  · show Res.ok (PyData.tuple _) = Res.ok (PyData.tuple _)
    unfold trP
    rw [List.map_map, List.map_map]
    congr 2
    refine List.map_congr_left fun r _ => ?_
    simp
/-! the law's own symmetries -/
def up3 (n : Nat) : List D := (List.range n).reverse.map fun (i : Nat) => PyData.int i
theorem rngL_down (n : Nat) : rngL ((n : Int) - 1) (-1) (-1) = up3 n := by
  have e : (Builtin.Range.rangeSize ((n : Int) - 1) (-1) (-1)).toNat = n := by
    unfold Builtin.Range.rangeSize
    simp
    split <;> omega
  unfold rngL up3
  rw [e]
  refine List.ext_getElem (by simp) fun i h1 h2 => ?_
  simp at h1 h2 ⊢
  omega
theorem lawTurned_run {t m : Nat} (hm : m ≤ 1000) (ht : ∀ c, K t [encC c] = .ok (encC (tcC c))) {p : List (List Cell)} (b : Box m p) (s1 s2 s3 : Sl) : ex K (lawTurnedB t) [.v (encP p), s1, s2, s3] = .ok (.rt (encP (turnP p))) := by
  have l1 : lim = 1000000 := rfl
  have hw := box_wid b
  obtain ⟨h, w, rc, h1, h2, h3, h4⟩ := id b
  have e2 := rc.head h1
  unfold lawTurnedB
  rw [ex_seq (e1 := [.v (encP p), .o (.list []), s2, s3]) rfl]
  have hr : ev K (.rng (.dat (.int 0)) (.blt .len (.cons (.idx (.var 0) (.dat (.int 0))) .nil)) (.dat (.int 1))) [.v (encP p), .o (.list []), s2, s3] = .ok (.list (iR w)) := by
    refine ev_rngN (ev_blt (ev_one (x := .tuple ((p.map fun (r : List Cell) => r.map encC).headD [])) (ev_idx (x := encP p) rfl rfl (head_idx (rows := p.map fun (r : List Cell) => r.map encC) (b.map encC).ne))) ?_) (by omega)
    show Res.ok (PyData.int _) = _
    rw [(rc.map encC).head h1]
  obtain ⟨e', g1, s2', s3', rfl⟩ := forL_inv (fun i e => ∃ s2 s3, e = [.v (encP p), .o (.list (((List.range i).map fun k => (colAt k p.reverse).map tcC).map fun r => .tuple (r.map encC))), s2, s3]) (k := 0) (xs := iR w)
    (f := fun x e1 => (bindT (.var 2) x e1).bind fun e2 => ex K (.seq (.app 1 (.blt .tuple (.cons (.cmp1 (.var 3) (.rng (.bin .sub (.blt .len (.cons (.var 0) .nil)) (.dat (.int 1))) (.neg (.dat (.int 1))) (.neg (.dat (.int 1)))) (.call t (.cons (.idx (.idx (.var 0) (.var 3)) (.var 2)) .nil)) .na) .nil)))
      .skip) e2) (e := [.v (encP p), .o (.list []), s2, s3]) ⟨s2, s3, rfl⟩ (fun i x e hx hi => by
      obtain ⟨s2, s3, rfl⟩ := hi
      obtain ⟨rfl, hi⟩ := iR_get hx
      rw [Nat.zero_add]
      have src : ev K (.rng (.bin .sub (.blt .len (.cons (.var 0) .nil)) (.dat (.int 1))) (.neg (.dat (.int 1))) (.neg (.dat (.int 1)))) [.v (encP p), .o (.list (((List.range i).map fun k => (colAt k p.reverse).map tcC).map fun r => .tuple (r.map encC))), .v (.int i), s3] = .ok (.list (up3 h)) := by
        have lp : ((p.map (·.map encC)).map PyData.tuple).length = h := by rw [List.length_map, List.length_map]; exact rc.1
        show (Res.ok (PyData.int (((p.map (·.map encC)).map PyData.tuple).length - 1))).bind (fun x => (Res.ok (PyData.int (-1))).bind fun y => (Res.ok (PyData.int (-1))).bind fun z => rngD x y z) = _
        rw [lp]
        show (if _ then Res.ok (PyData.list (rngL ((h : Int) - 1) (-1) (-1))) else .bad) = _
        rw [rngL_down, if_pos]
        refine ⟨by omega, by omega, by omega, by omega, by decide, by decide, ?_⟩
        have := congrArg List.length (rngL_down h)
        rw [rngL_length] at this
        rw [this]
        simp [up3]
        omega
      have row : ev K (.blt .tuple (.cons (.cmp1 (.var 3) (.rng (.bin .sub (.blt .len (.cons (.var 0) .nil)) (.dat (.int 1))) (.neg (.dat (.int 1))) (.neg (.dat (.int 1)))) (.call t (.cons (.idx (.idx (.var 0) (.var 3)) (.var 2)) .nil)) .na) .nil)) [.v (encP p), .o (.list (((List.range i).map fun k => (colAt k p.reverse).map tcC).map fun r => .tuple (r.map encC))), .v (.int i), s3] = .ok (.tuple (((colAt i p.reverse).map tcC).map encC)) := by
        refine ev_blt (ev_one (ev_cmpT (List.range h).reverse (fun (r : Nat) => .int r) (fun r => encC (tcC ((p.getD r []).getD i (.pl 0)))) (s := .list (up3 h)) src rfl fun r hr => ?_)) ?_
        · have hr := List.mem_range.mp (List.mem_reverse.mp hr)
          refine ⟨_, rfl, ev_call (ev_one (x := encC ((p.getD r []).getD i (.pl 0))) (ev_idx (x := .tuple ((p.getD r []).map encC)) (ev_idx rfl rfl ?_) rfl ?_)) (ht _)⟩
          · show atL ((p.map (·.map encC)).map .tuple) (r : Int) = _
            have := rc.1
            rw [atL_nat (by rw [List.length_map, List.length_map]; omega), List.getD_eq_getElem?_getD, List.getElem?_eq_getElem (by omega)]
            simp
          · show atL ((p.getD r []).map encC) (i : Int) = _
            have := rc.1
            have hp : (p.getD r []).length = w := by
              rw [List.getD_eq_getElem?_getD, List.getElem?_eq_getElem (by omega)]
              exact rc.2 _ (List.getElem_mem _)
            rw [atL_nat (by rw [List.length_map]; omega), List.getD_eq_getElem?_getD (l := p.getD r []), List.getElem?_eq_getElem (by omega)]
            simp
        · show Res.ok (PyData.tuple _) = Res.ok (PyData.tuple _)
          rw [colAt_eq (d := Cell.pl 0) (w := w) (fun r hr => rc.2 r (List.mem_reverse.mp hr)) hi, List.map_map, List.map_map]
          congr 2
          refine List.ext_getElem (by simp [rc.1]) fun j h1 h2 => ?_
          have := rc.1
          simp at h1 h2 ⊢
          have e9 : p[p.length - 1 - j]? = some p[p.length - 1 - j] := List.getElem?_eq_getElem (by omega)
          rw [← this, e9]
          simp
      refine ⟨_, .inl (ex_seq (e := [.v (encP p), .o (.list (((List.range i).map fun k => (colAt k p.reverse).map tcC).map fun r => .tuple (r.map encC))), .v (.int i), s3]) (e1 := [.v (encP p), .o (.list (((List.range (i + 1)).map fun k => (colAt k p.reverse).map tcC).map fun r => .tuple (r.map encC))), .v (.int i), s3]) ?_), _, _, rfl⟩
      show (ev K _ _).bind (fun d => if _ < lim then Res.ok (Fl.nx (En.put _ 1 (.o (.list (_ ++ [d]))))) else .bad) = _
      rw [row, Res.ok_bind, if_pos (by simp; omega), List.range_succ, List.map_append, List.map_append]
      rfl)
  rw [Nat.zero_add, iR_length] at g1
  rw [ex_seq ((ex_for hr rfl).trans g1)]
  show Res.ok (Fl.rt (PyData.tuple _)) = Res.ok (Fl.rt (PyData.tuple _))
  unfold turnP turnR
  rw [e2]
  simp
theorem gt3 (s : Nat) : cmD .gt (.int (s : Int)) (.int 3) = .ok (decide (4 ≤ s)) := by
  rw [cm_gtI]
  congr 1
  by_cases h : 4 ≤ s
  · rw [decide_eq_true h, decide_eq_true (by omega)]
  · rw [decide_eq_false h, decide_eq_false (by omega)]
theorem Box.turnP {m : Nat} {p : List (List Cell)} (b : Box m p) : Box m (turnP p) := b.turn.map _
theorem lawImage_run {mi t m : Nat} (hm : ∀ c, K mi [encC c] = .ok (encC (mcC c))) (ht : ∀ p : List (List Cell), Box m p → K t [encP p] = .ok (encP (turnP p))) {p : List (List Cell)} (b : Box m p) (s : Nat) (s2 s3 s4 : Sl) :
    ex K (lawImageB mi t) [.v (encP p), .v (.int (s : Int)), s2, s3, s4] = .ok (.rt (encP (imgP p s))) := by
  have go : ∀ p : List (List Cell), Box m p → ex K (.seq (.for_ (.var 2) (.rng (.dat (.int 0)) (.bin .mod (.var 1) (.dat (.int 4))) (.dat (.int 1))) (.seq (.set 0 (.call t (.cons (.var 0) .nil))) .skip)) (.seq (.ret (.var 0)) .skip)) [.v (encP p), .v (.int (s : Int)), s2, s3, s4] = .ok (.rt (encP (iter (s % 4) turnP p))) := fun p b => by
    obtain ⟨s2', h⟩ := loop4 (P := Box m) (enc := encP) (f := turnP) ht (fun a => Box.turnP) b s [s3, s4] s2
    rw [ex_seq h]
    rfl
  have hc : ev K (.cmp .gt (.var 1) (.dat (.int 3))) [.v (encP p), .v (.int (s : Int)), s2, s3, s4] = .ok (.bool (decide (4 ≤ s))) := ev_cmp rfl rfl (gt3 s)
  unfold lawImageB imgP
  by_cases h : 4 ≤ s
  · rw [if_pos h]
    have e : (p.map fun r => r.reverse.map mcC) = (p.map List.reverse).map (·.map mcC) := by rw [List.map_map]; rfl
    refine (ex_seq (e1 := [.v (encP (p.map fun r => r.reverse.map mcC)), .v (.int (s : Int)), s2, s3, s4]) ?_).trans (go _ (by rw [e]; exact b.rev.map _))
    rw [ex_iffT hc (by rw [decide_eq_true h]; rfl)]
    refine (ex_seq (ex_set (d := encP (p.map fun r => r.reverse.map mcC)) (ev_blt (ev_one (ev_cmpT p (fun r => .tuple (r.map encC)) (fun r => .tuple (r.reverse.map fun c => encC (mcC c))) (s := encP p) rfl ?_ fun r hr => ⟨_, rfl, ev_blt (ev_one (ev_cmpT r.reverse encC (fun c => encC (mcC c)) (s := .tuple (r.reverse.map encC)) ?_ rfl fun c hc => ⟨_, rfl, ev_call (ev_one rfl) (hm c)⟩)) rfl⟩)) ?_))).trans rfl
    · show Res.ok _ = Res.ok _
      rw [List.map_map]
      rfl
    · show Res.ok (PyData.tuple (r.map encC).reverse) = _
      rw [List.map_reverse]
    · show Res.ok (PyData.tuple _) = Res.ok (PyData.tuple _)
      rw [List.map_map, List.map_map]
      congr 2
      refine List.map_congr_left fun r _ => ?_
      simp
  · rw [if_neg h]
    refine (ex_seq (e1 := [.v (encP p), .v (.int (s : Int)), s2, s3, s4]) ?_).trans (go _ b)
    rw [ex_iffF hc (by rw [decide_eq_false h]; rfl)]
    rfl
end
end SQ

/-! SqPat: the patterns that the laws draw. -/
namespace SQ
open PySem C

def lawPatternB (d : Nat) : C :=
    (.seq (.set 3 (.call d (.cons (.var 0) (.cons (.var 1) (.cons (.bin .add (.lst (.cons (.var 2) (.cons (.var 2) .nil))) (.bin .mul (.lst (.cons (.dat (.int 9)) .nil)) (.dat (.int 36)))) .nil)))))
      (.seq (.seto 4 (.lst .nil))
      (.seq (.for_ (.var 5) (.rng (.dat (.int 0)) (.bin .add (.dat (.int 1)) (.idx (.var 3) (.dat (.int 0)))) (.dat (.int 1))) (.seq (.seto 6 (.lst .nil))
      (.seq (.for_ (.var 7) (.rng (.dat (.int 0)) (.bin .add (.dat (.int 1)) (.idx (.var 3) (.dat (.int 1)))) (.dat (.int 1))) (.seq (.app 6 (.idx (.lst (.cons (.dat (.str "a")) (.cons (.dat (.str "b")) (.cons (.dat (.str "c")) (.cons (.dat (.str "a")) (.cons (.dat (.str "b")) (.cons (.dat (.str "a/b")) (.cons (.dat (.str "a\\b")) (.cons (.dat (.str "c\\a")) (.cons (.dat (.str "b/c")) .nil)))))))))) (.idx (.var 3) (.bin .add (.bin .add (.dat (.int 2)) (.bin .mul (.dat (.int 6)) (.var 5))) (.var 7)))))
      .skip))
      (.seq (.app 4 (.blt .tuple (.cons (.wv 6) .nil)))
      .skip))))
      (.seq (.ret (.blt .tuple (.cons (.wv 4) .nil)))
      .skip))))
def lawGreatB (d : Nat) : C :=
    (.seq (.set 2 (.call d (.cons (.var 0) (.cons (.var 1) (.cons (.bin .add (.lst (.cons (.dat (.int 10)) (.cons (.dat (.int 10)) .nil))) (.bin .mul (.lst (.cons (.dat (.int 9)) .nil)) (.dat (.int 36)))) .nil)))))
      (.seq (.seto 3 (.lst .nil))
      (.seq (.for_ (.var 4) (.rng (.dat (.int 0)) (.bin .add (.dat (.int 1)) (.idx (.var 2) (.dat (.int 0)))) (.dat (.int 1))) (.seq (.app 3 (.blt .tuple (.cons (.cmp1 (.var 5) (.rng (.dat (.int 0)) (.bin .add (.dat (.int 1)) (.idx (.var 2) (.dat (.int 1)))) (.dat (.int 1))) (.idx (.lst (.cons (.dat (.str "a")) (.cons (.dat (.str "b")) (.cons (.dat (.str "h")) (.cons (.dat (.str "d")) (.cons (.dat (.str "e/f")) (.cons (.dat (.str "a/b")) (.cons (.dat (.str "g\\h")) (.cons (.dat (.str "z")) (.cons (.dat (.str "b")) .nil)))))))))) (.idx (.var 2) (.bin .add (.dat (.int 2)) (.bin .mod (.bin .add (.bin .mul (.dat (.int 7)) (.var 4)) (.bin .mul (.dat (.int 3)) (.var 5))) (.dat (.int 36)))))) .na) .nil)))
      .skip))
      (.seq (.ret (.blt .tuple (.cons (.wv 3) .nil)))
      .skip))))
def lawAnyB (g p : Nat) : C :=
    (.seq (.iff (.or (.cmp .eq (.bin .mod (.var 1) (.dat (.int 4))) (.dat (.int 3))) (.and (.cmp .eq (.bin .mod (.blt .len (.cons (.var 0) .nil)) (.dat (.int 4))) (.dat (.int 1))) (.cmp .eq (.var 1) (.dat (.int 0))))) (.seq (.ret (.call g (.cons (.var 0) (.cons (.var 1) .nil))))
      .skip) .skip)
      (.seq (.ret (.call p (.cons (.var 0) (.cons (.var 1) (.cons (.var 2) .nil)))))
      .skip))
def cells1 : List Cell := [.pl 97, .pl 98, .pl 99, .pl 97, .pl 98, .dg 97 true 98, .dg 97 false 98, .dg 99 false 97, .dg 98 true 99]
def cells2 : List Cell := [.pl 97, .pl 98, .pl 104, .pl 100, .dg 101 true 102, .dg 97 true 98, .dg 103 false 104, .pl 122, .pl 98]
def dgt (ds : List Int) (j : Nat) : Nat := (ds.getD j 0).toNat
def Of (l : List Cell) (p : List (List Cell)) : Prop := ∀ r ∈ p, ∀ c ∈ r, c ∈ l
def sz (m : Int) : List Int := [m, m] ++ List.replicate 36 9

section
variable {K : Nat → List D → Res D}
def Draws (K : Nat → List D → Res D) (d : Nat) (s : D) (k : Int) : Prop := ∀ ss : List Int, (∀ s ∈ ss, 0 < s ∧ s < 1000000000) → ss.length ≤ 1000 → ∃ ds : List Int, K d [s, .int k, .list (ss.map .int)] = .ok (.list (ds.map .int)) ∧ Drawn ss ds
theorem sz_ok {m : Int} (h : 0 < m) (h2 : m ≤ 100) : (∀ s ∈ sz m, 0 < s ∧ s < 1000000000) ∧ (sz m).length ≤ 1000 := by
  refine ⟨fun s hs => ?_, by simp [sz]⟩
  rcases List.mem_append.mp hs with z | z
  · simp at z; omega
  · have := (List.mem_replicate.mp z).2; omega
theorem sz_get {m : Int} {j : Nat} : (sz m).getD j 1 = if j < 2 then m else if j < 38 then 9 else 1 := by
  unfold sz
  rw [List.getD_eq_getElem?_getD]
  match j with
  | 0 => rfl
  | 1 => rfl
  | j + 2 =>
    rw [List.getElem?_append_right (by simp)]
    show ((List.replicate 36 (9 : Int))[j]?).getD 1 = _
    rw [List.getElem?_replicate, if_neg (show ¬ j + 2 < 2 by omega)]
    by_cases h : j < 36
    · rw [if_pos h, if_pos (show j + 2 < 38 by omega)]; rfl
    · rw [if_neg h, if_neg (show ¬ j + 2 < 38 by omega)]; rfl
theorem dgt_at {m : Int} {ds : List Int} (h : Drawn (sz m) ds) {j : Nat} (hj : j < 38) : idxD (.list (ds.map .int)) (.int (j : Int)) = .ok (.int (dgt ds j)) ∧ (dgt ds j : Int) < (if j < 2 then m else 9) := by
  have hl : (sz m).length = 38 := by simp [sz]
  obtain ⟨h1, h2⟩ := h
  have g := h2 j (by omega)
  rw [sz_get, if_pos hj] at g
  have e : ((dgt ds j : Nat) : Int) = ds.getD j 0 := by unfold dgt; omega
  refine ⟨?_, by rw [e]; exact g.2⟩
  show atL (ds.map .int) (j : Int) = _
  rw [atL_nat (by rw [List.length_map]; omega), e, getD_lt (by omega)]
  simp
theorem cell_at {l : List Cell} (hl : l.length = 9) {i : Nat} (hi : (i : Int) < 9) : idxD (.list (l.map encC)) (.int (i : Int)) = .ok (encC (l.getD i (.pl 0))) := by
  show atL (l.map encC) (i : Int) = _
  rw [atL_nat (by rw [List.length_map]; omega), List.getD_eq_getElem?_getD, List.getElem?_eq_getElem (by omega)]
  simp
theorem cell_in {l : List Cell} {i : Nat} (hi : i < l.length) : l.getD i (.pl 0) ∈ l := by
  rw [List.getD_eq_getElem?_getD, List.getElem?_eq_getElem hi]
  exact List.getElem_mem hi
theorem szD (m : Int) : opD .add (.list [.int m, .int m]) (.list (List.replicate 36 (.int 9))) = .ok (.list ((sz m).map .int)) := rfl
theorem nineD : opD .mul (.list [.int 9]) (.int 36) = .ok (.list (List.replicate 36 (.int 9))) := rfl
theorem succ_at {m : Int} {ds : List Int} (h : Drawn (sz m) ds) {j : Nat} (hj : j < 38) {x : C} {e : En} (he : ev K x e = .ok (.list (ds.map .int))) : ev K (.bin .add (.dat (.int 1)) (.idx x (.dat (.int j)))) e = .ok (.int ((dgt ds j + 1 : Nat) : Int)) := by
  refine ev_bin rfl (ev_idx he rfl (dgt_at h hj).1) ?_
  show Res.ok (PyData.int (1 + (dgt ds j : Int))) = _
  congr 2
  omega
theorem lawPattern_run {d : Nat} {s : D} {k : Int} (hd : Draws K d s k) {most : Nat} (h1 : 0 < most) (h5 : most ≤ 5) :
    ∃ p, Box most p ∧ Of cells1 p ∧ ex K (lawPatternB d) [.v s, .v (.int k), .v (.int (most : Int)), .u, .u, .u, .u, .u] = .ok (.rt (encP p)) := by
  have l1 : lim = 1000000 := rfl
  obtain ⟨z1, z2⟩ := sz_ok (m := (most : Int)) (by omega) (by omega)
  obtain ⟨ds, e1, dr⟩ := hd (sz most) z1 z2
  have b0 := (dgt_at dr (j := 0) (by omega)).2
  have b1 := (dgt_at dr (j := 1) (by omega)).2
  rw [if_pos (by omega)] at b0 b1
  let cel : Nat → Nat → Cell := fun r c => cells1.getD (dgt ds (2 + 6 * r + c)) (.pl 0)
  have bd : ∀ r c, r < dgt ds 0 + 1 → c < dgt ds 1 + 1 → 2 + 6 * r + c < 38 ∧ dgt ds (2 + 6 * r + c) < 9 := fun r c hr hc => by
    have h : 2 + 6 * r + c < 38 := by omega
    have := (dgt_at dr h).2
    rw [if_neg (by omega)] at this
    exact ⟨h, by omega⟩
  refine ⟨(List.range (dgt ds 0 + 1)).map fun r => (List.range (dgt ds 1 + 1)).map fun c => cel r c, ⟨dgt ds 0 + 1, dgt ds 1 + 1, ⟨by simp, fun x hx => ?_⟩, by omega, by omega, by omega, by omega⟩, fun x hx c hc => ?_, ?_⟩
  · obtain ⟨r, _, rfl⟩ := List.mem_map.mp hx
    simp
  · obtain ⟨r, hr, rfl⟩ := List.mem_map.mp hx
    obtain ⟨c', hc', rfl⟩ := List.mem_map.mp hc
    exact cell_in (bd r c' (List.mem_range.mp hr) (List.mem_range.mp hc')).2
  · unfold lawPatternB
    rw [ex_seq (e1 := [.v s, .v (.int k), .v (.int (most : Int)), .v (.list (ds.map .int)), .u, .u, .u, .u]) (ex_set (ev_call (ev_cons rfl (ev_cons rfl (ev_one (ev_bin rfl (ev_bin rfl rfl nineD) (szD _))))) e1))]
    rw [ex_seq (e1 := [.v s, .v (.int k), .v (.int (most : Int)), .v (.list (ds.map .int)), .o (.list []), .u, .u, .u]) rfl]
    have hr : ev K (.rng (.dat (.int 0)) (.bin .add (.dat (.int 1)) (.idx (.var 3) (.dat (.int 0)))) (.dat (.int 1))) [.v s, .v (.int k), .v (.int (most : Int)), .v (.list (ds.map .int)), .o (.list []), .u, .u, .u] = .ok (.list (iR (dgt ds 0 + 1))) := ev_rngN (succ_at (j := 0) dr (by omega) rfl) (by omega)
    obtain ⟨e', g1, s5, s6, s7, rfl⟩ := forL_inv (fun i e => ∃ s5 s6 s7, e = [.v s, .v (.int k), .v (.int (most : Int)), .v (.list (ds.map .int)), .o (.list ((List.range i).map fun r => .tuple (((List.range (dgt ds 1 + 1)).map fun c => cel r c).map encC))), s5, s6, s7]) (k := 0) (xs := iR (dgt ds 0 + 1))
      (f := fun x e1 => (bindT (.var 5) x e1).bind fun e2 => ex K (.seq (.seto 6 (.lst .nil))
      (.seq (.for_ (.var 7) (.rng (.dat (.int 0)) (.bin .add (.dat (.int 1)) (.idx (.var 3) (.dat (.int 1)))) (.dat (.int 1))) (.seq (.app 6 (.idx (.lst (.cons (.dat (.str "a")) (.cons (.dat (.str "b")) (.cons (.dat (.str "c")) (.cons (.dat (.str "a")) (.cons (.dat (.str "b")) (.cons (.dat (.str "a/b")) (.cons (.dat (.str "a\\b")) (.cons (.dat (.str "c\\a")) (.cons (.dat (.str "b/c")) .nil)))))))))) (.idx (.var 3) (.bin .add (.bin .add (.dat (.int 2)) (.bin .mul (.dat (.int 6)) (.var 5))) (.var 7)))))
      .skip))
      (.seq (.app 4 (.blt .tuple (.cons (.wv 6) .nil)))
      .skip))) e2) (e := [.v s, .v (.int k), .v (.int (most : Int)), .v (.list (ds.map .int)), .o (.list []), .u, .u, .u]) ⟨.u, .u, .u, rfl⟩ (fun i x e hx hi => by
        obtain ⟨s5, s6, s7, rfl⟩ := hi
        obtain ⟨rfl, hi⟩ := iR_get hx
        rw [Nat.zero_add]
        have lp := app_loop (n := dgt ds 1 + 1) (f := fun x e1 => (bindT (.var 7) x e1).bind fun e2 => ex K (.seq (.app 6 (.idx (.lst (.cons (.dat (.str "a")) (.cons (.dat (.str "b")) (.cons (.dat (.str "c")) (.cons (.dat (.str "a")) (.cons (.dat (.str "b")) (.cons (.dat (.str "a/b")) (.cons (.dat (.str "a\\b")) (.cons (.dat (.str "c\\a")) (.cons (.dat (.str "b/c")) .nil)))))))))) (.idx (.var 3) (.bin .add (.bin .add (.dat (.int 2)) (.bin .mul (.dat (.int 6)) (.var 5))) (.var 7)))))
          .skip) e2) (fun acc s7 => [.v s, .v (.int k), .v (.int (most : Int)), .v (.list (ds.map .int)), .o (.list ((List.range i).map fun r => .tuple (((List.range (dgt ds 1 + 1)).map fun c => cel r c).map encC))), .v (.int i), .o (.list acc), s7]) (fun c => encC (cel i c)) (fun c hc acc s7 ha => by
            obtain ⟨b2, b3⟩ := bd i c hi hc
            have h6 : opD .mul (.int 6) (.int (i : Int)) = .ok (.int (6 * (i : Int))) := rfl
            have iv : ev K (.idx (.lst (.cons (.dat (.str "a")) (.cons (.dat (.str "b")) (.cons (.dat (.str "c")) (.cons (.dat (.str "a")) (.cons (.dat (.str "b")) (.cons (.dat (.str "a/b")) (.cons (.dat (.str "a\\b")) (.cons (.dat (.str "c\\a")) (.cons (.dat (.str "b/c")) .nil)))))))))) (.idx (.var 3) (.bin .add (.bin .add (.dat (.int 2)) (.bin .mul (.dat (.int 6)) (.var 5))) (.var 7)))) [.v s, .v (.int k), .v (.int (most : Int)), .v (.list (ds.map .int)), .o (.list ((List.range i).map fun r => .tuple (((List.range (dgt ds 1 + 1)).map fun c => cel r c).map encC))), .v (.int i), .o (.list acc), .v (.int c)] = .ok (encC (cel i c)) := by
              refine ev_idx (x := .list (cells1.map encC)) rfl (ev_idx rfl (y := .int ((2 + 6 * i + c : Nat) : Int)) (ev_bin (ev_bin rfl (ev_bin rfl rfl h6) rfl) rfl ?_) (dgt_at dr b2).1) (cell_at rfl (by omega))
              show Res.ok (PyData.int (2 + 6 * (i : Int) + c)) = _
              congr 2
            refine ex_seq (e := [.v s, .v (.int k), .v (.int (most : Int)), .v (.list (ds.map .int)), .o (.list ((List.range i).map fun r => .tuple (((List.range (dgt ds 1 + 1)).map fun c => cel r c).map encC))), .v (.int i), .o (.list acc), .v (.int c)]) (e1 := [.v s, .v (.int k), .v (.int (most : Int)), .v (.list (ds.map .int)), .o (.list ((List.range i).map fun r => .tuple (((List.range (dgt ds 1 + 1)).map fun c => cel r c).map encC))), .v (.int i), .o (.list (acc ++ [encC (cel i c)])), .v (.int c)]) ?_
            show (ev K _ _).bind (fun d => if acc.length < lim then Res.ok (Fl.nx (En.put _ 6 (.o (.list (acc ++ [d]))))) else .bad) = _
            rw [iv, Res.ok_bind, if_pos (by omega)]
            rfl) s7
        obtain ⟨s7', lp⟩ := lp
        have hr : ev K (.rng (.dat (.int 0)) (.bin .add (.dat (.int 1)) (.idx (.var 3) (.dat (.int 1)))) (.dat (.int 1))) [.v s, .v (.int k), .v (.int (most : Int)), .v (.list (ds.map .int)), .o (.list ((List.range i).map fun r => .tuple (((List.range (dgt ds 1 + 1)).map fun c => cel r c).map encC))), .v (.int i), .o (.list []), s7] = .ok (.list (iR (dgt ds 1 + 1))) := ev_rngN (succ_at (j := 1) dr (by omega) rfl) (by omega)
        refine ⟨[.v s, .v (.int k), .v (.int (most : Int)), .v (.list (ds.map .int)), .o (.list ((List.range (i + 1)).map fun r => .tuple (((List.range (dgt ds 1 + 1)).map fun c => cel r c).map encC))), .v (.int i), .o (.list ((List.range (dgt ds 1 + 1)).map fun c => encC (cel i c))), s7'], .inl ?_, _, _, _, rfl⟩
        simp only [bindT, Res.ok_bind, En.put]
        rw [ex_seq (e1 := [.v s, .v (.int k), .v (.int (most : Int)), .v (.list (ds.map .int)), .o (.list ((List.range i).map fun r => .tuple (((List.range (dgt ds 1 + 1)).map fun c => cel r c).map encC))), .v (.int i), .o (.list []), s7]) rfl]
        rw [ex_seq ((ex_for hr rfl).trans lp)]
        refine ex_seq ?_
        show (Res.ok (PyData.tuple _)).bind (fun d => if _ < lim then Res.ok (Fl.nx (En.put _ 4 (.o (.list (_ ++ [d]))))) else .bad) = _
        have e : ((List.range (dgt ds 1 + 1)).map fun c => cel i c).map encC = (List.range (dgt ds 1 + 1)).map fun c => encC (cel i c) := by rw [List.map_map]; rfl
        rw [Res.ok_bind, if_pos (by simp; omega), List.range_succ (n := i), List.map_append, List.map_cons, List.map_nil, ← e]
        rfl)
    rw [Nat.zero_add, iR_length] at g1
    rw [ex_seq ((ex_for hr rfl).trans g1)]
    show Res.ok (Fl.rt (PyData.tuple _)) = Res.ok (Fl.rt (PyData.tuple _))
    simp
theorem lawGreat_run {d : Nat} {s : D} {k : Int} (hd : Draws K d s k) :
    ∃ p, Box 10 p ∧ Of cells2 p ∧ ex K (lawGreatB d) [.v s, .v (.int k), .u, .u, .u, .u] = .ok (.rt (encP p)) := by
  have l1 : lim = 1000000 := rfl
  obtain ⟨z1, z2⟩ := sz_ok (m := 10) (by omega) (by omega)
  obtain ⟨ds, e1, dr⟩ := hd (sz 10) z1 z2
  have b0 := (dgt_at dr (j := 0) (by omega)).2
  have b1 := (dgt_at dr (j := 1) (by omega)).2
  rw [if_pos (by omega)] at b0 b1
  let cel : Nat → Nat → Cell := fun r c => cells2.getD (dgt ds (2 + (7 * r + 3 * c) % 36)) (.pl 0)
  have bd : ∀ r c, 2 + (7 * r + 3 * c) % 36 < 38 ∧ dgt ds (2 + (7 * r + 3 * c) % 36) < 9 := fun r c => by
    have h : 2 + (7 * r + 3 * c) % 36 < 38 := by omega
    have := (dgt_at dr h).2
    rw [if_neg (by omega)] at this
    exact ⟨h, by omega⟩
  refine ⟨(List.range (dgt ds 0 + 1)).map fun r => (List.range (dgt ds 1 + 1)).map fun c => cel r c, ⟨dgt ds 0 + 1, dgt ds 1 + 1, ⟨by simp, fun x hx => ?_⟩, by omega, by omega, by omega, by omega⟩, fun x hx c hc => ?_, ?_⟩
  · obtain ⟨r, _, rfl⟩ := List.mem_map.mp hx
    simp
  · obtain ⟨r, hr, rfl⟩ := List.mem_map.mp hx
    obtain ⟨c', hc', rfl⟩ := List.mem_map.mp hc
    exact cell_in (bd r c').2
  · unfold lawGreatB
    rw [ex_seq (e1 := [.v s, .v (.int k), .v (.list (ds.map .int)), .u, .u, .u]) (ex_set (ev_call (ev_cons rfl (ev_cons rfl (ev_one (ev_bin rfl (ev_bin rfl rfl nineD) (szD _))))) e1))]
    rw [ex_seq (e1 := [.v s, .v (.int k), .v (.list (ds.map .int)), .o (.list []), .u, .u]) rfl]
    have hr : ev K (.rng (.dat (.int 0)) (.bin .add (.dat (.int 1)) (.idx (.var 2) (.dat (.int 0)))) (.dat (.int 1))) [.v s, .v (.int k), .v (.list (ds.map .int)), .o (.list []), .u, .u] = .ok (.list (iR (dgt ds 0 + 1))) := ev_rngN (succ_at (j := 0) dr (by omega) rfl) (by omega)
    have lp := app_loop (n := dgt ds 0 + 1) (f := fun x e1 => (bindT (.var 4) x e1).bind fun e2 => ex K (.seq (.app 3 (.blt .tuple (.cons (.cmp1 (.var 5) (.rng (.dat (.int 0)) (.bin .add (.dat (.int 1)) (.idx (.var 2) (.dat (.int 1)))) (.dat (.int 1))) (.idx (.lst (.cons (.dat (.str "a")) (.cons (.dat (.str "b")) (.cons (.dat (.str "h")) (.cons (.dat (.str "d")) (.cons (.dat (.str "e/f")) (.cons (.dat (.str "a/b")) (.cons (.dat (.str "g\\h")) (.cons (.dat (.str "z")) (.cons (.dat (.str "b")) .nil)))))))))) (.idx (.var 2) (.bin .add (.dat (.int 2)) (.bin .mod (.bin .add (.bin .mul (.dat (.int 7)) (.var 4)) (.bin .mul (.dat (.int 3)) (.var 5))) (.dat (.int 36)))))) .na) .nil)))
        .skip) e2) (fun acc s4 => [.v s, .v (.int k), .v (.list (ds.map .int)), .o (.list acc), s4, .u]) (fun r => .tuple (((List.range (dgt ds 1 + 1)).map fun c => cel r c).map encC)) (fun r hr acc s4 ha => by
          have iv : ev K (.blt .tuple (.cons (.cmp1 (.var 5) (.rng (.dat (.int 0)) (.bin .add (.dat (.int 1)) (.idx (.var 2) (.dat (.int 1)))) (.dat (.int 1))) (.idx (.lst (.cons (.dat (.str "a")) (.cons (.dat (.str "b")) (.cons (.dat (.str "h")) (.cons (.dat (.str "d")) (.cons (.dat (.str "e/f")) (.cons (.dat (.str "a/b")) (.cons (.dat (.str "g\\h")) (.cons (.dat (.str "z")) (.cons (.dat (.str "b")) .nil)))))))))) (.idx (.var 2) (.bin .add (.dat (.int 2)) (.bin .mod (.bin .add (.bin .mul (.dat (.int 7)) (.var 4)) (.bin .mul (.dat (.int 3)) (.var 5))) (.dat (.int 36)))))) .na) .nil)) [.v s, .v (.int k), .v (.list (ds.map .int)), .o (.list acc), .v (.int r), .u] = .ok (.tuple (((List.range (dgt ds 1 + 1)).map fun c => cel r c).map encC)) := by
            refine ev_blt (ev_one (ev_cmpT (List.range (dgt ds 1 + 1)) (fun (c : Nat) => .int c) (fun c => encC (cel r c)) (s := .list (iR (dgt ds 1 + 1))) (ev_rngN (succ_at (j := 1) dr (by omega) rfl) (by omega)) rfl fun c hc => ⟨_, rfl, ?_⟩)) ?_
            · obtain ⟨b2, b3⟩ := bd r c
              have h7 : opD .mul (.int 7) (.int (r : Int)) = .ok (.int (7 * (r : Int))) := rfl
              have h3 : opD .mul (.int 3) (.int (c : Int)) = .ok (.int (3 * (c : Int))) := rfl
              have hm : opD .mod (.int (7 * (r : Int) + 3 * (c : Int))) (.int 36) = .ok (.int (((7 * r + 3 * c) % 36 : Nat) : Int)) := by
                show (if (36 : Int) ≠ 0 then Res.ok (PyData.int ((7 * (r : Int) + 3 * (c : Int)).fmod 36)) else .bad) = _
                rw [if_pos (by decide), Int.fmod_eq_emod_of_nonneg _ (by decide)]
                rfl
              refine ev_idx (x := .list (cells2.map encC)) rfl (ev_idx rfl (y := .int ((2 + (7 * r + 3 * c) % 36 : Nat) : Int)) (ev_bin rfl (ev_bin (ev_bin (ev_bin rfl rfl h7) (ev_bin rfl rfl h3) rfl) rfl hm) ?_) (dgt_at dr b2).1) (cell_at rfl (by omega))
              show Res.ok (PyData.int (2 + (((7 * r + 3 * c) % 36 : Nat) : Int))) = _
              congr 2
            · show Res.ok (PyData.tuple _) = Res.ok (PyData.tuple _)
              rw [List.map_map]
              rfl
          refine ex_seq (e := [.v s, .v (.int k), .v (.list (ds.map .int)), .o (.list acc), .v (.int r), .u]) (e1 := [.v s, .v (.int k), .v (.list (ds.map .int)), .o (.list (acc ++ [.tuple (((List.range (dgt ds 1 + 1)).map fun c => cel r c).map encC)])), .v (.int r), .u]) ?_
          show (ev K _ _).bind (fun d => if acc.length < lim then Res.ok (Fl.nx (En.put _ 3 (.o (.list (acc ++ [d]))))) else .bad) = _
          rw [iv, Res.ok_bind, if_pos (by omega)]
          rfl) .u
    obtain ⟨s4, lp⟩ := lp
    rw [ex_seq ((ex_for hr rfl).trans lp)]
    show Res.ok (Fl.rt (PyData.tuple _)) = Res.ok (Fl.rt (PyData.tuple _))
    simp
theorem Box.le {α : Type} {m n : Nat} {rows : List (List α)} (b : Box m rows) (h : m ≤ n) : Box n rows := by
  obtain ⟨x, y, r, h1, h2, h3, h4⟩ := b
  exact ⟨x, y, r, h1, h2, by omega, by omega⟩
theorem lawAny_run {g p : Nat} {ns : List Int} {k most : Nat} (hg : ∃ q, Box 10 q ∧ Of cells2 q ∧ K g [.list (ns.map .int), .int (k : Int)] = .ok (encP q)) (hp : ∃ q, Box most q ∧ Of cells1 q ∧ K p [.list (ns.map .int), .int (k : Int), .int (most : Int)] = .ok (encP q)) (hm : most ≤ 10) :
    ∃ q, Box 10 q ∧ (Of cells1 q ∨ Of cells2 q) ∧ ex K (lawAnyB g p) [.v (.list (ns.map .int)), .v (.int (k : Int)), .v (.int (most : Int))] = .ok (.rt (encP q)) := by
  obtain ⟨q1, g1, g2, g3⟩ := hg
  obtain ⟨q2, p1, p2, p3⟩ := hp
  have test : ∃ b : Bool, ev K (.or (.cmp .eq (.bin .mod (.var 1) (.dat (.int 4))) (.dat (.int 3))) (.and (.cmp .eq (.bin .mod (.blt .len (.cons (.var 0) .nil)) (.dat (.int 4))) (.dat (.int 1))) (.cmp .eq (.var 1) (.dat (.int 0))))) [.v (.list (ns.map .int)), .v (.int (k : Int)), .v (.int (most : Int))] = .ok (.bool b) := by
    have a1 := ev_cmp (K := K) (e := [.v (.list (ns.map .int)), .v (.int (k : Int)), .v (.int (most : Int))]) (ev_bin (a := .var 1) (b := .dat (.int 4)) rfl rfl (mod4 k)) (b := .dat (.int 3)) rfl (cm_eqI _ 3)
    have a2 := ev_cmp (K := K) (e := [.v (.list (ns.map .int)), .v (.int (k : Int)), .v (.int (most : Int))]) (ev_bin (a := .blt .len (.cons (.var 0) .nil)) (b := .dat (.int 4)) rfl rfl (mod4 (ns.map PyData.int).length)) (b := .dat (.int 1)) rfl (cm_eqI _ 1)
    have a3 := ev_cmp (K := K) (e := [.v (.list (ns.map .int)), .v (.int (k : Int)), .v (.int (most : Int))]) (a := .var 1) (b := .dat (.int 0)) rfl rfl (cm_eqI (k : Int) 0)
    show ∃ b : Bool, (ev K _ _).bind (fun x => if truth x then .ok x else (ev K _ _).bind fun x => if truth x then ev K _ _ else .ok x) = _
    rw [a1, a2, a3]
    simp only [Res.ok_bind]
    split
    · exact ⟨_, rfl⟩
    · split <;> exact ⟨_, rfl⟩
  obtain ⟨b, hb⟩ := test
  unfold lawAnyB
  cases b with
  | true =>
    refine ⟨q1, g1, .inr g2, ex_seqR ?_⟩
    rw [ex_iffT hb rfl]
    exact ex_seqR (ex_ret (ev_call (ev_cons rfl (ev_one rfl)) g3))
  | false =>
    refine ⟨q2, p1.le hm, .inl p2, ?_⟩
    rw [ex_seq (e1 := [.v (.list (ns.map .int)), .v (.int (k : Int)), .v (.int (most : Int))]) (by rw [ex_iffF hb rfl]; rfl)]
    exact ex_seqR (ex_ret (ev_call (ev_cons rfl (ev_cons rfl (ev_one rfl))) p3))
end
end SQ

/-! SqGrp: the eight symmetries as a group, by hand. -/
namespace SQ
open PySem C

/-! ### two moves R, M with R R R R = 1, M M = 1, M R = R R R M -/
section
variable {α : Type} {P : α → Prop} {R M : α → α}
def act (R M : α → α) (s : Nat) (a : α) : α := iter (s % 4) R (if 4 ≤ s then M a else a)
def comp (s t : Nat) : Nat := if t < 4 then s / 4 * 4 + (s + t) % 4 else (1 - s / 4) * 4 + (t + 8 - s) % 4
theorem iter_add (m n : Nat) (f : α → α) (a : α) : iter (m + n) f a = iter m f (iter n f a) := by
  induction m with
  | zero => rw [Nat.zero_add]; rfl
  | succ m ih => rw [Nat.add_right_comm]; exact congrArg f ih
theorem iter_P (hR : ∀ a, P a → P (R a)) {a : α} (h : P a) : ∀ n, P (iter n R a)
  | 0 => h
  | n + 1 => hR _ (iter_P hR h n)
theorem iter_mod (hR : ∀ a, P a → P (R a)) (h4 : ∀ a, P a → iter 4 R a = a) {a : α} (h : P a) (n : Nat) : iter (n % 4) R a = iter n R a := by
  have key : ∀ q r, iter (4 * q + r) R a = iter r R a := by
    intro q
    induction q with
    | zero => intro r; rw [Nat.mul_zero, Nat.zero_add]
    | succ q ih =>
      intro r
      rw [show 4 * (q + 1) + r = 4 * q + (4 + r) by omega, ih, iter_add, h4 _ (iter_P hR h r)]
  have := key (n / 4) (n % 4)
  rw [show 4 * (n / 4) + n % 4 = n by omega] at this
  exact this.symm
theorem M_iter (hR : ∀ a, P a → P (R a)) (hM : ∀ a, P a → P (M a)) (hMR : ∀ a, P a → M (R a) = iter 3 R (M a)) {a : α} (h : P a) : ∀ n, M (iter n R a) = iter (3 * n) R (M a)
  | 0 => rfl
  | n + 1 => by
    show M (R (iter n R a)) = _
    rw [hMR _ (iter_P hR h n), M_iter hR hM hMR h n, ← iter_add, show 3 + 3 * n = 3 * (n + 1) by omega]
theorem act_comp (hR : ∀ a, P a → P (R a)) (hM : ∀ a, P a → P (M a)) (h4 : ∀ a, P a → iter 4 R a = a) (h2 : ∀ a, P a → M (M a) = a) (hMR : ∀ a, P a → M (R a) = iter 3 R (M a)) {a : α} (h : P a) {s t : Nat} (hs : s < 8) (ht : t < 8) : act R M t (act R M s a) = act R M (comp s t) a := by
  have mod : ∀ {b : α}, P b → ∀ m n, m % 4 = n % 4 → iter m R b = iter n R b := fun hb m n e => by rw [← iter_mod hR h4 hb m, ← iter_mod hR h4 hb n, e]
  unfold act comp
  by_cases t4 : t < 4
  · rw [if_pos t4, if_neg (show ¬ 4 ≤ t by omega)]
    by_cases s4 : s < 4
    · rw [if_neg (show ¬ 4 ≤ s by omega), if_neg (show ¬ 4 ≤ s / 4 * 4 + (s + t) % 4 by omega), ← iter_add]
      exact mod h _ _ (by omega)
    · rw [if_pos (show 4 ≤ s by omega), if_pos (show 4 ≤ s / 4 * 4 + (s + t) % 4 by omega), ← iter_add]
      exact mod (hM _ h) _ _ (by omega)
  · rw [if_neg t4, if_pos (show 4 ≤ t by omega)]
    by_cases s4 : s < 4
    · rw [if_neg (show ¬ 4 ≤ s by omega), if_pos (show 4 ≤ (1 - s / 4) * 4 + (t + 8 - s) % 4 by omega), M_iter hR hM hMR h, ← iter_add]
      exact mod (hM _ h) _ _ (by omega)
    · rw [if_pos (show 4 ≤ s by omega), if_neg (show ¬ 4 ≤ (1 - s / 4) * 4 + (t + 8 - s) % 4 by omega), M_iter hR hM hMR (hM _ h), h2 _ h, ← iter_add]
      exact mod h _ _ (by omega)
end

/-! ### rectangles as tables -/
section
variable {α : Type}
def tab (h w : Nat) (f : Nat → Nat → α) : List (List α) := (List.range h).map fun i => (List.range w).map fun j => f i j
theorem tab_congr {h w : Nat} {f g : Nat → Nat → α} (e : ∀ i j, i < h → j < w → f i j = g i j) : tab h w f = tab h w g := by
  refine List.map_congr_left fun i hi => List.map_congr_left fun j hj => ?_
  exact e i j (List.mem_range.mp hi) (List.mem_range.mp hj)
theorem tab_rect (h w : Nat) (f : Nat → Nat → α) : Rect h w (tab h w f) := by
  refine ⟨by simp [tab], fun r hr => ?_⟩
  obtain ⟨i, _, rfl⟩ := List.mem_map.mp hr
  simp
theorem rect_tab (d : α) {h w : Nat} {rows : List (List α)} (r : Rect h w rows) : rows = tab h w fun i j => (rows.getD i []).getD j d := by
  refine List.ext_getElem (by simp [tab, r.1]) fun i h1 h2 => ?_
  have hi : (rows.getD i []) = rows[i] := by rw [List.getD_eq_getElem?_getD, List.getElem?_eq_getElem h1]; rfl
  have hw := r.2 _ (List.getElem_mem h1)
  simp only [tab, List.getElem_map, List.getElem_range, hi]
  refine List.ext_getElem (by simp [hw]) fun j h3 h4 => ?_
  simp [List.getD_eq_getElem?_getD, h3]
theorem turn_tab {h w : Nat} (f : Nat → Nat → α) (hh : 0 < h) : turnR (tab h w f) = tab w h fun i j => f (h - 1 - j) i := by
  have rc := tab_rect h w f
  unfold turnR
  rw [rc.head hh]
  refine List.map_congr_left fun k hk => ?_
  have hk := List.mem_range.mp hk
  rw [colAt_eq (d := f 0 0) (w := w) (fun r hr => rc.2 r (List.mem_reverse.mp hr)) hk]
  refine List.ext_getElem (by simp [tab]) fun j h1 h2 => ?_
  simp [tab] at h1 h2 ⊢
  rw [List.getElem?_eq_getElem (by simpa using hk)]
  simp
theorem rev_tab (h w : Nat) (f : Nat → Nat → α) : (tab h w f).map List.reverse = tab h w fun i j => f i (w - 1 - j) := by
  unfold tab
  rw [List.map_map]
  refine List.map_congr_left fun i _ => ?_
  refine List.ext_getElem (by simp) fun j h1 h2 => ?_
  simp
def BoxT {α : Type} (m : Nat) (rows : List (List α)) : Prop := ∃ h w f, rows = tab h w f ∧ 0 < h ∧ 0 < w ∧ h ≤ m ∧ w ≤ m
theorem Box.tab {m : Nat} {rows : List (List α)} (b : Box m rows) : BoxT m rows := by
  obtain ⟨h, w, r, h1, h2, h3, h4⟩ := b
  obtain ⟨d, _⟩ : ∃ d : α, True := by
    match rows, r with
    | [], r => have := r.1; simp at this; omega
    | x :: xs, r =>
      have := r.2 x List.mem_cons_self
      match x with
      | [] => simp at this; omega
      | d :: _ => exact ⟨d, trivial⟩
  exact ⟨h, w, _, rect_tab d r, h1, h2, h3, h4⟩
theorem turn4 {m : Nat} {rows : List (List α)} (b : Box m rows) : iter 4 turnR rows = rows := by
  obtain ⟨h, w, f, rfl, h1, h2, _, _⟩ := b.tab
  show turnR (turnR (turnR (turnR (tab h w f)))) = _
  rw [turn_tab f h1, turn_tab _ h2, turn_tab _ h1, turn_tab _ h2]
  refine tab_congr fun i j hi hj => ?_
  rw [show h - 1 - (h - 1 - i) = i by omega, show w - 1 - (w - 1 - j) = j by omega]
theorem rev2 (rows : List (List α)) : (rows.map List.reverse).map List.reverse = rows := by
  rw [List.map_map]
  conv => rhs; rw [← List.map_id rows]
  refine List.map_congr_left fun r _ => ?_
  simp
theorem rev_turn {m : Nat} {rows : List (List α)} (b : Box m rows) : (turnR rows).map List.reverse = iter 3 turnR (rows.map List.reverse) := by
  obtain ⟨h, w, f, rfl, h1, h2, _, _⟩ := b.tab
  show _ = turnR (turnR (turnR ((tab h w f).map List.reverse)))
  rw [rev_tab, turn_tab f h1, rev_tab, turn_tab _ h1, turn_tab _ h2, turn_tab _ h1]
  refine tab_congr fun i j hi hj => ?_
  rw [show w - 1 - (w - 1 - i) = i by omega]
theorem moved_act (rows : List (List α)) (s : Nat) : movedR rows s = act turnR (List.map List.reverse) s rows := rfl
theorem moved_comp {m : Nat} {rows : List (List α)} (b : Box m rows) {s t : Nat} (hs : s < 8) (ht : t < 8) : movedR (movedR rows s) t = movedR rows (comp s t) :=
  act_comp (P := Box m) (fun _ => Box.turn) (fun _ => Box.rev) (fun _ => turn4) (fun a _ => rev2 a) (fun _ => rev_turn) b hs ht
theorem changed_comp (c : Cell) {s t : Nat} (hs : s < 8) (ht : t < 8) : changedC t (changedC s c) = changedC (comp s t) c :=
  act_comp (P := fun _ => True) (R := tcC) (M := mcC) (fun _ _ => trivial) (fun _ _ => trivial) (fun a _ => by cases a with
    | pl x => rfl
    | dg x u y => cases u <;> rfl) (fun a _ => by cases a with
    | pl x => rfl
    | dg x u y => cases u <;> rfl) (fun a _ => by cases a with
    | pl x => rfl
    | dg x u y => cases u <;> rfl) trivial hs ht
theorem tr_comp {m : Nat} {p : List (List Cell)} (b : Box m p) {s t : Nat} (hs : s < 8) (ht : t < 8) : trP (trP p s) t = trP p (comp s t) := by
  unfold trP
  rw [moved_map, moved_comp b hs ht, List.map_map]
  refine List.map_congr_left fun r _ => ?_
  show (r.map (changedC s)).map (changedC t) = _
  rw [List.map_map]
  refine List.map_congr_left fun c _ => ?_
  exact changed_comp c hs ht
theorem tr_zero (p : List (List Cell)) : trP p 0 = p := by
  unfold trP
  show p.map (·.map fun c => c) = p
  simp
end
end SQ

/-! SqEqv: equality of patterns by data; bounds of the laws' loops. -/
namespace SQ
open PySem
theorem plainAll_of : ∀ {l : List D}, (∀ x ∈ l, x.plain = true) → PyData.plainAll l = true
  | [], _ => rfl
  | x :: r, h => by
    show (x.plain && PyData.plainAll r) = true
    rw [h x List.mem_cons_self, plainAll_of fun y hy => h y (List.mem_cons_of_mem _ hy)]
    rfl
theorem depthAll_of {n : Nat} : ∀ {l : List D}, (∀ x ∈ l, x.depth ≤ n) → PyData.depthAll l ≤ n
  | [], _ => Nat.zero_le _
  | x :: r, h => by
    show max x.depth (PyData.depthAll r) ≤ n
    exact Nat.max_le.mpr ⟨h x List.mem_cons_self, depthAll_of fun y hy => h y (List.mem_cons_of_mem _ hy)⟩
theorem encC_flat (c : Cell) : (encC c).plain = true ∧ (encC c).depth = 0 := by cases c <;> exact ⟨rfl, rfl⟩
theorem encP_plain (p : List (List Cell)) : (encP p).plain = true ∧ (encP p).depth ≤ 2 := by
  have row : ∀ r : List Cell, (PyData.tuple (r.map encC)).plain = true ∧ (PyData.tuple (r.map encC)).depth ≤ 1 := fun r =>
    ⟨plainAll_of fun x hx => by obtain ⟨c, _, rfl⟩ := List.mem_map.mp hx; exact (encC_flat c).1, Nat.succ_le_succ (depthAll_of (n := 0) fun x hx => by obtain ⟨c, _, rfl⟩ := List.mem_map.mp hx; rw [(encC_flat c).2]; exact Nat.le_refl _)⟩
  have all : ∀ x ∈ (p.map (·.map encC)).map PyData.tuple, x.plain = true ∧ x.depth ≤ 1 := fun x hx => by
    rw [List.map_map] at hx
    obtain ⟨r, _, rfl⟩ := List.mem_map.mp hx
    exact row r
  exact ⟨plainAll_of fun x hx => (all x hx).1, Nat.succ_le_succ (depthAll_of (n := 1) fun x hx => (all x hx).2)⟩
theorem encP_fl (p : List (List Cell)) : fl (encP p) = true := by
  unfold fl
  rw [(encP_plain p).1, decide_eq_true (Nat.le_trans (encP_plain p).2 (by decide))]
  rfl
theorem ne_self (p : List (List Cell)) : cmD .ne (encP p) (encP p) = .ok false := by
  show (if fl (encP p) && fl (encP p) then Res.ok (!PyData.eqv (encP p) (encP p)) else .bad) = _
  rw [encP_fl, if_pos (show (true && true) = true from rfl), PySem.SeqAt.eqv_refl_plain _ (encP_plain p).1]
  rfl

/-! ### data without truth values and dicts: == is equality -/
mutual
def nb : D → Bool
  | .none => true
  | .int _ => true
  | .str _ => true
  | .bool _ => false
  | .list xs => nbAll xs
  | .tuple xs => nbAll xs
  | .dict _ => false
def nbAll : List D → Bool
  | [] => true
  | x :: r => nb x && nbAll r
end
mutual
theorem eqv_nb : ∀ {x y : D}, nb x = true → nb y = true → PyData.eqv x y = true → x = y
  | .none, y, _, hy, h => by cases y <;> first | rfl | (simp [PyData.eqv] at h)
  | .int i, y, _, hy, h => by
    cases y with
    | int j => simp [PyData.eqv] at h; rw [h]
    | bool b => cases hy
    | _ => simp [PyData.eqv] at h
  | .str i, y, _, hy, h => by
    cases y with
    | str j => simp [PyData.eqv] at h; rw [h]
    | _ => simp [PyData.eqv] at h
  | .bool _, _, hx, _, _ => by cases hx
  | .dict _, _, hx, _, _ => by cases hx
  | .list xs, y, hx, hy, h => by
    cases y with
    | list ys => exact congrArg _ (eqvAll_nb hx hy (by simpa [PyData.eqv] using h))
    | _ => simp [PyData.eqv] at h
  | .tuple xs, y, hx, hy, h => by
    cases y with
    | tuple ys => exact congrArg _ (eqvAll_nb hx hy (by simpa [PyData.eqv] using h))
    | _ => simp [PyData.eqv] at h
theorem eqvAll_nb : ∀ {x y : List D}, nbAll x = true → nbAll y = true → PyData.eqvAll x y = true → x = y
  | [], [], _, _, _ => rfl
  | [], _ :: _, _, _, h => by simp [PyData.eqvAll] at h
  | _ :: _, [], _, _, h => by simp [PyData.eqvAll] at h
  | x :: r, y :: s, hx, hy, h => by
    have hx : (nb x && nbAll r) = true := hx
    have hy : (nb y && nbAll s) = true := hy
    have h : (PyData.eqv x y && PyData.eqvAll r s) = true := by simpa [PyData.eqvAll] using h
    rw [Bool.and_eq_true] at hx hy h
    rw [eqv_nb hx.1 hy.1 h.1, eqvAll_nb hx.2 hy.2 h.2]
end
theorem nbAll_of : ∀ {l : List D}, (∀ x ∈ l, nb x = true) → nbAll l = true
  | [], _ => rfl
  | x :: r, h => by
    show (nb x && nbAll r) = true
    rw [h x List.mem_cons_self, nbAll_of fun y hy => h y (List.mem_cons_of_mem _ hy)]
    rfl
theorem nb_encP (p : List (List Cell)) : nb (encP p) = true := by
  refine nbAll_of (l := (p.map (·.map encC)).map PyData.tuple) fun x hx => ?_
  rw [List.map_map] at hx
  obtain ⟨r, _, rfl⟩ := List.mem_map.mp hx
  refine nbAll_of (l := r.map encC) fun y hy => ?_
  obtain ⟨c, _, rfl⟩ := List.mem_map.mp hy
  cases c <;> rfl
theorem encC_inj {c d : Cell} (h : encC c = encC d) : c = d := by
  cases c with
  | pl x => cases d with
    | pl y => have := T_inj.mp h; simp at this; rw [this]
    | dg y u z => have := T_inj.mp h; simp at this
  | dg x u z => cases d with
    | pl y => have := T_inj.mp h; simp at this
    | dg y u' z' =>
      have := T_inj.mp h
      simp at this
      obtain ⟨rfl, h2, rfl⟩ := this
      cases u <;> cases u' <;> simp at h2 ⊢
theorem map_inj {α β : Type} {f : α → β} (hf : ∀ a b, f a = f b → a = b) : ∀ {l m : List α}, l.map f = m.map f → l = m
  | [], [], _ => rfl
  | [], _ :: _, h => by cases h
  | _ :: _, [], h => by cases h
  | a :: l, b :: m, h => by
    rw [List.map_cons, List.map_cons] at h
    injection h with h1 h2
    rw [hf a b h1, map_inj hf h2]
theorem encP_inj {p q : List (List Cell)} (h : encP p = encP q) : p = q := by
  have h : (p.map (·.map encC)).map PyData.tuple = (q.map (·.map encC)).map PyData.tuple := by injection h
  have h2 := map_inj (fun a b e => by injection e) h
  exact map_inj (fun a b e => map_inj (fun _ _ => encC_inj) e) h2
theorem eqv_encP (p q : List (List Cell)) : PyData.eqv (encP p) (encP q) = decide (p = q) := by
  by_cases h : p = q
  · rw [h, PySem.SeqAt.eqv_refl_plain _ (encP_plain q).1, decide_eq_true rfl]
  · rw [decide_eq_false h]
    cases e : PyData.eqv (encP p) (encP q) with
    | false => rfl
    | true => exact absurd (encP_inj (eqv_nb (nb_encP p) (nb_encP q) e)) h
theorem eq_encP (p q : List (List Cell)) : cmD .eq (encP p) (encP q) = .ok (decide (p = q)) := by
  show (if fl (encP p) && fl (encP q) then Res.ok (PyData.eqv (encP p) (encP q)) else .bad) = _
  rw [encP_fl, encP_fl, if_pos (show (true && true) = true from rfl), eqv_encP]
theorem ne_encP (p q : List (List Cell)) : cmD .ne (encP p) (encP q) = .ok (!decide (p = q)) := by
  show (if fl (encP p) && fl (encP q) then Res.ok (!PyData.eqv (encP p) (encP q)) else .bad) = _
  rw [encP_fl, encP_fl, if_pos (show (true && true) = true from rfl), eqv_encP]
theorem ne_same {d : D} (h : fl d = true) : cmD .ne d d = .ok false := by
  show (if fl d && fl d then Res.ok (!PyData.eqv d d) else .bad) = _
  have hp : d.plain = true := by unfold fl at h; rw [Bool.and_eq_true] at h; exact h.1
  rw [h, if_pos (show (true && true) = true from rfl), PySem.SeqAt.eqv_refl_plain _ hp]
  rfl
theorem fl_list {l : List D} (h : ∀ x ∈ l, x.plain = true ∧ x.depth ≤ 50) : fl (.list l) = true := by
  have h1 : (PyData.list l).plain = true := plainAll_of fun x hx => (h x hx).1
  have h2 : (PyData.list l).depth ≤ 51 := Nat.succ_le_succ (depthAll_of fun x hx => (h x hx).2)
  unfold fl
  rw [h1, decide_eq_true (by omega)]
  rfl
theorem fl_tuple {l : List D} (h : ∀ x ∈ l, x.plain = true ∧ x.depth ≤ 50) : fl (.tuple l) = true := by
  have h1 : (PyData.tuple l).plain = true := plainAll_of fun x hx => (h x hx).1
  have h2 : (PyData.tuple l).depth ≤ 51 := Nat.succ_le_succ (depthAll_of fun x hx => (h x hx).2)
  unfold fl
  rw [h1, decide_eq_true (by omega)]
  rfl
theorem fl_ints (l : List Nat) : fl (.list (l.map fun (i : Nat) => PyData.int i)) = true := fl_list fun x hx => by
  obtain ⟨i, _, rfl⟩ := List.mem_map.mp hx
  exact ⟨rfl, Nat.zero_le _⟩
theorem notin_encP {l : List (List (List Cell))} {q : List (List Cell)} : cmD .notin (encP q) (.list (l.map encP)) = .ok (!l.any fun p => decide (p = q)) := by
  show (if fl (encP q) && fl (.list (l.map encP)) then Res.ok ((l.map encP).any fun d => PyData.eqv d (encP q)) else .bad).bind (fun b => Res.ok (!b)) = _
  rw [encP_fl, fl_list fun x hx => by
    obtain ⟨p, _, rfl⟩ := List.mem_map.mp hx
    exact ⟨(encP_plain p).1, Nat.le_trans (encP_plain p).2 (by decide)⟩, if_pos (show (true && true) = true from rfl), List.any_map]
  have e : ((fun d => PyData.eqv d (encP q)) ∘ encP) = fun p => decide (p = q) := funext fun p => eqv_encP p q
  rw [e]
  rfl
open C
theorem hi_half (K : Nat → List D → Res D) (top : Nat) (h0 : 0 < top) (ns : List Int) (e : En) : ∃ N : Nat, N ≤ top ∧ ev K (.blt .min2 (.cons (.dat (.int (top : Int))) (.cons (.blt .max2 (.cons (.dat (.int 1)) (.cons (.bin .fdiv (.blt .len (.cons (.var 0) .nil)) (.dat (.int 2))) .nil))) .nil))) (.v (.list (ns.map .int)) :: e) = .ok (.int (N : Int)) := by
  have e0 : ev K (.bin .fdiv (.blt .len (.cons (.var 0) .nil)) (.dat (.int 2))) (.v (.list (ns.map .int)) :: e) = .ok (.int (((ns.map PyData.int).length / 2 : Nat) : Int)) := by
    refine ev_bin (ev_blt (ev_one rfl) rfl) rfl ?_
    show (if (2 : Int) ≠ 0 ∧ (2 : Int).natAbs < 1073741824 then Res.ok (PyData.int ((((ns.map PyData.int).length : Nat) : Int).fdiv 2)) else .bad) = _
    rw [if_pos (by decide), Int.fdiv_eq_ediv_of_nonneg _ (by decide)]
    rfl
  have e1 := ev_blt (b := .max2) (ev_cons (a := .dat (.int 1)) rfl (ev_one e0)) rfl
  have e2 := ev_blt (b := .min2) (ev_cons (a := .dat (.int (top : Int))) rfl (ev_one e1)) rfl
  generalize (ns.map PyData.int).length / 2 = L at e2
  by_cases h : (L : Int) > 1
  · rw [if_pos h] at e2
    by_cases h2 : (L : Int) < top
    · rw [if_pos h2] at e2
      exact ⟨L, by omega, e2⟩
    · rw [if_neg h2] at e2
      exact ⟨top, by omega, e2⟩
  · rw [if_neg h] at e2
    by_cases h2 : (1 : Int) < top
    · rw [if_pos h2] at e2
      exact ⟨1, by omega, e2⟩
    · rw [if_neg h2] at e2
      exact ⟨top, by omega, e2⟩
theorem hi_one (K : Nat → List D → Res D) (top : Nat) (h0 : 0 < top) (ns : List Int) (e : En) : ∃ N : Nat, N ≤ top ∧ ev K (.blt .min2 (.cons (.dat (.int (top : Int))) (.cons (.blt .max2 (.cons (.dat (.int 1)) (.cons (.blt .len (.cons (.var 0) .nil)) .nil))) .nil))) (.v (.list (ns.map .int)) :: e) = .ok (.int (N : Int)) := by
  have e0 : ev K (.blt .len (.cons (.var 0) .nil)) (.v (.list (ns.map .int)) :: e) = .ok (.int (((ns.map PyData.int).length : Nat) : Int)) := rfl
  have e1 := ev_blt (b := .max2) (ev_cons (a := .dat (.int 1)) rfl (ev_one e0)) rfl
  have e2 := ev_blt (b := .min2) (ev_cons (a := .dat (.int (top : Int))) rfl (ev_one e1)) rfl
  generalize (ns.map PyData.int).length = L at e2
  by_cases h : (L : Int) > 1
  · rw [if_pos h] at e2
    by_cases h2 : (L : Int) < top
    · rw [if_pos h2] at e2
      exact ⟨L, by omega, e2⟩
    · rw [if_neg h2] at e2
      exact ⟨top, by omega, e2⟩
  · rw [if_neg h] at e2
    by_cases h2 : (1 : Int) < top
    · rw [if_pos h2] at e2
      exact ⟨1, by omega, e2⟩
    · rw [if_neg h2] at e2
      exact ⟨top, by omega, e2⟩
theorem hi_ok (K : Nat → List D → Res D) (ns : List Int) (e : En) : ∃ N : Nat, N ≤ 12 ∧ ev K (.blt .min2 (.cons (.dat (.int 12)) (.cons (.blt .max2 (.cons (.dat (.int 1)) (.cons (.blt .len (.cons (.var 0) .nil)) .nil))) .nil))) (.v (.list (ns.map .int)) :: e) = .ok (.int (N : Int)) := by
  have e1 : ev K (.blt .max2 (.cons (.dat (.int 1)) (.cons (.blt .len (.cons (.var 0) .nil)) .nil))) (.v (.list (ns.map .int)) :: e) = .ok (.int (if ((ns.map PyData.int).length : Int) > 1 then ((ns.map PyData.int).length : Int) else 1)) := rfl
  have e2 := ev_blt (b := .min2) (ev_cons (a := .dat (.int 12)) rfl (ev_one e1)) rfl
  generalize (ns.map PyData.int).length = L at e2
  by_cases h : (L : Int) > 1
  · rw [if_pos h] at e2
    by_cases h2 : (L : Int) < 12
    · rw [if_pos h2] at e2
      exact ⟨L, by omega, e2⟩
    · rw [if_neg h2] at e2
      exact ⟨12, by omega, e2⟩
  · rw [if_neg h] at e2
    exact ⟨1, by omega, e2⟩
end SQ

/-! SqOrd: the order of patterns, row by row or flat; the least of some. -/
namespace SQ
open PySem C

/-! ### cells -/
def cKey : Cell → D
  | .pl x => .tuple [.int 0, T [x], T []]
  | .dg x up y => .tuple [.int (if up then 1 else 2), T [x], T [y]]
theorem cKey_alike (c d : Cell) : W.alike (cKey c) (cKey d) = true := by cases c <;> cases d <;> rfl
theorem cKey_nb (c : Cell) : nb (cKey c) = true := by cases c <;> rfl
theorem cKey_plain (c : Cell) : (cKey c).plain = true ∧ (cKey c).depth ≤ 1 := by cases c <;> exact ⟨rfl, Nat.le_refl 1⟩
theorem cKey_inj {c d : Cell} (h : cKey c = cKey d) : c = d := by
  cases c with
  | pl x => cases d with
    | pl y =>
      injection h with h
      injection h with h1 h
      injection h with h2 h
      have := T_inj.mp h2
      simp at this
      rw [this]
    | dg y u z =>
      injection h with h
      injection h with h1 h
      injection h1 with h1
      cases u <;> simp at h1
  | dg x u z => cases d with
    | pl y =>
      injection h with h
      injection h with h1 h
      injection h1 with h1
      cases u <;> simp at h1
    | dg y v w =>
      injection h with h
      injection h with h1 h
      injection h with h2 h
      injection h with h3 h
      have e2 := T_inj.mp h2
      have e3 := T_inj.mp h3
      injection h1 with h1
      simp at e2 e3
      subst e2 e3
      cases u <;> cases v <;> simp at h1 ⊢
theorem eqv_nb_iff {x y : D} (hx : nb x = true) (hy : nb y = true) (px : x.plain = true) : PyData.eqv x y = true ↔ x = y := by
  constructor
  · exact eqv_nb hx hy
  · rintro rfl
    exact PySem.SeqAt.eqv_refl_plain _ px
theorem eqv_cKey (c d : Cell) : PyData.eqv (cKey c) (cKey d) = decide (c = d) := by
  by_cases h : c = d
  · rw [h, PySem.SeqAt.eqv_refl_plain _ (cKey_plain d).1, decide_eq_true rfl]
  · rw [decide_eq_false h]
    cases e : PyData.eqv (cKey c) (cKey d) with
    | false => rfl
    | true => exact absurd (cKey_inj (eqv_nb (cKey_nb c) (cKey_nb d) e)) h

/-! ### rows -/
abbrev lexT := PyProof.Rows.lexLt PyProof.Rows.itemOrd
def rKey (r : List Cell) : D := .list (r.map cKey)
theorem rows_alike : ∀ (r s : List Cell), W.alikeAll (r.map cKey) (s.map cKey) = true
  | [], _ => by cases ‹List Cell› <;> rfl
  | _ :: _, [] => rfl
  | c :: r, d :: s => by
    show (W.alike (cKey c) (cKey d) && W.alikeAll (r.map cKey) (s.map cKey)) = true
    rw [cKey_alike, rows_alike r s]
    rfl
theorem rKey_plain (r : List Cell) : (rKey r).plain = true ∧ (rKey r).depth ≤ 2 := ⟨plainAll_of fun x hx => by obtain ⟨c, _, rfl⟩ := List.mem_map.mp hx; exact (cKey_plain c).1, Nat.succ_le_succ (depthAll_of (n := 1) fun x hx => by obtain ⟨c, _, rfl⟩ := List.mem_map.mp hx; exact (cKey_plain c).2)⟩
theorem rKey_nb (r : List Cell) : nb (rKey r) = true := nbAll_of (l := r.map cKey) fun x hx => by obtain ⟨c, _, rfl⟩ := List.mem_map.mp hx; exact cKey_nb c
theorem rKey_inj {r s : List Cell} (h : rKey r = rKey s) : r = s := map_inj (fun _ _ => cKey_inj) (by injection h)
theorem eqv_rKey (r s : List Cell) : PyData.eqv (rKey r) (rKey s) = decide (r = s) := by
  by_cases h : r = s
  · rw [h, PySem.SeqAt.eqv_refl_plain _ (rKey_plain s).1, decide_eq_true rfl]
  · rw [decide_eq_false h]
    cases e : PyData.eqv (rKey r) (rKey s) with
    | false => rfl
    | true => exact absurd (rKey_inj (eqv_nb (rKey_nb r) (rKey_nb s) e)) h
def ft (r : List Cell) := W.keyToksAll (r.map cKey)
theorem ft_same (r P Q : List Cell) : lexT (ft (r ++ P)) (ft (r ++ Q)) = lexT (ft P) (ft Q) := by
  induction r with
  | nil => rfl
  | cons c r ih => exact (W.dataLt_all_yes (cKey_alike c c) (by rw [eqv_cKey, decide_eq_true rfl])).trans ih
theorem ft_diff : ∀ {r s : List Cell} (P Q : List Cell), r.length = s.length → r ≠ s → lexT (ft (r ++ P)) (ft (s ++ Q)) = lexT (ft r) (ft s)
  | [], [], _, _, _, h => absurd rfl h
  | [], _ :: _, _, _, h, _ => by cases h
  | _ :: _, [], _, _, h, _ => by cases h
  | c :: r, d :: s, P, Q, hl, h => by
    by_cases e : c = d
    · subst e
      have e1 : PyData.eqv (cKey c) (cKey c) = true := by rw [eqv_cKey, decide_eq_true rfl]
      exact (W.dataLt_all_yes (cKey_alike c c) e1).trans ((ft_diff P Q (by simpa using hl) fun z => h (by rw [z])).trans (W.dataLt_all_yes (cKey_alike c c) e1).symm)
    · have e1 : PyData.eqv (cKey c) (cKey d) = false := by rw [eqv_cKey, decide_eq_false e]
      exact (W.dataLt_all_no (cKey_alike c d) e1).trans (W.dataLt_all_no (cKey_alike c d) e1).symm
theorem nested_flat {w : Nat} : ∀ {p q : List (List Cell)}, p.length = q.length → (∀ r ∈ p, r.length = w) → (∀ r ∈ q, r.length = w) → lexT (W.keyToksAll (p.map rKey)) (W.keyToksAll (q.map rKey)) = lexT (ft p.flatten) (ft q.flatten)
  | [], [], _, _, _ => rfl
  | [], _ :: _, h, _, _ => by cases h
  | _ :: _, [], h, _, _ => by cases h
  | r :: p, s :: q, hl, hp, hq => by
    have hr := hp r List.mem_cons_self
    have hs := hq s List.mem_cons_self
    have al : W.alike (rKey r) (rKey s) = true := rows_alike r s
    by_cases e : r = s
    · subst e
      have e1 : PyData.eqv (rKey r) (rKey r) = true := by rw [eqv_rKey, decide_eq_true rfl]
      refine (W.dataLt_all_yes al e1).trans ((nested_flat (by simpa using hl) (fun x hx => hp x (List.mem_cons_of_mem _ hx)) fun x hx => hq x (List.mem_cons_of_mem _ hx)).trans ?_)
      rw [List.flatten_cons, List.flatten_cons, ft_same]
    · have e1 : PyData.eqv (rKey r) (rKey s) = false := by rw [eqv_rKey, decide_eq_false e]
      refine (W.dataLt_all_no al e1).trans ?_
      rw [List.flatten_cons, List.flatten_cons, ft_diff _ _ (by omega) e]
      rfl

/-! ### patterns -/
def ordD (p : List (List Cell)) : D := .tuple [.int (p.length : Int), .int ((p.headD []).length : Int), .list (p.map rKey)]
def rankD (p : List (List Cell)) : D := .tuple [.int (p.length : Int), .int ((p.headD []).length : Int), .list (p.flatten.map cKey)]
theorem lt_of_eqv {X Y : D} (h : W.alike X Y = true) (e : PyData.eqv X Y = true) : W.dataLt X Y = false := by
  have := (W.toks_eqv X Y h).1 e
  unfold W.dataLt
  rw [this]
  exact PyProof.Rows.lex_irrefl _
theorem tri (a b c d : Int) {X Y : D} (h : W.alike X Y = true) : W.dataLt (.tuple [.int a, .int b, X]) (.tuple [.int c, .int d, Y]) = if a = c then (if b = d then W.dataLt X Y else decide (b < d)) else decide (a < c) := by
  rw [W.dataLt_tuple]
  by_cases e : a = c
  · rw [if_pos e, W.dataLt_all_yes rfl (by rw [e]; simp [PyData.eqv])]
    by_cases e2 : b = d
    · rw [if_pos e2, W.dataLt_all_yes rfl (by rw [e2]; simp [PyData.eqv])]
      cases e3 : PyData.eqv X Y with
      | true => rw [lt_of_eqv h e3, W.dataLt_all_yes h e3]; exact PyProof.Rows.lex_irrefl _
      | false => rw [W.dataLt_all_no h e3]
    · rw [if_neg e2, W.dataLt_all_no rfl (by simp [PyData.eqv, e2]), W.dataLt_int]
  · rw [if_neg e, W.dataLt_all_no rfl (by simp [PyData.eqv, e]), W.dataLt_int]
theorem nest_alike : ∀ (p q : List (List Cell)), W.alikeAll (p.map rKey) (q.map rKey) = true
  | [], q => by cases q <;> rfl
  | _ :: _, [] => rfl
  | r :: p, s :: q => by
    show (W.alike (rKey r) (rKey s) && W.alikeAll (p.map rKey) (q.map rKey)) = true
    rw [show W.alike (rKey r) (rKey s) = true from rows_alike r s, nest_alike p q]
    rfl
def lt (p q : List (List Cell)) : Bool := W.dataLt (rankD p) (rankD q)
theorem ord_lt {m : Nat} {p q : List (List Cell)} (bp : Box m p) (bq : Box m q) : W.dataLt (ordD p) (ordD q) = lt p q := by
  obtain ⟨h, w, r, h0, w0, _, _⟩ := bp
  obtain ⟨h', w', r', h0', w0', _, _⟩ := bq
  unfold lt ordD rankD
  rw [tri _ _ _ _ (show W.alike (.list (p.map rKey)) (.list (q.map rKey)) = true from nest_alike p q), tri _ _ _ _ (show W.alike (.list (p.flatten.map cKey)) (.list (q.flatten.map cKey)) = true from rows_alike _ _)]
  rw [r.head h0, r'.head h0', r.1, r'.1]
  by_cases e1 : (h : Int) = h'
  · rw [if_pos e1, if_pos e1]
    by_cases e2 : (w : Int) = w'
    · rw [if_pos e2, if_pos e2, W.dataLt_list, W.dataLt_list]
      have e1 : h = h' := by omega
      have e2 : w = w' := by omega
      subst e1 e2
      exact nested_flat (r.1.trans r'.1.symm) r.2 r'.2
    · rw [if_neg e2, if_neg e2]
  · rw [if_neg e1, if_neg e1]
theorem lt_irrefl (p : List (List Cell)) : lt p p = false := PyProof.Rows.lex_irrefl _
theorem lt_trans {p q r : List (List Cell)} (h : lt p q = true) (h2 : lt q r = true) : lt p r = true := PyProof.Rows.lex_trans _ _ _ h h2
theorem flat_inj {w : Nat} : ∀ {p q : List (List Cell)}, p.length = q.length → (∀ r ∈ p, r.length = w) → (∀ r ∈ q, r.length = w) → p.flatten = q.flatten → p = q
  | [], [], _, _, _, _ => rfl
  | [], _ :: _, h, _, _, _ => by cases h
  | _ :: _, [], h, _, _, _ => by cases h
  | r :: p, s :: q, hl, hp, hq, h => by
    rw [List.flatten_cons, List.flatten_cons] at h
    obtain ⟨h1, h2⟩ := List.append_inj h ((hp r List.mem_cons_self).trans (hq s List.mem_cons_self).symm)
    rw [h1, flat_inj (by simpa using hl) (fun x hx => hp x (List.mem_cons_of_mem _ hx)) (fun x hx => hq x (List.mem_cons_of_mem _ hx)) h2]
theorem rank_alike (p q : List (List Cell)) : W.alike (rankD p) (rankD q) = true := by
  show (true && (true && (W.alikeAll (p.flatten.map cKey) (q.flatten.map cKey) && true))) = true
  rw [rows_alike]
  rfl
theorem rank_nb (p : List (List Cell)) : nb (rankD p) = true := by
  show (true && (true && (nbAll (p.flatten.map cKey) && true))) = true
  rw [nbAll_of fun x hx => by obtain ⟨c, _, rfl⟩ := List.mem_map.mp hx; exact cKey_nb c]
  rfl
theorem lt_total {m : Nat} {p q : List (List Cell)} (bp : Box m p) (bq : Box m q) (h : lt p q = false) (h2 : lt q p = false) : p = q := by
  have ht := PyProof.Rows.lex_total _ _ h h2
  have e : PyData.eqv (rankD p) (rankD q) = true := by
    cases e : PyData.eqv (rankD p) (rankD q) with
    | true => rfl
    | false =>
      have := (W.toks_eqv _ _ (rank_alike p q)).2 e [] [.inl 5]
      rw [← ht, List.append_nil] at this
      have h3 : lexT (W.keyToks (rankD p)) (W.keyToks (rankD p) ++ [.inl 5]) = true := by
        have := W.lex_pre (W.keyToks (rankD p)) [] [.inl 5]
        rw [List.append_nil] at this
        exact this.trans rfl
      have h4 : lexT (W.keyToks (rankD p)) (W.keyToks (rankD p)) = false := PyProof.Rows.lex_irrefl _
      cases (h3.symm.trans (this.trans h4))
  have e := eqv_nb (rank_nb p) (rank_nb q) e
  obtain ⟨h, w, r, h0, w0, _, _⟩ := bp
  obtain ⟨h', w', r', h0', w0', _, _⟩ := bq
  unfold rankD at e
  rw [r.head h0, r'.head h0', r.1, r'.1] at e
  injection e with e
  injection e with e1 e
  injection e with e2 e
  injection e with e3 e
  injection e1 with e1
  injection e2 with e2
  injection e3 with e3
  have e1 : h = h' := by omega
  have e2 : w = w' := by omega
  subst e1 e2
  exact flat_inj (r.1.trans r'.1.symm) r.2 r'.2 (map_inj (fun _ _ => cKey_inj) e3)

/-! ### the least -/
def least (b : List (List Cell)) (l : List (List (List Cell))) : List (List Cell) := l.foldl (fun b x => if lt x b then x else b) b
theorem least_mem : ∀ (l : List (List (List Cell))) (b : List (List Cell)), least b l ∈ b :: l
  | [], b => List.mem_cons_self
  | x :: l, b => by
    show least (if lt x b then x else b) l ∈ _
    rcases List.mem_cons.mp (least_mem l (if lt x b then x else b)) with h | h
    · rw [h]
      split
      · exact List.mem_cons_of_mem _ List.mem_cons_self
      · exact List.mem_cons_self
    · exact List.mem_cons_of_mem _ (List.mem_cons_of_mem _ h)
theorem least_le : ∀ (l : List (List (List Cell))) (b : List (List Cell)), ∀ y ∈ b :: l, lt y (least b l) = false
  | [], b, y, h => by
    have : y = b := by simpa using h
    rw [this]
    exact lt_irrefl b
  | x :: l, b, y, h => by
    show lt y (least (if lt x b then x else b) l) = false
    have ih := least_le l (if lt x b then x else b)
    have i0 := ih _ List.mem_cons_self
    cases e : lt x b with
    | true =>
      simp only [e, if_true] at i0 ih ⊢
      rcases List.mem_cons.mp h with rfl | h
      · cases e2 : lt y (least x l) with
        | false => rfl
        | true => rw [lt_trans e e2] at i0; cases i0
      · rcases List.mem_cons.mp h with rfl | h
        · exact i0
        · exact ih y (List.mem_cons_of_mem _ h)
    | false =>
      simp only [e, Bool.false_eq_true, if_false] at i0 ih ⊢
      rcases List.mem_cons.mp h with rfl | h
      · exact i0
      · rcases List.mem_cons.mp h with rfl | h
        · cases e2 : lt y (least b l) with
          | false => rfl
          | true =>
            cases e3 : lt (least b l) b with
            | true => rw [lt_trans e2 e3] at e; cases e
            | false =>
              have ht := PyProof.Rows.lex_total _ _ i0 e3
              unfold lt W.dataLt at e e2
              rw [ht, e2] at e
              cases e
        · exact ih y (List.mem_cons_of_mem _ h)
theorem least_one {m : Nat} {b b' : List (List Cell)} {l l' : List (List (List Cell))} (hb : ∀ x ∈ b :: l, Box m x) (h1 : ∀ x ∈ b :: l, x ∈ b' :: l') (h2 : ∀ x ∈ b' :: l', x ∈ b :: l) : least b l = least b' l' := by
  have m1 := least_mem l b
  have m2 := least_mem l' b'
  exact lt_total (hb _ m1) (hb _ (h2 _ m2)) (least_le l' b' _ (h1 _ m1)) (least_le l b _ (h2 _ m2))

/-! ### the bodies -/
def cellOrderB : C :=
    (.seq (.iff (.cmp .eq (.blt .len (.cons (.var 0) .nil)) (.dat (.int 1))) (.seq (.ret (.tup (.cons (.dat (.int 0)) (.cons (.var 0) (.cons (.dat (.str "")) .nil)))))
      .skip) .skip)
      (.seq (.ret (.tup (.cons (.ite (.cmp .eq (.idx (.var 0) (.dat (.int 1))) (.dat (.str "/"))) (.dat (.int 1)) (.dat (.int 2))) (.cons (.idx (.var 0) (.dat (.int 0))) (.cons (.idx (.var 0) (.dat (.int 2))) .nil)))))
      .skip))
def patternOrderB (c : Nat) : C :=
    (.seq (.ret (.tup (.cons (.blt .len (.cons (.var 0) .nil)) (.cons (.blt .len (.cons (.idx (.var 0) (.dat (.int 0))) .nil)) (.cons (.cmp1 (.var 1) (.var 0) (.cmp1 (.var 2) (.var 1) (.call c (.cons (.var 2) .nil)) .na) .na) .nil)))))
      .skip)
def leastPatternB (o : Nat) : C :=
    (.seq (.set 1 (.idx (.var 0) (.dat (.int 0))))
      (.seq (.for_ (.var 2) (.slc (.var 0) (.dat (.int 1)) .na) (.seq (.iff (.cmp .lt (.call o (.cons (.var 2) .nil)) (.call o (.cons (.var 1) .nil))) (.seq (.set 1 (.var 2))
      .skip) .skip)
      .skip))
      (.seq (.ret (.var 1))
      .skip)))
def canonicalB (l t : Nat) : C :=
    (.seq (.ret (.call l (.cons (.cmp1 (.var 1) (.rng (.dat (.int 0)) (.dat (.int 8)) (.dat (.int 1))) (.call t (.cons (.var 0) (.cons (.var 1) .nil))) .na) .nil)))
      .skip)
def lawRankB : C :=
    (.seq (.seto 1 (.lst .nil))
      (.seq (.for_ (.var 2) (.var 0) (.seq (.for_ (.var 3) (.var 2) (.seq (.iff (.cmp .eq (.blt .len (.cons (.var 3) .nil)) (.dat (.int 1))) (.seq (.app 1 (.tup (.cons (.dat (.int 0)) (.cons (.var 3) (.cons (.dat (.str "")) .nil)))))
      .skip) (.seq (.app 1 (.tup (.cons (.idx (.dic (.cons (.dat (.str "/")) (.cons (.dat (.str "\\")) .nil)) (.cons (.dat (.int 1)) (.cons (.dat (.int 2)) .nil))) (.idx (.var 3) (.dat (.int 1)))) (.cons (.idx (.var 3) (.dat (.int 0))) (.cons (.idx (.var 3) (.dat (.int 2))) .nil)))))
      .skip))
      .skip))
      .skip))
      (.fz [1] (.seq (.ret (.tup (.cons (.blt .len (.cons (.var 0) .nil)) (.cons (.blt .len (.cons (.idx (.var 0) (.dat (.int 0))) .nil)) (.cons (.var 1) .nil)))))
      .skip))))
def lawLeastB (r : Nat) : C :=
    (.seq (.set 1 (.idx (.var 0) (.dat (.int 0))))
      (.seq (.for_ (.var 2) (.var 0) (.seq (.iff (.cmp .lt (.call r (.cons (.var 2) .nil)) (.call r (.cons (.var 1) .nil))) (.seq (.set 1 (.var 2))
      .skip) .skip)
      .skip))
      (.seq (.ret (.var 1))
      .skip)))
section
variable {K : Nat → List D → Res D}
theorem lit_e : PyData.str "" = T [] := rfl
theorem cellOrder_run (c : Cell) : ex K cellOrderB [.v (encC c)] = .ok (.rt (cKey c)) := by
  cases c with
  | pl x => simp only [cellOrderB, encC, cKey, ex, ev, En.at, Sl.strict, Res.ok_bind, asL, blD, bl1, l1_T, Res.noE_ok, one_one, truth, if_true, lit_e]
  | dg x up y => cases up <;> simp only [cellOrderB, encC, cKey, ex, ev, En.at, Sl.strict, Res.ok_bind, asL, blD, bl1, l3_T, Res.noE_ok, three_one, truth, if_true, Bool.false_eq_true, if_false, i3_0, i3_1, i3_2, lit_sl, sl_sl, bs_sl]
theorem len_encP (p : List (List Cell)) : lenD (encP p) = .ok (.int (p.length : Int)) := by
  show Res.ok (PyData.int ((((p.map (fun (r : List Cell) => r.map encC)).map PyData.tuple).length : Nat) : Int)) = _
  simp
theorem wid_encP {m : Nat} {p : List (List Cell)} (b : Box m p) {e : En} {x : C} (h : ev K x e = .ok (encP p)) : ev K (.blt .len (.cons (.idx x (.dat (.int 0))) .nil)) e = .ok (.int ((p.headD []).length : Int)) := by
  refine ev_blt (ev_one (x := .tuple ((p.map fun (r : List Cell) => r.map encC).headD [])) (ev_idx h rfl (head_idx (rows := p.map fun (r : List Cell) => r.map encC) (b.map encC).ne))) ?_
  show Res.ok (PyData.int _) = _
  cases p <;> simp
theorem patternOrder_run {c m : Nat} (hc : ∀ x, K c [encC x] = .ok (cKey x)) {p : List (List Cell)} (b : Box m p) (s1 s2 : Sl) : ex K (patternOrderB c) [.v (encP p), s1, s2] = .ok (.rt (ordD p)) := by
  refine ex_seqR (ex_ret ?_)
  have h1 : ev K (.cmp1 (.var 1) (.var 0) (.cmp1 (.var 2) (.var 1) (.call c (.cons (.var 2) .nil)) .na) .na) [.v (encP p), s1, s2] = .ok (.list (p.map rKey)) := by
    refine ev_cmpT p (fun r => .tuple (r.map encC)) rKey (s := encP p) rfl ?_ fun r hr => ⟨_, rfl, ev_cmpT r encC cKey (s := .tuple (r.map encC)) rfl rfl fun x hx => ⟨_, rfl, ev_call (ev_one rfl) (hc x)⟩⟩
    show Res.ok _ = Res.ok _
    rw [List.map_map]
    rfl
  have h2 := ev_cons (K := K) (e := [.v (encP p), s1, s2]) (ev_blt (b := .len) (ev_one (a := .var 0) rfl) (len_encP p)) (ev_cons (wid_encP (x := .var 0) b rfl) (ev_one h1))
  show (ev K _ _).bind (fun l => Res.ok (PyData.tuple (asL l))) = _
  rw [h2]
  rfl
theorem ordD_fl (p : List (List Cell)) : fl (ordD p) = true := fl_tuple fun x hx => by
  rcases List.mem_cons.mp hx with rfl | hx
  · exact ⟨rfl, Nat.zero_le _⟩
  rcases List.mem_cons.mp hx with rfl | hx
  · exact ⟨rfl, Nat.zero_le _⟩
  rcases List.mem_cons.mp hx with rfl | hx
  · refine ⟨plainAll_of fun y hy => ?_, Nat.le_trans (Nat.succ_le_succ (depthAll_of (n := 2) fun y hy => ?_)) (by decide)⟩
    · obtain ⟨r, _, rfl⟩ := List.mem_map.mp hy
      exact (rKey_plain r).1
    · obtain ⟨r, _, rfl⟩ := List.mem_map.mp hy
      exact (rKey_plain r).2
  · cases hx
theorem rankD_fl (p : List (List Cell)) : fl (rankD p) = true := fl_tuple fun x hx => by
  rcases List.mem_cons.mp hx with rfl | hx
  · exact ⟨rfl, Nat.zero_le _⟩
  rcases List.mem_cons.mp hx with rfl | hx
  · exact ⟨rfl, Nat.zero_le _⟩
  rcases List.mem_cons.mp hx with rfl | hx
  · have := rKey_plain p.flatten
    exact ⟨this.1, Nat.le_trans this.2 (by decide)⟩
  · cases hx
theorem cm_ordD {m : Nat} {p q : List (List Cell)} (bp : Box m p) (bq : Box m q) : cmD .lt (ordD p) (ordD q) = .ok (lt p q) := by
  have al : W.alike (ordD p) (ordD q) = true := by
    show (true && (true && (W.alikeAll (p.map rKey) (q.map rKey) && true))) = true
    rw [nest_alike]
    rfl
  show (if fl (ordD p) && fl (ordD q) && W.alike (ordD p) (ordD q) then Res.ok (W.dataLt (ordD p) (ordD q)) else .bad) = _
  rw [ordD_fl, ordD_fl, al, if_pos (show (true && true && true) = true from rfl), ord_lt bp bq]
theorem cm_rankD (p q : List (List Cell)) : cmD .lt (rankD p) (rankD q) = .ok (lt p q) := by
  show (if fl (rankD p) && fl (rankD q) && W.alike (rankD p) (rankD q) then Res.ok (W.dataLt (rankD p) (rankD q)) else .bad) = _
  rw [rankD_fl, rankD_fl, rank_alike, if_pos (show (true && true && true) = true from rfl)]
  rfl
/-- the loop of both -/
theorem least_loop {o m : Nat} {key : List (List Cell) → D} (hk : ∀ p, Box m p → K o [encP p] = .ok (key p)) (hl : ∀ p q, Box m p → Box m q → cmD .lt (key p) (key q) = .ok (lt p q)) (s0 : Sl) : ∀ {l : List (List (List Cell))} {b : List (List Cell)} {s2 : Sl}, (∀ x ∈ b :: l, Box m x) →
    ∃ s2', forL (fun x e1 => (bindT (.var 2) x e1).bind fun e2 => ex K (.seq (.iff (.cmp .lt (.call o (.cons (.var 2) .nil)) (.call o (.cons (.var 1) .nil))) (.seq (.set 1 (.var 2)) .skip) .skip) .skip) e2) (l.map encP) [s0, .v (encP b), s2] = .ok (.nx [s0, .v (encP (least b l)), s2'])
  | [], b, s2, _ => ⟨s2, rfl⟩
  | x :: l, b, s2, h => by
    have bb := h b List.mem_cons_self
    have bx := h x (List.mem_cons_of_mem _ List.mem_cons_self)
    obtain ⟨s2', ih⟩ := least_loop hk hl s0 (l := l) (b := if lt x b then x else b) (s2 := .v (encP x)) fun y hy => by
      rcases List.mem_cons.mp hy with rfl | hy
      · split
        · exact bx
        · exact bb
      · exact h y (List.mem_cons_of_mem _ (List.mem_cons_of_mem _ hy))
    refine ⟨s2', ?_⟩
    rw [List.map_cons, forL]
    simp only [bindT, Res.ok_bind, En.put]
    have step : ex K (.seq (.iff (.cmp .lt (.call o (.cons (.var 2) .nil)) (.call o (.cons (.var 1) .nil))) (.seq (.set 1 (.var 2)) .skip) .skip) .skip) [s0, .v (encP b), .v (encP x)] = .ok (.nx [s0, .v (encP (if lt x b then x else b)), .v (encP x)]) := by
      have t : ev K (.cmp .lt (.call o (.cons (.var 2) .nil)) (.call o (.cons (.var 1) .nil))) [s0, .v (encP b), .v (encP x)] = .ok (.bool (lt x b)) := ev_cmp (ev_call (ev_one rfl) (hk x bx)) (ev_call (ev_one rfl) (hk b bb)) (hl x b bx bb)
      cases e : lt x b with
      | true =>
        rw [e] at t
        refine (ex_seq (e1 := [s0, .v (encP x), .v (encP x)]) ?_).trans rfl
        rw [ex_iffT t rfl]
        rfl
      | false =>
        rw [e] at t
        refine (ex_seq (e1 := [s0, .v (encP b), .v (encP x)]) ?_).trans rfl
        rw [ex_iffF t rfl]
        rfl
    rw [step]
    exact ih
theorem leastPattern_run {o m : Nat} (hk : ∀ p, Box m p → K o [encP p] = .ok (ordD p)) {b : List (List Cell)} {l : List (List (List Cell))} (h : ∀ x ∈ b :: l, Box m x) (s1 s2 : Sl) : ex K (leastPatternB o) [.v (.list ((b :: l).map encP)), s1, s2] = .ok (.rt (encP (least b l))) := by
  unfold leastPatternB
  have e0 : ev K (.idx (.var 0) (.dat (.int 0))) [.v (.list ((b :: l).map encP)), s1, s2] = .ok (encP b) := by
    refine ev_idx rfl rfl ?_
    show atL ((b :: l).map encP) ((0 : Nat) : Int) = _
    rw [atL_nat (by simp)]
    rfl
  rw [ex_seq (e1 := [.v (.list ((b :: l).map encP)), .v (encP b), s2]) (ex_set e0)]
  have sl : ev K (.slc (.var 0) (.dat (.int 1)) .na) [.v (.list ((b :: l).map encP)), .v (encP b), s2] = .ok (.list (l.map encP)) := by
    show (Res.ok (PyData.list (cutL ((b :: l).map encP) (some 1) none))).noE = _
    have : cutL ((b :: l).map encP) (some 1) none = l.map encP := by
      have e : (l.map encP).take l.length = l.map encP := List.take_of_length_le (by simp)
      unfold cutL sEnd
      simpa using e
    rw [this]
    rfl
  obtain ⟨s2', h2⟩ := least_loop (key := ordD) hk (fun p q bp bq => cm_ordD bp bq) (.v (.list ((b :: l).map encP))) (l := l) (b := b) (s2 := s2) h
  rw [ex_seq ((ex_for sl rfl).trans h2)]
  rfl
theorem canonical_run {le t m : Nat} (hl : ∀ (b : List (List Cell)) (l : List (List (List Cell))), (∀ x ∈ b :: l, Box m x) → K le [.list ((b :: l).map encP)] = .ok (encP (least b l))) (ht : ∀ (p : List (List Cell)) (s : Nat), Box m p → K t [encP p, .int (s : Int)] = .ok (encP (trP p s))) {p : List (List Cell)} (b : Box m p) (s1 : Sl) :
    ex K (canonicalB le t) [.v (encP p), s1] = .ok (.rt (encP (least (trP p 0) ((List.range 7).map fun s => trP p (s + 1))))) := by
  have c : ev K (.cmp1 (.var 1) (.rng (.dat (.int 0)) (.dat (.int 8)) (.dat (.int 1))) (.call t (.cons (.var 0) (.cons (.var 1) .nil))) .na) [.v (encP p), s1] = .ok (.list ((trP p 0 :: (List.range 7).map fun s => trP p (s + 1)).map encP)) := by
    refine (ev_cmpT (List.range 8) (fun (s : Nat) => .int s) (fun s => encP (trP p s)) (s := .list (iR 8)) (ev_rngN (n := 8) rfl (by decide)) rfl fun s _ => ⟨_, rfl, ev_call (ev_cons rfl (ev_one rfl)) (ht p s b)⟩).trans rfl
  refine ex_seqR (ex_ret (ev_call (ev_one c) (hl _ _ fun x hx => ?_)))
  rcases List.mem_cons.mp hx with rfl | hx
  · exact b.tr 0
  · obtain ⟨s, _, rfl⟩ := List.mem_map.mp hx
    exact b.tr _
/-! the law's own rank and least -/
theorem dic_sl1 : idxD (.dict [(T [47], .int 1), (T [92], .int 2)]) (T [47]) = .ok (.int 1) := rfl
theorem dic_bs1 : idxD (.dict [(T [47], .int 1), (T [92], .int 2)]) (T [92]) = .ok (.int 2) := rfl
def rankCellB : C := .seq (.iff (.cmp .eq (.blt .len (.cons (.var 3) .nil)) (.dat (.int 1))) (.seq (.app 1 (.tup (.cons (.dat (.int 0)) (.cons (.var 3) (.cons (.dat (.str "")) .nil)))))
      .skip) (.seq (.app 1 (.tup (.cons (.idx (.dic (.cons (.dat (.str "/")) (.cons (.dat (.str "\\")) .nil)) (.cons (.dat (.int 1)) (.cons (.dat (.int 2)) .nil))) (.idx (.var 3) (.dat (.int 1)))) (.cons (.idx (.var 3) (.dat (.int 0))) (.cons (.idx (.var 3) (.dat (.int 2))) .nil)))))
      .skip)) .skip
theorem rankCell_run {P : D} {acc : List D} {s2 : Sl} (c : Cell) (ha : acc.length < lim) : ex K rankCellB [.v P, .o (.list acc), s2, .v (encC c)] = .ok (.nx [.v P, .o (.list (acc ++ [cKey c])), s2, .v (encC c)]) := by
  cases c with
  | pl x => simp only [rankCellB, encC, cKey, ex, ev, En.at, En.put, Sl.strict, Res.ok_bind, asL, blD, bl1, l1_T, Res.noE_ok, one_one, truth, if_true, lit_e, ha]
  | dg x up y => cases up <;> simp only [rankCellB, encC, cKey, ex, ev, En.at, En.put, Sl.strict, Res.ok_bind, asL, blD, bl1, l3_T, Res.noE_ok, three_one, truth, if_true, Bool.false_eq_true, if_false, i3_0, i3_1, i3_2, lit_sl, lit_bs, List.zip_cons_cons, List.zip_nil_right, dic_sl1, dic_bs1, ha]
theorem rankRow : ∀ {P : D} {s2 : Sl} {r : List Cell} {acc : List D} {s3 : Sl}, acc.length + r.length < lim →
    ∃ s3', forL (fun x e1 => (bindT (.var 3) x e1).bind fun e2 => ex K rankCellB e2) (r.map encC) [.v P, .o (.list acc), s2, s3] = .ok (.nx [.v P, .o (.list (acc ++ r.map cKey)), s2, s3'])
  | P, s2, [], acc, s3, _ => ⟨s3, by rw [List.map_nil, List.map_nil, List.append_nil]; rfl⟩
  | P, s2, c :: r, acc, s3, h => by
    rw [List.length_cons] at h
    obtain ⟨s3', ih⟩ := rankRow (P := P) (s2 := s2) (r := r) (acc := acc ++ [cKey c]) (s3 := .v (encC c)) (by rw [List.length_append, List.length_singleton]; omega)
    refine ⟨s3', ?_⟩
    rw [List.map_cons, forL]
    simp only [bindT, Res.ok_bind, En.put]
    rw [rankCell_run c (by omega)]
    simp only [Res.ok_bind]
    refine ih.trans ?_
    rw [List.map_cons, List.append_assoc]
    rfl
def rankRowB : C := .seq (.for_ (.var 3) (.var 2) rankCellB) .skip
theorem rankRows {w : Nat} : ∀ {P : D} {p : List (List Cell)} {acc : List D} {s2 s3 : Sl}, (∀ r ∈ p, r.length = w) → acc.length + p.length * w < lim →
    ∃ s2' s3', forL (fun x e1 => (bindT (.var 2) x e1).bind fun e2 => ex K rankRowB e2) (p.map fun r => .tuple (r.map encC)) [.v P, .o (.list acc), s2, s3] = .ok (.nx [.v P, .o (.list (acc ++ p.flatten.map cKey)), s2', s3'])
  | P, [], acc, s2, s3, _, _ => ⟨s2, s3, by simp [forL]⟩
  | P, r :: p, acc, s2, s3, hw, h => by
    have hr := hw r List.mem_cons_self
    rw [List.length_cons, Nat.succ_mul] at h
    obtain ⟨s3a, g1⟩ := rankRow (K := K) (P := P) (s2 := .v (.tuple (r.map encC))) (r := r) (acc := acc) (s3 := s3) (by omega)
    obtain ⟨s2', s3', ih⟩ := rankRows (P := P) (p := p) (acc := acc ++ r.map cKey) (s2 := .v (.tuple (r.map encC))) (s3 := s3a) (fun x hx => hw x (List.mem_cons_of_mem _ hx)) (by rw [List.length_append, List.length_map]; omega)
    refine ⟨s2', s3', ?_⟩
    rw [List.map_cons, forL]
    simp only [bindT, Res.ok_bind, En.put]
    have step : ex K rankRowB [.v P, .o (.list acc), .v (.tuple (r.map encC)), s3] = .ok (.nx [.v P, .o (.list (acc ++ r.map cKey)), .v (.tuple (r.map encC)), s3a]) := (ex_seq ((ex_for (s := .tuple (r.map encC)) rfl rfl).trans g1)).trans rfl
    rw [step]
    simp only [Res.ok_bind]
    refine ih.trans ?_
    rw [List.flatten_cons, List.map_append, List.append_assoc]
theorem lawRank_run {m : Nat} (hm : m ≤ 100) {p : List (List Cell)} (b : Box m p) (s1 s2 s3 : Sl) : ex K lawRankB [.v (encP p), s1, s2, s3] = .ok (.rt (rankD p)) := by
  obtain ⟨h, w, r, h0, w0, h1, w1⟩ := id b
  have l1 : lim = 1000000 := rfl
  obtain ⟨s2', s3', g⟩ := rankRows (K := K) (P := encP p) (p := p) (acc := []) (s2 := s2) (s3 := s3) r.2 (by
    have : p.length * w ≤ 100 * 100 := Nat.mul_le_mul (by rw [r.1]; omega) (by omega)
    simp
    omega)
  have hx : itemsD (encP p) = .ok (p.map fun r => .tuple (r.map encC)) := by
    show Res.ok _ = Res.ok _
    rw [List.map_map]
    rfl
  show ex K (.seq (.seto 1 (.lst .nil)) (.seq (.for_ (.var 2) (.var 0) rankRowB) (.fz [1] (.seq (.ret (.tup (.cons (.blt .len (.cons (.var 0) .nil)) (.cons (.blt .len (.cons (.idx (.var 0) (.dat (.int 0))) .nil)) (.cons (.var 1) .nil))))) .skip)))) [.v (encP p), s1, s2, s3] = _
  rw [ex_seq (e1 := [.v (encP p), .o (.list []), s2, s3]) rfl]
  rw [ex_seq ((ex_for (s := encP p) rfl hx).trans g)]
  have e2 := ev_cons (K := K) (e := [.v (encP p), .v (.list (p.flatten.map cKey)), s2', s3']) (ev_blt (b := .len) (ev_one (a := .var 0) rfl) (len_encP p)) (ev_cons (wid_encP (x := .var 0) b rfl) (ev_one (a := .var 1) rfl))
  show ex K (.seq (.ret (.tup (.cons (.blt .len (.cons (.var 0) .nil)) (.cons (.blt .len (.cons (.idx (.var 0) (.dat (.int 0))) .nil)) (.cons (.var 1) .nil))))) .skip) [.v (encP p), .v (.list (p.flatten.map cKey)), s2', s3'] = _
  refine ex_seqR (ex_ret ?_)
  show (ev K _ _).bind (fun l => Res.ok (PyData.tuple (asL l))) = _
  rw [e2]
  rfl
theorem lawLeast_run {o m : Nat} (hk : ∀ p, Box m p → K o [encP p] = .ok (rankD p)) {b : List (List Cell)} {l : List (List (List Cell))} (h : ∀ x ∈ b :: l, Box m x) (s1 s2 : Sl) : ex K (lawLeastB o) [.v (.list ((b :: l).map encP)), s1, s2] = .ok (.rt (encP (least b (b :: l)))) := by
  unfold lawLeastB
  have e0 : ev K (.idx (.var 0) (.dat (.int 0))) [.v (.list ((b :: l).map encP)), s1, s2] = .ok (encP b) := by
    refine ev_idx rfl rfl ?_
    show atL ((b :: l).map encP) ((0 : Nat) : Int) = _
    rw [atL_nat (by simp)]
    rfl
  rw [ex_seq (e1 := [.v (.list ((b :: l).map encP)), .v (encP b), s2]) (ex_set e0)]
  obtain ⟨s2', h2⟩ := least_loop (key := rankD) hk (fun p q _ _ => cm_rankD p q) (.v (.list ((b :: l).map encP))) (l := b :: l) (b := b) (s2 := s2) fun x hx => by
    rcases List.mem_cons.mp hx with rfl | hx
    · exact h _ List.mem_cons_self
    · exact h x hx
  rw [ex_seq ((ex_for (s := .list ((b :: l).map encP)) rfl rfl).trans h2)]
  rfl
end
end SQ

/-! SqTac: steps of ex, ev by simp. -/
namespace SQ
open PySem C
theorem drawn_at {ss ds : List Int} (h : Drawn ss ds) {j : Nat} (hj : j < ss.length) : idxD (.list (ds.map .int)) (.int (j : Int)) = .ok (.int (dgt ds j)) ∧ (dgt ds j : Int) < ss.getD j 1 := by
  obtain ⟨h1, h2⟩ := h
  have g := h2 j hj
  have e : ((dgt ds j : Nat) : Int) = ds.getD j 0 := by unfold dgt; omega
  refine ⟨?_, by rw [e]; exact g.2⟩
  show atL (ds.map .int) (j : Int) = _
  rw [atL_nat (by rw [List.length_map]; omega), e, getD_lt (by omega)]
  simp
theorem ex_iff {K : Nat → List D → Res D} {t a b : C} {e e1 : En} {c : Bool} (h : ev K t e = .ok (.bool c)) (ha : c = true → ex K a e = .ok (.nx e1)) (hb : c = false → ex K b e = .ok (.nx e1)) : ex K (.iff t a b) e = .ok (.nx e1) := by
  cases c with
  | true => rw [ex_iffT h rfl]; exact ha rfl
  | false => rw [ex_iffF h rfl]; exact hb rfl
theorem hi_div (K : Nat → List D → Res D) (q : Nat) (hq : 0 < q) (hq2 : q < 1000) (top : Nat) (h0 : 0 < top) (ns : List Int) (e : En) : ∃ N : Nat, N ≤ top ∧ ev K (.blt .min2 (.cons (.dat (.int (top : Int))) (.cons (.blt .max2 (.cons (.dat (.int 1)) (.cons (.bin .fdiv (.blt .len (.cons (.var 0) .nil)) (.dat (.int (q : Int)))) .nil))) .nil))) (.v (.list (ns.map .int)) :: e) = .ok (.int (N : Int)) := by
  have e0 : ev K (.bin .fdiv (.blt .len (.cons (.var 0) .nil)) (.dat (.int (q : Int)))) (.v (.list (ns.map .int)) :: e) = .ok (.int (((ns.map PyData.int).length / q : Nat) : Int)) := by
    refine ev_bin (ev_blt (ev_one rfl) rfl) rfl ?_
    show (if (q : Int) ≠ 0 ∧ (q : Int).natAbs < 1073741824 then Res.ok (PyData.int ((((ns.map PyData.int).length : Nat) : Int).fdiv q)) else .bad) = _
    rw [if_pos (by omega), Int.fdiv_eq_ediv_of_nonneg _ (by omega)]
    rfl
  have e1 := ev_blt (b := .max2) (ev_cons (a := .dat (.int 1)) rfl (ev_one e0)) rfl
  have e2 := ev_blt (b := .min2) (ev_cons (a := .dat (.int (top : Int))) rfl (ev_one e1)) rfl
  generalize (ns.map PyData.int).length / q = L at e2
  by_cases h : (L : Int) > 1
  · rw [if_pos h] at e2
    by_cases h2 : (L : Int) < top
    · rw [if_pos h2] at e2
      exact ⟨L, by omega, e2⟩
    · rw [if_neg h2] at e2
      exact ⟨top, by omega, e2⟩
  · rw [if_neg h] at e2
    by_cases h2 : (1 : Int) < top
    · rw [if_pos h2] at e2
      exact ⟨1, by omega, e2⟩
    · rw [if_neg h2] at e2
      exact ⟨top, by omega, e2⟩
/-- the law's loop: each turn goes through -/
theorem law_loop {K : Nat → List D → Res D} {body hi : C} {ns : List Int} {N m : Nat} (hN : N ≤ 1000) (e1 : ev K hi (.v (.list (ns.map .int)) :: List.replicate (m + 1) .u) = .ok (.int (N : Int)))
    (hb : ∀ (i : Nat) (r : List Sl), r.length = m → ∃ r', r'.length = m ∧ ex K body (.v (.list (ns.map .int)) :: .v (.int (i : Int)) :: r) = .ok (.nx (.v (.list (ns.map .int)) :: .v (.int (i : Int)) :: r'))) :
    ex K (.seq (.for_ (.var 1) (.rng (.dat (.int 0)) hi (.dat (.int 1))) body) (.seq (.ret (.dat (.bool true))) .skip)) (.v (.list (ns.map .int)) :: List.replicate (m + 1) .u) = .ok (.rt (.bool true)) := by
  have l1 : lim = 1000000 := rfl
  have hr := ev_rngN e1 (by omega)
  obtain ⟨e', g1, s1, r, hl, rfl⟩ := forL_inv (fun i e => ∃ s1 r, r.length = m ∧ e = .v (.list (ns.map .int)) :: s1 :: r) (k := 0) (xs := iR N) (e := .v (.list (ns.map .int)) :: List.replicate (m + 1) .u)
    (f := fun x e1 => (bindT (.var 1) x e1).bind fun e2 => ex K body e2) ⟨.u, List.replicate m .u, by simp, rfl⟩ (fun i x e hx hi => by
    obtain ⟨s1, r, hl, rfl⟩ := hi
    obtain ⟨rfl, hi⟩ := iR_get hx
    obtain ⟨r', h1, h2⟩ := hb i r hl
    exact ⟨_, .inl h2, _, _, h1, rfl⟩)
  rw [ex_seq ((ex_for hr rfl).trans g1)]
  rfl
end SQ

/-! SqRc: rectangles (patches) as data; loops and ranges over Int; around, straight_seams, split. -/
namespace SQ
open PySem C

/-! ### ints -/
theorem op_addI (a b : Int) : opD .add (.int a) (.int b) = .ok (.int (a + b)) := rfl
theorem op_subI (a b : Int) : opD .sub (.int a) (.int b) = .ok (.int (a - b)) := rfl
theorem op_mulS {a b : Int} (h : small64 a = true) : opD .mul (.int a) (.int b) = .ok (.int (a * b)) := by
  show (if small64 a || small64 b then Res.ok (PyData.int (a * b)) else .bad) = _
  rw [h]; rfl
theorem op_modI {a b : Int} (h : b ≠ 0) : opD .mod (.int a) (.int b) = .ok (.int (a.fmod b)) := by
  show (if b ≠ 0 then Res.ok (PyData.int (a.fmod b)) else .bad) = _
  rw [if_pos h]
theorem truth_b (b : Bool) : truth (.bool b) = b := rfl
theorem boolR_b (b : Bool) : boolR (.bool b) = .ok b := rfl
theorem ok_inj {α : Type} {a b : α} (h : a = b) : Res.ok a = Res.ok b := by rw [h]
/-- lo, lo + 1, .. below hi -/
def irange (lo hi : Int) : List Int := (List.range (hi - lo).toNat).map fun i => lo + (i : Nat)
theorem rngL_irange (lo hi : Int) : rngL lo hi 1 = (irange lo hi).map .int := by
  unfold rngL irange
  rw [rangeSize_one, List.map_map]
  have e : (if lo < hi then hi - lo else 0).toNat = (hi - lo).toNat := by split <;> omega
  rw [e]
  refine List.map_congr_left fun i _ => ?_
  show PyData.int (lo + (i : Int) * 1) = PyData.int (lo + (i : Int))
  rw [Int.mul_one]
theorem irange_length (lo hi : Int) : (irange lo hi).length = (hi - lo).toNat := by simp [irange]
theorem mem_irange {lo hi x : Int} : x ∈ irange lo hi ↔ lo ≤ x ∧ x < hi := by
  unfold irange
  rw [List.mem_map]
  constructor
  · rintro ⟨i, hi2, rfl⟩
    have := List.mem_range.mp hi2
    omega
  · rintro ⟨h1, h2⟩
    exact ⟨(x - lo).toNat, List.mem_range.mpr (by omega), by omega⟩
theorem irange_zero (n : Nat) : (irange 0 n).map PyData.int = iR n := by
  unfold irange iR
  rw [List.map_map]
  have : ((n : Int) - 0).toNat = n := by omega
  rw [this]
  refine List.map_congr_left fun i _ => ?_
  show PyData.int (0 + (i : Int)) = _
  rw [Int.zero_add]

section
variable {K : Nat → List D → Res D} {e : En}
theorem ev_rngI {lo hi : C} {a b : Int} (h1 : ev K lo e = .ok (.int a)) (h2 : ev K hi e = .ok (.int b)) (g1 : -1000000 ≤ a) (g2 : a ≤ 1000000) (g3 : -1000000 ≤ b) (g4 : b ≤ 1000000) (g5 : b - a ≤ 1000000) : ev K (.rng lo hi (.dat (.int 1))) e = .ok (.list ((irange a b).map .int)) := by
  show (ev K lo e).bind (fun x => (ev K hi e).bind fun y => (Res.ok (PyData.int 1)).bind fun z => _) = _
  rw [h1, h2]
  simp only [Res.ok_bind]
  have e0 : (Builtin.Range.rangeSize a b 1).toNat = (b - a).toNat := by rw [rangeSize_one]; split <;> omega
  have l1 : lim = 1000000 := rfl
  rw [if_pos ⟨by omega, by omega, by omega, by omega, by omega, by decide, by rw [e0]; omega⟩, rngL_irange]
/-- a loop with a state that is told -/
theorem forL_foldE {α β : Type} {f : D → En → Res Fl} (enc : α → D) (R : β → En → Prop) (step : β → α → β) : ∀ {xs : List α} {b : β} {e : En}, R b e → (∀ b e x, x ∈ xs → R b e → ∃ e', (f (enc x) e = .ok (.nx e') ∨ f (enc x) e = .ok (.ct e')) ∧ R (step b x) e') →
    ∃ e', forL f (xs.map enc) e = .ok (.nx e') ∧ R (xs.foldl step b) e'
  | [], b, e, h0, _ => ⟨e, rfl, h0⟩
  | x :: r, b, e, h0, hs => by
    obtain ⟨e1, h1, h2⟩ := hs b e x List.mem_cons_self h0
    obtain ⟨e2, h3, h4⟩ := forL_foldE enc R step (xs := r) h2 fun b e y hy => hs b e y (List.mem_cons_of_mem _ hy)
    refine ⟨e2, ?_, h4⟩
    show (f (enc x) e).bind _ = _
    rcases h1 with h1 | h1 <;> rw [h1] <;> exact h3
theorem foldl_filter {α β : Type} (p : α → Bool) (out : α → β) : ∀ (xs : List α) (acc : List β), xs.foldl (fun a x => if p x then a ++ [out x] else a) acc = acc ++ (xs.filter p).map out
  | [], acc => by simp
  | x :: r, acc => by
    rw [List.foldl_cons, foldl_filter p out r]
    cases h : p x with
    | true => rw [List.filter_cons_of_pos h]; simp
    | false => rw [List.filter_cons_of_neg (by rw [h]; exact Bool.false_ne_true)]; simp
/-- a loop that appends some items -/
theorem app_filter {α β : Type} {f : D → En → Res Fl} (enc : α → D) (st : List D → β → En) (p : α → Bool) (out : α → D) (B : Nat) : ∀ {xs : List α} {acc : List D} {s : β}, acc.length + xs.length ≤ B → (∀ x ∈ xs, ∀ acc s, acc.length < B → ∃ s', f (enc x) (st acc s) = .ok (.nx (st (if p x then acc ++ [out x] else acc) s'))) →
    ∃ s', forL f (xs.map enc) (st acc s) = .ok (.nx (st (acc ++ (xs.filter p).map out) s'))
  | [], acc, s, _, _ => ⟨s, by simp [forL]⟩
  | x :: r, acc, s, hB, hs => by
    have hB : acc.length + (r.length + 1) ≤ B := hB
    obtain ⟨s1, h1⟩ := hs x List.mem_cons_self acc s (by omega)
    obtain ⟨s2, h2⟩ := app_filter enc st p out B (xs := r) (acc := if p x then acc ++ [out x] else acc) (s := s1) (by split <;> (try rw [List.length_append]) <;> (try simp only [List.length_cons, List.length_nil]) <;> omega) fun y hy => hs y (List.mem_cons_of_mem _ hy)
    refine ⟨s2, ?_⟩
    show (f (enc x) (st acc s)).bind _ = _
    rw [h1]
    refine h2.trans ?_
    cases h : p x with
    | true => rw [List.filter_cons_of_pos h]; simp
    | false => rw [List.filter_cons_of_neg (by rw [h]; exact Bool.false_ne_true)]; simp
theorem genL_all {α : Type} {enc : α → D} {f : D → Res Bool} (p : α → Bool) : ∀ {xs : List α}, (∀ x ∈ xs, f (enc x) = .ok (p x)) → genL true f (xs.map enc) = .ok (xs.all p)
  | [], _ => rfl
  | x :: r, h => by
    show (f (enc x)).bind (fun y => if y = true then genL true f (r.map enc) else .ok (!true)) = _
    rw [h x List.mem_cons_self, Res.ok_bind, genL_all p fun y hy => h y (List.mem_cons_of_mem _ hy), List.all_cons]
    cases p x <;> rfl
theorem genL_any {α : Type} {enc : α → D} {f : D → Res Bool} (p : α → Bool) : ∀ {xs : List α}, (∀ x ∈ xs, f (enc x) = .ok (p x)) → genL false f (xs.map enc) = .ok (xs.any p)
  | [], _ => rfl
  | x :: r, h => by
    show (f (enc x)).bind (fun y => if y = false then genL false f (r.map enc) else .ok (!false)) = _
    rw [h x List.mem_cons_self, Res.ok_bind, genL_any p fun y hy => h y (List.mem_cons_of_mem _ hy), List.any_cons]
    cases p x <;> rfl
theorem ev_all {α : Type} (l : List α) (enc : α → D) (p : α → Bool) {tg src elt : C} {s : D} (h : ev K src e = .ok s) (hx : itemsD s = .ok (l.map enc)) (hg : ∀ a ∈ l, ∃ e1, bindT tg (enc a) (e.wip (slots tg)) = .ok e1 ∧ ev K elt e1 = .ok (.bool (p a))) : ev K (.gen true tg src elt) e = .ok (.bool (l.all p)) := by
  show (ev K src e).bind (fun s => (itemsD s).bind fun xs => (genL true (fun x => (bindT tg x (e.wip (slots tg))).bind fun e1 => (ev K elt e1).bind boolR) xs).noE.bind fun b => Res.ok (PyData.bool b)) = _
  rw [h, Res.ok_bind, hx, Res.ok_bind, genL_all p fun x hx => by
    obtain ⟨e1, h1, h2⟩ := hg x hx
    rw [h1, Res.ok_bind, h2]; rfl]
  rfl
theorem ev_any {α : Type} (l : List α) (enc : α → D) (p : α → Bool) {tg src elt : C} {s : D} (h : ev K src e = .ok s) (hx : itemsD s = .ok (l.map enc)) (hg : ∀ a ∈ l, ∃ e1, bindT tg (enc a) (e.wip (slots tg)) = .ok e1 ∧ ev K elt e1 = .ok (.bool (p a))) : ev K (.gen false tg src elt) e = .ok (.bool (l.any p)) := by
  show (ev K src e).bind (fun s => (itemsD s).bind fun xs => (genL false (fun x => (bindT tg x (e.wip (slots tg))).bind fun e1 => (ev K elt e1).bind boolR) xs).noE.bind fun b => Res.ok (PyData.bool b)) = _
  rw [h, Res.ok_bind, hx, Res.ok_bind, genL_any p fun x hx => by
    obtain ⟨e1, h1, h2⟩ := hg x hx
    rw [h1, Res.ok_bind, h2]; rfl]
  rfl
/-- a or b, both truth values -/
theorem ev_orB {a b : C} {x y : Bool} (h : ev K a e = .ok (.bool x)) (h2 : x = false → ev K b e = .ok (.bool y)) : ev K (.or a b) e = .ok (.bool (x || y)) := by
  cases x with
  | true => exact ev_orT h rfl
  | false => exact (ev_orF h rfl).trans (h2 rfl)
theorem ev_andB {a b : C} {x y : Bool} (h : ev K a e = .ok (.bool x)) (h2 : x = true → ev K b e = .ok (.bool y)) : ev K (.and a b) e = .ok (.bool (x && y)) := by
  cases x with
  | false => exact ev_andF h rfl
  | true => exact (ev_andT h rfl).trans (h2 rfl)
theorem ev_notB {a : C} {x : Bool} (h : ev K a e = .ok (.bool x)) : ev K (.not a) e = .ok (.bool (!x)) := by
  show (ev K a e).bind (fun x => Res.ok (PyData.bool (!truth x))) = _
  rw [h]; rfl
theorem ev_tup {es : C} {l : List D} (h : ev K es e = .ok (.list l)) : ev K (.tup es) e = .ok (.tuple l) := by
  show (ev K es e).bind (fun l => Res.ok (PyData.tuple (asL l))) = _
  rw [h]; rfl
theorem ev_lst {es : C} {l : List D} (h : ev K es e = .ok (.list l)) : ev K (.lst es) e = .ok (.list l) := by
  show (ev K es e).bind (fun l => Res.ok (PyData.list (asL l))) = _
  rw [h]; rfl
theorem ex_sett {tg c : C} {d : D} {e1 : En} (h : ev K c e = .ok d) (hb : bindT tg d e = .ok e1) : ex K (.sett tg c) e = .ok (.nx e1) := by
  show (ev K c e).bind (fun d => (bindT tg d e).bind fun e1 => Res.ok (Fl.nx e1)) = _
  rw [h, Res.ok_bind, hb]; rfl
theorem ex_app {i : Nat} {c : C} {xs : List D} {d : D} (hi : e.at i = .o (.list xs)) (h : ev K c e = .ok d) (hl : xs.length < lim) : ex K (.app i c) e = .ok (.nx (e.put i (.o (.list (xs ++ [d]))))) := by
  show (match e.at i with
    | .o (.list xs) => (ev K c e).bind fun d => if xs.length < lim then Res.ok (Fl.nx (e.put i (.o (.list (xs ++ [d]))))) else .bad
    | _ => .bad) = _
  rw [hi]
  show (ev K c e).bind _ = _
  rw [h, Res.ok_bind, if_pos hl]
end

/-- min(top, max(1, len(script))) -/
theorem hi_len (K : Nat → List D → Res D) (top : Nat) (h0 : 0 < top) (ns : List Int) (e : En) : ∃ N : Nat, N ≤ top ∧ ev K (.blt .min2 (.cons (.dat (.int (top : Int))) (.cons (.blt .max2 (.cons (.dat (.int 1)) (.cons (.blt .len (.cons (.var 0) .nil)) .nil))) .nil))) (.v (.list (ns.map .int)) :: e) = .ok (.int (N : Int)) := by
  have e0 : ev K (.blt .len (.cons (.var 0) .nil)) (.v (.list (ns.map .int)) :: e) = .ok (.int (((ns.map PyData.int).length : Nat) : Int)) := ev_blt (ev_one rfl) rfl
  have e1 := ev_blt (b := .max2) (ev_cons (a := .dat (.int 1)) rfl (ev_one e0)) rfl
  have e2 := ev_blt (b := .min2) (ev_cons (a := .dat (.int (top : Int))) rfl (ev_one e1)) rfl
  generalize (ns.map PyData.int).length = L at e2
  by_cases h : (L : Int) > 1
  · rw [if_pos h] at e2
    by_cases h2 : (L : Int) < top
    · rw [if_pos h2] at e2
      exact ⟨L, by omega, e2⟩
    · rw [if_neg h2] at e2
      exact ⟨top, by omega, e2⟩
  · rw [if_neg h] at e2
    by_cases h2 : (1 : Int) < top
    · rw [if_pos h2] at e2
      exact ⟨1, by omega, e2⟩
    · rw [if_neg h2] at e2
      exact ⟨top, by omega, e2⟩

/-! ### the least, the greatest -/
def minL : List Int → Int
  | [] => 0
  | a :: r => r.foldl min a
def maxL : List Int → Int
  | [] => 0
  | a :: r => r.foldl max a
theorem intsOf_map : ∀ l : List Int, intsOf (l.map .int) = .ok l
  | [] => rfl
  | x :: r => by
    show (intsOf (r.map .int)).bind (fun l => Res.ok (x :: l)) = _
    rw [intsOf_map r]; rfl
theorem bl_min {l : List Int} (h : l ≠ []) : blD .min1 [.list (l.map .int)] = .ok (.int (minL l)) := by
  show (intsOf (l.map .int)).bind _ = _
  rw [intsOf_map]
  cases l with
  | nil => exact absurd rfl h
  | cons a r => rfl
theorem bl_max {l : List Int} (h : l ≠ []) : blD .max1 [.list (l.map .int)] = .ok (.int (maxL l)) := by
  show (intsOf (l.map .int)).bind _ = _
  rw [intsOf_map]
  cases l with
  | nil => exact absurd rfl h
  | cons a r => rfl
theorem bl_sum (l : List Int) : blD .sum [.list (l.map .int)] = .ok (.int l.sum) := by
  show (intsOf (l.map .int)).bind _ = _
  rw [intsOf_map]; rfl
theorem foldl_min_le : ∀ (r : List Int) (a : Int), r.foldl min a ≤ a ∧ ∀ x ∈ r, r.foldl min a ≤ x
  | [], a => ⟨Int.le_refl _, fun _ h => by simp at h⟩
  | y :: r, a => by
    obtain ⟨h1, h2⟩ := foldl_min_le r (min a y)
    have : (y :: r).foldl min a = r.foldl min (min a y) := rfl
    rw [this]
    refine ⟨by omega, fun x hx => ?_⟩
    rcases List.mem_cons.mp hx with rfl | hx
    · omega
    · exact h2 x hx
theorem foldl_min_mem : ∀ (r : List Int) (a : Int), r.foldl min a = a ∨ r.foldl min a ∈ r
  | [], a => .inl rfl
  | y :: r, a => by
    show r.foldl min (min a y) = a ∨ r.foldl min (min a y) ∈ y :: r
    rcases foldl_min_mem r (min a y) with h | h
    · rw [h]
      by_cases g : a ≤ y
      · left; omega
      · right; rw [show min a y = y by omega]; exact List.mem_cons_self
    · exact .inr (List.mem_cons_of_mem _ h)
theorem minL_le {l : List Int} {x : Int} (h : x ∈ l) : minL l ≤ x := by
  cases l with
  | nil => simp at h
  | cons a r =>
    obtain ⟨h1, h2⟩ := foldl_min_le r a
    rcases List.mem_cons.mp h with rfl | h
    · exact h1
    · exact h2 x h
theorem minL_mem {l : List Int} (h : l ≠ []) : minL l ∈ l := by
  cases l with
  | nil => exact absurd rfl h
  | cons a r =>
    rcases foldl_min_mem r a with z | z
    · show r.foldl min a ∈ a :: r
      rw [z]; exact List.mem_cons_self
    · exact List.mem_cons_of_mem _ z
theorem foldl_max_le : ∀ (r : List Int) (a : Int), a ≤ r.foldl max a ∧ ∀ x ∈ r, x ≤ r.foldl max a
  | [], a => ⟨Int.le_refl _, fun _ h => by simp at h⟩
  | y :: r, a => by
    obtain ⟨h1, h2⟩ := foldl_max_le r (max a y)
    have : (y :: r).foldl max a = r.foldl max (max a y) := rfl
    rw [this]
    refine ⟨by omega, fun x hx => ?_⟩
    rcases List.mem_cons.mp hx with rfl | hx
    · omega
    · exact h2 x hx
theorem foldl_max_mem : ∀ (r : List Int) (a : Int), r.foldl max a = a ∨ r.foldl max a ∈ r
  | [], a => .inl rfl
  | y :: r, a => by
    show r.foldl max (max a y) = a ∨ r.foldl max (max a y) ∈ y :: r
    rcases foldl_max_mem r (max a y) with h | h
    · rw [h]
      by_cases g : y ≤ a
      · left; omega
      · right; rw [show max a y = y by omega]; exact List.mem_cons_self
    · exact .inr (List.mem_cons_of_mem _ h)
theorem maxL_ge {l : List Int} {x : Int} (h : x ∈ l) : x ≤ maxL l := by
  cases l with
  | nil => simp at h
  | cons a r =>
    obtain ⟨h1, h2⟩ := foldl_max_le r a
    rcases List.mem_cons.mp h with rfl | h
    · exact h1
    · exact h2 x h
theorem maxL_mem {l : List Int} (h : l ≠ []) : maxL l ∈ l := by
  cases l with
  | nil => exact absurd rfl h
  | cons a r =>
    rcases foldl_max_mem r a with z | z
    · show r.foldl max a ∈ a :: r
      rw [z]; exact List.mem_cons_self
    · exact List.mem_cons_of_mem _ z

/-! ### rectangles -/
structure Rc where
  t : Int
  l : Int
  h : Int
  w : Int
  deriving DecidableEq
def encR4 (r : Rc) : D := .tuple [.int r.t, .int r.l, .int r.h, .int r.w]
theorem encR4_inj {a b : Rc} (h : encR4 a = encR4 b) : a = b := by
  cases a; cases b
  simp only [encR4] at h
  injection h with h
  injection h with h1 h
  injection h with h2 h
  injection h with h3 h
  injection h with h4 h
  injection h1 with h1; injection h2 with h2; injection h3 with h3; injection h4 with h4
  subst h1; subst h2; subst h3; subst h4; rfl
theorem idx4_0 (a b c d : D) : idxD (.tuple [a, b, c, d]) (.int 0) = .ok a := rfl
theorem idx4_1 (a b c d : D) : idxD (.tuple [a, b, c, d]) (.int 1) = .ok b := rfl
theorem idx4_2 (a b c d : D) : idxD (.tuple [a, b, c, d]) (.int 2) = .ok c := rfl
theorem idx4_3 (a b c d : D) : idxD (.tuple [a, b, c, d]) (.int 3) = .ok d := rfl
theorem idx2_0 (a b : D) : idxD (.tuple [a, b]) (.int 0) = .ok a := rfl
theorem idx2_1 (a b : D) : idxD (.tuple [a, b]) (.int 1) = .ok b := rfl
/-- a value that holds these patches -/
def Pats (s : D) (ps : List Rc) : Prop := s = .tuple (ps.map encR4) ∨ s = .list (ps.map encR4)
theorem Pats.items {s : D} {ps : List Rc} (h : Pats s ps) : itemsD s = .ok (ps.map encR4) := by
  rcases h with rfl | rfl <;> rfl
theorem Pats.len {s : D} {ps : List Rc} (h : Pats s ps) : blD .len [s] = .ok (.int (ps.length : Nat)) := by
  rcases h with rfl | rfl
  · show Res.ok (PyData.int ((ps.map encR4).length : Nat)) = _
    rw [List.length_map]
  · show Res.ok (PyData.int ((ps.map encR4).length : Nat)) = _
    rw [List.length_map]
theorem Pats.at_ {s : D} {ps : List Rc} (h : Pats s ps) {i : Nat} (hi : i < ps.length) : idxD s (.int (i : Int)) = .ok (encR4 ps[i]) := by
  have e : atL (ps.map encR4) (i : Int) = .ok (encR4 ps[i]) := by
    rw [atL_nat (by rw [List.length_map]; exact hi), List.getElem_map]
  rcases h with rfl | rfl <;> exact e
end SQ
namespace SQ
open PySem C
/-! ### good data: == is equality -/
structure Gdd (n : Nat) (d : D) : Prop where
  nb : nb d = true
  pl : d.plain = true
  dp : d.depth ≤ n
theorem gd_int (i : Int) (n : Nat) : Gdd n (.int i) := ⟨rfl, rfl, Nat.zero_le _⟩
theorem gd_str (s : Str) (n : Nat) : Gdd n (.str s) := ⟨rfl, rfl, Nat.zero_le _⟩
theorem gd_none (n : Nat) : Gdd n .none := ⟨rfl, rfl, Nat.zero_le _⟩
theorem gd_list {n : Nat} {l : List D} (h : ∀ x ∈ l, Gdd n x) : Gdd (n + 1) (.list l) :=
  ⟨nbAll_of fun x hx => (h x hx).nb, plainAll_of fun x hx => (h x hx).pl, Nat.succ_le_succ (depthAll_of fun x hx => (h x hx).dp)⟩
theorem gd_tuple {n : Nat} {l : List D} (h : ∀ x ∈ l, Gdd n x) : Gdd (n + 1) (.tuple l) :=
  ⟨nbAll_of fun x hx => (h x hx).nb, plainAll_of fun x hx => (h x hx).pl, Nat.succ_le_succ (depthAll_of fun x hx => (h x hx).dp)⟩
theorem gd_map {α : Type} {n : Nat} {f : α → D} {l : List α} (h : ∀ x ∈ l, Gdd n (f x)) : ∀ y ∈ l.map f, Gdd n y := fun y hy => by
  obtain ⟨x, hx, rfl⟩ := List.mem_map.mp hy
  exact h x hx
theorem gd_cons {n : Nat} {a : D} {l : List D} (h : Gdd n a) (hl : ∀ x ∈ l, Gdd n x) : ∀ x ∈ a :: l, Gdd n x := fun x hx => by
  rcases List.mem_cons.mp hx with rfl | hx
  · exact h
  · exact hl x hx
theorem gd_nil {n : Nat} : ∀ x ∈ ([] : List D), Gdd n x := fun x hx => by simp at hx
theorem Gdd.mono {n m : Nat} {d : D} (h : Gdd n d) (hm : n ≤ m) : Gdd m d := ⟨h.nb, h.pl, Nat.le_trans h.dp hm⟩
theorem Gdd.fl {n : Nat} {d : D} (h : Gdd n d) (hn : n ≤ 60) : fl d = true := by
  unfold SQ.fl
  rw [h.pl, decide_eq_true (Nat.le_trans h.dp hn)]; rfl
theorem gd_eqv {n m : Nat} {x y : D} (hx : Gdd n x) (hy : Gdd m y) : PyData.eqv x y = true ↔ x = y :=
  ⟨eqv_nb hx.nb hy.nb, fun e => by rw [e]; exact PySem.SeqAt.eqv_refl_plain _ hy.pl⟩
theorem gd_eq {n m : Nat} {x y : D} (hx : Gdd n x) (hy : Gdd m y) (hn : n ≤ 60) (hm : m ≤ 60) : ∃ b, cmD .eq x y = .ok b ∧ (b = true ↔ x = y) := by
  refine ⟨PyData.eqv x y, ?_, gd_eqv hx hy⟩
  show (if SQ.fl x && SQ.fl y then Res.ok (PyData.eqv x y) else .bad) = _
  rw [hx.fl hn, hy.fl hm]; rfl
theorem gd_ne {n m : Nat} {x y : D} (hx : Gdd n x) (hy : Gdd m y) (hn : n ≤ 60) (hm : m ≤ 60) : ∃ b, cmD .ne x y = .ok b ∧ (b = true ↔ x ≠ y) := by
  refine ⟨!PyData.eqv x y, ?_, ?_⟩
  · show (if SQ.fl x && SQ.fl y then Res.ok (!PyData.eqv x y) else .bad) = _
    rw [hx.fl hn, hy.fl hm]; rfl
  · have := gd_eqv hx hy
    cases h : PyData.eqv x y with
    | true => rw [h] at this; simp [this.mp rfl]
    | false => rw [h] at this; simp; exact fun e => by simpa using this.mpr e
theorem gd_encR4 (r : Rc) : Gdd 1 (encR4 r) := gd_tuple (gd_cons (gd_int _ 0) (gd_cons (gd_int _ 0) (gd_cons (gd_int _ 0) (gd_cons (gd_int _ 0) gd_nil))))
theorem gd_pats {s : D} {ps : List Rc} (P : Pats s ps) : Gdd 2 s := by
  rcases P with rfl | rfl
  · exact gd_tuple (gd_map fun r _ => gd_encR4 r)
  · exact gd_list (gd_map fun r _ => gd_encR4 r)
end SQ

/-! SqAuto: straight-line text by simp: x_.. rules for statements, e_.. for expressions (loops and calls stay). -/
namespace SQ
open PySem C
section
variable {K : Nat → List D → Res D}
def thenX (K : Nat → List D → Res D) (b : C) : Res Fl → Res Fl
  | .ok (.nx e) => ex K b e
  | r => r
theorem x_seq (a b : C) (e : En) : ex K (.seq a b) e = thenX K b (ex K a e) := by
  show (ex K a e).bind _ = _
  cases h : ex K a e with
  | ok w => cases w <;> rfl
  | err c xs => rfl
  | bad => rfl
theorem thenX_nx (b : C) (e : En) : thenX K b (.ok (.nx e)) = ex K b e := rfl
theorem thenX_rt (b : C) (d : D) : thenX K b (.ok (.rt d)) = .ok (.rt d) := rfl
theorem thenX_bk (b : C) (e : En) : thenX K b (.ok (.bk e)) = .ok (.bk e) := rfl
theorem thenX_ct (b : C) (e : En) : thenX K b (.ok (.ct e)) = .ok (.ct e) := rfl
theorem thenX_err (b : C) (c : Nat) (xs : List D) : thenX K b (.err c xs) = .err c xs := rfl
theorem thenX_cond (b : C) (z : Bool) (x y : Res Fl) : thenX K b (cond z x y) = cond z (thenX K b x) (thenX K b y) := by cases z <;> rfl
def ifX (K : Nat → List D → Res D) (a b : C) (e : En) : Res D → Res Fl
  | .ok d => cond (truth d) (ex K a e) (ex K b e)
  | .err c xs => .err c xs
  | .bad => .bad
theorem x_iff (t a b : C) (e : En) : ex K (.iff t a b) e = ifX K a b e (ev K t e) := by
  show (ev K t e).bind _ = _
  cases ev K t e with
  | ok d => show (if truth d then ex K a e else ex K b e) = cond (truth d) (ex K a e) (ex K b e); cases truth d <;> rfl
  | err => rfl
  | bad => rfl
theorem ifX_d (a b : C) (e : En) (d : D) : ifX K a b e (.ok d) = cond (truth d) (ex K a e) (ex K b e) := rfl
theorem x_skip (e : En) : ex K .skip e = .ok (.nx e) := rfl
theorem x_ret (c : C) (e : En) : ex K (.ret c) e = (ev K c e).bind fun d => .ok (.rt d) := rfl
theorem x_retn (e : En) : ex K .retn e = .ok (.rt .none) := rfl
theorem x_brk (e : En) : ex K .brk e = .ok (.bk e) := rfl
theorem x_cnt (e : En) : ex K .cnt e = .ok (.ct e) := rfl
theorem x_set (i : Nat) (c : C) (e : En) : ex K (.set i c) e = (ev K c e).bind fun d => .ok (.nx (e.put i (.v d))) := rfl
theorem x_seto (i : Nat) (c : C) (e : En) : ex K (.seto i c) e = (ev K c e).bind fun d => (ownD d).bind fun d => .ok (.nx (e.put i (.o d))) := rfl
theorem own_list (xs : List D) : ownD (.list xs) = .ok (.list xs) := rfl
theorem own_dict (xs : List (D × D)) : ownD (.dict xs) = .ok (.dict xs) := rfl
theorem x_sett (tg c : C) (e : En) : ex K (.sett tg c) e = (ev K c e).bind fun d => (bindT tg d e).bind fun e1 => .ok (.nx e1) := rfl
theorem x_fz (is : List Nat) (s : C) (e : En) : ex K (.fz is s) e = ex K s (e.frz is) := rfl
theorem x_aug (i : Nat) (o : Op) (c : C) (e : En) : ex K (.aug i o c) e = match e.at i with
    | .v x => (ev K c e).bind fun y => (augD o x y).noE.bind fun d => .ok (.nx (e.put i (.v d)))
    | _ => .bad := rfl
theorem aug_addI (a b : Int) : augD .add (.int a) (.int b) = .ok (.int (a + b)) := rfl
theorem aug_subI (a b : Int) : augD .sub (.int a) (.int b) = .ok (.int (a - b)) := rfl
def appX (e : En) (i : Nat) (xs : List D) : Res D → Res Fl
  | .ok d => if xs.length < lim then .ok (.nx (e.put i (.o (.list (xs ++ [d]))))) else .bad
  | .err c xs => .err c xs
  | .bad => .bad
def appS (K : Nat → List D → Res D) (e : En) (i : Nat) (c : C) : Sl → Res Fl
  | .o (.list xs) => appX e i xs (ev K c e)
  | _ => .bad
theorem x_app (i : Nat) (c : C) (e : En) : ex K (.app i c) e = appS K e i c (e.at i) := by
  unfold appS
  show (match e.at i with
    | .o (.list xs) => (ev K c e).bind fun d => if xs.length < lim then Res.ok (Fl.nx (e.put i (.o (.list (xs ++ [d]))))) else .bad
    | _ => .bad) = _
  split
  · cases ev K c e <;> rfl
  · rfl
theorem appS_l (e : En) (i : Nat) (c : C) (xs : List D) : appS K e i c (.o (.list xs)) = appX e i xs (ev K c e) := rfl
theorem appX_ok (e : En) (i : Nat) (xs : List D) (d : D) (h : xs.length < lim) : appX e i xs (.ok d) = .ok (.nx (e.put i (.o (.list (xs ++ [d]))))) := if_pos h
theorem cond_ok (z : Bool) (a b : D) : cond z (Res.ok a) (Res.ok b) = Res.ok (cond z a b) := by cases z <;> rfl
theorem cond_boolD (z : Bool) (a b : Bool) : cond z (PyData.bool a) (PyData.bool b) = PyData.bool (cond z a b) := by cases z <;> rfl
theorem cond_or (a b : Bool) : cond a a b = (a || b) := by cases a <;> rfl
theorem cond_and (a b : Bool) : cond a b a = (a && b) := by cases a <;> rfl
theorem cond_andF (a b : Bool) : cond a b false = (a && b) := by cases a <;> rfl
theorem cond_rt (z : Bool) (a b : D) : cond z (Res.ok (Fl.rt a)) (Res.ok (Fl.rt b)) = Res.ok (Fl.rt (cond z a b)) := by cases z <;> rfl
theorem cond_iff (z a b : Bool) : cond z a b = true ↔ (z = true ∧ a = true) ∨ (¬ z = true ∧ b = true) := by cases z <;> simp
theorem not_iff' (z : Bool) : (!z) = true ↔ ¬ z = true := by cases z <;> simp
theorem ff_iff : (false = true) ↔ False := by simp
theorem tt_iff : (true = true) ↔ True := by simp
theorem zf_iff (z : Bool) : (z = false) ↔ ¬ z = true := by cases z <;> simp
theorem rt_bool {a b : Bool} (h : a = true ↔ b = true) : Res.ok (Fl.rt (PyData.bool a)) = Res.ok (Fl.rt (PyData.bool b)) := by rw [Bool.eq_iff_iff.mpr h]
/-- expressions -/
theorem cond_if {α : Type} (z : Bool) (a b : α) : (if z then a else b) = cond z a b := by cases z <;> rfl
theorem e_or (a b : C) (e : En) : ev K (.or a b) e = (ev K a e).bind fun x => cond (truth x) (.ok x) (ev K b e) := by
  show ((ev K a e).bind fun x => if truth x then .ok x else ev K b e) = _
  exact congrArg _ (funext fun x => cond_if ..)
theorem e_and (a b : C) (e : En) : ev K (.and a b) e = (ev K a e).bind fun x => cond (truth x) (ev K b e) (.ok x) := by
  show ((ev K a e).bind fun x => if truth x then ev K b e else .ok x) = _
  exact congrArg _ (funext fun x => cond_if ..)
theorem e_ite (t a b : C) (e : En) : ev K (.ite t a b) e = (ev K t e).bind fun x => cond (truth x) (ev K a e) (ev K b e) := by
  show ((ev K t e).bind fun x => if truth x then ev K a e else ev K b e) = _
  exact congrArg _ (funext fun x => cond_if ..)
theorem e_chn (o o' : Cm) (a b c : C) (e : En) : ev K (.chn o o' a b c) e = (ev K a e).bind fun x => (ev K b e).bind fun y => (cmD o x y).noE.bind fun k => cond k ((ev K c e).bind fun z => (cmD o' y z).noE.bind fun k' => .ok (.bool k')) (.ok (.bool false)) := by
  show ((ev K a e).bind fun x => (ev K b e).bind fun y => (cmD o x y).noE.bind fun k => if k then (ev K c e).bind fun z => (cmD o' y z).noE.bind fun k' => .ok (PyData.bool k') else .ok (PyData.bool false)) = _
  exact congrArg _ (funext fun x => congrArg _ (funext fun y => congrArg _ (funext fun k => cond_if ..)))
theorem e_var (i : Nat) (e : En) : ev K (.var i) e = (e.at i).strict := rfl
theorem e_wv (i : Nat) (e : En) : ev K (.wv i) e = (e.at i).weak := rfl
theorem e_dat (d : D) (e : En) : ev K (.dat d) e = .ok d := rfl
theorem e_con (x : PySem.Str) (d : D) (e : En) : ev K (.con x d) e = .ok d := rfl
theorem e_nil (e : En) : ev K .nil e = .ok (.list []) := rfl
theorem e_cons (a r : C) (e : En) : ev K (.cons a r) e = (ev K a e).bind fun x => (ev K r e).bind fun l => .ok (.list (x :: asL l)) := rfl
theorem e_neg (a : Int) (e : En) : ev K (.neg (.dat (.int a))) e = .ok (.int (-a)) := rfl
theorem e_bin (o : Op) (a b : C) (e : En) : ev K (.bin o a b) e = (ev K a e).bind fun x => (ev K b e).bind fun y => (opD o x y).noE := rfl
theorem e_cmp (o : Cm) (a b : C) (e : En) : ev K (.cmp o a b) e = (ev K a e).bind fun x => (ev K b e).bind fun y => (cmD o x y).noE.bind fun k => .ok (.bool k) := rfl
def isnD : D → D
  | .none => .bool true
  | _ => .bool false
theorem e_isn (a : C) (e : En) : ev K (.isn a) e = (ev K a e).bind fun x => .ok (isnD x) := by
  show ((ev K a e).bind fun x => match x with
    | .none => Res.ok (PyData.bool true)
    | _ => .ok (.bool false)) = _
  exact congrArg _ (funext fun x => by cases x <;> rfl)
def nisnD : D → D
  | .none => .bool false
  | _ => .bool true
theorem e_nisn (a : C) (e : En) : ev K (.nisn a) e = (ev K a e).bind fun x => .ok (nisnD x) := by
  show ((ev K a e).bind fun x => match x with
    | .none => Res.ok (PyData.bool false)
    | _ => .ok (.bool true)) = _
  exact congrArg _ (funext fun x => by cases x <;> rfl)
theorem e_not (a : C) (e : En) : ev K (.not a) e = (ev K a e).bind fun x => .ok (.bool (!truth x)) := rfl
theorem e_tup (es : C) (e : En) : ev K (.tup es) e = (ev K es e).bind fun l => .ok (.tuple (asL l)) := rfl
theorem e_lst (es : C) (e : En) : ev K (.lst es) e = (ev K es e).bind fun l => .ok (.list (asL l)) := rfl
theorem e_idx (a i : C) (e : En) : ev K (.idx a i) e = (ev K a e).bind fun x => (ev K i e).bind fun y => (idxD x y).noE := rfl
theorem e_slc (a lo hi : C) (e : En) : ev K (.slc a lo hi) e = (ev K a e).bind fun x => (optI lo.isNa (ev K lo e)).bind fun l => (optI hi.isNa (ev K hi e)).bind fun h => (slcD x l h).noE := rfl
theorem e_call (f : Nat) (es : C) (e : En) : ev K (.call f es) e = (ev K es e).bind fun l => K f (asL l) := rfl
theorem e_blt (b : Bi) (es : C) (e : En) : ev K (.blt b es) e = (ev K es e).bind fun l => (blD b (asL l)).noE := rfl
theorem isn_t (l : List D) : isnD (.tuple l) = .bool false := rfl
theorem nisn_t (l : List D) : nisnD (.tuple l) = .bool true := rfl
theorem isn_i (i : Int) : isnD (.int i) = .bool false := rfl
theorem nisn_i (i : Int) : nisnD (.int i) = .bool true := rfl
theorem isn_n : isnD .none = .bool true := rfl
theorem nisn_n : nisnD .none = .bool false := rfl

theorem b_var (i : Nat) (d : D) (e : En) : bindT (.var i) d e = .ok (e.put i (.v d)) := rfl
theorem b_tup (es : C) (xs : List D) (e : En) : bindT (.tup es) (.tuple xs) e = bindT es (.list xs) e := rfl
theorem b_nil (e : En) : bindT .nil (.list []) e = .ok e := rfl
theorem b_cons (a r : C) (x : D) (xs : List D) (e : En) : bindT (.cons a r) (.list (x :: xs)) e = (bindT a x e).bind fun e1 => bindT r (.list xs) e1 := rfl
theorem bindT_R4 (i j k l : Nat) (r : Rc) (e : En) : bindT (.tup (.cons (.var i) (.cons (.var j) (.cons (.var k) (.cons (.var l) .nil))))) (encR4 r) e = .ok ((((e.put i (.v (.int r.t))).put j (.v (.int r.l))).put k (.v (.int r.h))).put l (.v (.int r.w))) := rfl
theorem idxR_0 (r : Rc) : idxD (encR4 r) (.int 0) = .ok (.int r.t) := rfl
theorem idxR_1 (r : Rc) : idxD (encR4 r) (.int 1) = .ok (.int r.l) := rfl
theorem idxR_2 (r : Rc) : idxD (encR4 r) (.int 2) = .ok (.int r.h) := rfl
theorem idxR_3 (r : Rc) : idxD (encR4 r) (.int 3) = .ok (.int r.w) := rfl
def putS (K : Nat → List D → Res D) (e : En) (i : Nat) (k : C) (d : D) : Sl → Res Fl
  | .o x => (ev K k e).bind fun y => (putD x y d).noE.bind fun z => .ok (.nx (e.put i (.o z)))
  | _ => .bad
theorem x_puti (i : Nat) (k c : C) (e : En) : ex K (.puti i k c) e = (ev K c e).bind fun d => putS K e i k d (e.at i) := by
  show ((ev K c e).bind fun d => match e.at i with
    | .o x => (ev K k e).bind fun y => (putD x y d).noE.bind fun z => Res.ok (Fl.nx (e.put i (.o z)))
    | _ => .bad) = _
  exact congrArg _ (funext fun d => by unfold putS; cases e.at i <;> rfl)
theorem putS_o (e : En) (i : Nat) (k : C) (d x : D) : putS K e i k d (.o x) = (ev K k e).bind fun y => (putD x y d).noE.bind fun z => .ok (.nx (e.put i (.o z))) := rfl
def popS (e : En) (j i : Nat) : Sl → Res Fl
  | .o (.list xs) => match xs.getLast? with
    | some d => .ok (.nx ((e.put i (.o (.list xs.dropLast))).put j (.v d)))
    | none => .bad
  | _ => .bad
theorem x_pop (j i : Nat) (e : En) : ex K (.pop j i) e = popS e j i (e.at i) := by
  unfold popS
  show (match e.at i with
    | .o (.list xs) => match xs.getLast? with
      | some d => Res.ok (Fl.nx ((e.put i (.o (.list xs.dropLast))).put j (.v d)))
      | none => .bad
    | _ => .bad) = _
  split <;> rfl
theorem popS_l (e : En) (j i : Nat) (xs : List D) (d : D) : popS e j i (.o (.list (xs ++ [d]))) = .ok (.nx ((e.put i (.o (.list xs))).put j (.v d))) := by
  show (match (xs ++ [d]).getLast? with
    | some d' => Res.ok (Fl.nx ((e.put i (.o (.list (xs ++ [d]).dropLast))).put j (.v d')))
    | none => .bad) = _
  rw [List.getLast?_append, List.dropLast_concat]
  rfl
def extS (K : Nat → List D → Res D) (e : En) (i : Nat) (c : C) : Sl → Res Fl
  | .o (.list xs) => (ev K c e).bind fun d => (extD xs d).noE.bind fun z => .ok (.nx (e.put i (.o z)))
  | _ => .bad
theorem x_ext (i : Nat) (c : C) (e : En) : ex K (.ext i c) e = extS K e i c (e.at i) := by
  unfold extS
  show (match e.at i with
    | .o (.list xs) => (ev K c e).bind fun d => (extD xs d).noE.bind fun z => Res.ok (Fl.nx (e.put i (.o z)))
    | _ => .bad) = _
  split <;> rfl
theorem extS_l (e : En) (i : Nat) (c : C) (xs : List D) : extS K e i c (.o (.list xs)) = (ev K c e).bind fun d => (extD xs d).noE.bind fun z => .ok (.nx (e.put i (.o z))) := rfl
theorem idxl_0 (a : D) (l : List D) : idxD (.list (a :: l)) (.int 0) = .ok a := by
  show atL (a :: l) ((0 : Nat) : Int) = _
  rw [atL_nat (by simp)]
  rfl
theorem idxl_1 (a b : D) (l : List D) : idxD (.list (a :: b :: l)) (.int 1) = .ok b := by
  show atL (a :: b :: l) ((1 : Nat) : Int) = _
  rw [atL_nat (by simp)]
  rfl
theorem idxl_last (l : List D) (a : D) : idxD (.list (l ++ [a])) (.int (-1)) = .ok a := by
  show atL (l ++ [a]) (-1) = _
  unfold atL ixOf
  rw [if_neg (by omega), if_pos (by rw [List.length_append]; simp; omega), Option.bind_some]
  have : (-1 + ((l ++ [a]).length : Int)).toNat = l.length := by rw [List.length_append, List.length_cons, List.length_nil]; omega
  rw [this, List.getElem?_append_right (Nat.le_refl _), Nat.sub_self]
  rfl
theorem optI_t (r : Res D) : optI true r = .ok none := rfl
theorem optI_f (i : Int) : optI false (.ok (.int i)) = .ok (some i) := rfl
theorem slc_lst (xs : List D) (lo hi : Option Int) : slcD (.list xs) lo hi = .ok (.list (cutL xs lo hi)) := rfl
theorem slc_tpl (xs : List D) (lo hi : Option Int) : slcD (.tuple xs) lo hi = .ok (.tuple (cutL xs lo hi)) := rfl
theorem cutL_map {α β : Type} (f : α → β) (l : List α) (lo hi : Option Int) : cutL (l.map f) lo hi = (cutL l lo hi).map f := by
  unfold cutL
  simp only [List.length_map, List.map_take, List.map_drop]
theorem cutL_len {α : Type} (l : List α) (lo hi : Option Int) : (cutL l lo hi).length ≤ l.length := by
  unfold cutL
  rw [List.length_take, List.length_drop]
  omega
theorem ne_bool (a b : Bool) : cmD .ne (.bool a) (.bool b) = .ok (!decide (a = b)) := by cases a <;> cases b <;> rfl
theorem eq_bool (a b : Bool) : cmD .eq (.bool a) (.bool b) = .ok (decide (a = b)) := by cases a <;> cases b <;> rfl
theorem add_tup {a b : List D} (h : a.length + b.length ≤ lim) : opD .add (.tuple a) (.tuple b) = .ok (.tuple (a ++ b)) := if_pos h
theorem add_lst {a b : List D} (h : a.length + b.length ≤ lim) : opD .add (.list a) (.list b) = .ok (.list (a ++ b)) := if_pos h
theorem mod_ex (a : Int) {b : Int} (h : 0 < b) : ∃ m, opD .mod (.int a) (.int b) = .ok (.int m) ∧ 0 ≤ m ∧ m < b := ⟨a.fmod b, op_modI (by omega), (fmod_pos a h).1, (fmod_pos a h).2⟩
/-! ### what holds at the end of a text -/
def Wp (r : Res Fl) (Q : Fl → Prop) : Prop := ∃ w, r = .ok w ∧ Q w
theorem wp_ok {w : Fl} {Q : Fl → Prop} (h : Q w) : Wp (.ok w) Q := ⟨w, rfl, h⟩
theorem wp_iff {w : Fl} {Q : Fl → Prop} : Wp (.ok w) Q ↔ Q w := ⟨fun ⟨_, e, h⟩ => by injection e with e; rw [e]; exact h, wp_ok⟩
theorem wp_cond {z : Bool} {a b : Res Fl} {Q : Fl → Prop} (h1 : z = true → Wp a Q) (h2 : z = false → Wp b Q) : Wp (cond z a b) Q := by
  cases z with
  | true => exact h1 rfl
  | false => exact h2 rfl
theorem wp_rt {r : Res Fl} {d : D} (h : Wp r fun w => w = .rt d) : r = .ok (.rt d) := by
  obtain ⟨w, e, rfl⟩ := h
  exact e
theorem wp_mono {r : Res Fl} {P Q : Fl → Prop} (h : Wp r P) (k : ∀ w, P w → Q w) : Wp r Q := by
  obtain ⟨w, e, h⟩ := h
  exact ⟨w, e, k w h⟩
def bindX (K : Nat → List D → Res D) (b : C) : Res En → Res Fl
  | .ok e => ex K b e
  | .err c xs => .err c xs
  | .bad => .bad
theorem bindX_ok (b : C) (e : En) : bindX K b (.ok e) = ex K b e := rfl
theorem bindX_eq (b : C) (r : Res En) : (r.bind fun e2 => ex K b e2) = bindX K b r := by cases r <;> rfl
/-- behind a turn of a loop -/
def turnQ (K : Nat → List D → Res D) (rest : C) (I : En → Prop) (Q : Fl → Prop) : Fl → Prop
  | .nx e => I e
  | .ct e => I e
  | .bk e => Wp (ex K rest e) Q
  | .rt d => Q (.rt d)
theorem wp_forL {α : Type} {enc : α → D} {tg body rest : C} {Q : Fl → Prop} : ∀ (xs : List α) (I : Nat → En → Prop) {e : En}, I 0 e →
    (∀ (i : Nat) (h : i < xs.length) (e : En), I i e → Wp (bindX K body (bindT tg (enc xs[i]) e)) (turnQ K rest (I (i + 1)) Q)) →
    (∀ e, I xs.length e → Wp (ex K rest e) Q) → Wp (thenX K rest (forL (fun x e1 => (bindT tg x e1).bind fun e2 => ex K body e2) (xs.map enc) e)) Q
  | [], I, e, h0, _, ha => ha e h0
  | x :: r, I, e, h0, hs, ha => by
    obtain ⟨w, hw, hq⟩ := hs 0 (by simp) e h0
    have e1 : forL (fun x e1 => (bindT tg x e1).bind fun e2 => ex K body e2) ((x :: r).map enc) e = (Res.ok w).bind fun w => match w with
        | .nx e1 => forL (fun x e1 => (bindT tg x e1).bind fun e2 => ex K body e2) (r.map enc) e1
        | .ct e1 => forL (fun x e1 => (bindT tg x e1).bind fun e2 => ex K body e2) (r.map enc) e1
        | .bk e1 => .ok (.nx e1)
        | .rt d => .ok (.rt d) := by
      rw [← hw, ← bindX_eq]
      rfl
    rw [e1]
    cases w with
    | nx e2 => exact wp_forL r (fun i => I (i + 1)) hq (fun i h e hi => hs (i + 1) (by simpa using h) e hi) fun e he => ha e he
    | ct e2 => exact wp_forL r (fun i => I (i + 1)) hq (fun i h e hi => hs (i + 1) (by simpa using h) e hi) fun e he => ha e he
    | bk e2 => exact hq
    | rt d => exact ⟨_, rfl, hq⟩
/-- for tg in src: body -/
theorem wp_for {α : Type} {tg src body rest : C} {e : En} {Q : Fl → Prop} {s : D} (xs : List α) (enc : α → D) (I : Nat → En → Prop) (hs : ev K src e = .ok s) (hx : itemsD s = .ok (xs.map enc)) (h0 : I 0 e)
    (step : ∀ (i : Nat) (h : i < xs.length) (e : En), I i e → Wp (bindX K body (bindT tg (enc xs[i]) e)) (turnQ K rest (I (i + 1)) Q))
    (after : ∀ e, I xs.length e → Wp (ex K rest e) Q) : Wp (thenX K rest (ex K (.for_ tg src body) e)) Q := by
  rw [ex_for hs hx]
  exact wp_forL xs I h0 step after
/-- for i in range(n): body -/
theorem wp_range {i : Nat} {hi body rest : C} {e : En} {Q : Fl → Prop} (n : Nat) (I : Nat → En → Prop) (hs : ev K hi e = .ok (.int (n : Nat))) (hl : n ≤ 1000000) (h0 : I 0 e)
    (step : ∀ (j : Nat) (h : j < n) (e : En), I j e → Wp (ex K body (e.put i (.v (.int (j : Nat))))) (turnQ K rest (I (j + 1)) Q))
    (after : ∀ e, I n e → Wp (ex K rest e) Q) : Wp (thenX K rest (ex K (.for_ (.var i) (.rng (.dat (.int 0)) hi (.dat (.int 1))) body) e)) Q := by
  refine wp_for (List.range n) (fun (j : Nat) => PyData.int (j : Nat)) I (ev_rngN hs hl) rfl h0 (fun j h e hj => ?_) (fun e he => after e (by rwa [List.length_range] at he))
  rw [List.length_range] at h
  rw [List.getElem_range]
  exact step j h e hj
/-- for i in range(a, b): body -/
theorem wp_rangeI {i : Nat} {lo hi body rest : C} {e : En} {Q : Fl → Prop} (a b : Int) (I : Nat → En → Prop) (h1 : ev K lo e = .ok (.int a)) (h2 : ev K hi e = .ok (.int b)) (g : -1000000 ≤ a ∧ a ≤ 1000000 ∧ -1000000 ≤ b ∧ b ≤ 1000000 ∧ b - a ≤ 1000000) (h0 : I 0 e)
    (step : ∀ (j : Nat) (h : a + (j : Nat) < b) (e : En), I j e → Wp (ex K body (e.put i (.v (.int (a + (j : Nat)))))) (turnQ K rest (I (j + 1)) Q))
    (after : ∀ e, I (b - a).toNat e → Wp (ex K rest e) Q) : Wp (thenX K rest (ex K (.for_ (.var i) (.rng lo hi (.dat (.int 1))) body) e)) Q := by
  refine wp_for (irange a b) PyData.int I (ev_rngI h1 h2 g.1 g.2.1 g.2.2.1 g.2.2.2.1 g.2.2.2.2) rfl h0 (fun j h e hj => ?_) (fun e he => after e (by rwa [irange_length] at he))
  rw [irange_length] at h
  have : (irange a b)[j]'(by rw [irange_length]; exact h) = a + (j : Nat) := by simp [irange]
  rw [this]
  exact step j (by omega) e hj
theorem whl_step {t body : C} {n : Nat} {e : En} {b : Bool} {d : D} (ht : ev K t e = .ok d) (hb : truth d = b) : whlN (fun e1 => (ev K t e1).bind fun x => .ok (truth x)) (fun e1 => ex K body e1) (n + 1) e = cond b ((ex K body e).bind fun w => match w with
    | .nx e1 => whlN (fun e1 => (ev K t e1).bind fun x => .ok (truth x)) (fun e1 => ex K body e1) n e1
    | .ct e1 => whlN (fun e1 => (ev K t e1).bind fun x => .ok (truth x)) (fun e1 => ex K body e1) n e1
    | .bk e1 => .ok (.nx e1)
    | .rt d => .ok (.rt d)) (.ok (.nx e)) := by
  show ((ev K t e).bind fun x => Res.ok (truth x)).bind _ = _
  rw [ht]
  show (if truth d then _ else _) = _
  rw [hb]
  cases b <;> rfl
/-- while t: body; the measure m falls -/
theorem wp_while {t body rest : C} {Q : Fl → Prop} (I : Nat → En → Prop) : ∀ {m n : Nat} {e : En}, I m e → m < n →
    (∀ (m : Nat) (e : En), I m e → ∃ d, ev K t e = .ok d ∧ (truth d = true → 0 < m ∧ Wp (ex K body e) (turnQ K rest (fun e => ∃ m', m' < m ∧ I m' e) Q)) ∧ (truth d = false → Wp (ex K rest e) Q)) →
    Wp (thenX K rest (whlN (fun e1 => (ev K t e1).bind fun x => .ok (truth x)) (fun e1 => ex K body e1) n e)) Q
  | m, 0, e, _, h, _ => absurd h (by omega)
  | m, n + 1, e, hi, h, hs => by
    obtain ⟨d, h1, h2, h3⟩ := hs m e hi
    rw [whl_step h1 rfl]
    cases ht : truth d with
    | false => exact h3 ht
    | true =>
      obtain ⟨h0, w, hw, hq⟩ := h2 ht
      rw [hw]
      cases w with
      | nx e2 =>
        obtain ⟨m', g1, g2⟩ := hq
        exact wp_while I (n := n) g2 (by omega) hs
      | ct e2 =>
        obtain ⟨m', g1, g2⟩ := hq
        exact wp_while I (n := n) g2 (by omega) hs
      | bk e2 => exact hq
      | rt d => exact ⟨_, rfl, hq⟩
theorem wp_whl {t body rest : C} {Q : Fl → Prop} {e : En} (I : Nat → En → Prop) (m : Nat) (hm : m < 1000000) (h0 : I m e)
    (hs : ∀ (m : Nat) (e : En), I m e → ∃ d, ev K t e = .ok d ∧ (truth d = true → 0 < m ∧ Wp (ex K body e) (turnQ K rest (fun e => ∃ m', m' < m ∧ I m' e) Q)) ∧ (truth d = false → Wp (ex K rest e) Q)) :
    Wp (thenX K rest (ex K (.whl t body) e)) Q := wp_while I h0 hm hs
theorem len_tup (l : List D) : blD .len [.tuple l] = .ok (.int ((l.length : Nat) : Int)) := rfl
theorem len_lst (l : List D) : blD .len [.list l] = .ok (.int ((l.length : Nat) : Int)) := rfl
theorem max2I (a b : Int) : blD .max2 [.int a, .int b] = .ok (.int (max a b)) := by
  show Res.ok (PyData.int (if b > a then b else a)) = _
  exact congrArg (fun z => Res.ok (PyData.int z)) (by omega)
theorem min2I (a b : Int) : blD .min2 [.int a, .int b] = .ok (.int (min a b)) := by
  show Res.ok (PyData.int (if b < a then b else a)) = _
  exact congrArg (fun z => Res.ok (PyData.int z)) (by omega)
theorem tup_lst (l : List D) : blD .tuple [.list l] = .ok (.tuple l) := rfl
theorem tup_tup (l : List D) : blD .tuple [.tuple l] = .ok (.tuple l) := rfl
theorem lst_lst (l : List D) : blD .list [.list l] = .ok (.list l) := rfl
theorem lst_tup (l : List D) : blD .list [.tuple l] = .ok (.list l) := rfl
end
end SQ

/-! SqLay: layouts of blocks: arranged, transformed. -/
namespace SQ
open PySem C

theorem forP {α : Type} {f : D → En → Res Fl} (enc : α → D) (st : List α → En → Prop) {l : List α} {e : En} (h0 : st [] e) (hs : ∀ p a q e, l = p ++ a :: q → st p e → ∃ e', f (enc a) e = .ok (.nx e') ∧ st (p ++ [a]) e') : ∃ e', forL f (l.map enc) e = .ok (.nx e') ∧ st l e' := by
  have key : ∀ (q p : List α) (e : En), l = p ++ q → st p e → ∃ e', forL f (q.map enc) e = .ok (.nx e') ∧ st l e' := by
    intro q
    induction q with
    | nil => intro p e hl h; rw [List.append_nil] at hl; subst hl; exact ⟨e, rfl, h⟩
    | cons a q ih =>
      intro p e hl h
      obtain ⟨e1, h1, h2⟩ := hs p a q e hl h
      obtain ⟨e2, h3, h4⟩ := ih (p ++ [a]) e1 (by rw [hl, List.append_assoc]; rfl) h2
      refine ⟨e2, ?_, h4⟩
      rw [List.map_cons]
      show (f (enc a) e).bind _ = _
      rw [h1]
      exact h3
  exact key l [] e rfl h0

abbrev Lay := List (List (Nat × Nat))
def encE (e : Nat × Nat) : D := .tuple [.int (e.1 : Int), .int (e.2 : Int)]
def encLay (L : Lay) : D := encR (L.map (·.map encE))
def encB (bs : List (List (List Cell))) : D := .tuple (bs.map encP)
def encRow (r : List Cell) : D := .tuple (r.map encC)
def blkAt (bs : List (List (List Cell))) (e : Nat × Nat) : List (List Cell) := trP (bs.getD e.1 []) e.2
def rowK (bs : List (List (List Cell))) (row : List (Nat × Nat)) (k : Nat) : List Cell := row.flatMap fun e => (blkAt bs e).getD k []
def arrRow (bs : List (List (List Cell))) (m : Nat) (row : List (Nat × Nat)) : List (List Cell) := (List.range m).map (rowK bs row)
def arr (bs : List (List (List Cell))) (m : Nat) (L : Lay) : List (List Cell) := L.flatMap (arrRow bs m)

/-- blocks: squares of m rows; a layout of them -/
structure LayOk (bs : List (List (List Cell))) (m : Nat) (L : Lay) : Prop where
  m0 : 0 < m
  m10 : m ≤ 10
  sq : ∀ b ∈ bs, Rect m m b
  ne : bs ≠ []
  box : Box 10 L
  ix : ∀ r ∈ L, ∀ e ∈ r, e.1 < bs.length

theorem encP_rows (p : List (List Cell)) : encP p = .tuple (p.map encRow) := by
  unfold encP encR encRow
  rw [List.map_map]
  rfl
theorem idx_encP {p : List (List Cell)} {k : Nat} (h : k < p.length) : idxD (encP p) (.int (k : Int)) = .ok (encRow (p.getD k [])) := by
  rw [encP_rows]
  show atL (p.map encRow) (k : Int) = _
  rw [atL_nat (by rw [List.length_map]; exact h)]
  simp [List.getD_eq_getElem?_getD, h]
theorem idx_encB {bs : List (List (List Cell))} {k : Nat} (h : k < bs.length) : idxD (encB bs) (.int (k : Int)) = .ok (encP (bs.getD k [])) := by
  show atL (bs.map encP) (k : Int) = _
  rw [atL_nat (by rw [List.length_map]; exact h)]
  simp [List.getD_eq_getElem?_getD, h]

section
variable {bs : List (List (List Cell))} {m : Nat} {L : Lay}
theorem LayOk.blk (o : LayOk bs m L) {e : Nat × Nat} (h : e.1 < bs.length) : Rect m m (bs.getD e.1 []) := by
  rw [List.getD_eq_getElem?_getD, List.getElem?_eq_getElem h]
  exact o.sq _ (List.getElem_mem h)
theorem rect_iter {h : Nat} (hh : 0 < h) {α : Type} {rows : List (List α)} (r : Rect h h rows) : ∀ n, Rect h h (iter n turnR rows)
  | 0 => r
  | n + 1 => (rect_iter hh r n).turn hh
theorem rect_tr {p : List (List Cell)} (hm : 0 < m) (r : Rect m m p) (s : Nat) : Rect m m (trP p s) := by
  unfold trP movedR
  refine Rect.map (rect_iter hm ?_ _) _
  split
  · exact r.rev
  · exact r
theorem LayOk.at (o : LayOk bs m L) {e : Nat × Nat} (h : e.1 < bs.length) : Rect m m (blkAt bs e) := rect_tr o.m0 (o.blk h) _
theorem LayOk.bbox (o : LayOk bs m L) {e : Nat × Nat} (h : e.1 < bs.length) : Box 10 (bs.getD e.1 []) := ⟨m, m, o.blk h, o.m0, o.m0, o.m10, o.m10⟩

/-! ### what is reckoned -/
def arrangedB (bad : C) (t : Nat) : C := .seq (.set 2 (.blt .len (.cons (.idx (.var 0) (.dat (.int 0))) .nil)))
      (.seq (.iff (.or (.cmp .gt (.bin .mul (.blt .len (.cons (.var 1) .nil)) (.var 2)) (.con "SIDE" (.int 10))) (.cmp .gt (.bin .mul (.blt .len (.cons (.idx (.var 1) (.dat (.int 0))) .nil)) (.var 2)) (.con "SIDE" (.int 10)))) (.seq bad
      .skip) .skip)
      (.seq (.seto 3 (.lst .nil))
      (.seq (.for_ (.var 4) (.var 1) (.seq (.set 5 (.cmp1 (.tup (.cons (.var 9) (.cons (.var 10) .nil))) (.var 4) (.call t (.cons (.idx (.var 0) (.var 9)) (.cons (.var 10) .nil))) .na))
      (.seq (.for_ (.var 6) (.rng (.dat (.int 0)) (.var 2) (.dat (.int 1))) (.seq (.seto 7 (.lst .nil))
      (.seq (.for_ (.var 8) (.var 5) (.seq (.ext 7 (.idx (.var 8) (.var 6)))
      .skip))
      (.seq (.app 3 (.blt .tuple (.cons (.wv 7) .nil)))
      .skip))))
      .skip)))
      (.seq (.ret (.blt .tuple (.cons (.wv 3) .nil)))
      .skip))))
variable {K : Nat → List D → Res D}
theorem len_row {bs : List (List (List Cell))} {m k : Nat} (hk : k < m) : ∀ {row : List (Nat × Nat)}, (∀ e ∈ row, Rect m m (blkAt bs e)) → (rowK bs row k).length = row.length * m
  | [], _ => by simp [rowK]
  | e :: r, h => by
    have ih := len_row hk (row := r) fun x hx => h x (List.mem_cons_of_mem _ hx)
    have h1 := h e List.mem_cons_self
    have hk' : k < (blkAt bs e).length := by rw [h1.1]; exact hk
    have h2 : ((blkAt bs e).getD k []).length = m := by
      rw [List.getD_eq_getElem?_getD, List.getElem?_eq_getElem hk']
      exact h1.2 _ (List.getElem_mem _)
    unfold rowK at ih ⊢
    rw [List.flatMap_cons, List.length_append, ih, h2, List.length_cons, Nat.succ_mul, Nat.add_comm]
theorem ext_loop (k : Nat) (hk : k < m) (row : List (Nat × Nat)) (h : ∀ e ∈ row, Rect m m (blkAt bs e)) (hr : row.length ≤ 100) (hm : m ≤ 100) (s0 s1 s2 s3 s4 s5 s8 s9 s10 : Sl) :
    ∃ s8', forL (fun x e1 => (bindT (.var 8) x e1).bind fun e2 => ex K (.seq (.ext 7 (.idx (.var 8) (.var 6))) .skip) e2) (row.map fun e => encP (blkAt bs e)) [s0, s1, s2, s3, s4, s5, .v (.int (k : Int)), .o (.list []), s8, s9, s10] = .ok (.nx [s0, s1, s2, s3, s4, s5, .v (.int (k : Int)), .o (.list ((rowK bs row k).map encC)), s8', s9, s10]) := by
  have l1 : lim = 1000000 := rfl
  obtain ⟨e', g, s8', rfl⟩ := forP (fun e => encP (blkAt bs e)) (fun pre e => ∃ s8, e = [s0, s1, s2, s3, s4, s5, .v (.int (k : Int)), .o (.list ((rowK bs pre k).map encC)), s8, s9, s10]) (l := row) (e := [s0, s1, s2, s3, s4, s5, .v (.int (k : Int)), .o (.list []), s8, s9, s10])
    (f := fun x e1 => (bindT (.var 8) x e1).bind fun e2 => ex K (.seq (.ext 7 (.idx (.var 8) (.var 6))) .skip) e2) ⟨s8, rfl⟩ (fun p a q e hl hi => by
      obtain ⟨s8, rfl⟩ := hi
      refine ⟨_, ?_, .v (encP (blkAt bs a)), rfl⟩
      have ha := h a (by rw [hl]; simp)
      have hi := idx_encP (p := blkAt bs a) (k := k) (by rw [ha.1]; exact hk)
      have h1 := len_row hk (row := p) fun e he => h e (by rw [hl]; exact List.mem_append_left _ he)
      have h2 := len_row hk (row := p ++ [a]) fun e he => h e (by rw [hl]; exact List.mem_append.mpr ((List.mem_append.mp he).imp id fun z => by rw [List.mem_singleton.mp z]; exact List.mem_cons_self))
      have e1 : rowK bs (p ++ [a]) k = rowK bs p k ++ (blkAt bs a).getD k [] := by simp [rowK]
      have hpl : (p ++ [a]).length ≤ 100 := by rw [hl] at hr; simp at hr ⊢; omega
      have hb : (p ++ [a]).length * m ≤ 100 * 100 := Nat.mul_le_mul hpl hm
      have hx : extD ((rowK bs p k).map encC) (encRow ((blkAt bs a).getD k [])) = .ok (.list ((rowK bs (p ++ [a]) k).map encC)) := by
        show (if ((rowK bs p k).map encC).length + (((blkAt bs a).getD k []).map encC).length ≤ lim then Res.ok (PyData.list ((rowK bs p k).map encC ++ ((blkAt bs a).getD k []).map encC)) else .bad) = _
        rw [e1, List.map_append, if_pos]
        rw [e1, List.length_append] at h2
        rw [List.length_map, List.length_map]
        omega
      simp only [ex, ev, En.at, En.put, Sl.strict, Sl.weak, Sl.froz, En.frz, En.wip, bindT, slots, List.nil_append, List.cons_append, asL, Res.ok_bind, Res.noE_ok, hi, hx])
  exact ⟨s8', g⟩
theorem len_acc {xs : List D} : (if xs.length < lim then (Res.ok xs : Res (List D)) else .bad) = (if xs.length < lim then Res.ok xs else .bad) := rfl
def midB : C := .seq (.seto 7 (.lst .nil)) (.seq (.for_ (.var 8) (.var 5) (.seq (.ext 7 (.idx (.var 8) (.var 6))) .skip)) (.seq (.app 3 (.blt .tuple (.cons (.wv 7) .nil))) .skip))
theorem mid_loop (row : List (Nat × Nat)) (h : ∀ e ∈ row, Rect m m (blkAt bs e)) (hr : row.length ≤ 100) (hm : m ≤ 100) (R : List D) (hR : R.length ≤ 10000) (s0 s1 s2 s4 s6 s7 s8 s9 s10 : Sl) :
    ∃ s6' s7' s8', forL (fun x e1 => (bindT (.var 6) x e1).bind fun e2 => ex K midB e2) ((List.range m).map fun (k : Nat) => PyData.int k) [s0, s1, s2, .o (.list R), s4, .v (.list (row.map fun e => encP (blkAt bs e))), s6, s7, s8, s9, s10] =
      .ok (.nx [s0, s1, s2, .o (.list (R ++ (arrRow bs m row).map encRow)), s4, .v (.list (row.map fun e => encP (blkAt bs e))), s6', s7', s8', s9, s10]) := by
  have l1 : lim = 1000000 := rfl
  obtain ⟨e', g, s6', s7', s8', rfl⟩ := forP (fun (k : Nat) => PyData.int k) (fun pre e => ∃ s6 s7 s8, e = [s0, s1, s2, .o (.list (R ++ (pre.map (rowK bs row)).map encRow)), s4, .v (.list (row.map fun e => encP (blkAt bs e))), s6, s7, s8, s9, s10]) (l := List.range m)
    (e := [s0, s1, s2, .o (.list R), s4, .v (.list (row.map fun e => encP (blkAt bs e))), s6, s7, s8, s9, s10]) (f := fun x e1 => (bindT (.var 6) x e1).bind fun e2 => ex K midB e2) ⟨s6, s7, s8, by simp⟩ (fun p k q e hl hi => by
      obtain ⟨s6, s7, s8, rfl⟩ := hi
      have hk : k < m := List.mem_range.mp (by rw [hl]; simp)
      have hp : p.length ≤ 100 := by
        have := congrArg List.length hl
        simp at this
        omega
      obtain ⟨s8', g⟩ := ext_loop (K := K) k hk row h hr hm s0 s1 s2 (.o (.list (R ++ (p.map (rowK bs row)).map encRow))) s4 (.v (.list (row.map fun e => encP (blkAt bs e)))) s8 s9 s10
      refine ⟨[s0, s1, s2, .o (.list (R ++ ((p ++ [k]).map (rowK bs row)).map encRow)), s4, .v (.list (row.map fun e => encP (blkAt bs e))), .v (.int (k : Int)), .o (.list ((rowK bs row k).map encC)), s8', s9, s10], ?_, _, _, _, rfl⟩
      show ex K midB [s0, s1, s2, .o (.list (R ++ (p.map (rowK bs row)).map encRow)), s4, .v (.list (row.map fun e => encP (blkAt bs e))), .v (.int (k : Int)), s7, s8, s9, s10] = _
      unfold midB
      rw [ex_seq (e1 := [s0, s1, s2, .o (.list (R ++ (p.map (rowK bs row)).map encRow)), s4, .v (.list (row.map fun e => encP (blkAt bs e))), .v (.int (k : Int)), .o (.list []), s8, s9, s10]) rfl]
      rw [ex_seq ((ex_for (s := .list (row.map fun e => encP (blkAt bs e))) rfl rfl).trans g)]
      have ht : blD .tuple [.list ((rowK bs row k).map encC)] = .ok (encRow (rowK bs row k)) := rfl
      have hlen : (R ++ (p.map (rowK bs row)).map encRow).length < lim := by simp; omega
      simp only [ex, ev, En.at, En.put, Sl.strict, Sl.weak, Sl.froz, En.frz, En.wip, bindT, slots, List.nil_append, List.cons_append, asL, Res.ok_bind, Res.noE_ok, ht, hlen, if_true]
      simp)
  exact ⟨s6', s7', s8', by rw [g]; rfl⟩
theorem arr_append (bs : List (List (List Cell))) (m : Nat) (L L' : Lay) : arr bs m (L ++ L') = arr bs m L ++ arr bs m L' := by simp [arr]
theorem arr_one (bs : List (List (List Cell))) (m : Nat) (r : List (Nat × Nat)) : arr bs m [r] = arrRow bs m r := by simp [arr]
theorem arr_len (bs : List (List (List Cell))) (m : Nat) (L : Lay) : (arr bs m L).length = L.length * m := by
  induction L with
  | nil => simp [arr]
  | cons r L ih =>
    rw [show r :: L = [r] ++ L from rfl, arr_append, List.length_append, ih, arr_one]
    simp [arrRow, Nat.succ_mul, Nat.add_comm]
theorem gt_ten (n m : Nat) : cmD .gt (.int ((n : Int) * (m : Int))) (.int 10) = .ok (decide ((10 : Int) < (n : Int) * (m : Int))) := cm_gtI _ _
theorem LayOk.row (o : LayOk bs m L) {r : List (Nat × Nat)} (hr : r ∈ L) : (∀ e ∈ r, Rect m m (blkAt bs e)) ∧ r.length ≤ 10 := by
  refine ⟨fun e he => o.at (o.ix r hr e he), ?_⟩
  obtain ⟨x, y, q, a, b, c, d⟩ := o.box
  rw [q.2 r hr]
  exact d
theorem encLay_rows (L : Lay) : encLay L = .tuple (L.map fun r => .tuple (r.map encE)) := by
  unfold encLay encR
  rw [List.map_map]
  rfl
theorem mulD (a b : Nat) (h : b < 1000) : opD .mul (.int (a : Int)) (.int (b : Int)) = .ok (.int ((a : Int) * (b : Int))) := by
  show (if (small64 (a : Int) || small64 (b : Int)) = true then Res.ok (PyData.int ((a : Int) * (b : Int))) else .bad) = _
  rw [if_pos]
  rw [Bool.or_eq_true]
  exact .inr (decide_eq_true ⟨by omega, by omega⟩)
theorem arranged_run {bad : C} {t : Nat} (ht : ∀ (p : List (List Cell)) (s : Nat), Box 10 p → K t [encP p, .int (s : Int)] = .ok (encP (trP p s))) (o : LayOk bs m L) (h1 : L.length * m ≤ 10) (h2 : (L.headD []).length * m ≤ 10) (s2 s3 s4 s5 s6 s7 s8 s9 s10 : Sl) :
    ex K (arrangedB bad t) [.v (encB bs), .v (encLay L), s2, s3, s4, s5, s6, s7, s8, s9, s10] = .ok (.rt (encP (arr bs m L))) := by
  have l1 : lim = 1000000 := rfl
  have b0 : 0 < bs.length := List.length_pos_iff.mpr o.ne
  have i0 : idxD (encB bs) (.int 0) = .ok (encP (bs.getD 0 [])) := idx_encB (k := 0) b0
  have l0 : lenD (encP (bs.getD 0 [])) = .ok (.int (m : Int)) := by
    rw [len_encP, (o.blk (e := (0, 0)) b0).1]
  have lL : lenD (encLay L) = .ok (.int (L.length : Int)) := by
    rw [encLay_rows]
    show Res.ok (PyData.int ((L.map _).length : Nat)) = _
    rw [List.length_map]
  have hd : idxD (encLay L) (.int 0) = .ok (.tuple ((L.headD []).map encE)) := by
    have := head_idx (rows := L.map (·.map encE)) (o.box.map encE).ne
    rw [show encLay L = encR (L.map (·.map encE)) from rfl, this]
    have hne := o.box.ne
    cases L with
    | nil => exact absurd rfl hne
    | cons a r => rfl
  have lw : lenD (.tuple ((L.headD []).map encE)) = .ok (.int ((L.headD []).length : Int)) := by
    show Res.ok (PyData.int (((L.headD []).map encE).length : Nat)) = _
    rw [List.length_map]
  have m1 : opD .mul (.int (L.length : Int)) (.int (m : Int)) = .ok (.int ((L.length : Int) * (m : Int))) := mulD _ _ (by have := o.m10; omega)
  have m2 : opD .mul (.int ((L.headD []).length : Int)) (.int (m : Int)) = .ok (.int (((L.headD []).length : Int) * (m : Int))) := mulD _ _ (by have := o.m10; omega)
  have g1 : decide ((10 : Int) < (L.length : Int) * (m : Int)) = false := decide_eq_false (by
    have : ((L.length * m : Nat) : Int) ≤ 10 := by exact_mod_cast h1
    rw [Int.natCast_mul] at this
    omega)
  have g2 : decide ((10 : Int) < ((L.headD []).length : Int) * (m : Int)) = false := decide_eq_false (by
    have : (((L.headD []).length * m : Nat) : Int) ≤ 10 := by exact_mod_cast h2
    rw [Int.natCast_mul] at this
    omega)
  have tf : truth (.bool false) = false := rfl
  have e1 : blD .len [encP (bs.getD 0 [])] = .ok (.int (m : Int)) := l0
  have e2 : blD .len [encLay L] = .ok (.int (L.length : Int)) := lL
  have e3 : blD .len [.tuple ((L.headD []).map encE)] = .ok (.int ((L.headD []).length : Int)) := lw
  unfold arrangedB
  rw [ex_seq (e1 := [.v (encB bs), .v (encLay L), .v (.int (m : Int)), s3, s4, s5, s6, s7, s8, s9, s10]) (by simp only [ex, ev, En.at, En.put, Sl.strict, Sl.weak, Sl.froz, En.frz, En.wip, bindT, slots, List.nil_append, List.cons_append, asL, Res.ok_bind, Res.noE_ok, i0, e1])]
  rw [ex_seq (e1 := [.v (encB bs), .v (encLay L), .v (.int (m : Int)), s3, s4, s5, s6, s7, s8, s9, s10]) (by
    refine (ex_iffF (d := .bool false) ?_ rfl).trans rfl
    have c1 : ev K (.cmp .gt (.bin .mul (.blt .len (.cons (.var 1) .nil)) (.var 2)) (.con "SIDE" (.int 10))) [.v (encB bs), .v (encLay L), .v (.int (m : Int)), s3, s4, s5, s6, s7, s8, s9, s10] = .ok (.bool false) := by
      rw [← g1]
      exact ev_cmp (ev_bin (ev_blt (ev_one rfl) e2) rfl m1) rfl (gt_ten _ _)
    have c2 : ev K (.cmp .gt (.bin .mul (.blt .len (.cons (.idx (.var 1) (.dat (.int 0))) .nil)) (.var 2)) (.con "SIDE" (.int 10))) [.v (encB bs), .v (encLay L), .v (.int (m : Int)), s3, s4, s5, s6, s7, s8, s9, s10] = .ok (.bool false) := by
      rw [← g2]
      exact ev_cmp (ev_bin (ev_blt (ev_one (ev_idx rfl rfl hd)) e3) rfl m2) rfl (gt_ten _ _)
    exact (ev_orF c1 rfl).trans c2)]
  rw [ex_seq (e1 := [.v (encB bs), .v (encLay L), .v (.int (m : Int)), .o (.list []), s4, s5, s6, s7, s8, s9, s10]) rfl]
  obtain ⟨e', g, s4', s5', s6', s7', s8', rfl⟩ := forP (fun (r : List (Nat × Nat)) => PyData.tuple (r.map encE)) (fun pre e => ∃ s4 s5 s6 s7 s8, e = [.v (encB bs), .v (encLay L), .v (.int (m : Int)), .o (.list ((arr bs m pre).map encRow)), s4, s5, s6, s7, s8, s9, s10]) (l := L)
    (e := [.v (encB bs), .v (encLay L), .v (.int (m : Int)), .o (.list []), s4, s5, s6, s7, s8, s9, s10])
    (f := fun x e1 => (bindT (.var 4) x e1).bind fun e2 => ex K (.seq (.set 5 (.cmp1 (.tup (.cons (.var 9) (.cons (.var 10) .nil))) (.var 4) (.call t (.cons (.idx (.var 0) (.var 9)) (.cons (.var 10) .nil))) .na)) (.seq (.for_ (.var 6) (.rng (.dat (.int 0)) (.var 2) (.dat (.int 1))) midB) .skip)) e2)
    ⟨s4, s5, s6, s7, s8, rfl⟩ (fun p r q e hl hi => by
      obtain ⟨s4, s5, s6, s7, s8, rfl⟩ := hi
      have hr : r ∈ L := by rw [hl]; simp
      obtain ⟨rr, rl⟩ := o.row hr
      have hm := o.m10
      have hpl : p.length * m ≤ 100 := by
        have : p.length ≤ L.length := by rw [hl]; simp
        have := Nat.mul_le_mul_right m this
        omega
      obtain ⟨s6', s7', s8', g⟩ := mid_loop (K := K) r rr (by omega) (by omega) ((arr bs m p).map encRow) (by rw [List.length_map, arr_len]; omega) (.v (encB bs)) (.v (encLay L)) (.v (.int (m : Int))) (.v (.tuple (r.map encE))) s6 s7 s8 s9 s10
      refine ⟨[.v (encB bs), .v (encLay L), .v (.int (m : Int)), .o (.list ((arr bs m (p ++ [r])).map encRow)), .v (.tuple (r.map encE)), .v (.list (r.map fun e => encP (blkAt bs e))), s6', s7', s8', s9, s10], ?_, _, _, _, _, _, rfl⟩
      show ex K _ [.v (encB bs), .v (encLay L), .v (.int (m : Int)), .o (.list ((arr bs m p).map encRow)), .v (.tuple (r.map encE)), s5, s6, s7, s8, s9, s10] = _
      have hc : ev K (.cmp1 (.tup (.cons (.var 9) (.cons (.var 10) .nil))) (.var 4) (.call t (.cons (.idx (.var 0) (.var 9)) (.cons (.var 10) .nil))) .na) [.v (encB bs), .v (encLay L), .v (.int (m : Int)), .o (.list ((arr bs m p).map encRow)), .v (.tuple (r.map encE)), s5, s6, s7, s8, s9, s10] = .ok (.list (r.map fun e => encP (blkAt bs e))) := by
        refine ev_cmpT r encE (fun e => encP (blkAt bs e)) (s := .tuple (r.map encE)) rfl rfl fun e he => ⟨_, rfl, ?_⟩
        have hx := o.ix r hr e he
        refine ev_call (ev_cons (ev_idx (x := encB bs) (y := .int (e.1 : Int)) rfl rfl (idx_encB hx)) (ev_one (x := .int (e.2 : Int)) rfl)) (ht _ _ (o.bbox hx))
      rw [ex_seq (ex_set hc)]
      refine (ex_seq ((ex_for (s := .list (iR m)) (ev_rngN (n := m) rfl (by omega)) rfl).trans g)).trans ?_
      rw [arr_append, arr_one, List.map_append]
      rfl)
  have src : ev K (.var 1) [.v (encB bs), .v (encLay L), .v (.int (m : Int)), .o (.list []), s4, s5, s6, s7, s8, s9, s10] = .ok (.tuple (L.map fun r => .tuple (r.map encE))) := by
    rw [← encLay_rows]; rfl
  refine (ex_seq ((ex_for src rfl).trans g)).trans ?_
  have hb : blD .tuple [.list ((arr bs m L).map encRow)] = .ok (encP (arr bs m L)) := by
    rw [encP_rows]; rfl
  simp only [ex, ev, En.at, En.put, Sl.strict, Sl.weak, Sl.froz, En.frz, En.wip, bindT, slots, List.nil_append, List.cons_append, asL, Res.ok_bind, Res.noE_ok, hb]
/-! ### _law_arranged -/
theorem sum_loop (k : Nat) (hk : k < m) (row : List (Nat × Nat)) (h : ∀ e ∈ row, Rect m m (blkAt bs e)) (hr : row.length ≤ 100) (hm : m ≤ 100) (s0 s1 s2 s3 s4 s7 s8 s9 : Sl) :
    ∃ s7', forL (fun x e1 => (bindT (.var 7) x e1).bind fun e2 => ex K (.seq (.set 6 (.bin .add (.var 6) (.idx (.var 7) (.var 5)))) .skip) e2) (row.map fun e => encP (blkAt bs e)) [s0, s1, s2, s3, s4, .v (.int (k : Int)), .v (.tuple []), s7, s8, s9] = .ok (.nx [s0, s1, s2, s3, s4, .v (.int (k : Int)), .v (encRow (rowK bs row k)), s7', s8, s9]) := by
  have l1 : lim = 1000000 := rfl
  obtain ⟨e', g, s7', rfl⟩ := forP (fun e => encP (blkAt bs e)) (fun pre e => ∃ s7, e = [s0, s1, s2, s3, s4, .v (.int (k : Int)), .v (encRow (rowK bs pre k)), s7, s8, s9]) (l := row) (e := [s0, s1, s2, s3, s4, .v (.int (k : Int)), .v (.tuple []), s7, s8, s9])
    (f := fun x e1 => (bindT (.var 7) x e1).bind fun e2 => ex K (.seq (.set 6 (.bin .add (.var 6) (.idx (.var 7) (.var 5)))) .skip) e2) ⟨s7, rfl⟩ (fun p a q e hl hi => by
      obtain ⟨s7, rfl⟩ := hi
      refine ⟨_, ?_, .v (encP (blkAt bs a)), rfl⟩
      have ha := h a (by rw [hl]; simp)
      have hi := idx_encP (p := blkAt bs a) (k := k) (by rw [ha.1]; exact hk)
      have h2 := len_row hk (row := p ++ [a]) fun e he => h e (by rw [hl]; exact List.mem_append.mpr ((List.mem_append.mp he).imp id fun z => by rw [List.mem_singleton.mp z]; exact List.mem_cons_self))
      have e1 : rowK bs (p ++ [a]) k = rowK bs p k ++ (blkAt bs a).getD k [] := by simp [rowK]
      have hpl : (p ++ [a]).length ≤ 100 := by rw [hl] at hr; simp at hr ⊢; omega
      have hb : (p ++ [a]).length * m ≤ 100 * 100 := Nat.mul_le_mul hpl hm
      have hx : opD .add (encRow (rowK bs p k)) (encRow ((blkAt bs a).getD k [])) = .ok (encRow (rowK bs (p ++ [a]) k)) := by
        show (if ((rowK bs p k).map encC).length + (((blkAt bs a).getD k []).map encC).length ≤ lim then Res.ok (PyData.tuple ((rowK bs p k).map encC ++ ((blkAt bs a).getD k []).map encC)) else .bad) = _
        rw [e1, if_pos]
        · unfold encRow; rw [List.map_append]
        rw [e1, List.length_append] at h2
        rw [List.length_map, List.length_map]
        omega
      simp only [ex, ev, En.at, En.put, Sl.strict, Sl.weak, Sl.froz, En.frz, En.wip, bindT, slots, List.nil_append, List.cons_append, asL, Res.ok_bind, Res.noE_ok, hi, hx])
  exact ⟨s7', g⟩
def midL : C := .seq (.set 6 (.tup .nil)) (.seq (.for_ (.var 7) (.var 4) (.seq (.set 6 (.bin .add (.var 6) (.idx (.var 7) (.var 5)))) .skip)) (.seq (.app 2 (.var 6)) .skip))
theorem midL_loop (row : List (Nat × Nat)) (h : ∀ e ∈ row, Rect m m (blkAt bs e)) (hr : row.length ≤ 100) (hm : m ≤ 100) (R : List D) (hR : R.length ≤ 10000) (s0 s1 s3 s5 s6 s7 s8 s9 : Sl) :
    ∃ s5' s6' s7', forL (fun x e1 => (bindT (.var 5) x e1).bind fun e2 => ex K midL e2) ((List.range m).map fun (k : Nat) => PyData.int k) [s0, s1, .o (.list R), s3, .v (.list (row.map fun e => encP (blkAt bs e))), s5, s6, s7, s8, s9] =
      .ok (.nx [s0, s1, .o (.list (R ++ (arrRow bs m row).map encRow)), s3, .v (.list (row.map fun e => encP (blkAt bs e))), s5', s6', s7', s8, s9]) := by
  have l1 : lim = 1000000 := rfl
  obtain ⟨e', g, s5', s6', s7', rfl⟩ := forP (fun (k : Nat) => PyData.int k) (fun pre e => ∃ s5 s6 s7, e = [s0, s1, .o (.list (R ++ (pre.map (rowK bs row)).map encRow)), s3, .v (.list (row.map fun e => encP (blkAt bs e))), s5, s6, s7, s8, s9]) (l := List.range m)
    (e := [s0, s1, .o (.list R), s3, .v (.list (row.map fun e => encP (blkAt bs e))), s5, s6, s7, s8, s9]) (f := fun x e1 => (bindT (.var 5) x e1).bind fun e2 => ex K midL e2) ⟨s5, s6, s7, by simp⟩ (fun p k q e hl hi => by
      obtain ⟨s5, s6, s7, rfl⟩ := hi
      have hk : k < m := List.mem_range.mp (by rw [hl]; simp)
      have hp : p.length ≤ 100 := by
        have := congrArg List.length hl
        simp at this
        omega
      obtain ⟨s7', g⟩ := sum_loop (K := K) k hk row h hr hm s0 s1 (.o (.list (R ++ (p.map (rowK bs row)).map encRow))) s3 (.v (.list (row.map fun e => encP (blkAt bs e)))) s7 s8 s9
      refine ⟨[s0, s1, .o (.list (R ++ ((p ++ [k]).map (rowK bs row)).map encRow)), s3, .v (.list (row.map fun e => encP (blkAt bs e))), .v (.int (k : Int)), .v (encRow (rowK bs row k)), s7', s8, s9], ?_, _, _, _, rfl⟩
      show ex K midL [s0, s1, .o (.list (R ++ (p.map (rowK bs row)).map encRow)), s3, .v (.list (row.map fun e => encP (blkAt bs e))), .v (.int (k : Int)), s6, s7, s8, s9] = _
      unfold midL
      rw [ex_seq (e1 := [s0, s1, .o (.list (R ++ (p.map (rowK bs row)).map encRow)), s3, .v (.list (row.map fun e => encP (blkAt bs e))), .v (.int (k : Int)), .v (.tuple []), s7, s8, s9]) rfl]
      rw [ex_seq ((ex_for (s := .list (row.map fun e => encP (blkAt bs e))) rfl rfl).trans g)]
      have hlen : (R ++ (p.map (rowK bs row)).map encRow).length < lim := by simp; omega
      simp only [ex, ev, En.at, En.put, Sl.strict, Sl.weak, Sl.froz, En.frz, En.wip, bindT, slots, List.nil_append, List.cons_append, asL, Res.ok_bind, Res.noE_ok, hlen, if_true]
      simp)
  exact ⟨s5', s6', s7', by rw [g]; rfl⟩
def lawArrangedB (t : Nat) : C := .seq (.seto 2 (.lst .nil))
      (.seq (.for_ (.var 3) (.var 1) (.seq (.set 4 (.cmp1 (.tup (.cons (.var 8) (.cons (.var 9) .nil))) (.var 3) (.call t (.cons (.idx (.var 0) (.var 8)) (.cons (.var 9) .nil))) .na))
      (.seq (.for_ (.var 5) (.rng (.dat (.int 0)) (.blt .len (.cons (.idx (.var 0) (.dat (.int 0))) .nil)) (.dat (.int 1))) (.seq (.set 6 (.tup .nil))
      (.seq (.for_ (.var 7) (.var 4) (.seq (.set 6 (.bin .add (.var 6) (.idx (.var 7) (.var 5))))
      .skip))
      (.seq (.app 2 (.var 6))
      .skip))))
      .skip)))
      (.seq (.ret (.blt .tuple (.cons (.wv 2) .nil)))
      .skip))
theorem lawArranged_run {t : Nat} (ht : ∀ (p : List (List Cell)) (s : Nat), Box 10 p → K t [encP p, .int (s : Int)] = .ok (encP (trP p s))) (o : LayOk bs m L) (s2 s3 s4 s5 s6 s7 s8 s9 : Sl) :
    ex K (lawArrangedB t) [.v (encB bs), .v (encLay L), s2, s3, s4, s5, s6, s7, s8, s9] = .ok (.rt (encP (arr bs m L))) := by
  have l1 : lim = 1000000 := rfl
  have b0 : 0 < bs.length := List.length_pos_iff.mpr o.ne
  have i0 : idxD (encB bs) (.int 0) = .ok (encP (bs.getD 0 [])) := idx_encB (k := 0) b0
  have l0' : lenD (encP (bs.getD 0 [])) = .ok (.int (m : Int)) := by
    rw [len_encP, (o.blk (e := (0, 0)) b0).1]
  have l0 : blD .len [encP (bs.getD 0 [])] = .ok (.int (m : Int)) := l0'
  unfold lawArrangedB
  rw [ex_seq (e1 := [.v (encB bs), .v (encLay L), .o (.list []), s3, s4, s5, s6, s7, s8, s9]) rfl]
  obtain ⟨e', g, s3', s4', s5', s6', s7', rfl⟩ := forP (fun (r : List (Nat × Nat)) => PyData.tuple (r.map encE)) (fun pre e => ∃ s3 s4 s5 s6 s7, e = [.v (encB bs), .v (encLay L), .o (.list ((arr bs m pre).map encRow)), s3, s4, s5, s6, s7, s8, s9]) (l := L)
    (e := [.v (encB bs), .v (encLay L), .o (.list []), s3, s4, s5, s6, s7, s8, s9])
    (f := fun x e1 => (bindT (.var 3) x e1).bind fun e2 => ex K (.seq (.set 4 (.cmp1 (.tup (.cons (.var 8) (.cons (.var 9) .nil))) (.var 3) (.call t (.cons (.idx (.var 0) (.var 8)) (.cons (.var 9) .nil))) .na)) (.seq (.for_ (.var 5) (.rng (.dat (.int 0)) (.blt .len (.cons (.idx (.var 0) (.dat (.int 0))) .nil)) (.dat (.int 1))) midL) .skip)) e2)
    ⟨s3, s4, s5, s6, s7, rfl⟩ (fun p r q e hl hi => by
      obtain ⟨s3, s4, s5, s6, s7, rfl⟩ := hi
      have hr : r ∈ L := by rw [hl]; simp
      obtain ⟨rr, rl⟩ := o.row hr
      have hm := o.m10
      have hpl : p.length * m ≤ 100 := by
        have h1 : p.length ≤ L.length := by rw [hl]; simp
        obtain ⟨x, y, qq, _, _, c, _⟩ := o.box
        have h2 : p.length ≤ 10 := by rw [← qq.1] at c; omega
        exact Nat.mul_le_mul h2 hm
      obtain ⟨s5', s6', s7', g⟩ := midL_loop (K := K) r rr (by omega) (by omega) ((arr bs m p).map encRow) (by rw [List.length_map, arr_len]; omega) (.v (encB bs)) (.v (encLay L)) (.v (.tuple (r.map encE))) s5 s6 s7 s8 s9
      refine ⟨[.v (encB bs), .v (encLay L), .o (.list ((arr bs m (p ++ [r])).map encRow)), .v (.tuple (r.map encE)), .v (.list (r.map fun e => encP (blkAt bs e))), s5', s6', s7', s8, s9], ?_, _, _, _, _, _, rfl⟩
      show ex K _ [.v (encB bs), .v (encLay L), .o (.list ((arr bs m p).map encRow)), .v (.tuple (r.map encE)), s4, s5, s6, s7, s8, s9] = _
      have hc : ev K (.cmp1 (.tup (.cons (.var 8) (.cons (.var 9) .nil))) (.var 3) (.call t (.cons (.idx (.var 0) (.var 8)) (.cons (.var 9) .nil))) .na) [.v (encB bs), .v (encLay L), .o (.list ((arr bs m p).map encRow)), .v (.tuple (r.map encE)), s4, s5, s6, s7, s8, s9] = .ok (.list (r.map fun e => encP (blkAt bs e))) := by
        refine ev_cmpT r encE (fun e => encP (blkAt bs e)) (s := .tuple (r.map encE)) rfl rfl fun e he => ⟨_, rfl, ?_⟩
        have hx := o.ix r hr e he
        refine ev_call (ev_cons (ev_idx (x := encB bs) (y := .int (e.1 : Int)) rfl rfl (idx_encB hx)) (ev_one (x := .int (e.2 : Int)) rfl)) (ht _ _ (o.bbox hx))
      rw [ex_seq (ex_set hc)]
      have hn : ev K (.blt .len (.cons (.idx (.var 0) (.dat (.int 0))) .nil)) [.v (encB bs), .v (encLay L), .o (.list ((arr bs m p).map encRow)), .v (.tuple (r.map encE)), .v (.list (r.map fun e => encP (blkAt bs e))), s5, s6, s7, s8, s9] = .ok (.int (m : Int)) := ev_blt (ev_one (ev_idx rfl rfl i0)) l0
      refine (ex_seq ((ex_for (s := .list (iR m)) (ev_rngN (n := m) hn (by omega)) rfl).trans g)).trans ?_
      rw [arr_append, arr_one, List.map_append]
      rfl)
  have src : ev K (.var 1) [.v (encB bs), .v (encLay L), .o (.list []), s3, s4, s5, s6, s7, s8, s9] = .ok (.tuple (L.map fun r => .tuple (r.map encE))) := by
    rw [← encLay_rows]; rfl
  refine (ex_seq ((ex_for src rfl).trans g)).trans ?_
  have hb : blD .tuple [.list ((arr bs m L).map encRow)] = .ok (encP (arr bs m L)) := by
    rw [encP_rows]; rfl
  simp only [ex, ev, En.at, En.put, Sl.strict, Sl.weak, Sl.froz, En.frz, En.wip, bindT, slots, List.nil_append, List.cons_append, asL, Res.ok_bind, Res.noE_ok, hb]

/-! ### transformed_layout -/
def trE (s : Nat) (e : Nat × Nat) : Nat × Nat := (e.1, comp e.2 s)
def trLay (L : Lay) (s : Nat) : Lay := (movedR L s).map (·.map (trE s))
def trLayB (mv c : Nat) : C := .seq (.set 2 (.call mv (.cons (.var 0) (.cons (.var 1) .nil))))
      (.seq (.ret (.blt .tuple (.cons (.cmp1 (.var 3) (.var 2) (.blt .tuple (.cons (.cmp1 (.tup (.cons (.var 4) (.cons (.var 5) .nil))) (.var 3) (.tup (.cons (.var 4) (.cons (.call c (.cons (.var 5) (.cons (.var 1) .nil))) .nil))) .na) .nil)) .na) .nil)))
      .skip)
theorem trLay_run {mv c : Nat} (hmv : ∀ (rows : List (List D)) (s : Nat), Box 10 rows → K mv [encR rows, .int (s : Int)] = .ok (encR (movedR rows s))) (hc : ∀ s u : Nat, s < 8 → u < 8 → K c [.int (s : Int), .int (u : Int)] = .ok (.int (comp s u : Nat))) (bL : Box 10 L) (hL : ∀ r ∈ L, ∀ e ∈ r, e.2 < 8) {s : Nat} (hs : s < 8) (s2 s3 s4 s5 : Sl) :
    ex K (trLayB mv c) [.v (encLay L), .v (.int (s : Int)), s2, s3, s4, s5] = .ok (.rt (encLay (trLay L s))) := by
  have h1 := hmv (L.map (·.map encE)) s (bL.map encE)
  rw [moved_map] at h1
  have hm : ∀ r ∈ movedR L s, ∀ e ∈ r, e.2 < 8 := by
    intro r hr e he
    have key : ∀ (R : Lay), (∀ r ∈ R, ∀ e ∈ r, e.2 < 8) → ∀ r ∈ turnR R, ∀ e ∈ r, e.2 < 8 := fun R hR r hr e he => by
      obtain ⟨k, _, rfl⟩ := List.mem_map.mp hr
      obtain ⟨r', h1, h2⟩ := List.mem_filterMap.mp he
      exact hR r' (List.mem_reverse.mp h1) e (List.mem_of_getElem? h2)
    have it : ∀ (n : Nat) (R : Lay), (∀ r ∈ R, ∀ e ∈ r, e.2 < 8) → ∀ r ∈ iter n turnR R, ∀ e ∈ r, e.2 < 8 := by
      intro n
      induction n with
      | zero => exact fun R h => h
      | succ n ih => exact fun R h => key _ (ih R h)
    refine it _ _ ?_ r hr e he
    split
    · intro r hr e he
      obtain ⟨r', h1, rfl⟩ := List.mem_map.mp hr
      exact hL r' h1 e (List.mem_reverse.mp he)
    · exact hL
  unfold trLayB
  rw [ex_seq (e1 := [.v (encLay L), .v (.int (s : Int)), .v (encLay (movedR L s)), s3, s4, s5]) (ex_set (ev_call (ev_cons rfl (ev_one rfl)) h1))]
  refine ex_seqR (ex_ret ?_)
  have e0 : encLay (trLay L s) = .tuple ((movedR L s).map fun r => .tuple (r.map fun e => encE (trE s e))) := by
    rw [encLay_rows]
    unfold trLay
    rw [List.map_map]
    congr 1
    refine List.map_congr_left fun r _ => ?_
    show PyData.tuple ((r.map (trE s)).map encE) = _
    rw [List.map_map]
    rfl
  rw [e0]
  refine ev_blt (ev_one (ev_cmpT (movedR L s) (fun r => .tuple (r.map encE)) (fun r => .tuple (r.map fun e => encE (trE s e))) (s := encLay (movedR L s)) rfl (by rw [encLay_rows]; rfl) fun r hr => ⟨_, rfl, ?_⟩)) rfl
  refine ev_blt (ev_one (ev_cmpT r encE (fun e => encE (trE s e)) (s := .tuple (r.map encE)) rfl rfl fun e he => ⟨_, rfl, ?_⟩)) rfl
  have hq := hc e.2 s (hm r hr e he) hs
  simp only [ex, ev, En.at, En.put, Sl.strict, Sl.weak, Sl.froz, En.frz, En.wip, bindT, slots, List.nil_append, List.cons_append, asL, Res.ok_bind, Res.noE_ok, hq]
  rfl
end
end SQ

/-! SqLay2: a transformed layout is arranged to the transformed pattern. -/
namespace SQ
open PySem C

theorem flat_tab {β : Type} (m : Nat) (hm : 0 < m) (f : Nat → Nat → β) : ∀ n : Nat, ((List.range n).flatMap fun i => (List.range m).map (f i)) = (List.range (n * m)).map fun j => f (j / m) (j % m)
  | 0 => by simp
  | n + 1 => by
    rw [List.range_succ, List.flatMap_append, flat_tab m hm f n, Nat.succ_mul, List.range_add, List.map_append, List.map_map]
    congr 1
    rw [List.flatMap_cons, List.flatMap_nil, List.append_nil]
    refine List.map_congr_left fun c hc => ?_
    have hc := List.mem_range.mp hc
    show f n c = f ((n * m + c) / m) ((n * m + c) % m)
    rw [Nat.mul_comm n m, Nat.mul_add_div hm, Nat.div_eq_of_lt hc, Nat.mul_add_mod, Nat.mod_eq_of_lt hc]
    rfl
theorem flatMap_cg {α β : Type} {f g : α → List β} : ∀ {l : List α}, (∀ a ∈ l, f a = g a) → l.flatMap f = l.flatMap g
  | [], _ => rfl
  | a :: l, h => by rw [List.flatMap_cons, List.flatMap_cons, h a List.mem_cons_self, flatMap_cg fun b hb => h b (List.mem_cons_of_mem _ hb)]
theorem sub_lt {h q : Nat} (hq : q < h) : h - 1 - q < h := by omega
def cellAt (p : List (List Cell)) (i j : Nat) : Cell := (p.getD i []).getD j (.pl 0)
theorem map_range_getD {α : Type} (d : α) (l : List α) : (List.range l.length).map (fun i => l.getD i d) = l := by
  refine List.ext_getElem (by simp) fun i h1 h2 => ?_
  simp [h2]
theorem arr_tab {bs : List (List (List Cell))} {m h w : Nat} (hm : 0 < m) (f : Nat → Nat → Nat × Nat) (hb : ∀ i j, i < h → j < w → Rect m m (blkAt bs (f i j))) :
    arr bs m (tab h w f) = tab (h * m) (w * m) fun i j => cellAt (blkAt bs (f (i / m) (j / m))) (i % m) (j % m) := by
  have e1 : arr bs m (tab h w f) = (List.range h).flatMap fun i => (List.range m).map fun k => (List.range (w * m)).map fun j => cellAt (blkAt bs (f i (j / m))) k (j % m) := by
    unfold arr tab
    rw [List.flatMap_map]
    refine flatMap_cg fun i hi => ?_
    have hi := List.mem_range.mp hi
    show (List.range m).map _ = _
    refine List.map_congr_left fun k hk => ?_
    have hk := List.mem_range.mp hk
    unfold rowK
    rw [List.flatMap_map, ← flat_tab m hm (fun j c => cellAt (blkAt bs (f i j)) k c) w]
    refine flatMap_cg fun j hj => ?_
    have hj := List.mem_range.mp hj
    have r := hb i j hi hj
    have hk' : k < (blkAt bs (f i j)).length := by rw [r.1]; exact hk
    have hl : ((blkAt bs (f i j)).getD k []).length = m := by
      rw [List.getD_eq_getElem?_getD, List.getElem?_eq_getElem hk']
      exact r.2 _ (List.getElem_mem _)
    conv => lhs; rw [← map_range_getD (.pl 0) ((blkAt bs (f i j)).getD k []), hl]
    rfl
  rw [e1, flat_tab m hm (fun i k => (List.range (w * m)).map fun j => cellAt (blkAt bs (f i (j / m))) k (j % m)) h]
  rfl
theorem turnP_cell {m : Nat} {p : List (List Cell)} (hm : 0 < m) (r : Rect m m p) {i j : Nat} (hi : i < m) (hj : j < m) : cellAt (turnP p) i j = tcC (cellAt p (m - 1 - j) i) := by
  have e := rect_tab (.pl 0) r
  have e2 : turnP p = tab m m fun i j => tcC (cellAt p (m - 1 - j) i) := by
    unfold turnP
    conv => lhs; rw [e, turn_tab _ hm]
    unfold tab
    rw [List.map_map]
    refine List.map_congr_left fun i _ => ?_
    show ((List.range m).map _).map tcC = _
    rw [List.map_map]
    rfl
  rw [e2]
  unfold cellAt tab
  simp [hi, hj]
theorem mirP_cell {m : Nat} {p : List (List Cell)} (r : Rect m m p) {i j : Nat} (hi : i < m) (hj : j < m) : cellAt (p.map fun r => r.reverse.map mcC) i j = mcC (cellAt p i (m - 1 - j)) := by
  have e := rect_tab (.pl 0) r
  have e2 : (p.map fun r => r.reverse.map mcC) = tab m m fun i j => mcC (cellAt p i (m - 1 - j)) := by
    have e3 : (p.map fun r => r.reverse.map mcC) = (p.map List.reverse).map (·.map mcC) := by rw [List.map_map]; rfl
    rw [e3]
    conv => lhs; rw [e, rev_tab]
    unfold tab
    rw [List.map_map]
    refine List.map_congr_left fun i _ => ?_
    show ((List.range m).map _).map mcC = _
    rw [List.map_map]
    rfl
  rw [e2]
  unfold cellAt tab
  simp [hi, hj]
theorem flip_div {h m j : Nat} (hm : 0 < m) (hj : j < h * m) : (h * m - 1 - j) / m = h - 1 - j / m ∧ (h * m - 1 - j) % m = m - 1 - j % m := by
  have e := Nat.div_add_mod j m
  have hr := Nat.mod_lt j hm
  have hq : j / m < h := Nat.div_lt_of_lt_mul (by rw [Nat.mul_comm]; exact hj)
  generalize j / m = q at *
  generalize j % m = r at *
  obtain ⟨d, rfl⟩ : ∃ d, h = q + 1 + d := ⟨h - (q + 1), by omega⟩
  have e2 : (q + 1 + d) * m - 1 - j = m * d + (m - 1 - r) := by
    rw [← e]
    have h1 : (q + 1 + d) * m = m * q + m + m * d := by rw [Nat.add_mul, Nat.add_mul, Nat.one_mul, Nat.mul_comm q m, Nat.mul_comm d m]
    rw [h1]
    omega
  rw [e2, Nat.mul_add_div hm, Nat.mul_add_mod, Nat.div_eq_of_lt (by omega), Nat.mod_eq_of_lt (by omega)]
  exact ⟨by omega, rfl⟩

def turnLay (L : Lay) : Lay := (turnR L).map (·.map (trE 1))
def mirLay (L : Lay) : Lay := (L.map List.reverse).map (·.map (trE 4))
structure Lay8 (bs : List (List (List Cell))) (m : Nat) (L : Lay) : Prop where
  ok : LayOk bs m L
  s8 : ∀ r ∈ L, ∀ e ∈ r, e.2 < 8
theorem comp_lt8 : ∀ s < 8, ∀ t < 8, comp s t < 8 := by decide
theorem comp_as8 : ∀ s < 8, ∀ t < 8, ∀ u < 8, comp (comp s t) u = comp s (comp t u) := by decide
section
variable {bs : List (List (List Cell))} {m : Nat} {L : Lay}
theorem blk_tr (o : LayOk bs m L) {e : Nat × Nat} (h : e.1 < bs.length) (h8 : e.2 < 8) {s : Nat} (hs : s < 8) : blkAt bs (trE s e) = trP (blkAt bs e) s := (tr_comp (o.bbox h) h8 hs).symm
theorem tr_one (p : List (List Cell)) : trP p 1 = turnP p := rfl
theorem tr_four (p : List (List Cell)) : trP p 4 = p.map fun r => r.reverse.map mcC := by
  rw [← img_tr]
  rfl
theorem mem_turn {α : Type} {P : α → Prop} {R : List (List α)} (h : ∀ r ∈ R, ∀ e ∈ r, P e) : ∀ r ∈ turnR R, ∀ e ∈ r, P e := fun r hr e he => by
  obtain ⟨k, _, rfl⟩ := List.mem_map.mp hr
  obtain ⟨r', h1, h2⟩ := List.mem_filterMap.mp he
  exact h r' (List.mem_reverse.mp h1) e (List.mem_of_getElem? h2)
theorem mem_mapR {α β : Type} {P : β → Prop} {g : α → β} {R : List (List α)} (h : ∀ r ∈ R, ∀ e ∈ r, P (g e)) : ∀ r ∈ R.map (·.map g), ∀ e ∈ r, P e := fun r hr e he => by
  obtain ⟨r', h1, rfl⟩ := List.mem_map.mp hr
  obtain ⟨e', h2, rfl⟩ := List.mem_map.mp he
  exact h r' h1 e' h2
theorem Lay8.turn (o : Lay8 bs m L) : Lay8 bs m (turnLay L) where
  ok := ⟨o.ok.m0, o.ok.m10, o.ok.sq, o.ok.ne, o.ok.box.turn.map _, mem_mapR (mem_turn o.ok.ix)⟩
  s8 := mem_mapR (mem_turn fun r hr e he => comp_lt8 _ (o.s8 r hr e he) 1 (by decide))
theorem Lay8.mir (o : Lay8 bs m L) : Lay8 bs m (mirLay L) where
  ok := ⟨o.ok.m0, o.ok.m10, o.ok.sq, o.ok.ne, o.ok.box.rev.map _, mem_mapR fun r hr e he => by
    obtain ⟨r', h1, rfl⟩ := List.mem_map.mp hr
    exact o.ok.ix r' h1 e (List.mem_reverse.mp he)⟩
  s8 := mem_mapR fun r hr e he => by
    obtain ⟨r', h1, rfl⟩ := List.mem_map.mp hr
    exact comp_lt8 _ (o.s8 r' h1 e (List.mem_reverse.mp he)) 4 (by decide)
theorem tab_map {α β : Type} (g : α → β) (h w : Nat) (f : Nat → Nat → α) : (tab h w f).map (·.map g) = tab h w fun i j => g (f i j) := by
  unfold tab
  rw [List.map_map]
  refine List.map_congr_left fun i _ => ?_
  show ((List.range w).map _).map g = _
  rw [List.map_map]
  rfl
theorem tab_mem {α : Type} {h w : Nat} {f : Nat → Nat → α} {i j : Nat} (hi : i < h) (hj : j < w) : ∃ r ∈ tab h w f, f i j ∈ r := ⟨(List.range w).map (f i), List.mem_map.mpr ⟨i, List.mem_range.mpr hi, rfl⟩, List.mem_map.mpr ⟨j, List.mem_range.mpr hj, rfl⟩⟩
theorem arr_turn (o : Lay8 bs m L) : arr bs m (turnLay L) = turnP (arr bs m L) := by
  obtain ⟨h, w, f, rfl, h0, w0, _, _⟩ := o.ok.box.tab
  have hm := o.ok.m0
  have ixf : ∀ i j, i < h → j < w → (f i j).1 < bs.length ∧ (f i j).2 < 8 := fun i j hi hj => by
    obtain ⟨r, hr, he⟩ := tab_mem (f := f) hi hj
    exact ⟨o.ok.ix r hr _ he, o.s8 r hr _ he⟩
  have e1 : turnLay (tab h w f) = tab w h fun i j => trE 1 (f (h - 1 - j) i) := by
    unfold turnLay
    rw [turn_tab f h0, tab_map]
  have hb : ∀ i j, i < w → j < h → blkAt bs (trE 1 (f (h - 1 - j) i)) = turnP (blkAt bs (f (h - 1 - j) i)) := fun i j hi hj => by
    obtain ⟨a, b⟩ := ixf (h - 1 - j) i (by omega) hi
    rw [blk_tr o.ok a b (by decide), tr_one]
  have hm1 : 0 < h * m := Nat.mul_pos h0 hm
  rw [e1, arr_tab hm _ fun i j hi hj => ?_, arr_tab hm _ fun i j hi hj => o.ok.at (ixf i j hi hj).1]
  · unfold turnP
    rw [turn_tab _ hm1, tab_map]
    refine tab_congr fun i j hi hj => ?_
    have hi' : i / m < w := Nat.div_lt_of_lt_mul (by rw [Nat.mul_comm]; exact hi)
    have hj' : j / m < h := Nat.div_lt_of_lt_mul (by rw [Nat.mul_comm]; exact hj)
    obtain ⟨d1, d2⟩ := flip_div hm hj
    rw [hb _ _ hi' hj', turnP_cell hm (o.ok.at (ixf _ _ (sub_lt hj') hi').1) (Nat.mod_lt _ hm) (Nat.mod_lt _ hm), d1, d2]
  · rw [hb i j hi hj]
    have := rect_tr hm (o.ok.at (ixf (h - 1 - j) i (by omega) hi).1) 1
    exact this
theorem arr_mir (o : Lay8 bs m L) : arr bs m (mirLay L) = (arr bs m L).map fun r => r.reverse.map mcC := by
  obtain ⟨h, w, f, rfl, h0, w0, _, _⟩ := o.ok.box.tab
  have hm := o.ok.m0
  have ixf : ∀ i j, i < h → j < w → (f i j).1 < bs.length ∧ (f i j).2 < 8 := fun i j hi hj => by
    obtain ⟨r, hr, he⟩ := tab_mem (f := f) hi hj
    exact ⟨o.ok.ix r hr _ he, o.s8 r hr _ he⟩
  have e1 : mirLay (tab h w f) = tab h w fun i j => trE 4 (f i (w - 1 - j)) := by
    unfold mirLay
    rw [rev_tab, tab_map]
  have hb : ∀ i j, i < h → j < w → blkAt bs (trE 4 (f i (w - 1 - j))) = (blkAt bs (f i (w - 1 - j))).map fun r => r.reverse.map mcC := fun i j hi hj => by
    obtain ⟨a, b⟩ := ixf i (w - 1 - j) hi (by omega)
    rw [blk_tr o.ok a b (by decide), tr_four]
  rw [e1, arr_tab hm _ fun i j hi hj => ?_, arr_tab hm _ fun i j hi hj => o.ok.at (ixf i j hi hj).1]
  · have e3 : ∀ p : List (List Cell), (p.map fun r => r.reverse.map mcC) = (p.map List.reverse).map (·.map mcC) := fun p => by rw [List.map_map]; rfl
    rw [e3, rev_tab, tab_map]
    refine tab_congr fun i j hi hj => ?_
    have hi' : i / m < h := Nat.div_lt_of_lt_mul (by rw [Nat.mul_comm]; exact hi)
    have hj' : j / m < w := Nat.div_lt_of_lt_mul (by rw [Nat.mul_comm]; exact hj)
    obtain ⟨d1, d2⟩ := flip_div hm hj
    rw [hb _ _ hi' hj', mirP_cell (o.ok.at (ixf _ _ hi' (sub_lt hj')).1) (Nat.mod_lt _ hm) (Nat.mod_lt _ hm), d1, d2]
  · rw [hb i j hi hj, ← tr_four]
    exact rect_tr hm (o.ok.at (ixf i (w - 1 - j) hi (by omega)).1) 4

/-- the layout turned n times, its symmetries behind u -/
theorem iter_lay (hL : ∀ r ∈ L, ∀ e ∈ r, e.2 < 8) : ∀ (n : Nat) {u : Nat}, u < 8 → ∃ v, v < 8 ∧ v = iter n (fun x => comp x 1) u ∧ iter n turnLay (L.map (·.map (trE u))) = (iter n turnR L).map (·.map (trE v)) ∧ ∀ r ∈ iter n turnR L, ∀ e ∈ r, e.2 < 8
  | 0, u, hu => ⟨u, hu, rfl, rfl, hL⟩
  | n + 1, u, hu => by
    obtain ⟨v, h1, h2, h3, h4⟩ := iter_lay hL n hu
    refine ⟨comp v 1, comp_lt8 _ h1 _ (by decide), by rw [h2]; rfl, ?_, mem_turn h4⟩
    show turnLay (iter n turnLay _) = _
    rw [h3]
    unfold turnLay
    rw [turnR_map, List.map_map]
    refine List.map_congr_left fun r hr => ?_
    show (r.map (trE v)).map (trE 1) = _
    rw [List.map_map]
    refine List.map_congr_left fun e he => ?_
    show (e.1, comp (comp e.2 v) 1) = (e.1, comp e.2 (comp v 1))
    rw [comp_as8 _ (mem_turn h4 r hr e he) _ h1 _ (by decide)]
theorem comp_zero : ∀ s < 8, comp s 0 = s := by decide
theorem map_id_of {α : Type} {g : α → α} {R : List (List α)} (h : ∀ r ∈ R, ∀ e ∈ r, g e = e) : R.map (·.map g) = R := by
  conv => rhs; rw [← List.map_id R]
  refine List.map_congr_left fun r hr => ?_
  show r.map g = r
  conv => rhs; rw [← List.map_id r]
  exact List.map_congr_left fun e he => h r hr e he
theorem steps8 : ∀ s < 8, iter (s % 4) (fun x => comp x 1) (if 4 ≤ s then 4 else 0) = s := by decide
theorem trLay_iter (hL : ∀ r ∈ L, ∀ e ∈ r, e.2 < 8) {s : Nat} (hs : s < 8) : trLay L s = iter (s % 4) turnLay (if 4 ≤ s then mirLay L else L) := by
  have st := steps8 s hs
  unfold trLay movedR
  by_cases h4 : 4 ≤ s
  · rw [if_pos h4] at st ⊢
    rw [if_pos h4]
    obtain ⟨v, h1, h2, h3, h5⟩ := iter_lay (L := L.map List.reverse) (fun r hr e he => by
      obtain ⟨r', h1, rfl⟩ := List.mem_map.mp hr
      exact hL r' h1 e (List.mem_reverse.mp he)) (s % 4) (u := 4) (by decide)
    rw [st] at h2
    subst h2
    exact h3.symm
  · rw [if_neg h4] at st ⊢
    rw [if_neg h4]
    obtain ⟨v, h1, h2, h3, h5⟩ := iter_lay hL (s % 4) (u := 0) (by decide)
    rw [st] at h2
    subst h2
    rw [← h3, map_id_of fun r hr e he => ?_]
    show (e.1, comp e.2 0) = e
    rw [comp_zero _ (hL r hr e he)]
theorem arr_iter (o : Lay8 bs m L) : ∀ n, Lay8 bs m (iter n turnLay L) ∧ arr bs m (iter n turnLay L) = iter n turnP (arr bs m L)
  | 0 => ⟨o, rfl⟩
  | n + 1 => by
    obtain ⟨h1, h2⟩ := arr_iter o n
    refine ⟨h1.turn, ?_⟩
    show arr bs m (turnLay (iter n turnLay L)) = turnP (iter n turnP (arr bs m L))
    rw [arr_turn h1, h2]
theorem arr_tr (o : Lay8 bs m L) {s : Nat} (hs : s < 8) : arr bs m (trLay L s) = trP (arr bs m L) s ∧ Lay8 bs m (trLay L s) := by
  rw [trLay_iter o.s8 hs, ← img_tr]
  unfold imgP
  by_cases h4 : 4 ≤ s
  · rw [if_pos h4, if_pos h4]
    obtain ⟨h1, h2⟩ := arr_iter o.mir (s % 4)
    exact ⟨by rw [h2, arr_mir o], h1⟩
  · rw [if_neg h4, if_neg h4]
    obtain ⟨h1, h2⟩ := arr_iter o (s % 4)
    exact ⟨h2, h1⟩
theorem trLay_comp {n : Nat} (b : Box n L) (hL : ∀ r ∈ L, ∀ e ∈ r, e.2 < 8) {s t : Nat} (hs : s < 8) (ht : t < 8) : trLay (trLay L s) t = trLay L (comp s t) := by
  unfold trLay
  rw [moved_map, moved_comp b hs ht, List.map_map]
  have hm : ∀ r ∈ movedR L (comp s t), ∀ e ∈ r, e.2 < 8 := by
    unfold movedR
    split
    · exact (iter_lay (fun r hr e he => by
        obtain ⟨r', h1, rfl⟩ := List.mem_map.mp hr
        exact hL r' h1 e (List.mem_reverse.mp he)) _ (u := 0) (by decide)).choose_spec.2.2.2
    · exact (iter_lay hL _ (u := 0) (by decide)).choose_spec.2.2.2
  refine List.map_congr_left fun r hr => ?_
  show (r.map (trE s)).map (trE t) = _
  rw [List.map_map]
  refine List.map_congr_left fun e he => ?_
  show (e.1, comp (comp e.2 s) t) = (e.1, comp e.2 (comp s t))
  rw [comp_as8 _ (hm r hr e he) _ hs _ ht]
end
end SQ

/-! SqLay3: _law_blocks, _law_layout. -/
namespace SQ
open PySem C
section
variable {K : Nat → List D → Res D}
def cells3 : List Cell := [.pl 97, .pl 98, .pl 99, .dg 97 true 98, .dg 98 false 99, .dg 99 true 97, .pl 98]
def ssB : List Int := [3] ++ List.replicate 27 7
theorem ssB_at : ∀ j < 28, ssB.getD j 1 = if j = 0 then 3 else 7 := by decide
theorem cell3_at {i : Nat} (hi : i < 7) : idxD (.list (cells3.map encC)) (.int (i : Int)) = .ok (encC (cells3.getD i (.pl 0))) := by
  show atL (cells3.map encC) (i : Int) = _
  rw [atL_nat (by rw [List.length_map]; exact hi)]
  rw [List.getElem_map, List.getD_eq_getElem?_getD, List.getElem?_eq_getElem (by exact hi)]
  rfl
def rowB : C := .seq (.app 6 (.blt .tuple (.cons (.cmp1 (.var 8) (.rng (.dat (.int 0)) (.var 2) (.dat (.int 1))) (.idx (.lst (.cons (.dat (.str "a")) (.cons (.dat (.str "b")) (.cons (.dat (.str "c")) (.cons (.dat (.str "a/b")) (.cons (.dat (.str "b\\c")) (.cons (.dat (.str "c/a")) (.cons (.dat (.str "b")) .nil)))))))) (.idx (.var 3) (.bin .add (.bin .add (.bin .add (.dat (.int 1)) (.bin .mul (.dat (.int 9)) (.var 5))) (.bin .mul (.dat (.int 3)) (.var 7))) (.var 8)))) .na) .nil)))
      .skip
def lawBlocksB (d : Nat) : C := .seq (.set 3 (.call d (.cons (.var 0) (.cons (.var 1) (.cons (.bin .add (.lst (.cons (.dat (.int 3)) .nil)) (.bin .mul (.lst (.cons (.dat (.int 7)) .nil)) (.dat (.int 27)))) .nil)))))
      (.seq (.seto 4 (.lst .nil))
      (.seq (.for_ (.var 5) (.rng (.dat (.int 0)) (.bin .add (.dat (.int 1)) (.idx (.var 3) (.dat (.int 0)))) (.dat (.int 1))) (.seq (.seto 6 (.lst .nil))
      (.seq (.for_ (.var 7) (.rng (.dat (.int 0)) (.var 2) (.dat (.int 1))) rowB)
      (.seq (.app 4 (.blt .tuple (.cons (.wv 6) .nil)))
      .skip))))
      (.seq (.ret (.blt .tuple (.cons (.wv 4) .nil)))
      .skip)))
theorem lawBlocks_run {d : Nat} {s : D} {k : Int} (hd : Draws K d s k) {m : Nat} (hm : m ≤ 3) (s3 s4 s5 s6 s7 s8 : Sl) :
    ∃ bs : List (List (List Cell)), (∀ b ∈ bs, Rect m m b) ∧ bs ≠ [] ∧ bs.length ≤ 3 ∧ ex K (lawBlocksB d) [.v s, .v (.int k), .v (.int (m : Int)), s3, s4, s5, s6, s7, s8] = .ok (.rt (encB bs)) := by
  have l1 : lim = 1000000 := rfl
  obtain ⟨ds, e1, dr⟩ := hd ssB (by decide) (by decide)
  have b0 : dgt ds 0 < 3 := by have := (drawn_at dr (j := 0) (by decide)).2; exact Int.ofNat_lt.mp this
  have a0 : idxD (.list (ds.map .int)) (.int 0) = .ok (.int (dgt ds 0)) := (drawn_at dr (j := 0) (by decide)).1
  let cel : Nat → Nat → Nat → Cell := fun b r c => cells3.getD (dgt ds (1 + 9 * b + 3 * r + c)) (.pl 0)
  have bd : ∀ b r c, b < 3 → r < 3 → c < 3 → idxD (.list (ds.map .int)) (.int ((1 + 9 * b + 3 * r + c : Nat) : Int)) = .ok (.int (dgt ds (1 + 9 * b + 3 * r + c))) ∧ dgt ds (1 + 9 * b + 3 * r + c) < 7 := fun b r c h1 h2 h3 => by
    have hj : 1 + 9 * b + 3 * r + c < 28 := by omega
    have := (drawn_at dr (j := 1 + 9 * b + 3 * r + c) hj)
    rw [ssB_at _ hj, if_neg (by omega)] at this
    exact ⟨this.1, Int.ofNat_lt.mp this.2⟩
  let blk : Nat → List (List Cell) := fun b => (List.range m).map fun r => (List.range m).map fun c => cel b r c
  refine ⟨(List.range (dgt ds 0 + 1)).map blk, fun b hb => ?_, by simp, by simp; omega, ?_⟩
  · obtain ⟨i, _, rfl⟩ := List.mem_map.mp hb
    refine ⟨by simp [blk], fun r hr => ?_⟩
    obtain ⟨j, _, rfl⟩ := List.mem_map.mp hr
    simp
  unfold lawBlocksB
  have hss : ev K (.bin .add (.lst (.cons (.dat (.int 3)) .nil)) (.bin .mul (.lst (.cons (.dat (.int 7)) .nil)) (.dat (.int 27)))) [.v s, .v (.int k), .v (.int (m : Int)), s3, s4, s5, s6, s7, s8] = .ok (.list (ssB.map .int)) := rfl
  rw [ex_seq (e1 := [.v s, .v (.int k), .v (.int (m : Int)), .v (.list (ds.map .int)), s4, s5, s6, s7, s8]) (ex_set (ev_call (ev_cons rfl (ev_cons rfl (ev_one hss))) e1))]
  rw [ex_seq (e1 := [.v s, .v (.int k), .v (.int (m : Int)), .v (.list (ds.map .int)), .o (.list []), s5, s6, s7, s8]) rfl]
  obtain ⟨e', g, s5', s6', s7', rfl⟩ := forP (fun (b : Nat) => PyData.int b) (fun pre e => ∃ s5 s6 s7, e = [.v s, .v (.int k), .v (.int (m : Int)), .v (.list (ds.map .int)), .o (.list (pre.map fun b => encP (blk b))), s5, s6, s7, s8]) (l := List.range (dgt ds 0 + 1))
    (e := [.v s, .v (.int k), .v (.int (m : Int)), .v (.list (ds.map .int)), .o (.list []), s5, s6, s7, s8])
    (f := fun x e1 => (bindT (.var 5) x e1).bind fun e2 => ex K (.seq (.seto 6 (.lst .nil)) (.seq (.for_ (.var 7) (.rng (.dat (.int 0)) (.var 2) (.dat (.int 1))) rowB) (.seq (.app 4 (.blt .tuple (.cons (.wv 6) .nil))) .skip))) e2)
    ⟨s5, s6, s7, rfl⟩ (fun p b q e hl hi => by
      obtain ⟨s5, s6, s7, rfl⟩ := hi
      have hb : b < 3 := by
        have : b ∈ List.range (dgt ds 0 + 1) := by rw [hl]; simp
        have := List.mem_range.mp this
        omega
      have hp : p.length ≤ 3 := by
        have := congrArg List.length hl
        simp at this
        omega
      obtain ⟨e', g, s7', rfl⟩ := forP (fun (r : Nat) => PyData.int r) (fun pre e => ∃ s7, e = [.v s, .v (.int k), .v (.int (m : Int)), .v (.list (ds.map .int)), .o (.list (p.map fun b => encP (blk b))), .v (.int (b : Int)), .o (.list (pre.map fun r => encRow ((List.range m).map fun c => cel b r c))), s7, s8]) (l := List.range m)
        (e := [.v s, .v (.int k), .v (.int (m : Int)), .v (.list (ds.map .int)), .o (.list (p.map fun b => encP (blk b))), .v (.int (b : Int)), .o (.list []), s7, s8])
        (f := fun x e1 => (bindT (.var 7) x e1).bind fun e2 => ex K rowB e2) ⟨s7, rfl⟩ (fun p2 r q2 e hl2 hi => by
          obtain ⟨s7, rfl⟩ := hi
          have hr : r < m := List.mem_range.mp (by rw [hl2]; simp)
          have hp2 : p2.length ≤ 3 := by
            have := congrArg List.length hl2
            simp at this
            omega
          refine ⟨[.v s, .v (.int k), .v (.int (m : Int)), .v (.list (ds.map .int)), .o (.list (p.map fun b => encP (blk b))), .v (.int (b : Int)), .o (.list ((p2 ++ [r]).map fun r => encRow ((List.range m).map fun c => cel b r c))), .v (.int (r : Int)), s8], ?_, _, rfl⟩
          show ex K rowB [.v s, .v (.int k), .v (.int (m : Int)), .v (.list (ds.map .int)), .o (.list (p.map fun b => encP (blk b))), .v (.int (b : Int)), .o (.list (p2.map fun r => encRow ((List.range m).map fun c => cel b r c))), .v (.int (r : Int)), s8] = _
          have hc : ev K (.blt .tuple (.cons (.cmp1 (.var 8) (.rng (.dat (.int 0)) (.var 2) (.dat (.int 1))) (.idx (.lst (.cons (.dat (.str "a")) (.cons (.dat (.str "b")) (.cons (.dat (.str "c")) (.cons (.dat (.str "a/b")) (.cons (.dat (.str "b\\c")) (.cons (.dat (.str "c/a")) (.cons (.dat (.str "b")) .nil)))))))) (.idx (.var 3) (.bin .add (.bin .add (.bin .add (.dat (.int 1)) (.bin .mul (.dat (.int 9)) (.var 5))) (.bin .mul (.dat (.int 3)) (.var 7))) (.var 8)))) .na) .nil))
              [.v s, .v (.int k), .v (.int (m : Int)), .v (.list (ds.map .int)), .o (.list (p.map fun b => encP (blk b))), .v (.int (b : Int)), .o (.list (p2.map fun r => encRow ((List.range m).map fun c => cel b r c))), .v (.int (r : Int)), s8] = .ok (encRow ((List.range m).map fun c => cel b r c)) := by
            refine ev_blt (ev_one (ev_cmpT (List.range m) (fun (c : Nat) => .int c) (fun c => encC (cel b r c)) (s := .list (iR m)) (ev_rngN (n := m) rfl (by omega)) rfl fun c hc => ⟨_, rfl, ?_⟩)) ?_
            · have hc := List.mem_range.mp hc
              obtain ⟨x1, x2⟩ := bd b r c hb (by omega) (by omega)
              have h9 : opD .mul (.int 9) (.int (b : Int)) = .ok (.int (9 * (b : Int))) := rfl
              have h3 : opD .mul (.int 3) (.int (r : Int)) = .ok (.int (3 * (r : Int))) := rfl
              refine ev_idx (x := .list (cells3.map encC)) rfl (ev_idx rfl (y := .int ((1 + 9 * b + 3 * r + c : Nat) : Int)) (ev_bin (ev_bin (ev_bin rfl (ev_bin rfl rfl h9) rfl) (ev_bin rfl rfl h3) rfl) rfl ?_) x1) (cell3_at x2)
              show Res.ok (PyData.int _) = _
              congr 2
            · unfold encRow
              rw [List.map_map]
              rfl
          unfold rowB
          have hlen : (p2.map fun r => encRow ((List.range m).map fun c => cel b r c)).length < lim := by rw [List.length_map]; omega
          refine (ex_seq (e1 := [.v s, .v (.int k), .v (.int (m : Int)), .v (.list (ds.map .int)), .o (.list (p.map fun b => encP (blk b))), .v (.int (b : Int)), .o (.list ((p2 ++ [r]).map fun r => encRow ((List.range m).map fun c => cel b r c))), .v (.int (r : Int)), s8]) ?_).trans rfl
          show (ev K _ _).bind (fun d => if (p2.map fun r => encRow ((List.range m).map fun c => cel b r c)).length < lim then Res.ok (Fl.nx (En.put _ 6 (.o (.list ((p2.map fun r => encRow ((List.range m).map fun c => cel b r c)) ++ [d]))))) else .bad) = _
          rw [hc, Res.ok_bind, if_pos hlen, List.map_append]
          rfl)
      refine ⟨[.v s, .v (.int k), .v (.int (m : Int)), .v (.list (ds.map .int)), .o (.list ((p ++ [b]).map fun b => encP (blk b))), .v (.int (b : Int)), .o (.list ((List.range m).map fun r => encRow ((List.range m).map fun c => cel b r c))), s7', s8], ?_, _, _, _, rfl⟩
      show ex K _ [.v s, .v (.int k), .v (.int (m : Int)), .v (.list (ds.map .int)), .o (.list (p.map fun b => encP (blk b))), .v (.int (b : Int)), s6, s7, s8] = _
      rw [ex_seq (e1 := [.v s, .v (.int k), .v (.int (m : Int)), .v (.list (ds.map .int)), .o (.list (p.map fun b => encP (blk b))), .v (.int (b : Int)), .o (.list []), s7, s8]) rfl]
      rw [ex_seq ((ex_for (s := .list (iR m)) (ev_rngN (n := m) rfl (by omega)) rfl).trans g)]
      have hb2 : blD .tuple [.list ((List.range m).map fun r => encRow ((List.range m).map fun c => cel b r c))] = .ok (encP (blk b)) := by
        rw [encP_rows]
        show Res.ok (PyData.tuple _) = _
        rw [List.map_map]
        rfl
      have hlen : (p.map fun b => encP (blk b)).length < lim := by rw [List.length_map]; omega
      simp only [ex, ev, En.at, En.put, Sl.strict, Sl.weak, Sl.froz, En.frz, En.wip, bindT, slots, List.nil_append, List.cons_append, asL, Res.ok_bind, Res.noE_ok, hb2, hlen, if_true]
      rw [List.map_append]
      rfl)
  have hr : ev K (.rng (.dat (.int 0)) (.bin .add (.dat (.int 1)) (.idx (.var 3) (.dat (.int 0)))) (.dat (.int 1))) [.v s, .v (.int k), .v (.int (m : Int)), .v (.list (ds.map .int)), .o (.list []), s5, s6, s7, s8] = .ok (.list (iR (dgt ds 0 + 1))) := by
    refine ev_rngN (ev_bin rfl (ev_idx rfl rfl a0) ?_) (by omega)
    show Res.ok (PyData.int (1 + (dgt ds 0 : Int))) = _
    rw [Int.add_comm]
    rfl
  refine (ex_seq ((ex_for hr rfl).trans g)).trans ?_
  have hb : blD .tuple [.list ((List.range (dgt ds 0 + 1)).map fun b => encP (blk b))] = .ok (encB ((List.range (dgt ds 0 + 1)).map blk)) := by
    unfold encB
    rw [List.map_map]
    rfl
  simp only [ex, ev, En.at, En.put, Sl.strict, Sl.weak, Sl.froz, En.frz, En.wip, bindT, slots, List.nil_append, List.cons_append, asL, Res.ok_bind, Res.noE_ok, hb]

/-! ### _law_layout -/
def ssL (n : Nat) : List Int := [3, 3] ++ (List.replicate 9 [(n : Int), 8]).flatten
theorem ssL_at (n : Nat) : ∀ j < 20, (ssL n).getD j 1 = if j < 2 then 3 else if j % 2 = 0 then (n : Int) else 8 := by
  intro j hj
  match j, hj with
  | 0, _ | 1, _ | 2, _ | 3, _ | 4, _ | 5, _ | 6, _ | 7, _ | 8, _ | 9, _ | 10, _ | 11, _ | 12, _ | 13, _ | 14, _ | 15, _ | 16, _ | 17, _ | 18, _ | 19, _ => rfl
  | j + 20, h => exact absurd h (by omega)
def lawLayoutB (d : Nat) : C := .seq (.set 3 (.call d (.cons (.var 0) (.cons (.var 1) (.cons (.bin .add (.lst (.cons (.dat (.int 3)) (.cons (.dat (.int 3)) .nil))) (.bin .mul (.lst (.cons (.var 2) (.cons (.dat (.int 8)) .nil))) (.dat (.int 9)))) .nil)))))
      (.seq (.seto 4 (.lst .nil))
      (.seq (.for_ (.var 5) (.rng (.dat (.int 0)) (.bin .add (.dat (.int 1)) (.idx (.var 3) (.dat (.int 0)))) (.dat (.int 1))) (.seq (.app 4 (.blt .tuple (.cons (.cmp1 (.var 6) (.rng (.dat (.int 0)) (.bin .add (.dat (.int 1)) (.idx (.var 3) (.dat (.int 1)))) (.dat (.int 1))) (.tup (.cons (.idx (.var 3) (.bin .add (.bin .add (.dat (.int 2)) (.bin .mul (.dat (.int 6)) (.var 5))) (.bin .mul (.dat (.int 2)) (.var 6)))) (.cons (.idx (.var 3) (.bin .add (.bin .add (.dat (.int 3)) (.bin .mul (.dat (.int 6)) (.var 5))) (.bin .mul (.dat (.int 2)) (.var 6)))) .nil))) .na) .nil)))
      .skip))
      (.seq (.ret (.blt .tuple (.cons (.wv 4) .nil)))
      .skip)))
theorem lawLayout_run {d : Nat} {s : D} {k : Int} (hd : Draws K d s k) {n : Nat} (h0 : 0 < n) (hn : n ≤ 1000) (s3 s4 s5 s6 : Sl) :
    ∃ L : Lay, Box 3 L ∧ (∀ r ∈ L, ∀ e ∈ r, e.1 < n ∧ e.2 < 8) ∧ ex K (lawLayoutB d) [.v s, .v (.int k), .v (.int (n : Int)), s3, s4, s5, s6] = .ok (.rt (encLay L)) := by
  have l1 : lim = 1000000 := rfl
  obtain ⟨ds, e1, dr⟩ := hd (ssL n) (by
    intro x hx
    have : x = 3 ∨ x = (n : Int) ∨ x = 8 := by
      simp [ssL] at hx
      omega
    omega) (by simp [ssL])
  have lss : (ssL n).length = 20 := by simp [ssL]
  have at_ : ∀ j : Nat, j < 20 → idxD (.list (ds.map .int)) (.int (j : Int)) = .ok (.int (dgt ds j)) ∧ (dgt ds j : Int) < if j < 2 then 3 else if j % 2 = 0 then (n : Int) else 8 := fun j hj => by
    have := drawn_at dr (j := j) (by omega)
    rw [ssL_at n j hj] at this
    exact this
  have b0 : dgt ds 0 < 3 := Int.ofNat_lt.mp (at_ 0 (by decide)).2
  have b1 : dgt ds 1 < 3 := Int.ofNat_lt.mp (at_ 1 (by decide)).2
  let el : Nat → Nat → Nat × Nat := fun r c => (dgt ds (2 + 6 * r + 2 * c), dgt ds (3 + 6 * r + 2 * c))
  have bd : ∀ r c, r < 3 → c < 3 → (el r c).1 < n ∧ (el r c).2 < 8 := fun r c h1 h2 => by
    have x := (at_ (2 + 6 * r + 2 * c) (by omega)).2
    have y := (at_ (3 + 6 * r + 2 * c) (by omega)).2
    rw [if_neg (by omega), if_pos (by omega)] at x
    rw [if_neg (by omega), if_neg (by omega)] at y
    exact ⟨Int.ofNat_lt.mp x, Int.ofNat_lt.mp y⟩
  let row : Nat → List (Nat × Nat) := fun r => (List.range (dgt ds 1 + 1)).map fun c => el r c
  refine ⟨(List.range (dgt ds 0 + 1)).map row, ⟨dgt ds 0 + 1, dgt ds 1 + 1, ⟨by simp, fun x hx => ?_⟩, by omega, by omega, by omega, by omega⟩, fun r hr e he => ?_, ?_⟩
  · obtain ⟨r, _, rfl⟩ := List.mem_map.mp hx
    simp [row]
  · obtain ⟨r, hr', rfl⟩ := List.mem_map.mp hr
    obtain ⟨c, hc', rfl⟩ := List.mem_map.mp he
    have := List.mem_range.mp hr'
    have := List.mem_range.mp hc'
    exact bd r c (by omega) (by omega)
  unfold lawLayoutB
  have hss : ev K (.bin .add (.lst (.cons (.dat (.int 3)) (.cons (.dat (.int 3)) .nil))) (.bin .mul (.lst (.cons (.var 2) (.cons (.dat (.int 8)) .nil))) (.dat (.int 9)))) [.v s, .v (.int k), .v (.int (n : Int)), s3, s4, s5, s6] = .ok (.list ((ssL n).map .int)) := rfl
  rw [ex_seq (e1 := [.v s, .v (.int k), .v (.int (n : Int)), .v (.list (ds.map .int)), s4, s5, s6]) (ex_set (ev_call (ev_cons rfl (ev_cons rfl (ev_one hss))) e1))]
  rw [ex_seq (e1 := [.v s, .v (.int k), .v (.int (n : Int)), .v (.list (ds.map .int)), .o (.list []), s5, s6]) rfl]
  have up : ∀ (j : Nat) (e : En), j < 2 → e.at 3 = .v (.list (ds.map .int)) → ev K (.rng (.dat (.int 0)) (.bin .add (.dat (.int 1)) (.idx (.var 3) (.dat (.int (j : Int))))) (.dat (.int 1))) e = .ok (.list (iR (dgt ds j + 1))) := fun j e hj he => by
    have ev3 : ev K (.var 3) e = .ok (.list (ds.map .int)) := by
      show (e.at 3).strict = _
      rw [he]; rfl
    have bj : dgt ds j < 3 := by
      have := (at_ j (by omega)).2
      rw [if_pos hj] at this
      exact Int.ofNat_lt.mp this
    refine ev_rngN (ev_bin rfl (ev_idx ev3 rfl (at_ j (by omega)).1) ?_) (by omega)
    show Res.ok (PyData.int (1 + (dgt ds j : Int))) = _
    rw [Int.add_comm]
    rfl
  obtain ⟨e', g, s5', rfl⟩ := forP (fun (r : Nat) => PyData.int r) (fun pre e => ∃ s5, e = [.v s, .v (.int k), .v (.int (n : Int)), .v (.list (ds.map .int)), .o (.list (pre.map fun r => .tuple ((row r).map encE))), s5, s6]) (l := List.range (dgt ds 0 + 1))
    (e := [.v s, .v (.int k), .v (.int (n : Int)), .v (.list (ds.map .int)), .o (.list []), s5, s6])
    (f := fun x e1 => (bindT (.var 5) x e1).bind fun e2 => ex K (.seq (.app 4 (.blt .tuple (.cons (.cmp1 (.var 6) (.rng (.dat (.int 0)) (.bin .add (.dat (.int 1)) (.idx (.var 3) (.dat (.int 1)))) (.dat (.int 1))) (.tup (.cons (.idx (.var 3) (.bin .add (.bin .add (.dat (.int 2)) (.bin .mul (.dat (.int 6)) (.var 5))) (.bin .mul (.dat (.int 2)) (.var 6)))) (.cons (.idx (.var 3) (.bin .add (.bin .add (.dat (.int 3)) (.bin .mul (.dat (.int 6)) (.var 5))) (.bin .mul (.dat (.int 2)) (.var 6)))) .nil))) .na) .nil))) .skip) e2)
    ⟨s5, rfl⟩ (fun p r q e hl hi => by
      obtain ⟨s5, rfl⟩ := hi
      have hr : r < 3 := by
        have : r ∈ List.range (dgt ds 0 + 1) := by rw [hl]; simp
        have := List.mem_range.mp this
        omega
      have hp : p.length ≤ 3 := by
        have := congrArg List.length hl
        simp at this
        omega
      refine ⟨[.v s, .v (.int k), .v (.int (n : Int)), .v (.list (ds.map .int)), .o (.list ((p ++ [r]).map fun r => .tuple ((row r).map encE))), .v (.int (r : Int)), s6], ?_, _, rfl⟩
      show ex K _ [.v s, .v (.int k), .v (.int (n : Int)), .v (.list (ds.map .int)), .o (.list (p.map fun r => .tuple ((row r).map encE))), .v (.int (r : Int)), s6] = _
      have hc : ev K (.blt .tuple (.cons (.cmp1 (.var 6) (.rng (.dat (.int 0)) (.bin .add (.dat (.int 1)) (.idx (.var 3) (.dat (.int 1)))) (.dat (.int 1))) (.tup (.cons (.idx (.var 3) (.bin .add (.bin .add (.dat (.int 2)) (.bin .mul (.dat (.int 6)) (.var 5))) (.bin .mul (.dat (.int 2)) (.var 6)))) (.cons (.idx (.var 3) (.bin .add (.bin .add (.dat (.int 3)) (.bin .mul (.dat (.int 6)) (.var 5))) (.bin .mul (.dat (.int 2)) (.var 6)))) .nil))) .na) .nil))
          [.v s, .v (.int k), .v (.int (n : Int)), .v (.list (ds.map .int)), .o (.list (p.map fun r => .tuple ((row r).map encE))), .v (.int (r : Int)), s6] = .ok (.tuple ((row r).map encE)) := by
        refine ev_blt (ev_one (ev_cmpT (List.range (dgt ds 1 + 1)) (fun (c : Nat) => .int c) (fun c => encE (el r c)) (s := .list (iR (dgt ds 1 + 1))) (up 1 _ (by decide) rfl) rfl fun c hc => ⟨_, rfl, ?_⟩)) ?_
        · have hc := List.mem_range.mp hc
          have x := (at_ (2 + 6 * r + 2 * c) (by omega)).1
          have y := (at_ (3 + 6 * r + 2 * c) (by omega)).1
          have h6 : opD .mul (.int 6) (.int (r : Int)) = .ok (.int (6 * (r : Int))) := rfl
          have h2 : opD .mul (.int 2) (.int (c : Int)) = .ok (.int (2 * (c : Int))) := rfl
          have p1 : opD .add (.int 2) (.int (6 * (r : Int))) = .ok (.int (2 + 6 * (r : Int))) := rfl
          have p2 : opD .add (.int 3) (.int (6 * (r : Int))) = .ok (.int (3 + 6 * (r : Int))) := rfl
          have p3 : opD .add (.int (2 + 6 * (r : Int))) (.int (2 * (c : Int))) = .ok (.int ((2 + 6 * r + 2 * c : Nat) : Int)) := by
            show Res.ok (PyData.int _) = _
            congr 2
          have p4 : opD .add (.int (3 + 6 * (r : Int))) (.int (2 * (c : Int))) = .ok (.int ((3 + 6 * r + 2 * c : Nat) : Int)) := by
            show Res.ok (PyData.int _) = _
            congr 2
          simp only [ex, ev, En.at, En.put, Sl.strict, Sl.weak, Sl.froz, En.frz, En.wip, bindT, slots, List.nil_append, List.cons_append, asL, Res.ok_bind, Res.noE_ok, h6, h2, p1, p2, p3, p4, x, y]
          rfl
        · show Res.ok (PyData.tuple _) = _
          rw [List.map_map]
          rfl
      have hlen : (p.map fun r => PyData.tuple ((row r).map encE)).length < lim := by rw [List.length_map]; omega
      refine (ex_seq (e1 := [.v s, .v (.int k), .v (.int (n : Int)), .v (.list (ds.map .int)), .o (.list ((p ++ [r]).map fun r => .tuple ((row r).map encE))), .v (.int (r : Int)), s6]) ?_).trans rfl
      show (ev K _ _).bind (fun d => if (p.map fun r => PyData.tuple ((row r).map encE)).length < lim then Res.ok (Fl.nx (En.put _ 4 (.o (.list ((p.map fun r => PyData.tuple ((row r).map encE)) ++ [d]))))) else .bad) = _
      rw [hc, Res.ok_bind, if_pos hlen, List.map_append]
      rfl)
  refine (ex_seq ((ex_for (up 0 _ (by decide) rfl) rfl).trans g)).trans ?_
  have hb : blD .tuple [.list ((List.range (dgt ds 0 + 1)).map fun r => PyData.tuple ((row r).map encE))] = .ok (encLay ((List.range (dgt ds 0 + 1)).map row)) := by
    rw [encLay_rows, List.map_map]
    rfl
  simp only [ex, ev, En.at, En.put, Sl.strict, Sl.weak, Sl.froz, En.frz, En.wip, bindT, slots, List.nil_append, List.cons_append, asL, Res.ok_bind, Res.noE_ok, hb]
end
end SQ

/-! SqDec: patterns decomposed into squares, their canonical forms and symmetries. -/
set_option maxHeartbeats 2000000
namespace SQ
open PySem C
abbrev Pt := List (List Cell)

/-! ### canonical forms -/
def canon (p : Pt) : Pt := least (trP p 0) ((List.range 7).map fun s => trP p (s + 1))
theorem imgs8 (p : Pt) : trP p 0 :: ((List.range 7).map fun s => trP p (s + 1)) = (List.range 8).map (trP p) := rfl
theorem in_imgs {p x : Pt} : x ∈ trP p 0 :: ((List.range 7).map fun s => trP p (s + 1)) ↔ ∃ s < 8, x = trP p s := by
  rw [imgs8, List.mem_map]
  constructor
  · rintro ⟨s, hs, rfl⟩; exact ⟨s, List.mem_range.mp hs, rfl⟩
  · rintro ⟨s, hs, rfl⟩; exact ⟨s, List.mem_range.mpr hs, rfl⟩
theorem canon_mem (p : Pt) : ∃ s < 8, canon p = trP p s := in_imgs.mp (least_mem _ _)
theorem comp_onto : ∀ t < 8, ∀ s < 8, ∃ u < 8, comp t u = s := by decide
theorem canon_tr {p : Pt} (b : Box 10 p) {t : Nat} (ht : t < 8) : canon (trP p t) = canon p := by
  refine least_one (m := 10) (fun x hx => ?_) (fun x hx => ?_) fun x hx => ?_
  · obtain ⟨s, hs, rfl⟩ := in_imgs.mp hx
    exact (b.tr t).tr s
  · obtain ⟨s, hs, rfl⟩ := in_imgs.mp hx
    exact in_imgs.mpr ⟨comp t s, comp_lt8 t ht s hs, tr_comp b ht hs⟩
  · obtain ⟨s, hs, rfl⟩ := in_imgs.mp hx
    obtain ⟨u, hu, e⟩ := comp_onto t ht s hs
    exact in_imgs.mpr ⟨u, hu, by rw [tr_comp b ht hu, e]⟩
theorem canon_idem {p : Pt} (b : Box 10 p) : canon (canon p) = canon p := by
  obtain ⟨s, hs, e⟩ := canon_mem p
  rw [e, canon_tr b hs, e]
theorem canon_box {p : Pt} (b : Box 10 p) : Box 10 (canon p) := by
  obtain ⟨s, _, e⟩ := canon_mem p
  rw [e]
  exact b.tr s
theorem canon_rect {m : Nat} {p : Pt} (hm : 0 < m) (r : Rect m m p) : Rect m m (canon p) := by
  obtain ⟨s, _, e⟩ := canon_mem p
  rw [e]
  exact rect_tr hm r s
theorem canon_back {p : Pt} (b : Box 10 p) : ∃ s < 8, trP (canon p) s = p := by
  obtain ⟨t, ht, e⟩ := canon_mem p
  obtain ⟨u, hu, e2⟩ := comp_onto t ht 0 (by decide)
  exact ⟨u, hu, by rw [e, tr_comp b ht hu, e2, tr_zero]⟩

/-! ### the reckoning of a decomposition -/
def addF (F : List Pt) (f : Pt) : List Pt := if f ∈ F then F else F ++ [f]
def ixF (F : List Pt) (f : Pt) : Nat := (F.findIdx? fun z => decide (z = f)).getD 0
def symF (f q : Pt) : Nat := ((List.range 8).find? fun s => decide (trP f s = q)).getD 0
def entF (F : List Pt) (q : Pt) : Nat × Nat := (ixF F (canon q), symF (canon q) q)
def stepD (a : List Pt × List (Nat × Nat)) (q : Pt) : List Pt × List (Nat × Nat) := (addF a.1 (canon q), a.2 ++ [entF (addF a.1 (canon q)) q])
def decRow (F : List Pt) (qs : List Pt) : List Pt × List (Nat × Nat) := qs.foldl stepD (F, [])
def stepR (a : List Pt × Lay) (qs : List Pt) : List Pt × Lay := ((decRow a.1 qs).1, a.2 ++ [(decRow a.1 qs).2])
def decAll (rows : List (List Pt)) : List Pt × Lay := rows.foldl stepR ([], [])
def adds (F : List Pt) (qs : List Pt) : List Pt := qs.foldl (fun a q => addF a (canon q)) F

theorem mem_addF {F : List Pt} {f x : Pt} : x ∈ addF F f ↔ x ∈ F ∨ x = f := by
  unfold addF
  split
  · rename_i h
    exact ⟨.inl, fun z => z.elim id fun z => by rw [z]; exact h⟩
  · simp
theorem addF_pre (F : List Pt) (f : Pt) : ∃ G, addF F f = F ++ G := by
  unfold addF
  split
  · exact ⟨[], (List.append_nil _).symm⟩
  · exact ⟨[f], rfl⟩
theorem adds_pre : ∀ (qs F : List Pt), ∃ G, adds F qs = F ++ G
  | [], F => ⟨[], (List.append_nil _).symm⟩
  | q :: qs, F => by
    obtain ⟨G, h1⟩ := addF_pre F (canon q)
    obtain ⟨H, h2⟩ := adds_pre qs (addF F (canon q))
    refine ⟨G ++ H, ?_⟩
    show adds (addF F (canon q)) qs = _
    rw [h2, h1, List.append_assoc]
theorem ixF_pre {F : List Pt} {f : Pt} (h : f ∈ F) (G : List Pt) : ixF (F ++ G) f = ixF F f := by
  unfold ixF
  have : (F.findIdx? fun z => decide (z = f)).isSome = true := by
    rw [List.findIdx?_isSome, List.any_eq_true]
    exact ⟨f, h, decide_eq_true rfl⟩
  rw [List.findIdx?_append]
  cases e : F.findIdx? fun z => decide (z = f) with
  | none => rw [e] at this; cases this
  | some i => rfl
theorem ixF_at {F : List Pt} {f : Pt} (h : f ∈ F) : F.findIdx? (fun z => decide (z = f)) = some (ixF F f) ∧ ixF F f < F.length ∧ F.getD (ixF F f) [] = f := by
  cases e : F.findIdx? fun z => decide (z = f) with
  | none =>
    rw [List.findIdx?_eq_none_iff] at e
    have := e f h
    simp at this
  | some i =>
    have e2 : ixF F f = i := by unfold ixF; rw [e]; rfl
    obtain ⟨h1, h2, _⟩ := List.findIdx?_eq_some_iff_getElem.mp e
    rw [e2]
    refine ⟨rfl, h1, ?_⟩
    rw [List.getD_eq_getElem?_getD, List.getElem?_eq_getElem h1]
    exact of_decide_eq_true h2
theorem symF_at {f q : Pt} (h : ∃ s < 8, trP f s = q) : (List.range 8).find? (fun s => decide (trP f s = q)) = some (symF f q) ∧ symF f q < 8 ∧ trP f (symF f q) = q := by
  cases e : (List.range 8).find? fun s => decide (trP f s = q) with
  | none =>
    obtain ⟨s, hs, hq⟩ := h
    rw [List.find?_eq_none] at e
    exact absurd (decide_eq_true hq) (e s (List.mem_range.mpr hs))
  | some i =>
    have e2 : symF f q = i := by unfold symF; rw [e]; rfl
    rw [e2]
    exact ⟨rfl, List.mem_range.mp (List.mem_of_find?_eq_some e), of_decide_eq_true (List.find?_some (p := fun s => decide (trP f s = q)) e)⟩
theorem entF_pre {F : List Pt} {q : Pt} (h : canon q ∈ F) (G : List Pt) : entF (F ++ G) q = entF F q := by
  unfold entF
  rw [ixF_pre h]
theorem adds_mem : ∀ (qs F : List Pt), (∀ x ∈ F, x ∈ adds F qs) ∧ ∀ q ∈ qs, canon q ∈ adds F qs
  | [], F => ⟨fun _ h => h, by simp⟩
  | q :: qs, F => by
    obtain ⟨h1, h2⟩ := adds_mem qs (addF F (canon q))
    refine ⟨fun x hx => h1 x (mem_addF.mpr (.inl hx)), fun y hy => ?_⟩
    rcases List.mem_cons.mp hy with rfl | hy
    · exact h1 _ (mem_addF.mpr (.inr rfl))
    · exact h2 y hy
theorem adds_of : ∀ (qs F : List Pt), ∀ x ∈ adds F qs, x ∈ F ∨ ∃ q ∈ qs, x = canon q
  | [], F, x, h => .inl h
  | q :: qs, F, x, h => by
    rcases adds_of qs (addF F (canon q)) x h with h | ⟨y, hy, e⟩
    · rcases mem_addF.mp h with h | h
      · exact .inl h
      · exact .inr ⟨q, List.mem_cons_self, h⟩
    · exact .inr ⟨y, List.mem_cons_of_mem _ hy, e⟩
theorem adds_nodup : ∀ (qs F : List Pt), F.Nodup → (adds F qs).Nodup
  | [], F, h => h
  | q :: qs, F, h => by
    refine adds_nodup qs (addF F (canon q)) ?_
    unfold addF
    split
    · exact h
    · rename_i hn
      refine List.nodup_append.mpr ⟨h, by simp, fun a ha b hb => ?_⟩
      intro e
      rw [e, List.mem_singleton.mp hb] at ha
      exact hn ha
theorem adds_append (F qs rs : List Pt) : adds F (qs ++ rs) = adds (adds F qs) rs := by unfold adds; rw [List.foldl_append]
theorem decRow_snoc (F qs : List Pt) (q : Pt) : decRow F (qs ++ [q]) = stepD (decRow F qs) q := by
  unfold decRow
  rw [List.foldl_append]
  rfl
theorem map_ent {F : List Pt} {qs : List Pt} (h : ∀ q ∈ qs, canon q ∈ F) (G : List Pt) : qs.map (entF (F ++ G)) = qs.map (entF F) := List.map_congr_left fun q hq => entF_pre (h q hq) G
theorem snoc_ind {α : Type} {P : List α → Prop} (h0 : P []) (h1 : ∀ l a, P l → P (l ++ [a])) (l : List α) : P l := by
  have : ∀ l : List α, P l.reverse := by
    intro l
    induction l with
    | nil => exact h0
    | cons a l ih => rw [List.reverse_cons]; exact h1 _ _ ih
  have := this l.reverse
  rwa [List.reverse_reverse] at this
theorem decRow_eq (F qs : List Pt) : decRow F qs = (adds F qs, qs.map (entF (adds F qs))) := by
  refine snoc_ind (P := fun qs => decRow F qs = (adds F qs, qs.map (entF (adds F qs)))) rfl (fun l a ih => ?_) qs
  rw [decRow_snoc, ih, adds_append]
  obtain ⟨G, hG⟩ := addF_pre (adds F l) (canon a)
  have e : adds (adds F l) [a] = addF (adds F l) (canon a) := rfl
  unfold stepD
  rw [e, List.map_append]
  congr 1
  rw [hG, map_ent (adds_mem l F).2 G]
  rfl
theorem decAll_snoc (rows : List (List Pt)) (qs : List Pt) : decAll (rows ++ [qs]) = stepR (decAll rows) qs := by
  unfold decAll
  rw [List.foldl_append]
  rfl
theorem decAll_eq (rows : List (List Pt)) : decAll rows = (adds [] rows.flatten, rows.map (·.map (entF (adds [] rows.flatten)))) := by
  refine snoc_ind (P := fun rows => decAll rows = (adds [] rows.flatten, rows.map (·.map (entF (adds [] rows.flatten))))) rfl (fun l a ih => ?_) rows
  rw [decAll_snoc, ih]
  unfold stepR
  have e : (l ++ [a]).flatten = l.flatten ++ a := by simp
  rw [decRow_eq, e, adds_append, List.map_append]
  congr 1
  obtain ⟨G, hG⟩ := adds_pre a (adds [] l.flatten)
  congr 1
  rw [hG]
  refine List.map_congr_left fun r hr => ?_
  exact (map_ent (fun q hq => (adds_mem l.flatten []).2 q (List.mem_flatten.mpr ⟨r, hr, hq⟩)) G).symm
theorem nodup_len {α : Type} [DecidableEq α] : ∀ {l k : List α}, l.Nodup → (∀ x ∈ l, x ∈ k) → l.length ≤ k.length
  | [], _, _, _ => Nat.zero_le _
  | a :: l, k, hn, h => by
    obtain ⟨h1, h2⟩ := List.nodup_cons.mp hn
    have hk := h a List.mem_cons_self
    have := nodup_len (l := l) (k := k.erase a) h2 fun x hx => (List.mem_erase_of_ne (fun e => h1 (by rw [← e]; exact hx))).mpr (h x (List.mem_cons_of_mem _ hx))
    rw [List.length_erase_of_mem hk] at this
    have : 0 < k.length := List.length_pos_of_mem hk
    rw [List.length_cons]
    omega

/-! ### squares of a pattern -/
def sqP (p : Pt) (top left m : Nat) : Pt := ((p.drop top).take m).map fun r => (r.drop left).take m
theorem cut_nat {α : Type} (xs : List α) (a m : Nat) (h : a + m ≤ xs.length) : cutL xs (some (a : Int)) (some ((a + m : Nat) : Int)) = (xs.drop a).take m := by
  unfold cutL sEnd
  simp only
  rw [if_neg (by omega), if_neg (by omega)]
  rw [show min ((a : Int).toNat) xs.length = a by omega, show min (((a + m : Nat) : Int).toNat) xs.length = a + m by omega, Nat.add_sub_cancel_left]
theorem sqP_tab {h w : Nat} (g : Nat → Nat → Cell) {t l m : Nat} (ht : t + m ≤ h) (hl : l + m ≤ w) : sqP (tab h w g) t l m = tab m m fun a b => g (t + a) (l + b) := by
  unfold sqP tab
  refine List.ext_getElem (by simp; omega) fun i h1 h2 => ?_
  simp at h1 h2
  simp only [List.getElem_map, List.getElem_take, List.getElem_drop, List.getElem_range]
  refine List.ext_getElem (by simp; omega) fun j h3 h4 => ?_
  simp
theorem sqP_arr {bs : List Pt} {m h w : Nat} (hm : 0 < m) {f : Nat → Nat → Nat × Nat} (hb : ∀ i j, i < h → j < w → Rect m m (blkAt bs (f i j))) {i j : Nat} (hi : i < h) (hj : j < w) : sqP (arr bs m (tab h w f)) (m * i) (m * j) m = blkAt bs (f i j) := by
  have k1 : m * i + m ≤ h * m := by
    have := Nat.mul_le_mul_right m (show i + 1 ≤ h from hi)
    rw [Nat.succ_mul, Nat.mul_comm i m] at this
    exact this
  have k2 : m * j + m ≤ w * m := by
    have := Nat.mul_le_mul_right m (show j + 1 ≤ w from hj)
    rw [Nat.succ_mul, Nat.mul_comm j m] at this
    exact this
  rw [arr_tab hm f hb, sqP_tab _ k1 k2]
  conv => rhs; rw [rect_tab (.pl 0) (hb i j hi hj)]
  refine tab_congr fun a b ha hb' => ?_
  rw [Nat.mul_add_div hm, Nat.mul_add_mod, Nat.mul_add_div hm, Nat.mul_add_mod, Nat.div_eq_of_lt ha, Nat.mod_eq_of_lt ha, Nat.div_eq_of_lt hb', Nat.mod_eq_of_lt hb']
  rfl
section
variable {K : Nat → List D → Res D}
def squareOfB : C := .seq (.ret (.blt .tuple (.cons (.cmp1 (.var 4) (.slc (.var 0) (.var 1) (.bin .add (.var 1) (.var 3))) (.blt .tuple (.cons (.slc (.var 4) (.var 2) (.bin .add (.var 2) (.var 3))) .nil)) .na) .nil)))
      .skip
theorem squareOf_run {p : Pt} {h w t l m : Nat} (r : Rect h w p) (ht : t + m ≤ h) (hl : l + m ≤ w) (s4 : Sl) : ex K squareOfB [.v (encP p), .v (.int (t : Int)), .v (.int (l : Int)), .v (.int (m : Int)), s4] = .ok (.rt (encP (sqP p t l m))) := by
  unfold squareOfB
  refine ex_seqR (ex_ret ?_)
  have a1 : slcD (encP p) (some (t : Int)) (some ((t + m : Nat) : Int)) = .ok (.tuple (((p.drop t).take m).map encRow)) := by
    rw [encP_rows]
    show Res.ok (PyData.tuple (cutL (p.map encRow) _ _)) = _
    rw [cut_nat _ _ _ (by rw [List.length_map, r.1]; exact ht), List.map_take, List.map_drop]
  have src : ev K (.slc (.var 0) (.var 1) (.bin .add (.var 1) (.var 3))) [.v (encP p), .v (.int (t : Int)), .v (.int (l : Int)), .v (.int (m : Int)), s4] = .ok (.tuple (((p.drop t).take m).map encRow)) := by
    show ((slcD (encP p) (some (t : Int)) (some ((t : Int) + (m : Int)))).noE) = _
    rw [show ((t : Int) + (m : Int)) = ((t + m : Nat) : Int) from (Int.natCast_add t m).symm, a1]
    rfl
  refine ev_blt (ev_one (ev_cmpT ((p.drop t).take m) encRow (fun r => encRow ((r.drop l).take m)) (s := .tuple (((p.drop t).take m).map encRow)) src rfl fun x hx => ⟨_, rfl, ?_⟩)) ?_
  · have hx : x ∈ p := List.mem_of_mem_drop (List.mem_of_mem_take hx)
    have a2 : slcD (encRow x) (some (l : Int)) (some ((l + m : Nat) : Int)) = .ok (encRow ((x.drop l).take m)) := by
      show Res.ok (PyData.tuple (cutL (x.map encC) _ _)) = _
      rw [cut_nat _ _ _ (by rw [List.length_map, r.2 x hx]; exact hl)]
      unfold encRow
      rw [List.map_take, List.map_drop]
    refine ev_blt (ev_one (x := encRow ((x.drop l).take m)) ?_) rfl
    show ((slcD (encRow x) (some (l : Int)) (some ((l : Int) + (m : Int)))).noE) = _
    rw [show ((l : Int) + (m : Int)) = ((l + m : Nat) : Int) from (Int.natCast_add l m).symm, a2]
    rfl
  · rw [encP_rows]
    unfold sqP
    rw [List.map_map]
    rfl

/-! ### symmetry_between -/
theorem find_loop {α : Type} {f : D → En → Res Fl} (enc out : α → D) (p : α → Bool) (I : En → Prop) : ∀ {l : List α} {e : En}, I e → (∀ a e, a ∈ l → I e → (p a = true → f (enc a) e = .ok (.rt (out a))) ∧ (p a = false → ∃ e', f (enc a) e = .ok (.nx e') ∧ I e')) →
    (∀ a, l.find? p = some a → forL f (l.map enc) e = .ok (.rt (out a))) ∧ (l.find? p = none → ∃ e', forL f (l.map enc) e = .ok (.nx e') ∧ I e')
  | [], e, he, _ => ⟨fun a h => by simp at h, fun _ => ⟨e, rfl, he⟩⟩
  | a :: l, e, he, h => by
    obtain ⟨h1, h2⟩ := h a e List.mem_cons_self he
    rw [List.map_cons]
    show (∀ b, (a :: l).find? p = some b → (f (enc a) e).bind _ = _) ∧ (_ → ∃ e', (f (enc a) e).bind _ = _ ∧ _)
    rw [List.find?_cons]
    cases c : p a with
    | true =>
      rw [h1 c]
      exact ⟨fun b hb => by cases hb; rfl, fun hb => by cases hb⟩
    | false =>
      obtain ⟨e', g1, g2⟩ := h2 c
      rw [g1]
      exact find_loop enc out p I g2 fun b e hb => h b e (List.mem_cons_of_mem _ hb)
def symBetweenB (t : Nat) : C := .seq (.for_ (.var 2) (.rng (.dat (.int 0)) (.dat (.int 8)) (.dat (.int 1))) (.seq (.iff (.cmp .eq (.call t (.cons (.var 0) (.cons (.var 2) .nil))) (.var 1)) (.seq (.ret (.var 2))
      .skip) .skip)
      .skip))
      (.seq (.ret (.dat .none))
      .skip)
theorem symBetween_run {t : Nat} (ht : ∀ (p : Pt) (s : Nat), Box 10 p → K t [encP p, .int (s : Int)] = .ok (encP (trP p s))) {p q : Pt} (b : Box 10 p) (s2 : Sl) :
    ex K (symBetweenB t) [.v (encP p), .v (encP q), s2] = .ok (.rt (match (List.range 8).find? fun s => decide (trP p s = q) with
      | some s => .int (s : Int)
      | none => .none)) := by
  unfold symBetweenB
  have key := find_loop (fun (s : Nat) => PyData.int s) (fun (s : Nat) => PyData.int s) (fun s => decide (trP p s = q)) (fun e => ∃ s2, e = [.v (encP p), .v (encP q), s2]) (l := List.range 8) (e := [.v (encP p), .v (encP q), s2])
    (f := fun x e1 => (bindT (.var 2) x e1).bind fun e2 => ex K (.seq (.iff (.cmp .eq (.call t (.cons (.var 0) (.cons (.var 2) .nil))) (.var 1)) (.seq (.ret (.var 2)) .skip) .skip) .skip) e2) ⟨s2, rfl⟩ (fun s e _ he => by
      obtain ⟨s2, rfl⟩ := he
      have h1 := ht p s b
      constructor
      · intro c
        have tt : truth (.bool (decide (trP p s = q))) = true := c
        simp only [ex, ev, En.at, En.put, Sl.strict, Sl.weak, Sl.froz, En.frz, En.wip, bindT, slots, List.nil_append, List.cons_append, asL, Res.ok_bind, Res.noE_ok, h1, eq_encP, tt, if_true]
      · intro c
        have tt : truth (.bool (decide (trP p s = q))) = false := c
        refine ⟨[.v (encP p), .v (encP q), .v (.int (s : Int))], ?_, _, rfl⟩
        simp only [ex, ev, En.at, En.put, Sl.strict, Sl.weak, Sl.froz, En.frz, En.wip, bindT, slots, List.nil_append, List.cons_append, asL, Res.ok_bind, Res.noE_ok, h1, eq_encP, tt, Bool.false_eq_true, if_false])
  have hr : ev K (.rng (.dat (.int 0)) (.dat (.int 8)) (.dat (.int 1))) [.v (encP p), .v (encP q), s2] = .ok (.list (iR 8)) := ev_rngN (n := 8) rfl (by decide)
  cases e : (List.range 8).find? fun s => decide (trP p s = q) with
  | some s => exact ex_seqR ((ex_for hr rfl).trans (key.1 s e))
  | none =>
    obtain ⟨e', g, s2', rfl⟩ := key.2 e
    rw [ex_seq ((ex_for hr rfl).trans g)]
    rfl
/-! ### decomposed -/
def colB (qf ca sb : Nat) : C := .seq (.set 7 (.call qf (.cons (.var 0) (.cons (.var 4) (.cons (.var 6) (.cons (.var 1) .nil))))))
      (.seq (.set 8 (.call ca (.cons (.var 7) .nil)))
      (.seq (.iff (.cmp .notin (.var 8) (.wv 2)) (.seq (.app 2 (.var 8))
      .skip) .skip)
      (.seq (.app 5 (.tup (.cons (.mth .index (.wv 2) (.cons (.var 8) .nil)) (.cons (.call sb (.cons (.var 8) (.cons (.var 7) .nil))) .nil))))
      .skip)))
def decB (qf ca sb : Nat) : C := .seq (.seto 2 (.lst .nil))
      (.seq (.seto 3 (.lst .nil))
      (.seq (.for_ (.var 4) (.rng (.dat (.int 0)) (.blt .len (.cons (.var 0) .nil)) (.var 1)) (.seq (.seto 5 (.lst .nil))
      (.seq (.for_ (.var 6) (.rng (.dat (.int 0)) (.blt .len (.cons (.idx (.var 0) (.dat (.int 0))) .nil)) (.var 1)) (colB qf ca sb))
      (.seq (.app 3 (.blt .tuple (.cons (.wv 5) .nil)))
      .skip))))
      (.seq (.ret (.tup (.cons (.blt .tuple (.cons (.wv 2) .nil)) (.cons (.blt .tuple (.cons (.wv 3) .nil)) .nil))))
      .skip)))
theorem rngL_mul {h m : Nat} (hm : 0 < m) : rngL 0 ((h * m : Nat) : Int) (m : Int) = (List.range h).map fun (i : Nat) => PyData.int ((m * i : Nat) : Int) := by
  have e : (Builtin.Range.rangeSize 0 ((h * m : Nat) : Int) (m : Int)).toNat = h := by
    unfold Builtin.Range.rangeSize
    rw [if_pos (by omega)]
    cases h with
    | zero => simp
    | succ h =>
      have hp : 0 < (h + 1) * m := Nat.mul_pos (Nat.succ_pos h) hm
      rw [if_pos (by omega)]
      have e1 : ((((h + 1) * m : Nat) : Int) - 0 - 1) / (m : Int) + 1 = ((((h + 1) * m - 1) / m + 1 : Nat) : Int) := by
        rw [show ((((h + 1) * m : Nat) : Int) - 0 - 1) = (((h + 1) * m - 1 : Nat) : Int) by omega]
        rfl
      rw [e1, Int.toNat_natCast]
      have e2 : (h + 1) * m - 1 = m * h + (m - 1) := by rw [Nat.succ_mul, Nat.mul_comm h m]; omega
      rw [e2, Nat.mul_add_div hm, Nat.div_eq_of_lt (by omega)]
  unfold rngL
  rw [e]
  refine List.map_congr_left fun i _ => ?_
  rw [Int.zero_add, Nat.mul_comm, Int.natCast_mul]
theorem ev_rngM {hi st : C} {e : En} {h m : Nat} (hm : 0 < m) (hm2 : m ≤ 1000) (h1 : ev K hi e = .ok (.int ((h * m : Nat) : Int))) (h2 : ev K st e = .ok (.int (m : Int))) (hl : h * m ≤ lim) : ev K (.rng (.dat (.int 0)) hi st) e = .ok (.list ((List.range h).map fun (i : Nat) => PyData.int ((m * i : Nat) : Int))) := by
  have l1 : lim = 1000000 := rfl
  show (Res.ok (PyData.int 0)).bind (fun x => (ev K hi e).bind fun y => (ev K st e).bind fun z => match x, y, z with
    | .int a, .int b, .int c => if -(10 ^ 9) ≤ a ∧ a ≤ 10 ^ 9 ∧ -(10 ^ 9) ≤ b ∧ b ≤ 10 ^ 9 ∧ c ≠ 0 ∧ c.natAbs ≤ 10 ^ 9 ∧ (Builtin.Range.rangeSize a b c).toNat ≤ lim then Res.ok (PyData.list (rngL a b c)) else .bad
    | _, _, _ => .bad) = _
  rw [h1, h2]
  have hle : h ≤ h * m := Nat.le_mul_of_pos_right h hm
  have hlen : (Builtin.Range.rangeSize 0 ((h * m : Nat) : Int) (m : Int)).toNat = h := by
    have := congrArg List.length (rngL_mul (h := h) hm)
    rw [rngL_length, List.length_map, List.length_range] at this
    exact this
  show (if _ then _ else _) = _
  rw [if_pos ⟨by decide, by decide, by omega, by omega, by omega, by omega, by rw [hlen]; omega⟩, rngL_mul hm]
theorem any_mem {F : List Pt} {f : Pt} : (F.any fun p => decide (p = f)) = decide (f ∈ F) := by
  rw [Bool.eq_iff_iff, List.any_eq_true, decide_eq_true_eq]
  constructor
  · rintro ⟨x, hx, e⟩
    rw [← of_decide_eq_true e]
    exact hx
  · exact fun h => ⟨f, h, decide_eq_true rfl⟩
theorem fl_encPs (F : List Pt) : fl (.list (F.map encP)) = true := fl_list fun x hx => by
  obtain ⟨p, _, rfl⟩ := List.mem_map.mp hx
  exact ⟨(encP_plain p).1, Nat.le_trans (encP_plain p).2 (by decide)⟩
theorem index_encP {F : List Pt} {f : Pt} (h : f ∈ F) : mtD .index (.list (F.map encP)) [encP f] = .ok (.int (ixF F f : Nat)) := by
  show (if (fl (.list (F.map encP)) && fl (encP f)) = true then (match (F.map encP).findIdx? fun z => PyData.eqv z (encP f) with
    | some j => Res.ok (PyData.int (j : Nat))
    | none => .bad) else .bad) = _
  rw [fl_encPs, encP_fl, if_pos (by rfl), List.findIdx?_map]
  have e : (fun z => PyData.eqv z (encP f)) ∘ encP = fun z => decide (z = f) := funext fun z => eqv_encP z f
  rw [e, (ixF_at h).1]
theorem mtTy_list (l : List D) : mtTy .index (.list l) = true := rfl
section
variable {qf ca sb m : Nat} {p : Pt}
theorem col_step (hsb : ∀ f q : Pt, Box 10 f → K sb [encP f, encP q] = .ok (match (List.range 8).find? fun s => decide (trP f s = q) with
      | some s => .int (s : Int)
      | none => .none)) (hca : ∀ q : Pt, Box 10 q → K ca [encP q] = .ok (encP (canon q))) {t l : Nat} {q : Pt} (hsq : K qf [encP p, .int (t : Int), .int (l : Int), .int (m : Int)] = .ok (encP q)) (bq : Box 10 q)
    (F : List Pt) (es : List (Nat × Nat)) (hF : F.length < 100) (he : es.length < 100) (s3 s7 s8 : Sl) :
    ex K (colB qf ca sb) [.v (encP p), .v (.int (m : Int)), .o (.list (F.map encP)), s3, .v (.int (t : Int)), .o (.list (es.map encE)), .v (.int (l : Int)), s7, s8] =
      .ok (.nx [.v (encP p), .v (.int (m : Int)), .o (.list ((stepD (F, es) q).1.map encP)), s3, .v (.int (t : Int)), .o (.list ((stepD (F, es) q).2.map encE)), .v (.int (l : Int)), .v (encP q), .v (encP (canon q))]) := by
  have l1 : lim = 1000000 := rfl
  have hc := hca q bq
  have hs := hsb (canon q) q (canon_box bq)
  have f1 := (symF_at (canon_back bq)).1
  rw [f1] at hs
  have hs : K sb [encP (canon q), encP q] = .ok (.int (symF (canon q) q : Nat)) := hs
  have fin : ∀ G : List Pt, G = addF F (canon q) → ex K (.seq (.app 5 (.tup (.cons (.mth .index (.wv 2) (.cons (.var 8) .nil)) (.cons (.call sb (.cons (.var 8) (.cons (.var 7) .nil))) .nil)))) .skip)
      [.v (encP p), .v (.int (m : Int)), .o (.list (G.map encP)), s3, .v (.int (t : Int)), .o (.list (es.map encE)), .v (.int (l : Int)), .v (encP q), .v (encP (canon q))] =
      .ok (.nx [.v (encP p), .v (.int (m : Int)), .o (.list (G.map encP)), s3, .v (.int (t : Int)), .o (.list ((es ++ [entF G q]).map encE)), .v (.int (l : Int)), .v (encP q), .v (encP (canon q))]) := fun G hG => by
    have hi := index_encP (F := G) (f := canon q) (by rw [hG]; exact mem_addF.mpr (.inr rfl))
    have hl : (es.map encE).length < lim := by rw [List.length_map]; omega
    simp only [ex, ev, En.at, En.put, Sl.strict, Sl.weak, Sl.froz, En.frz, En.wip, bindT, slots, List.nil_append, List.cons_append, asL, Res.ok_bind, Res.noE_ok, hi, mtTy_list, if_true, hs, hl]
    simp only [List.map_append, List.map_cons, List.map_nil, encE, entF]
  unfold colB
  rw [ex_seq (e1 := [.v (encP p), .v (.int (m : Int)), .o (.list (F.map encP)), s3, .v (.int (t : Int)), .o (.list (es.map encE)), .v (.int (l : Int)), .v (encP q), s8]) (by simp only [ex, ev, En.at, En.put, Sl.strict, Sl.weak, Sl.froz, En.frz, En.wip, bindT, slots, List.nil_append, List.cons_append, asL, Res.ok_bind, Res.noE_ok, hsq])]
  rw [ex_seq (e1 := [.v (encP p), .v (.int (m : Int)), .o (.list (F.map encP)), s3, .v (.int (t : Int)), .o (.list (es.map encE)), .v (.int (l : Int)), .v (encP q), .v (encP (canon q))]) (by simp only [ex, ev, En.at, En.put, Sl.strict, Sl.weak, Sl.froz, En.frz, En.wip, bindT, slots, List.nil_append, List.cons_append, asL, Res.ok_bind, Res.noE_ok, hc])]
  have hn : ev K (.cmp .notin (.var 8) (.wv 2)) [.v (encP p), .v (.int (m : Int)), .o (.list (F.map encP)), s3, .v (.int (t : Int)), .o (.list (es.map encE)), .v (.int (l : Int)), .v (encP q), .v (encP (canon q))] = .ok (.bool (!decide (canon q ∈ F))) := by
    rw [← any_mem]
    exact ev_cmp rfl rfl notin_encP
  by_cases hm : canon q ∈ F
  · rw [decide_eq_true hm] at hn
    have hG : F = addF F (canon q) := by unfold addF; rw [if_pos hm]
    rw [ex_seq ((ex_iffF hn rfl).trans rfl), fin F hG]
    unfold stepD
    rw [← hG]
  · rw [decide_eq_false hm] at hn
    have hG : F ++ [canon q] = addF F (canon q) := by unfold addF; rw [if_neg hm]
    have ha : ex K (.seq (.app 2 (.var 8)) .skip) [.v (encP p), .v (.int (m : Int)), .o (.list (F.map encP)), s3, .v (.int (t : Int)), .o (.list (es.map encE)), .v (.int (l : Int)), .v (encP q), .v (encP (canon q))] = .ok (.nx [.v (encP p), .v (.int (m : Int)), .o (.list ((F ++ [canon q]).map encP)), s3, .v (.int (t : Int)), .o (.list (es.map encE)), .v (.int (l : Int)), .v (encP q), .v (encP (canon q))]) := by
      have hl : (F.map encP).length < lim := by rw [List.length_map]; omega
      simp only [ex, ev, En.at, En.put, Sl.strict, Sl.weak, Sl.froz, En.frz, En.wip, bindT, slots, List.nil_append, List.cons_append, asL, Res.ok_bind, Res.noE_ok, hl, if_true]
      rw [List.map_append]
      rfl
    rw [ex_seq ((ex_iffT hn rfl).trans ha), fin _ hG]
    unfold stepD
    rw [← hG]
theorem adds_len : ∀ (qs F : List Pt), (adds F qs).length ≤ F.length + qs.length
  | [], F => Nat.le_refl _
  | q :: qs, F => by
    have h := adds_len qs (addF F (canon q))
    have : (addF F (canon q)).length ≤ F.length + 1 := by
      unfold addF
      split
      · omega
      · simp
    show (adds (addF F (canon q)) qs).length ≤ _
    rw [List.length_cons]
    omega
theorem dec_run (hsb : ∀ f q : Pt, Box 10 f → K sb [encP f, encP q] = .ok (match (List.range 8).find? fun s => decide (trP f s = q) with
      | some s => .int (s : Int)
      | none => .none)) (hca : ∀ q : Pt, Box 10 q → K ca [encP q] = .ok (encP (canon q))) {h w : Nat} (hsq : ∀ t l, t + m ≤ h * m → l + m ≤ w * m → K qf [encP p, .int (t : Int), .int (l : Int), .int (m : Int)] = .ok (encP (sqP p t l m)))
    (r : Rect (h * m) (w * m) p) (h0 : 0 < h) (w0 : 0 < w) (m0 : 0 < m) (hh : h * m ≤ 10) (hw : w * m ≤ 10) (s2 s3 s4 s5 s6 s7 s8 : Sl) :
    ex K (decB qf ca sb) [.v (encP p), .v (.int (m : Int)), s2, s3, s4, s5, s6, s7, s8] = .ok (.rt (.tuple [encB (decAll (tab h w fun i j => sqP p (m * i) (m * j) m)).1, encLay (decAll (tab h w fun i j => sqP p (m * i) (m * j) m)).2])) := by
  have l1 : lim = 1000000 := rfl
  have hm10 : m ≤ 10 := Nat.le_trans (Nat.le_mul_of_pos_left m h0) hh
  have h10 : h ≤ 10 := Nat.le_trans (Nat.le_mul_of_pos_right h m0) hh
  have w10 : w ≤ 10 := Nat.le_trans (Nat.le_mul_of_pos_right w m0) hw
  let rowq : Nat → List Pt := fun i => (List.range w).map fun j => sqP p (m * i) (m * j) m
  have bnd : ∀ {i n : Nat}, i < n → m * i + m ≤ n * m := fun {i n} hi => by
    have := Nat.mul_le_mul_right m (show i + 1 ≤ n from hi)
    rw [Nat.succ_mul, Nat.mul_comm i m] at this
    exact this
  have bx : ∀ i j, i < h → j < w → Box 10 (sqP p (m * i) (m * j) m) := fun i j hi hj => by
    have e := rect_tab (.pl 0) r
    rw [e, sqP_tab _ (bnd hi) (bnd hj)]
    exact ⟨m, m, tab_rect _ _ _, m0, m0, hm10, hm10⟩
  have lp : lenD (encP p) = .ok (.int ((h * m : Nat) : Int)) := by rw [len_encP, r.1]
  have bp : Box 10 p := ⟨h * m, w * m, r, Nat.mul_pos h0 m0, Nat.mul_pos w0 m0, hh, hw⟩
  unfold decB
  rw [ex_seq (e1 := [.v (encP p), .v (.int (m : Int)), .o (.list []), s3, s4, s5, s6, s7, s8]) rfl]
  rw [ex_seq (e1 := [.v (encP p), .v (.int (m : Int)), .o (.list []), .o (.list []), s4, s5, s6, s7, s8]) rfl]
  have flat : ∀ q : List Nat, (q.map rowq).flatten.length = q.length * w := fun q => by
    induction q with
    | nil => simp
    | cons a r ih =>
      simp only [List.map_cons, List.flatten_cons, List.length_append, List.length_cons]
      rw [ih, Nat.succ_mul]
      have : (rowq a).length = w := by simp [rowq]
      omega
  have flen : ∀ (pre : List Nat), pre.length ≤ 10 → (decAll (pre.map rowq)).1.length ≤ pre.length * w ∧ (decAll (pre.map rowq)).2.length ≤ 10 := fun pre hp => by
    rw [decAll_eq]
    refine ⟨?_, by simp; exact hp⟩
    have h1 := adds_len (pre.map rowq).flatten []
    rw [flat] at h1
    simp only [List.length_nil, Nat.zero_add] at h1
    exact h1
  obtain ⟨e', g, s4', s5', s6', s7', s8', rfl⟩ := forP (fun (i : Nat) => PyData.int ((m * i : Nat) : Int)) (fun pre e => ∃ s4 s5 s6 s7 s8, e = [.v (encP p), .v (.int (m : Int)), .o (.list ((decAll (pre.map rowq)).1.map encP)), .o (.list ((decAll (pre.map rowq)).2.map fun r => .tuple (r.map encE))), s4, s5, s6, s7, s8]) (l := List.range h)
    (e := [.v (encP p), .v (.int (m : Int)), .o (.list []), .o (.list []), s4, s5, s6, s7, s8])
    (f := fun x e1 => (bindT (.var 4) x e1).bind fun e2 => ex K (.seq (.seto 5 (.lst .nil)) (.seq (.for_ (.var 6) (.rng (.dat (.int 0)) (.blt .len (.cons (.idx (.var 0) (.dat (.int 0))) .nil)) (.var 1)) (colB qf ca sb)) (.seq (.app 3 (.blt .tuple (.cons (.wv 5) .nil))) .skip))) e2)
    ⟨s4, s5, s6, s7, s8, rfl⟩ (fun pre i post e hl hi => by
      obtain ⟨s4, s5, s6, s7, s8, rfl⟩ := hi
      have hi : i < h := List.mem_range.mp (by rw [hl]; simp)
      have hpre : pre.length ≤ 10 := by
        have := congrArg List.length hl
        simp at this
        omega
      obtain ⟨fl1, fl2⟩ := flen pre hpre
      have hpre2 : pre.length + 1 ≤ 10 := by
        have := congrArg List.length hl
        simp at this
        omega
      generalize hF : (decAll (pre.map rowq)).1 = F at *
      generalize hLa : (decAll (pre.map rowq)).2 = La at *
      obtain ⟨e', g, s6', s7', s8', rfl⟩ := forP (fun (j : Nat) => PyData.int ((m * j : Nat) : Int)) (fun pre2 e => ∃ s6 s7 s8, e = [.v (encP p), .v (.int (m : Int)), .o (.list ((decRow F (pre2.map fun j => sqP p (m * i) (m * j) m)).1.map encP)), .o (.list (La.map fun r => .tuple (r.map encE))), .v (.int ((m * i : Nat) : Int)), .o (.list ((decRow F (pre2.map fun j => sqP p (m * i) (m * j) m)).2.map encE)), s6, s7, s8]) (l := List.range w)
        (e := [.v (encP p), .v (.int (m : Int)), .o (.list (F.map encP)), .o (.list (La.map fun r => .tuple (r.map encE))), .v (.int ((m * i : Nat) : Int)), .o (.list []), s6, s7, s8])
        (f := fun x e1 => (bindT (.var 6) x e1).bind fun e2 => ex K (colB qf ca sb) e2) ⟨s6, s7, s8, rfl⟩ (fun pre2 j post2 e hl2 hi2 => by
          obtain ⟨s6, s7, s8, rfl⟩ := hi2
          have hj : j < w := List.mem_range.mp (by rw [hl2]; simp)
          have hp2 : pre2.length < 10 := by
            have := congrArg List.length hl2
            simp at this
            omega
          have e1 := decRow_eq F (pre2.map fun j => sqP p (m * i) (m * j) m)
          have lenF : (decRow F (pre2.map fun j => sqP p (m * i) (m * j) m)).1.length < 100 := by
            rw [e1]
            have h1 := adds_len (pre2.map fun j => sqP p (m * i) (m * j) m) F
            rw [List.length_map] at h1
            have h2 : F.length ≤ pre.length * w := fl1
            have h5 : pre.length * w ≤ 9 * w := Nat.mul_le_mul_right w (by omega)
            have h6 : pre2.length < w := by
              have := congrArg List.length hl2
              simp at this
              omega
            show (adds F _).length < 100
            omega
          have lenE : (decRow F (pre2.map fun j => sqP p (m * i) (m * j) m)).2.length < 100 := by
            rw [e1]
            simp
            omega
          have st := col_step (K := K) (qf := qf) (ca := ca) (sb := sb) (m := m) (p := p) hsb hca (t := m * i) (l := m * j) (hsq _ _ (bnd hi) (bnd hj)) (bx i j hi hj) _ _ lenF lenE (.o (.list (La.map fun r => .tuple (r.map encE)))) s7 s8
          refine ⟨_, st, .v (.int ((m * j : Nat) : Int)), .v (encP (sqP p (m * i) (m * j) m)), .v (encP (canon (sqP p (m * i) (m * j) m))), ?_⟩
          rw [List.map_append, List.map_cons, List.map_nil, decRow_snoc])
      have hlen : (La.map fun r => PyData.tuple (r.map encE)).length < lim := by rw [List.length_map]; omega
      refine ⟨[.v (encP p), .v (.int (m : Int)), .o (.list ((decRow F (rowq i)).1.map encP)), .o (.list ((La ++ [(decRow F (rowq i)).2]).map fun r => .tuple (r.map encE))), .v (.int ((m * i : Nat) : Int)), .o (.list ((decRow F (rowq i)).2.map encE)), s6', s7', s8'], ?_, .v (.int ((m * i : Nat) : Int)), .o (.list ((decRow F (rowq i)).2.map encE)), s6', s7', s8', ?_⟩
      · show ex K _ [.v (encP p), .v (.int (m : Int)), .o (.list (F.map encP)), .o (.list (La.map fun r => .tuple (r.map encE))), .v (.int ((m * i : Nat) : Int)), s5, s6, s7, s8] = _
        rw [ex_seq (e1 := [.v (encP p), .v (.int (m : Int)), .o (.list (F.map encP)), .o (.list (La.map fun r => .tuple (r.map encE))), .v (.int ((m * i : Nat) : Int)), .o (.list []), s6, s7, s8]) rfl]
        have hwid : (p.headD []).length = w * m := r.head (Nat.mul_pos h0 m0)
        have hn := wid_encP (K := K) bp (x := .var 0) (e := [.v (encP p), .v (.int (m : Int)), .o (.list (F.map encP)), .o (.list (La.map fun r => .tuple (r.map encE))), .v (.int ((m * i : Nat) : Int)), .o (.list []), s6, s7, s8]) rfl
        rw [hwid] at hn
        rw [ex_seq ((ex_for (ev_rngM m0 (by omega) hn rfl (by omega)) rfl).trans g)]
        have hb : blD .tuple [.list ((decRow F (rowq i)).2.map encE)] = .ok (.tuple ((decRow F (rowq i)).2.map encE)) := rfl
        simp only [ex, ev, En.at, En.put, Sl.strict, Sl.weak, Sl.froz, En.frz, En.wip, bindT, slots, List.nil_append, List.cons_append, asL, Res.ok_bind, Res.noE_ok, hb, hlen, if_true]
        rw [List.map_append]
        rfl
      · have e9 : decAll ((pre ++ [i]).map rowq) = stepR (decAll (pre.map rowq)) (rowq i) := by
          rw [List.map_append]
          exact decAll_snoc _ _
        rw [e9]
        unfold stepR
        rw [hF, hLa])
  have hn : ev K (.blt .len (.cons (.var 0) .nil)) [.v (encP p), .v (.int (m : Int)), .o (.list []), .o (.list []), s4, s5, s6, s7, s8] = .ok (.int ((h * m : Nat) : Int)) := ev_blt (ev_one rfl) lp
  refine (ex_seq ((ex_for (ev_rngM m0 (by omega) hn rfl (by omega)) rfl).trans g)).trans ?_
  have b1 : ∀ F : List Pt, blD .tuple [.list (F.map encP)] = .ok (encB F) := fun _ => rfl
  have b2 : ∀ L : Lay, blD .tuple [.list (L.map fun r => PyData.tuple (r.map encE))] = .ok (encLay L) := fun L => by rw [encLay_rows]; rfl
  simp only [ex, ev, En.at, En.put, Sl.strict, Sl.weak, Sl.froz, En.frz, En.wip, bindT, slots, List.nil_append, List.cons_append, asL, Res.ok_bind, Res.noE_ok, b1, b2]
  rfl
def decomposedB (bad : C) (qf ca sb : Nat) : C := .seq (.iff (.or (.cmp .ne (.bin .mod (.blt .len (.cons (.var 0) .nil)) (.var 1)) (.dat (.int 0))) (.cmp .ne (.bin .mod (.blt .len (.cons (.idx (.var 0) (.dat (.int 0))) .nil)) (.var 1)) (.dat (.int 0)))) (.seq bad
      .skip) .skip) (decB qf ca sb)
theorem modN (a : Nat) {m : Nat} (hm : 0 < m) : opD .mod (.int (a : Int)) (.int (m : Int)) = .ok (.int ((a % m : Nat) : Int)) := by
  show (if (m : Int) ≠ 0 then Res.ok (PyData.int ((a : Int).fmod m)) else .bad) = _
  rw [if_pos (by omega), Int.fmod_eq_emod_of_nonneg _ (by omega)]
  rfl
theorem decomposed_run {bad : C} (hsb : ∀ f q : Pt, Box 10 f → K sb [encP f, encP q] = .ok (match (List.range 8).find? fun s => decide (trP f s = q) with
      | some s => .int (s : Int)
      | none => .none)) (hca : ∀ q : Pt, Box 10 q → K ca [encP q] = .ok (encP (canon q))) {h w : Nat} (hsq : ∀ t l, t + m ≤ h * m → l + m ≤ w * m → K qf [encP p, .int (t : Int), .int (l : Int), .int (m : Int)] = .ok (encP (sqP p t l m)))
    (r : Rect (h * m) (w * m) p) (h0 : 0 < h) (w0 : 0 < w) (m0 : 0 < m) (hh : h * m ≤ 10) (hw : w * m ≤ 10) (s2 s3 s4 s5 s6 s7 s8 : Sl) :
    ex K (decomposedB bad qf ca sb) [.v (encP p), .v (.int (m : Int)), s2, s3, s4, s5, s6, s7, s8] = .ok (.rt (.tuple [encB (decAll (tab h w fun i j => sqP p (m * i) (m * j) m)).1, encLay (decAll (tab h w fun i j => sqP p (m * i) (m * j) m)).2])) := by
  have bp : Box 10 p := ⟨h * m, w * m, r, Nat.mul_pos h0 m0, Nat.mul_pos w0 m0, hh, hw⟩
  have lp : lenD (encP p) = .ok (.int ((h * m : Nat) : Int)) := by rw [len_encP, r.1]
  have hwid : (p.headD []).length = w * m := r.head (Nat.mul_pos h0 m0)
  have hn := wid_encP (K := K) bp (x := .var 0) (e := [.v (encP p), .v (.int (m : Int)), s2, s3, s4, s5, s6, s7, s8]) rfl
  rw [hwid] at hn
  have mz : ∀ x : Nat, opD .mod (.int ((x * m : Nat) : Int)) (.int (m : Int)) = .ok (.int 0) := fun x => by
    rw [modN _ m0, Nat.mul_mod_left]
    rfl
  have z : cmD .ne (.int 0) (.int 0) = .ok false := by rw [cm_neI]; rfl
  have c1 : ev K (.cmp .ne (.bin .mod (.blt .len (.cons (.var 0) .nil)) (.var 1)) (.dat (.int 0))) [.v (encP p), .v (.int (m : Int)), s2, s3, s4, s5, s6, s7, s8] = .ok (.bool false) := ev_cmp (ev_bin (ev_blt (ev_one rfl) lp) rfl (mz h)) rfl z
  have c2 : ev K (.cmp .ne (.bin .mod (.blt .len (.cons (.idx (.var 0) (.dat (.int 0))) .nil)) (.var 1)) (.dat (.int 0))) [.v (encP p), .v (.int (m : Int)), s2, s3, s4, s5, s6, s7, s8] = .ok (.bool false) := ev_cmp (ev_bin hn rfl (mz w)) rfl z
  unfold decomposedB
  rw [ex_seq ((ex_iffF ((ev_orF c1 rfl).trans c2) rfl).trans rfl)]
  exact dec_run hsb hca hsq r h0 w0 m0 hh hw s2 s3 s4 s5 s6 s7 s8

/-! ### decomposed, of what was arranged -/
theorem entF_1 (F : List Pt) (q : Pt) : (entF F q).1 = ixF F (canon q) := by simp only [entF]
theorem entF_2 (F : List Pt) (q : Pt) : (entF F q).2 = symF (canon q) q := by simp only [entF]
theorem dec_arr {bs : List Pt} {L : Lay} (o : Lay8 bs m L) : ∃ h w F M, Rect (h * m) (w * m) (arr bs m L) ∧ 0 < h ∧ 0 < w ∧ L.length = h ∧ (L.headD []).length = w ∧ decAll (tab h w fun i j => sqP (arr bs m L) (m * i) (m * j) m) = (F, M) ∧
    F.Nodup ∧ (∀ f ∈ F, ∃ b ∈ bs, f = canon b) ∧ Lay8 F m M ∧ M.length = h ∧ (M.headD []).length = w ∧ arr F m M = arr bs m L := by
  obtain ⟨h, w, f, rfl, h0, w0, h10, w10⟩ := o.ok.box.tab
  have hm := o.ok.m0
  have ixf : ∀ i j, i < h → j < w → (f i j).1 < bs.length ∧ (f i j).2 < 8 := fun i j hi hj => by
    obtain ⟨r, hr, he⟩ := tab_mem (f := f) hi hj
    exact ⟨o.ok.ix r hr _ he, o.s8 r hr _ he⟩
  have rq : ∀ i j, i < h → j < w → Rect m m (blkAt bs (f i j)) := fun i j hi hj => o.ok.at (ixf i j hi hj).1
  have bq : ∀ i j, i < h → j < w → Box 10 (blkAt bs (f i j)) := fun i j hi hj => ⟨m, m, rq i j hi hj, hm, hm, o.ok.m10, o.ok.m10⟩
  have er : (tab h w fun i j => sqP (arr bs m (tab h w f)) (m * i) (m * j) m) = tab h w fun i j => blkAt bs (f i j) := tab_congr fun i j hi hj => sqP_arr hm rq hi hj
  obtain ⟨Q, hQ⟩ : ∃ Q : Nat → Nat → Pt, ∀ i j, Q i j = blkAt bs (f i j) := ⟨_, fun _ _ => rfl⟩
  have er : (tab h w fun i j => sqP (arr bs m (tab h w f)) (m * i) (m * j) m) = tab h w Q := by
    rw [er]
    exact tab_congr fun i j _ _ => (hQ i j).symm
  have rq' : ∀ i j, i < h → j < w → Rect m m (Q i j) := fun i j hi hj => by rw [hQ]; exact rq i j hi hj
  have bq' : ∀ i j, i < h → j < w → Box 10 (Q i j) := fun i j hi hj => by rw [hQ]; exact bq i j hi hj
  obtain ⟨F, hF⟩ : ∃ F, F = adds [] (tab h w Q).flatten := ⟨_, rfl⟩
  have inF : ∀ i j, i < h → j < w → canon (Q i j) ∈ F := fun i j hi hj => by
    obtain ⟨r, hr, he⟩ := tab_mem (f := Q) hi hj
    rw [hF]
    exact (adds_mem _ []).2 _ (List.mem_flatten.mpr ⟨r, hr, he⟩)
  have ofF : ∀ x ∈ F, ∃ i j, i < h ∧ j < w ∧ x = canon (Q i j) := fun x hx => by
    rw [hF] at hx
    rcases adds_of _ _ x hx with hx | ⟨q, hq, e⟩
    · cases hx
    · obtain ⟨r, hr, hq⟩ := List.mem_flatten.mp hq
      obtain ⟨i, hi, rfl⟩ := List.mem_map.mp hr
      obtain ⟨j, hj, rfl⟩ := List.mem_map.mp hq
      exact ⟨i, j, List.mem_range.mp hi, List.mem_range.mp hj, e⟩
  have ndF : F.Nodup := by rw [hF]; exact adds_nodup _ _ List.nodup_nil
  have dcF : decAll (tab h w Q) = (F, (tab h w Q).map (·.map (entF F))) := by rw [decAll_eq, ← hF]
  have ix1 : ∀ i j, i < h → j < w → (entF F (Q i j)).1 = ixF F (canon (Q i j)) := fun _ _ _ _ => entF_1 _ _
  have ix2 : ∀ i j, i < h → j < w → (entF F (Q i j)).2 = symF (canon (Q i j)) (Q i j) := fun _ _ _ _ => entF_2 _ _
  have back : ∀ i j, i < h → j < w → blkAt F (entF F (Q i j)) = Q i j := fun i j hi hj => by
    unfold blkAt
    rw [ix1 i j hi hj, ix2 i j hi hj, (ixF_at (inF i j hi hj)).2.2, (symF_at (canon_back (bq' i j hi hj))).2.2]
  have lt1 : ∀ i j, i < h → j < w → (entF F (Q i j)).1 < F.length := fun i j hi hj => by
    rw [ix1 i j hi hj]
    exact (ixF_at (inF i j hi hj)).2.1
  have lt2 : ∀ i j, i < h → j < w → (entF F (Q i j)).2 < 8 := fun i j hi hj => by
    rw [ix2 i j hi hj]
    exact (symF_at (canon_back (bq' i j hi hj))).2.1
  obtain ⟨E, hE⟩ : ∃ E : Nat → Nat → Nat × Nat, ∀ i j, E i j = entF F (Q i j) := ⟨_, fun _ _ => rfl⟩
  have eM : (tab h w Q).map (·.map (entF F)) = tab h w E := by
    rw [tab_map]
    exact tab_congr fun i j _ _ => (hE i j).symm
  rw [eM] at dcF
  have backE : ∀ i j, i < h → j < w → blkAt F (E i j) = Q i j := fun i j hi hj => by rw [hE]; exact back i j hi hj
  clear eM back ix1 ix2
  have lt1 : ∀ i j, i < h → j < w → (E i j).1 < F.length := fun i j hi hj => by rw [hE]; exact lt1 i j hi hj
  have lt2 : ∀ i j, i < h → j < w → (E i j).2 < 8 := fun i j hi hj => by rw [hE]; exact lt2 i j hi hj
  clear hE hF
  have memE : ∀ {P : Nat × Nat → Prop}, (∀ i j, i < h → j < w → P (E i j)) → ∀ r ∈ tab h w E, ∀ e ∈ r, P e := fun {P} hP r hr e he => by
    obtain ⟨i, hi, rfl⟩ := List.mem_map.mp hr
    obtain ⟨j, hj, rfl⟩ := List.mem_map.mp he
    exact hP i j (List.mem_range.mp hi) (List.mem_range.mp hj)
  have rect1 : Rect (h * m) (w * m) (arr bs m (tab h w f)) := by
    rw [arr_tab hm f rq]
    exact tab_rect _ _ _
  have same : arr F m (tab h w E) = arr bs m (tab h w f) := by
    rw [arr_tab hm _ fun i j hi hj => by rw [backE i j hi hj]; exact rq' i j hi hj, arr_tab hm f rq]
    refine tab_congr fun i j hi hj => ?_
    rw [backE _ _ (Nat.div_lt_of_lt_mul (by rw [Nat.mul_comm]; exact hi)) (Nat.div_lt_of_lt_mul (by rw [Nat.mul_comm]; exact hj)), hQ]
  have rectF : ∀ x ∈ F, Rect m m x := fun x hx => by
    obtain ⟨i, j, hi, hj, e⟩ := ofF x hx
    rw [e]
    exact canon_rect (m := m) (p := Q i j) hm (rq' i j hi hj)
  have neF : F ≠ [] := fun z => by
    have h1 := inF 0 0 h0 w0
    rw [z] at h1
    exact absurd h1 List.not_mem_nil
  have boxE : Box 10 (tab h w E) := ⟨h, w, tab_rect _ _ _, h0, w0, h10, w10⟩
  have okE : LayOk F m (tab h w E) := ⟨hm, o.ok.m10, rectF, neF, boxE, memE lt1⟩
  have subF : ∀ x ∈ F, ∃ b ∈ bs, x = canon b := fun x hx => by
    obtain ⟨i, j, hi, hj, e⟩ := ofF x hx
    obtain ⟨a, b⟩ := ixf i j hi hj
    rw [e]
    refine ⟨bs.getD (f i j).1 [], ?_, ?_⟩
    · rw [List.getD_eq_getElem?_getD, List.getElem?_eq_getElem a]
      exact List.getElem_mem a
    · have e2 : Q i j = trP (bs.getD (f i j).1 []) (f i j).2 := hQ i j
      rw [e2]
      exact canon_tr (o.ok.bbox a) b
  rw [← er] at dcF
  exact ⟨h, w, F, tab h w E, rect1, h0, w0, (tab_rect h w f).1, (tab_rect h w f).head h0, dcF, ndF, subF, ⟨okE, memE lt2⟩, (tab_rect h w E).1, (tab_rect h w E).head h0, same⟩
theorem canon_fix {bs : List Pt} {F : List Pt} (hb : ∀ b ∈ bs, Box 10 b) (h : ∀ f ∈ F, ∃ b ∈ bs, f = canon b) : ∀ f ∈ F, canon f = f := fun f hf => by
  obtain ⟨b, h1, e⟩ := h f hf
  rw [e]
  exact canon_idem (p := b) (hb b h1)
end
end
end SQ

/-! SqNam: first namings. -/
set_option maxHeartbeats 2000000
namespace SQ
open PySem C

def fabs : Cell → List Nat
  | .pl x => [x]
  | .dg x _ y => [x, y]
def ren (g : Nat → Nat) : Cell → Cell
  | .pl x => .pl (g x)
  | .dg x u y => .dg (g x) u (g y)
def see (ns : List Nat) (c : Nat) : List Nat := if c ∈ ns then ns else ns ++ [c]
def sees (ns cs : List Nat) : List Nat := cs.foldl see ns
def ixN (ns : List Nat) (c : Nat) : Nat := (ns.findIdx? fun z => decide (z = c)).getD 0
def nm (ns : List Nat) (c : Nat) : Nat := 97 + ixN ns c
def fabsP (p : Pt) : List Nat := p.flatten.flatMap fabs
def ord (p : Pt) : List Nat := sees [] (fabsP p)
def naming (p : Pt) : Pt := p.map (·.map (ren (nm (ord p))))
def isL (c : Nat) : Prop := 97 ≤ c ∧ c ≤ 122
def LetP (p : Pt) : Prop := ∀ r ∈ p, ∀ c ∈ r, ∀ x ∈ fabs c, isL x

/-! ### plain -/
theorem mem_see {ns : List Nat} {c x : Nat} : x ∈ see ns c ↔ x ∈ ns ∨ x = c := by
  unfold see
  split
  · rename_i h
    exact ⟨.inl, fun z => z.elim id fun z => by rw [z]; exact h⟩
  · simp
theorem see_pre (ns : List Nat) (c : Nat) : ∃ m, see ns c = ns ++ m := by
  unfold see
  split
  · exact ⟨[], (List.append_nil _).symm⟩
  · exact ⟨[c], rfl⟩
theorem sees_pre : ∀ (cs ns : List Nat), ∃ m, sees ns cs = ns ++ m
  | [], ns => ⟨[], (List.append_nil _).symm⟩
  | c :: cs, ns => by
    obtain ⟨m, h1⟩ := see_pre ns c
    obtain ⟨m2, h2⟩ := sees_pre cs (see ns c)
    exact ⟨m ++ m2, by show sees (see ns c) cs = _; rw [h2, h1, List.append_assoc]⟩
theorem sees_mem : ∀ (cs ns : List Nat) (x : Nat), x ∈ sees ns cs ↔ x ∈ ns ∨ x ∈ cs
  | [], ns, x => by simp [sees]
  | c :: cs, ns, x => by
    show x ∈ sees (see ns c) cs ↔ _
    rw [sees_mem cs (see ns c) x, mem_see, List.mem_cons, or_assoc]
theorem see_nodup {ns : List Nat} (h : ns.Nodup) (c : Nat) : (see ns c).Nodup := by
  unfold see
  split
  · exact h
  · rename_i hn
    refine List.nodup_append.mpr ⟨h, by simp, fun a ha b hb => ?_⟩
    intro e
    rw [e, List.mem_singleton.mp hb] at ha
    exact hn ha
theorem sees_nodup : ∀ (cs : List Nat) {ns : List Nat}, ns.Nodup → (sees ns cs).Nodup
  | [], _, h => h
  | c :: cs, _, h => sees_nodup cs (see_nodup h c)
theorem sees_append (ns a b : List Nat) : sees ns (a ++ b) = sees (sees ns a) b := by unfold sees; rw [List.foldl_append]
theorem ixN_at {ns : List Nat} {c : Nat} (h : c ∈ ns) : ns.findIdx? (fun z => decide (z = c)) = some (ixN ns c) ∧ ixN ns c < ns.length := by
  cases e : ns.findIdx? fun z => decide (z = c) with
  | none =>
    rw [List.findIdx?_eq_none_iff] at e
    have := e c h
    simp at this
  | some i =>
    have e2 : ixN ns c = i := by unfold ixN; rw [e]; rfl
    obtain ⟨h1, _, _⟩ := List.findIdx?_eq_some_iff_getElem.mp e
    rw [e2]
    exact ⟨rfl, h1⟩
theorem ixN_pre {ns : List Nat} {c : Nat} (h : c ∈ ns) (m : List Nat) : ixN (ns ++ m) c = ixN ns c := by
  have h1 := (ixN_at h).1
  unfold ixN
  rw [List.findIdx?_append, h1]
  rfl
theorem ren_congr {g h : Nat → Nat} {c : Cell} (e : ∀ x ∈ fabs c, g x = h x) : ren g c = ren h c := by
  cases c with
  | pl x => show Cell.pl (g x) = .pl (h x); rw [e x (by simp [fabs])]
  | dg x u y => show Cell.dg (g x) u (g y) = .dg (h x) u (h y); rw [e x (by simp [fabs]), e y (by simp [fabs])]
theorem ren_pre {ns : List Nat} {c : Cell} (h : ∀ x ∈ fabs c, x ∈ ns) (m : List Nat) : ren (nm (ns ++ m)) c = ren (nm ns) c := ren_congr fun x hx => by unfold nm; rw [ixN_pre (h x hx)]
theorem ren_ren (g h : Nat → Nat) (c : Cell) : ren g (ren h c) = ren (fun x => g (h x)) c := by cases c <;> rfl
theorem fabs_ren (g : Nat → Nat) (c : Cell) : fabs (ren g c) = (fabs c).map g := by cases c <;> rfl
theorem fabsP_ren (g : Nat → Nat) (p : Pt) : fabsP (p.map (·.map (ren g))) = (fabsP p).map g := by
  unfold fabsP
  induction p with
  | nil => rfl
  | cons r p ih =>
    simp only [List.map_cons, List.flatten_cons, List.flatMap_append, List.map_append]
    rw [ih]
    congr 1
    induction r with
    | nil => rfl
    | cons c r ih => simp only [List.map_cons, List.flatMap_cons, List.map_append]; rw [ih, fabs_ren]
theorem mem_fabsP {p : Pt} {r : List Cell} {c : Cell} {x : Nat} (hr : r ∈ p) (hc : c ∈ r) (hx : x ∈ fabs c) : x ∈ fabsP p := List.mem_flatMap.mpr ⟨c, List.mem_flatten.mpr ⟨r, hr, hc⟩, hx⟩
theorem sees_map {g : Nat → Nat} : ∀ (cs ns : List Nat), (∀ x y, (x ∈ ns ∨ x ∈ cs) → (y ∈ ns ∨ y ∈ cs) → g x = g y → x = y) → sees (ns.map g) (cs.map g) = (sees ns cs).map g
  | [], _, _ => rfl
  | c :: cs, ns, h => by
    have e : see (ns.map g) (g c) = (see ns c).map g := by
      unfold see
      by_cases hc : c ∈ ns
      · rw [if_pos hc, if_pos (List.mem_map.mpr ⟨c, hc, rfl⟩)]
      · rw [if_neg hc, if_neg fun z => ?_, List.map_append]
        · rfl
        · obtain ⟨y, hy, e⟩ := List.mem_map.mp z
          exact hc (by rw [← h y c (.inl hy) (.inr List.mem_cons_self) e]; exact hy)
    show sees (see (ns.map g) (g c)) (cs.map g) = (sees (see ns c) cs).map g
    rw [e]
    refine sees_map cs (see ns c) fun x y hx hy => h x y ?_ ?_
    · rcases hx with hx | hx
      · rcases mem_see.mp hx with hx | rfl
        · exact .inl hx
        · exact .inr List.mem_cons_self
      · exact .inr (List.mem_cons_of_mem _ hx)
    · rcases hy with hy | hy
      · rcases mem_see.mp hy with hy | rfl
        · exact .inl hy
        · exact .inr List.mem_cons_self
      · exact .inr (List.mem_cons_of_mem _ hy)
theorem ixN_map {g : Nat → Nat} {ns : List Nat} {c : Nat} (hc : c ∈ ns) (h : ∀ x ∈ ns, g x = g c → x = c) : ixN (ns.map g) (g c) = ixN ns c := by
  unfold ixN
  rw [List.findIdx?_map]
  congr 1
  induction ns with
  | nil => rfl
  | cons a ns ih =>
    rw [List.findIdx?_cons, List.findIdx?_cons]
    by_cases e : a = c
    · subst e; simp
    · have h2 : ¬ g a = g c := fun z => e (h a List.mem_cons_self z)
      have hc' : c ∈ ns := by
        rcases List.mem_cons.mp hc with z | z
        · exact absurd z.symm e
        · exact z
      have h3 : decide (a = c) = false := decide_eq_false e
      have h4 : ((fun z => decide (z = g c)) ∘ g) a = false := decide_eq_false h2
      rw [h3, h4]
      simp only [Bool.false_eq_true, if_false]
      rw [ih hc' fun x hx => h x (List.mem_cons_of_mem _ hx)]
/-- naming does not see a renaming before -/
theorem naming_ren {g : Nat → Nat} {p : Pt} (h : ∀ x ∈ fabsP p, ∀ y ∈ fabsP p, g x = g y → x = y) : naming (p.map (·.map (ren g))) = naming p := by
  have e : ord (p.map (·.map (ren g))) = (ord p).map g := by
    unfold ord
    rw [fabsP_ren]
    exact sees_map (fabsP p) [] fun x y hx hy => h x (hx.elim (fun z => nomatch z) id) y (hy.elim (fun z => nomatch z) id)
  unfold naming
  rw [e, List.map_map]
  refine List.map_congr_left fun r hr => ?_
  show (r.map (ren g)).map _ = _
  rw [List.map_map]
  refine List.map_congr_left fun c hc => ?_
  show ren _ (ren g c) = _
  rw [ren_ren]
  refine ren_congr fun x hx => ?_
  have hx := mem_fabsP hr hc hx
  have ho : x ∈ ord p := (sees_mem _ _ _).mpr (.inr hx)
  show 97 + ixN ((ord p).map g) (g x) = 97 + ixN (ord p) x
  rw [ixN_map ho fun y hy e => h y (((sees_mem _ _ _).mp hy).elim (fun z => nomatch z) id) x hx e]
theorem ixN_inj {ns : List Nat} {a b : Nat} (ha : a ∈ ns) (hb : b ∈ ns) (e : ixN ns a = ixN ns b) : a = b := by
  have h1 := (ixN_at ha).1
  have h2 := (ixN_at hb).1
  rw [e] at h1
  obtain ⟨l1, p1, _⟩ := List.findIdx?_eq_some_iff_getElem.mp h1
  obtain ⟨l2, p2, _⟩ := List.findIdx?_eq_some_iff_getElem.mp h2
  exact (of_decide_eq_true p1).symm.trans (of_decide_eq_true p2)
theorem naming_idem (p : Pt) : naming (naming p) = naming p := by
  have := naming_ren (g := nm (ord p)) (p := p) fun x hx y hy e => ixN_inj ((sees_mem _ _ _).mpr (.inr hx)) ((sees_mem _ _ _).mpr (.inr hy)) (Nat.add_left_cancel e)
  exact this
theorem few_letters {ns : List Nat} (h : ns.Nodup) (hl : ∀ c ∈ ns, isL c) : ns.length ≤ 26 := by
  have := nodup_len (k := (List.range 26).map (97 + ·)) h fun x hx => by
    obtain ⟨a, b⟩ := hl x hx
    exact List.mem_map.mpr ⟨x - 97, List.mem_range.mpr (by omega), by omega⟩
  simpa using this
theorem naming_let {p : Pt} (h : LetP p) : LetP (naming p) := by
  intro r hr c hc x hx
  obtain ⟨r', hr', rfl⟩ := List.mem_map.mp hr
  obtain ⟨c', hc', rfl⟩ := List.mem_map.mp hc
  rw [fabs_ren] at hx
  obtain ⟨y, hy, rfl⟩ := List.mem_map.mp hx
  have hy := mem_fabsP hr' hc' hy
  have hl := few_letters (ns := ord p) (sees_nodup _ List.nodup_nil) fun c hc => by
    rcases (sees_mem _ _ _).mp hc with z | z
    · cases z
    · obtain ⟨c2, h2, h3⟩ := List.mem_flatMap.mp z
      obtain ⟨r2, h4, h5⟩ := List.mem_flatten.mp h2
      exact h r2 h4 c2 h5 c h3
  have := (ixN_at ((sees_mem (fabsP p) [] y).mpr (.inr hy))).2
  have hl : (ord p).length ≤ 26 := hl
  have : ixN (ord p) y < (ord p).length := this
  show 97 ≤ 97 + ixN (ord p) y ∧ 97 + ixN (ord p) y ≤ 122
  omega

/-! ### the dict of names -/
def ents : Nat → List Nat → List (D × D)
  | _, [] => []
  | k, c :: r => (T [c], T [97 + k]) :: ents (k + 1) r
theorem eqv_T (a b : Nat) : PyData.eqv (T [a]) (T [b]) = decide (a = b) := by
  have h := cm_eqT [a] [b]
  have h2 : (if (fl (T [a]) && fl (T [b])) = true then Res.ok (PyData.eqv (T [a]) (T [b])) else .bad) = .ok (decide ([a] = [b])) := h
  rw [if_pos (by rfl)] at h2
  injection h2 with h2
  rw [h2]
  simp
theorem ents_snoc : ∀ (ns : List Nat) (k c : Nat), ents k (ns ++ [c]) = ents k ns ++ [(T [c], T [97 + (k + ns.length)])]
  | [], k, c => rfl
  | a :: ns, k, c => by
    show (T [a], T [97 + k]) :: ents (k + 1) (ns ++ [c]) = _
    rw [ents_snoc ns (k + 1) c]
    show _ = (T [a], T [97 + k]) :: (ents (k + 1) ns ++ [(T [c], T [97 + (k + (ns.length + 1))])])
    rw [show k + 1 + ns.length = k + (ns.length + 1) by omega]
theorem ents_len : ∀ (ns : List Nat) (k : Nat), (ents k ns).length = ns.length
  | [], _ => rfl
  | _ :: ns, k => by show (ents (k + 1) ns).length + 1 = ns.length + 1; rw [ents_len]
theorem ents_get : ∀ (ns : List Nat) (k c : Nat), kvGet (T [c]) (ents k ns) = (ns.findIdx? fun z => decide (z = c)).map fun i => T [97 + (k + i)]
  | [], _, _ => rfl
  | a :: ns, k, c => by
    show (if PyData.eqv (T [a]) (T [c]) = true then some (T [97 + k]) else kvGet (T [c]) (ents (k + 1) ns)) = _
    rw [eqv_T, List.findIdx?_cons]
    by_cases e : a = c
    · subst e; simp
    · rw [decide_eq_false e, ents_get ns (k + 1) c]
      simp only [Bool.false_eq_true, if_false]
      cases ns.findIdx? fun z => decide (z = c) with
      | none => rfl
      | some i => show some (T [97 + (k + 1 + i)]) = some (T [97 + (k + (i + 1))]); rw [show k + 1 + i = k + (i + 1) by omega]
theorem get_mem {ns : List Nat} {c : Nat} (h : c ∈ ns) : kvGet (T [c]) (ents 0 ns) = some (T [nm ns c]) := by
  rw [ents_get, (ixN_at h).1]
  show some (T [97 + (0 + ixN ns c)]) = _
  rw [Nat.zero_add]
  rfl
theorem get_nmem {ns : List Nat} {c : Nat} (h : c ∉ ns) : kvGet (T [c]) (ents 0 ns) = none := by
  rw [ents_get]
  have : (ns.findIdx? fun z => decide (z = c)) = none := by
    rw [List.findIdx?_eq_none_iff]
    exact fun x hx => decide_eq_false fun e => h (by rw [← e]; exact hx)
  rw [this]
  rfl
theorem any_get {k : D} : ∀ {kvs : List (D × D)}, (kvs.any fun p => PyData.eqv p.1 k) = (kvGet k kvs).isSome
  | [] => rfl
  | (a, b) :: r => by
    rw [List.any_cons, any_get (kvs := r)]
    show (PyData.eqv a k || _) = (if PyData.eqv a k = true then some b else kvGet k r).isSome
    cases PyData.eqv a k <;> rfl
theorem kvPut_new {k v : D} {kvs : List (D × D)} (h : kvGet k kvs = none) : kvPut k v kvs = kvs ++ [(k, v)] := by
  unfold kvPut
  rw [any_get, h]
  rfl
theorem alpha_at {i : Nat} (hi : i < 26) : idxD (.str alphaS) (.int (i : Int)) = .ok (T [97 + i]) := by
  match i, hi with
  | 0, _ | 1, _ | 2, _ | 3, _ | 4, _ | 5, _ | 6, _ | 7, _ | 8, _ | 9, _ | 10, _ | 11, _ | 12, _ | 13, _ | 14, _ | 15, _ | 16, _ | 17, _ | 18, _ | 19, _ | 20, _ | 21, _ | 22, _ | 23, _ | 24, _ | 25, _ => rfl
  | n + 26, h => exact absurd h (by omega)
structure NsOk (ns : List Nat) : Prop where
  nd : ns.Nodup
  let' : ∀ c ∈ ns, isL c
theorem NsOk.see {ns : List Nat} (h : NsOk ns) {c : Nat} (hc : isL c) : NsOk (see ns c) := ⟨see_nodup h.nd c, fun x hx => (mem_see.mp hx).elim (h.let' x) fun e => by rw [e]; exact hc⟩
theorem NsOk.sees {ns : List Nat} (h : NsOk ns) {cs : List Nat} (hc : ∀ c ∈ cs, isL c) : NsOk (SQ.sees ns cs) := ⟨sees_nodup cs h.nd, fun x hx => ((sees_mem _ _ _).mp hx).elim (h.let' x) (hc x)⟩
theorem NsOk.lt {ns : List Nat} (h : NsOk ns) {c : Nat} (hc : isL c) (hn : c ∉ ns) : ns.length < 26 := by
  have h2 := h.see hc
  have := few_letters h2.nd h2.let'
  unfold SQ.see at this
  rw [if_neg hn, List.length_append] at this
  exact this
end SQ

/-! SqNam2: first_naming, _law_named, _law_renamed. -/
set_option maxHeartbeats 2000000
namespace SQ
open PySem C
section
variable {K : Nat → List D → Res D}
def kv0 (ns : List Nat) : List (D × D) := (T [47], T [47]) :: (T [92], T [92]) :: ents 0 ns
theorem kv0_get {ns : List Nat} {c : Nat} (hc : isL c) : kvGet (T [c]) (kv0 ns) = kvGet (T [c]) (ents 0 ns) := by
  obtain ⟨a, b⟩ := hc
  unfold kv0
  show (if PyData.eqv (T [47]) (T [c]) = true then some (T [47]) else if PyData.eqv (T [92]) (T [c]) = true then some (T [92]) else kvGet (T [c]) (ents 0 ns)) = _
  rw [eqv_T, eqv_T, decide_eq_false (show ¬ 47 = c by omega), decide_eq_false (show ¬ 92 = c by omega)]
  rfl
theorem kv0_sl (ns : List Nat) : kvGet (T [47]) (kv0 ns) = some (T [47]) := by
  show (if PyData.eqv (T [47]) (T [47]) = true then some (T [47]) else _) = _
  rw [eqv_T, decide_eq_true rfl]
  rfl
theorem kv0_bs (ns : List Nat) : kvGet (T [92]) (kv0 ns) = some (T [92]) := by
  show (if PyData.eqv (T [47]) (T [92]) = true then some (T [47]) else if PyData.eqv (T [92]) (T [92]) = true then some (T [92]) else _) = _
  rw [eqv_T, eqv_T, decide_eq_true (rfl : 92 = 92)]
  rfl
theorem isT_ents (ns : List Nat) (k : Nat) : isT (ents k ns) = false := by cases ns <;> rfl
theorem key_kv0 (ns : List Nat) (c : Nat) : keyD (kv0 ns) (T [c]) = true := rfl
theorem key_ents (ns : List Nat) (c : Nat) : keyD (ents 0 ns) (T [c]) = true := by
  show (!isT (ents 0 ns)) = true
  rw [isT_ents]
  rfl
theorem get_ents {ns : List Nat} {c : Nat} : (kvGet (T [c]) (ents 0 ns)).isSome = decide (c ∈ ns) := by
  by_cases h : c ∈ ns
  · rw [get_mem h, decide_eq_true h]; rfl
  · rw [get_nmem h, decide_eq_false h]; rfl
theorem notin_dict {kvs : List (D × D)} {k : D} (h : keyD kvs k = true) : cmD .notin k (.dict kvs) = .ok (!(kvGet k kvs).isSome) := by
  show (if keyD kvs k = true then Res.ok (kvGet k kvs).isSome else .bad).bind (fun b => .ok (!b)) = _
  rw [if_pos h]
  rfl
theorem idx_dict {kvs : List (D × D)} {k v : D} (h : keyD kvs k = true) (hv : kvGet k kvs = some v) : idxD (.dict kvs) k = .ok v := by
  cases k with
  | int i =>
    show (if keyD kvs (.int i) = true then (match kvGet (.int i) kvs with | some d => Res.ok d | none => .bad) else .bad) = _
    rw [if_pos h, hv]
  | str s =>
    show (if keyD kvs (.str s) = true then (match kvGet (.str s) kvs with | some d => Res.ok d | none => .bad) else .bad) = _
    rw [if_pos h, hv]
  | tuple xs =>
    show (if keyD kvs (.tuple xs) = true then (match kvGet (.tuple xs) kvs with | some d => Res.ok d | none => .bad) else .bad) = _
    rw [if_pos h, hv]
  | _ => cases h
theorem put_dict {kvs : List (D × D)} {k v : D} (h : keyD kvs k = true) (hl : kvs.length < lim) (hv : kvGet k kvs = none) : putD (.dict kvs) k v = .ok (.dict (kvs ++ [(k, v)])) := by
  show (if keyD kvs k = true ∧ kvs.length < lim then Res.ok (PyData.dict (kvPut k v kvs)) else .bad) = _
  rw [if_pos ⟨h, hl⟩, kvPut_new hv]
def signB : C := .seq (.iff (.cmp .notin (.var 6) (.wv 1)) (.seq (.puti 1 (.var 6) (.idx (.con "FABRICS" (.str "abcdefghijklmnopqrstuvwxyz")) (.bin .sub (.blt .len (.cons (.wv 1) .nil)) (.dat (.int 2)))))
      .skip) .skip)
      .skip
theorem sign_run {ns : List Nat} (h : NsOk ns) {c : Nat} (hc : isL c) (s0 s2 s3 s4 s5 : Sl) : ex K signB [s0, .o (.dict (kv0 ns)), s2, s3, s4, s5, .v (T [c])] = .ok (.nx [s0, .o (.dict (kv0 (see ns c))), s2, s3, s4, s5, .v (T [c])]) := by
  have l1 : lim = 1000000 := rfl
  have hin : cmD .notin (T [c]) (.dict (kv0 ns)) = .ok (!decide (c ∈ ns)) := by rw [notin_dict (key_kv0 ns c), kv0_get hc, get_ents]
  have ht : ev K (.cmp .notin (.var 6) (.wv 1)) [s0, .o (.dict (kv0 ns)), s2, s3, s4, s5, .v (T [c])] = .ok (.bool (!decide (c ∈ ns))) := ev_cmp rfl rfl hin
  unfold signB
  by_cases hm : c ∈ ns
  · rw [decide_eq_true hm] at ht
    rw [ex_seq ((ex_iffF ht rfl).trans rfl)]
    unfold see
    rw [if_pos hm]
    rfl
  · rw [decide_eq_false hm] at ht
    have hlt := h.lt hc hm
    have hlen : blD .len [.dict (kv0 ns)] = .ok (.int ((ns.length + 2 : Nat) : Int)) := by
      show Res.ok (PyData.int ((kv0 ns).length : Nat)) = _
      unfold kv0
      rw [List.length_cons, List.length_cons, ents_len]
    have hsub : opD .sub (.int ((ns.length + 2 : Nat) : Int)) (.int 2) = .ok (.int (ns.length : Int)) := by
      show Res.ok (PyData.int _) = _
      congr 2
      omega
    have hal : idxD (.str "abcdefghijklmnopqrstuvwxyz") (.int (ns.length : Int)) = .ok (T [97 + ns.length]) := alpha_at hlt
    have hput : putD (.dict (kv0 ns)) (T [c]) (T [97 + ns.length]) = .ok (.dict (kv0 (ns ++ [c]))) := by
      rw [put_dict (key_kv0 ns c) (by unfold kv0; rw [List.length_cons, List.length_cons, ents_len]; omega) (by rw [kv0_get hc, get_nmem hm])]
      unfold kv0
      rw [ents_snoc, Nat.zero_add]
      rfl
    have hp : ex K (.seq (.puti 1 (.var 6) (.idx (.con "FABRICS" (.str "abcdefghijklmnopqrstuvwxyz")) (.bin .sub (.blt .len (.cons (.wv 1) .nil)) (.dat (.int 2))))) .skip) [s0, .o (.dict (kv0 ns)), s2, s3, s4, s5, .v (T [c])] = .ok (.nx [s0, .o (.dict (kv0 (ns ++ [c]))), s2, s3, s4, s5, .v (T [c])]) := by
      simp only [ex, ev, En.at, En.put, Sl.strict, Sl.weak, Sl.froz, En.frz, En.wip, bindT, slots, List.nil_append, List.cons_append, asL, Res.ok_bind, Res.noE_ok, hlen, hsub, hal, hput]
    rw [ex_seq ((ex_iffT ht rfl).trans hp)]
    unfold see
    rw [if_neg hm]
    rfl
theorem sign_mark {ns : List Nat} {c : Nat} (hc : c = 47 ∨ c = 92) (s0 s2 s3 s4 s5 : Sl) : ex K signB [s0, .o (.dict (kv0 ns)), s2, s3, s4, s5, .v (T [c])] = .ok (.nx [s0, .o (.dict (kv0 ns)), s2, s3, s4, s5, .v (T [c])]) := by
  have hin : cmD .notin (T [c]) (.dict (kv0 ns)) = .ok false := by
    rw [notin_dict (key_kv0 ns c)]
    rcases hc with rfl | rfl
    · rw [kv0_sl]; rfl
    · rw [kv0_bs]; rfl
  have ht : ev K (.cmp .notin (.var 6) (.wv 1)) [s0, .o (.dict (kv0 ns)), s2, s3, s4, s5, .v (T [c])] = .ok (.bool false) := ev_cmp rfl rfl hin
  unfold signB
  rw [ex_seq ((ex_iffF ht rfl).trans rfl)]
  rfl
def cellNB : C := .seq (.for_ (.var 6) (.var 5) signB)
      (.seq (.app 4 (.mth .join (.dat (.str "")) (.cons (.cmp1 (.var 6) (.var 5) (.idx (.wv 1) (.var 6)) .na) .nil)))
      .skip)
def sg (u : Bool) : Nat := if u then 47 else 92
def signs : Cell → List Nat
  | .pl x => [x]
  | .dg x u y => [x, sg u, y]
theorem encC_signs (c : Cell) : encC c = T (signs c) := by
  cases c with
  | pl x => rfl
  | dg x u y => cases u <;> rfl
theorem items_T (l : List Nat) : itemsD (T l) = .ok (l.map fun z => T [z]) := by
  show Res.ok ((l.toArray.toList).map fun c => T [c]) = _
  rfl
theorem sign_loop {ns : List Nat} (h : NsOk ns) {c : Cell} (hc : ∀ x ∈ fabs c, isL x) (s0 s2 s3 s4 s5 s6 : Sl) : ∃ s6', forL (fun x e1 => (bindT (.var 6) x e1).bind fun e2 => ex K signB e2) ((signs c).map fun z => T [z]) [s0, .o (.dict (kv0 ns)), s2, s3, s4, s5, s6] = .ok (.nx [s0, .o (.dict (kv0 (sees ns (fabs c)))), s2, s3, s4, s5, s6']) := by
  cases c with
  | pl x =>
    refine ⟨.v (T [x]), ?_⟩
    have h1 := sign_run (K := K) h (hc x (by simp [fabs])) s0 s2 s3 s4 s5
    simp only [signs, List.map_cons, List.map_nil, forL, bindT, Res.ok_bind, En.put, h1]
    rfl
  | dg x u y =>
    refine ⟨.v (T [y]), ?_⟩
    have hx := hc x (by simp [fabs])
    have h1 := sign_run (K := K) h hx s0 s2 s3 s4 s5
    have h2 := sign_mark (K := K) (ns := see ns x) (c := sg u) (by cases u <;> simp [sg]) s0 s2 s3 s4 s5
    have h3 := sign_run (K := K) (h.see hx) (hc y (by simp [fabs])) s0 s2 s3 s4 s5
    simp only [signs, List.map_cons, List.map_nil, forL, bindT, Res.ok_bind, En.put, h1, h2, h3]
    rfl
def nmS (ns : List Nat) (z : Nat) : Nat := if z = 47 ∨ z = 92 then z else nm ns z
theorem nmS_l {ns : List Nat} {z : Nat} (h : isL z) : nmS ns z = nm ns z := by
  obtain ⟨a, b⟩ := h
  unfold nmS
  rw [if_neg (by omega)]
theorem nmS_sg {ns : List Nat} (u : Bool) : nmS ns (sg u) = sg u := by cases u <;> rfl
theorem idx_kv0 {ns : List Nat} {z : Nat} (h : z = 47 ∨ z = 92 ∨ (isL z ∧ z ∈ ns)) : idxD (.dict (kv0 ns)) (T [z]) = .ok (T [nmS ns z]) := by
  refine idx_dict (key_kv0 ns z) ?_
  rcases h with rfl | rfl | ⟨h1, h2⟩
  · rw [kv0_sl]; rfl
  · rw [kv0_bs]; rfl
  · rw [kv0_get h1, get_mem h2, nmS_l h1]
theorem signs_ok {ns : List Nat} {c : Cell} (hc : ∀ x ∈ fabs c, isL x) (hm : ∀ x ∈ fabs c, x ∈ ns) : ∀ z ∈ signs c, z = 47 ∨ z = 92 ∨ (isL z ∧ z ∈ ns) := by
  cases c with
  | pl x =>
    intro z hz
    rw [List.mem_singleton.mp hz]
    exact .inr (.inr ⟨hc x (by simp [fabs]), hm x (by simp [fabs])⟩)
  | dg x u y =>
    intro z hz
    simp only [signs, List.mem_cons, List.not_mem_nil, or_false] at hz
    rcases hz with rfl | rfl | rfl
    · exact .inr (.inr ⟨hc z (by simp [fabs]), hm z (by simp [fabs])⟩)
    · cases u
      · exact .inr (.inl rfl)
      · exact .inl rfl
    · exact .inr (.inr ⟨hc z (by simp [fabs]), hm z (by simp [fabs])⟩)
theorem join_signs {ns : List Nat} {c : Cell} (hc : ∀ x ∈ fabs c, isL x) : mtD .join (.str "") [.list ((signs c).map fun z => T [nmS ns z])] = .ok (encC (ren (nm ns) c)) := by
  rw [encC_signs]
  cases c with
  | pl x =>
    have h1 := nmS_l (ns := ns) (hc x (by simp [fabs]))
    show mtD .join (.str "") [.list [T [nmS ns x]]] = .ok (T [nm ns x])
    rw [h1]
    rfl
  | dg x u y =>
    have h1 := nmS_l (ns := ns) (hc x (by simp [fabs]))
    have h2 := nmS_l (ns := ns) (hc y (by simp [fabs]))
    have h3 := nmS_sg (ns := ns) u
    show mtD .join (.str "") [.list [T [nmS ns x], T [nmS ns (sg u)], T [nmS ns y]]] = .ok (T [nm ns x, sg u, nm ns y])
    rw [h1, h2, h3]
    rfl
theorem cellN_run {ns : List Nat} (h : NsOk ns) {c : Cell} (hc : ∀ x ∈ fabs c, isL x) {acc : List D} (ha : acc.length < lim) (s0 s2 s3 s6 : Sl) : ∃ s6', ex K cellNB [s0, .o (.dict (kv0 ns)), s2, s3, .o (.list acc), .v (encC c), s6] = .ok (.nx [s0, .o (.dict (kv0 (sees ns (fabs c)))), s2, s3, .o (.list (acc ++ [encC (ren (nm (sees ns (fabs c))) c)])), .v (encC c), s6']) := by
  obtain ⟨s6', g⟩ := sign_loop (K := K) h hc s0 s2 s3 (.o (.list acc)) (.v (encC c)) s6
  refine ⟨s6', ?_⟩
  have hi : itemsD (encC c) = .ok ((signs c).map fun z => T [z]) := by rw [encC_signs, items_T]
  unfold cellNB
  rw [ex_seq ((ex_for (s := encC c) rfl hi).trans g)]
  have hm : ∀ x ∈ fabs c, x ∈ sees ns (fabs c) := fun x hx => (sees_mem _ _ _).mpr (.inr hx)
  have hcm : ev K (.cmp1 (.var 6) (.var 5) (.idx (.wv 1) (.var 6)) .na) [s0, .o (.dict (kv0 (sees ns (fabs c)))), s2, s3, .o (.list acc), .v (encC c), s6'] = .ok (.list ((signs c).map fun z => T [nmS (sees ns (fabs c)) z])) :=
    ev_cmpT (signs c) (fun z => T [z]) (fun z => T [nmS (sees ns (fabs c)) z]) (s := encC c) rfl hi fun z hz => ⟨_, rfl, ev_idx rfl rfl (idx_kv0 (signs_ok hc hm z hz))⟩
  have hj := join_signs (ns := sees ns (fabs c)) hc
  have hv : ev K (.mth .join (.dat (.str "")) (.cons (.cmp1 (.var 6) (.var 5) (.idx (.wv 1) (.var 6)) .na) .nil)) [s0, .o (.dict (kv0 (sees ns (fabs c)))), s2, s3, .o (.list acc), .v (encC c), s6'] = .ok (encC (ren (nm (sees ns (fabs c))) c)) := by
    show (ev K (.dat (.str "")) _).bind (fun x => if mtTy .join x then (ev K (.cons _ .nil) _).bind fun l => (mtD .join x (asL l)).noE else .bad) = _
    rw [ev_one hcm]
    show (mtD .join (.str "") [.list ((signs c).map fun z => T [nmS (sees ns (fabs c)) z])]).noE = _
    rw [hj]
    rfl
  refine (ex_seq (e1 := [s0, .o (.dict (kv0 (sees ns (fabs c)))), s2, s3, .o (.list (acc ++ [encC (ren (nm (sees ns (fabs c))) c)])), .v (encC c), s6']) ?_).trans rfl
  show (ev K _ _).bind (fun d => if acc.length < lim then Res.ok (Fl.nx (En.put _ 4 (.o (.list (acc ++ [d]))))) else .bad) = _
  rw [hv, Res.ok_bind, if_pos ha]
  rfl
/-! rows: what holds of every way to name -/
structure Cells (body : C) (kv : List Nat → List (D × D)) (K : Nat → List D → Res D) : Prop where
  run : ∀ {ns : List Nat}, NsOk ns → ∀ {c : Cell}, (∀ x ∈ fabs c, isL x) → ∀ {acc : List D}, acc.length < lim → ∀ s0 s2 s3 s6 : Sl, ∃ s6', ex K body [s0, .o (.dict (kv ns)), s2, s3, .o (.list acc), .v (encC c), s6] = .ok (.nx [s0, .o (.dict (kv (sees ns (fabs c)))), s2, s3, .o (.list (acc ++ [encC (ren (nm (sees ns (fabs c))) c)])), .v (encC c), s6'])
def rowF (r : List Cell) : List Nat := r.flatMap fabs
theorem stable {ns : List Nat} {cs : List Cell} (h : ∀ c ∈ cs, ∀ x ∈ fabs c, x ∈ ns) (m : List Nat) : cs.map (ren (nm (ns ++ m))) = cs.map (ren (nm ns)) := List.map_congr_left fun c hc => ren_pre (h c hc) m
theorem row_run {body : C} {kv : List Nat → List (D × D)} (B : Cells body kv K) {ns : List Nat} (h : NsOk ns) (r : List Cell) (hr : ∀ c ∈ r, ∀ x ∈ fabs c, isL x) (hl : r.length ≤ 1000) (s0 s2 s3 s5 s6 : Sl) :
    ∃ s5' s6', forL (fun x e1 => (bindT (.var 5) x e1).bind fun e2 => ex K body e2) (r.map encC) [s0, .o (.dict (kv ns)), s2, s3, .o (.list []), s5, s6] = .ok (.nx [s0, .o (.dict (kv (sees ns (rowF r)))), s2, s3, .o (.list ((r.map (ren (nm (sees ns (rowF r))))).map encC)), s5', s6']) := by
  have l1 : lim = 1000000 := rfl
  obtain ⟨e', g, s5', s6', rfl⟩ := forP encC (fun pre e => ∃ s5 s6, e = [s0, .o (.dict (kv (sees ns (rowF pre)))), s2, s3, .o (.list ((pre.map (ren (nm (sees ns (rowF pre))))).map encC)), s5, s6]) (l := r) (e := [s0, .o (.dict (kv ns)), s2, s3, .o (.list []), s5, s6])
    (f := fun x e1 => (bindT (.var 5) x e1).bind fun e2 => ex K body e2) ⟨s5, s6, rfl⟩ (fun p c q e hl2 hi => by
      obtain ⟨s5, s6, rfl⟩ := hi
      have hc : ∀ x ∈ fabs c, isL x := hr c (by rw [hl2]; simp)
      have hp : ∀ c ∈ p, ∀ x ∈ fabs c, isL x := fun c hc => hr c (by rw [hl2]; exact List.mem_append_left _ hc)
      have hns : NsOk (sees ns (rowF p)) := h.sees fun x hx => by
        obtain ⟨c, h1, h2⟩ := List.mem_flatMap.mp hx
        exact hp c h1 x h2
      have hpl : p.length < r.length := by rw [hl2]; simp
      obtain ⟨s6', g⟩ := B.run hns hc (acc := (p.map (ren (nm (sees ns (rowF p))))).map encC) (by rw [List.length_map, List.length_map]; omega) s0 s2 s3 s6
      refine ⟨_, g, .v (encC c), s6', ?_⟩
      have e1 : rowF (p ++ [c]) = rowF p ++ fabs c := by simp [rowF]
      obtain ⟨m, hm⟩ := sees_pre (fabs c) (sees ns (rowF p))
      have e2 : p.map (ren (nm (sees ns (rowF (p ++ [c]))))) = p.map (ren (nm (sees ns (rowF p)))) := by
        rw [e1, sees_append, hm]
        exact stable (fun c hc x hx => (sees_mem _ _ _).mpr (.inr (List.mem_flatMap.mpr ⟨c, hc, hx⟩))) m
      rw [List.map_append, e2, e1, sees_append, List.map_append]
      rfl)
  exact ⟨s5', s6', g⟩
def namB (body : C) : C := .seq (.seto 2 (.lst .nil))
      (.seq (.for_ (.var 3) (.var 0) (.seq (.seto 4 (.lst .nil))
      (.seq (.for_ (.var 5) (.var 3) body)
      (.seq (.app 2 (.blt .tuple (.cons (.wv 4) .nil)))
      .skip))))
      (.seq (.ret (.blt .tuple (.cons (.wv 2) .nil)))
      .skip))
theorem nam_run {body : C} {kv : List Nat → List (D × D)} (B : Cells body kv K) {p : Pt} (b : Box 10 p) (hp : LetP p) (s2 s3 s4 s5 s6 : Sl) : ex K (namB body) [.v (encP p), .o (.dict (kv [])), s2, s3, s4, s5, s6] = .ok (.rt (encP (naming p))) := by
  have l1 : lim = 1000000 := rfl
  obtain ⟨h, w, rc, h0, w0, h10, w10⟩ := b
  unfold namB
  rw [ex_seq (e1 := [.v (encP p), .o (.dict (kv [])), .o (.list []), s3, s4, s5, s6]) rfl]
  obtain ⟨e', g, s3', s4', s5', s6', rfl⟩ := forP encRow (fun pre e => ∃ s3 s4 s5 s6, e = [.v (encP p), .o (.dict (kv (sees [] (fabsP pre)))), .o (.list ((pre.map (·.map (ren (nm (sees [] (fabsP pre)))))).map encRow)), s3, s4, s5, s6]) (l := p) (e := [.v (encP p), .o (.dict (kv [])), .o (.list []), s3, s4, s5, s6])
    (f := fun x e1 => (bindT (.var 3) x e1).bind fun e2 => ex K (.seq (.seto 4 (.lst .nil)) (.seq (.for_ (.var 5) (.var 3) body) (.seq (.app 2 (.blt .tuple (.cons (.wv 4) .nil))) .skip))) e2) ⟨s3, s4, s5, s6, rfl⟩ (fun pre r q e hl hi => by
      obtain ⟨s3, s4, s5, s6, rfl⟩ := hi
      have hr : r ∈ p := by rw [hl]; simp
      have hns : NsOk (sees [] (fabsP pre)) := NsOk.sees ⟨List.nodup_nil, fun _ z => nomatch z⟩ fun x hx => by
        obtain ⟨c, h1, h2⟩ := List.mem_flatMap.mp hx
        obtain ⟨r', h3, h4⟩ := List.mem_flatten.mp h1
        exact hp r' (by rw [hl]; exact List.mem_append_left _ h3) c h4 x h2
      obtain ⟨s5', s6', g⟩ := row_run B hns r (hp r hr) (by rw [rc.2 r hr]; omega) (.v (encP p)) (.o (.list ((pre.map (·.map (ren (nm (sees [] (fabsP pre)))))).map encRow))) (.v (encRow r)) s5 s6
      have e1 : fabsP (pre ++ [r]) = fabsP pre ++ rowF r := by simp [fabsP, rowF]
      have hlen : ((pre.map (·.map (ren (nm (sees [] (fabsP pre)))))).map encRow).length < lim := by
        rw [List.length_map, List.length_map]
        have : pre.length < p.length := by rw [hl]; simp
        rw [rc.1] at this
        omega
      refine ⟨[.v (encP p), .o (.dict (kv (sees [] (fabsP (pre ++ [r]))))), .o (.list (((pre ++ [r]).map (·.map (ren (nm (sees [] (fabsP (pre ++ [r]))))))).map encRow)), .v (encRow r), .o (.list ((r.map (ren (nm (sees (sees [] (fabsP pre)) (rowF r))))).map encC)), s5', s6'], ?_, _, _, _, _, rfl⟩
      show ex K _ [.v (encP p), .o (.dict (kv (sees [] (fabsP pre)))), .o (.list ((pre.map (·.map (ren (nm (sees [] (fabsP pre)))))).map encRow)), .v (encRow r), s4, s5, s6] = _
      rw [ex_seq (e1 := [.v (encP p), .o (.dict (kv (sees [] (fabsP pre)))), .o (.list ((pre.map (·.map (ren (nm (sees [] (fabsP pre)))))).map encRow)), .v (encRow r), .o (.list []), s5, s6]) rfl]
      rw [ex_seq ((ex_for (s := encRow r) rfl rfl).trans g)]
      have ht : blD .tuple [.list ((r.map (ren (nm (sees (sees [] (fabsP pre)) (rowF r))))).map encC)] = .ok (encRow (r.map (ren (nm (sees (sees [] (fabsP pre)) (rowF r)))))) := rfl
      simp only [ex, ev, En.at, En.put, Sl.strict, Sl.weak, Sl.froz, En.frz, En.wip, bindT, slots, List.nil_append, List.cons_append, asL, Res.ok_bind, Res.noE_ok, ht, hlen, if_true]
      obtain ⟨m, hm⟩ := sees_pre (rowF r) (sees [] (fabsP pre))
      have e2 : pre.map (·.map (ren (nm (sees [] (fabsP (pre ++ [r])))))) = pre.map (·.map (ren (nm (sees [] (fabsP pre))))) := by
        rw [e1, sees_append, hm]
        refine List.map_congr_left fun r' hr' => ?_
        exact stable (fun c hc x hx => (sees_mem _ _ _).mpr (.inr (mem_fabsP hr' hc hx))) m
      rw [List.map_append, e2, e1, sees_append, List.map_append]
      rfl)
  have src : ev K (.var 0) [.v (encP p), .o (.dict (kv [])), .o (.list []), s3, s4, s5, s6] = .ok (.tuple (p.map encRow)) := by rw [← encP_rows]; rfl
  refine (ex_seq ((ex_for src rfl).trans g)).trans ?_
  have hb : blD .tuple [.list ((p.map (·.map (ren (nm (sees [] (fabsP p)))))).map encRow)] = .ok (encP (naming p)) := by
    rw [encP_rows]; rfl
  simp only [ex, ev, En.at, En.put, Sl.strict, Sl.weak, Sl.froz, En.frz, En.wip, bindT, slots, List.nil_append, List.cons_append, asL, Res.ok_bind, Res.noE_ok, hb]
theorem cells_first : Cells cellNB kv0 K := ⟨fun h _ hc _ ha s0 s2 s3 s6 => cellN_run h hc ha s0 s2 s3 s6⟩
def firstNamingB : C := .seq (.seto 1 (.dic (.cons (.dat (.str "/")) (.cons (.dat (.str "\\")) .nil)) (.cons (.dat (.str "/")) (.cons (.dat (.str "\\")) .nil)))) (namB cellNB)
theorem firstNaming_run {p : Pt} (b : Box 10 p) (hp : LetP p) (s1 s2 s3 s4 s5 s6 : Sl) : ex K firstNamingB [.v (encP p), s1, s2, s3, s4, s5, s6] = .ok (.rt (encP (naming p))) := by
  unfold firstNamingB
  rw [ex_seq (e1 := [.v (encP p), .o (.dict (kv0 [])), s2, s3, s4, s5, s6]) rfl]
  exact nam_run cells_first b hp s2 s3 s4 s5 s6
/-! ### _law_named -/
def signLB : C := .seq (.iff (.cmp .notin (.var 6) (.wv 1)) (.seq (.puti 1 (.var 6) (.idx (.dat (.str "abcdefghijklmnopqrstuvwxyz")) (.blt .len (.cons (.wv 1) .nil))))
      .skip) .skip)
      .skip
theorem signL_run {ns : List Nat} (h : NsOk ns) {c : Nat} (hc : isL c) (s0 s2 s3 s4 s5 : Sl) : ex K signLB [s0, .o (.dict (ents 0 ns)), s2, s3, s4, s5, .v (T [c])] = .ok (.nx [s0, .o (.dict (ents 0 (see ns c))), s2, s3, s4, s5, .v (T [c])]) := by
  have l1 : lim = 1000000 := rfl
  have hin : cmD .notin (T [c]) (.dict (ents 0 ns)) = .ok (!decide (c ∈ ns)) := by rw [notin_dict (key_ents ns c), get_ents]
  have ht : ev K (.cmp .notin (.var 6) (.wv 1)) [s0, .o (.dict (ents 0 ns)), s2, s3, s4, s5, .v (T [c])] = .ok (.bool (!decide (c ∈ ns))) := ev_cmp rfl rfl hin
  unfold signLB
  by_cases hm : c ∈ ns
  · rw [decide_eq_true hm] at ht
    rw [ex_seq ((ex_iffF ht rfl).trans rfl)]
    unfold see
    rw [if_pos hm]
    rfl
  · rw [decide_eq_false hm] at ht
    have hlt := h.lt hc hm
    have hlen : blD .len [.dict (ents 0 ns)] = .ok (.int (ns.length : Int)) := by
      show (if isT (ents 0 ns) = true then Res.ok (PyData.int (((ents 0 ns).length - 1 : Nat) : Int)) else Res.ok (PyData.int ((ents 0 ns).length : Nat))) = _
      rw [isT_ents, if_neg Bool.false_ne_true, ents_len]
    have hal : idxD (.str "abcdefghijklmnopqrstuvwxyz") (.int (ns.length : Int)) = .ok (T [97 + ns.length]) := alpha_at hlt
    have hput : putD (.dict (ents 0 ns)) (T [c]) (T [97 + ns.length]) = .ok (.dict (ents 0 (ns ++ [c]))) := by
      rw [put_dict (key_ents ns c) (by rw [ents_len]; omega) (get_nmem hm), ents_snoc, Nat.zero_add]
    have hp : ex K (.seq (.puti 1 (.var 6) (.idx (.dat (.str "abcdefghijklmnopqrstuvwxyz")) (.blt .len (.cons (.wv 1) .nil)))) .skip) [s0, .o (.dict (ents 0 ns)), s2, s3, s4, s5, .v (T [c])] = .ok (.nx [s0, .o (.dict (ents 0 (ns ++ [c]))), s2, s3, s4, s5, .v (T [c])]) := by
      simp only [ex, ev, En.at, En.put, Sl.strict, Sl.weak, Sl.froz, En.frz, En.wip, bindT, slots, List.nil_append, List.cons_append, asL, Res.ok_bind, Res.noE_ok, hlen, hal, hput]
    rw [ex_seq ((ex_iffT ht rfl).trans hp)]
    unfold see
    rw [if_neg hm]
    rfl
theorem see_see (ns : List Nat) (c : Nat) : see (see ns c) c = see ns c := by
  conv => lhs; unfold see
  rw [if_pos (show c ∈ (if c ∈ ns then ns else ns ++ [c]) from mem_see.mpr (.inr rfl))]
  rfl
def firstLast : C := .lst (.cons (.idx (.var 5) (.dat (.int 0))) (.cons (.idx (.var 5) (.neg (.dat (.int 1)))) .nil))
def cellLB : C := .seq (.for_ (.var 6) firstLast signLB)
      (.seq (.iff (.cmp .eq (.blt .len (.cons (.var 5) .nil)) (.dat (.int 1))) (.seq (.app 4 (.idx (.wv 1) (.var 5)))
      .skip) (.seq (.app 4 (.bin .add (.bin .add (.idx (.wv 1) (.idx (.var 5) (.dat (.int 0)))) (.idx (.var 5) (.dat (.int 1)))) (.idx (.wv 1) (.idx (.var 5) (.dat (.int 2))))))
      .skip))
      .skip)
def lastF : Cell → Nat
  | .pl x => x
  | .dg _ _ y => y
def frstF : Cell → Nat
  | .pl x => x
  | .dg x _ _ => x
theorem cellL_run {ns : List Nat} (h : NsOk ns) {c : Cell} (hc : ∀ x ∈ fabs c, isL x) {acc : List D} (ha : acc.length < lim) (s0 s2 s3 s6 : Sl) : ∃ s6', ex K cellLB [s0, .o (.dict (ents 0 ns)), s2, s3, .o (.list acc), .v (encC c), s6] = .ok (.nx [s0, .o (.dict (ents 0 (sees ns (fabs c)))), s2, s3, .o (.list (acc ++ [encC (ren (nm (sees ns (fabs c))) c)])), .v (encC c), s6']) := by
  have one : ∀ x : Nat, cmD .eq (.int 1) (.int 1) = .ok true := fun _ => one_one
  have tt : truth (.bool true) = true := rfl
  have tf : truth (.bool false) = false := rfl
  cases c with
  | pl x =>
    have hx := hc x (by simp [fabs])
    refine ⟨.v (T [x]), ?_⟩
    have h1 := signL_run (K := K) h hx s0 s2 s3 (.o (.list acc)) (.v (T [x]))
    have h2 := signL_run (K := K) (h.see hx) hx s0 s2 s3 (.o (.list acc)) (.v (T [x]))
    rw [see_see] at h2
    have src : ev K firstLast [s0, .o (.dict (ents 0 ns)), s2, s3, .o (.list acc), .v (T [x]), s6] = .ok (.list [T [x], T [x]]) := rfl
    have g : forL (fun x e1 => (bindT (.var 6) x e1).bind fun e2 => ex K signLB e2) [T [x], T [x]] [s0, .o (.dict (ents 0 ns)), s2, s3, .o (.list acc), .v (T [x]), s6] = .ok (.nx [s0, .o (.dict (ents 0 (see ns x))), s2, s3, .o (.list acc), .v (T [x]), .v (T [x])]) := by
      simp only [forL, bindT, Res.ok_bind, En.put, h1, h2]
    show ex K cellLB [s0, .o (.dict (ents 0 ns)), s2, s3, .o (.list acc), .v (T [x]), s6] = .ok (.nx [s0, .o (.dict (ents 0 (see ns x))), s2, s3, .o (.list (acc ++ [T [nm (see ns x) x]])), .v (T [x]), .v (T [x])])
    unfold cellLB
    rw [ex_seq ((ex_for src rfl).trans g)]
    have hl : blD .len [T [x]] = .ok (.int 1) := l1_T x
    have hi : idxD (.dict (ents 0 (see ns x))) (T [x]) = .ok (T [nm (see ns x) x]) := idx_dict (key_ents _ x) (get_mem (mem_see.mpr (.inr rfl)))
    simp only [ex, ev, En.at, En.put, Sl.strict, Sl.weak, Sl.froz, En.frz, En.wip, bindT, slots, List.nil_append, List.cons_append, asL, Res.ok_bind, Res.noE_ok, hl, one_one, tt, if_true, hi, ha]
  | dg x u y =>
    have hx := hc x (by simp [fabs])
    have hy := hc y (by simp [fabs])
    refine ⟨.v (T [y]), ?_⟩
    have e0 : encC (.dg x u y) = T [x, sg u, y] := by cases u <;> rfl
    have e9 : ∀ ns', encC (ren (nm ns') (.dg x u y)) = T [nm ns' x, sg u, nm ns' y] := fun ns' => by cases u <;> rfl
    rw [e0, e9]
    have h1 := signL_run (K := K) h hx s0 s2 s3 (.o (.list acc)) (.v (T [x, sg u, y]))
    have h2 := signL_run (K := K) (h.see hx) hy s0 s2 s3 (.o (.list acc)) (.v (T [x, sg u, y]))
    have src : ev K firstLast [s0, .o (.dict (ents 0 ns)), s2, s3, .o (.list acc), .v (T [x, sg u, y]), s6] = .ok (.list [T [x], T [y]]) := rfl
    have g : forL (fun x e1 => (bindT (.var 6) x e1).bind fun e2 => ex K signLB e2) [T [x], T [y]] [s0, .o (.dict (ents 0 ns)), s2, s3, .o (.list acc), .v (T [x, sg u, y]), s6] = .ok (.nx [s0, .o (.dict (ents 0 (see (see ns x) y))), s2, s3, .o (.list acc), .v (T [x, sg u, y]), .v (T [y])]) := by
      simp only [forL, bindT, Res.ok_bind, En.put, h1, h2]
    show ex K cellLB [s0, .o (.dict (ents 0 ns)), s2, s3, .o (.list acc), .v (T [x, sg u, y]), s6] = .ok (.nx [s0, .o (.dict (ents 0 (see (see ns x) y))), s2, s3, .o (.list (acc ++ [T [nm (see (see ns x) y) x, sg u, nm (see (see ns x) y) y]])), .v (T [x, sg u, y]), .v (T [y])])
    unfold cellLB
    rw [ex_seq ((ex_for src rfl).trans g)]
    have hl : blD .len [T [x, sg u, y]] = .ok (.int 3) := l3_T _ _ _
    have hix : idxD (.dict (ents 0 (see (see ns x) y))) (T [x]) = .ok (T [nm (see (see ns x) y) x]) := idx_dict (key_ents _ x) (get_mem (mem_see.mpr (.inl (mem_see.mpr (.inr rfl)))))
    have hiy : idxD (.dict (ents 0 (see (see ns x) y))) (T [y]) = .ok (T [nm (see (see ns x) y) y]) := idx_dict (key_ents _ y) (get_mem (mem_see.mpr (.inr rfl)))
    simp only [ex, ev, En.at, En.put, Sl.strict, Sl.weak, Sl.froz, En.frz, En.wip, bindT, slots, List.nil_append, List.cons_append, asL, Res.ok_bind, Res.noE_ok, hl, three_one, tf, Bool.false_eq_true, if_false, i3_0, i3_1, i3_2, hix, hiy, a11_T, a21_T, ha, if_true]
theorem cells_law : Cells cellLB (ents 0) K := ⟨fun h _ hc _ ha s0 s2 s3 s6 => cellL_run h hc ha s0 s2 s3 s6⟩
def lawNamedB : C := .seq (.seto 1 (.dic .nil .nil)) (namB cellLB)
theorem lawNamed_run {p : Pt} (b : Box 10 p) (hp : LetP p) (s1 s2 s3 s4 s5 s6 : Sl) : ex K lawNamedB [.v (encP p), s1, s2, s3, s4, s5, s6] = .ok (.rt (encP (naming p))) := by
  unfold lawNamedB
  rw [ex_seq (e1 := [.v (encP p), .o (.dict (ents 0 [])), s2, s3, s4, s5, s6]) rfl]
  exact nam_run cells_law b hp s2 s3 s4 s5 s6

/-! ### _law_renamed -/
def rnm (step c : Nat) : Nat := 97 + (5 * (c - 97) + step) % 26
theorem rnm_inj {step : Nat} {x y : Nat} (hx : isL x) (hy : isL y) (e : rnm step x = rnm step y) : x = y := by
  obtain ⟨a, b⟩ := hx
  obtain ⟨c, d⟩ := hy
  unfold rnm at e
  omega
def letB (k : Int) : C := .idx (.var 2) (.bin .mod (.bin .add (.bin .mul (.dat (.int 5)) (.mth .sidx (.var 2) (.cons (.idx (.var 6) (.dat (.int k))) .nil))) (.var 1)) (.dat (.int 26)))
def cellRB : C := .seq (.set 7 (letB 0))
      (.seq (.iff (.cmp .gt (.blt .len (.cons (.var 6) .nil)) (.dat (.int 1))) (.seq (.set 7 (.bin .add (.bin .add (.var 7) (.idx (.var 6) (.dat (.int 1)))) (letB 2)))
      .skip) .skip)
      (.seq (.app 5 (.var 7))
      .skip))
theorem let_run {c : Cell} {k : Int} {x step : Nat} (hx : isL x) (hk : idxD (encC c) (.int k) = .ok (T [x])) (s0 s3 s4 s5 s7 : Sl) : ev K (letB k) [s0, .v (.int (step : Int)), .v (.str "abcdefghijklmnopqrstuvwxyz"), s3, s4, s5, .v (encC c), s7] = .ok (T [rnm step x]) := by
  have hx' := hx
  obtain ⟨a, b⟩ := hx
  have h1 : mtD .sidx (.str "abcdefghijklmnopqrstuvwxyz") [T [x]] = .ok (.int ((x - 97 : Nat) : Int)) := by
    show (if (("abcdefghijklmnopqrstuvwxyz" : Str) = alphaS ∧ (⟨#[x]⟩ : Str).cps.size = 1 ∧ 97 ≤ (⟨#[x]⟩ : Str).cps.getD 0 0 ∧ (⟨#[x]⟩ : Str).cps.getD 0 0 ≤ 122) then Res.ok (PyData.int (((⟨#[x]⟩ : Str).cps.getD 0 0 - 97 : Nat) : Int)) else .bad) = _
    rw [if_pos ⟨rfl, rfl, a, b⟩]
    rfl
  have h2 : opD .mul (.int 5) (.int ((x - 97 : Nat) : Int)) = .ok (.int ((5 * (x - 97) : Nat) : Int)) := rfl
  have h3 : opD .add (.int ((5 * (x - 97) : Nat) : Int)) (.int (step : Int)) = .ok (.int ((5 * (x - 97) + step : Nat) : Int)) := rfl
  have h4 : opD .mod (.int ((5 * (x - 97) + step : Nat) : Int)) (.int 26) = .ok (.int (((5 * (x - 97) + step) % 26 : Nat) : Int)) := modN _ (m := 26) (by decide)
  have h5 : idxD (.str "abcdefghijklmnopqrstuvwxyz") (.int (((5 * (x - 97) + step) % 26 : Nat) : Int)) = .ok (T [rnm step x]) := alpha_at (Nat.mod_lt _ (by decide))
  have ty : mtTy .sidx (.str "abcdefghijklmnopqrstuvwxyz") = true := rfl
  unfold letB
  simp only [ex, ev, En.at, En.put, Sl.strict, Sl.weak, Sl.froz, En.frz, En.wip, bindT, slots, List.nil_append, List.cons_append, asL, Res.ok_bind, Res.noE_ok, hk, ty, if_true, h1, h2, h3, h4, h5]
theorem cellR_run {c : Cell} {step : Nat} (hc : ∀ x ∈ fabs c, isL x) {acc : List D} (ha : acc.length < lim) (s0 s3 s4 s7 : Sl) : ex K cellRB [s0, .v (.int (step : Int)), .v (.str "abcdefghijklmnopqrstuvwxyz"), s3, s4, .o (.list acc), .v (encC c), s7] = .ok (.nx [s0, .v (.int (step : Int)), .v (.str "abcdefghijklmnopqrstuvwxyz"), s3, s4, .o (.list (acc ++ [encC (ren (rnm step) c)])), .v (encC c), .v (encC (ren (rnm step) c))]) := by
  have tt : truth (.bool true) = true := rfl
  have tf : truth (.bool false) = false := rfl
  unfold cellRB
  cases c with
  | pl x =>
    have hx := hc x (by simp [fabs])
    have h1 := let_run (K := K) (c := .pl x) (k := 0) (x := x) (step := step) hx rfl s0 s3 s4 (.o (.list acc)) s7
    rw [ex_seq (ex_set h1)]
    have hl : blD .len [encC (.pl x)] = .ok (.int 1) := l1_T x
    have hg : cmD .gt (.int 1) (.int 1) = .ok false := rfl
    simp only [ex, ev, En.at, En.put, Sl.strict, Sl.weak, Sl.froz, En.frz, En.wip, bindT, slots, List.nil_append, List.cons_append, asL, Res.ok_bind, Res.noE_ok, hl, hg, tf, Bool.false_eq_true, if_false, ha, if_true]
    rfl
  | dg x u y =>
    have hx := hc x (by simp [fabs])
    have hy := hc y (by simp [fabs])
    have e0 : encC (.dg x u y) = T [x, sg u, y] := by cases u <;> rfl
    have e9 : encC (ren (rnm step) (.dg x u y)) = T [rnm step x, sg u, rnm step y] := by cases u <;> rfl
    have h1 := let_run (K := K) (c := .dg x u y) (k := 0) (x := x) (step := step) hx (by rw [e0]; rfl) s0 s3 s4 (.o (.list acc)) s7
    have h2 := let_run (K := K) (c := .dg x u y) (k := 2) (x := y) (step := step) hy (by rw [e0]; rfl) s0 s3 s4 (.o (.list acc)) (.v (T [rnm step x]))
    rw [ex_seq (ex_set h1)]
    have hl : blD .len [encC (.dg x u y)] = .ok (.int 3) := by rw [e0]; exact l3_T _ _ _
    have hg : cmD .gt (.int 3) (.int 1) = .ok true := rfl
    have hi : idxD (encC (.dg x u y)) (.int 1) = .ok (T [sg u]) := by rw [e0]; rfl
    have hv : ev K (.bin .add (.bin .add (.var 7) (.idx (.var 6) (.dat (.int 1)))) (letB 2)) [s0, .v (.int (step : Int)), .v (.str "abcdefghijklmnopqrstuvwxyz"), s3, s4, .o (.list acc), .v (encC (.dg x u y)), .v (T [rnm step x])] = .ok (encC (ren (rnm step) (.dg x u y))) := by
      rw [e9]
      exact ev_bin (ev_bin rfl (ev_idx rfl rfl hi) (a11_T _ _)) h2 (a21_T _ _ _)
    have hc : ev K (.cmp .gt (.blt .len (.cons (.var 6) .nil)) (.dat (.int 1))) [s0, .v (.int (step : Int)), .v (.str "abcdefghijklmnopqrstuvwxyz"), s3, s4, .o (.list acc), .v (encC (.dg x u y)), .v (T [rnm step x])] = .ok (.bool true) := ev_cmp (ev_blt (ev_one rfl) hl) rfl hg
    show ex K (.seq (.iff _ _ _) _) [s0, .v (.int (step : Int)), .v (.str "abcdefghijklmnopqrstuvwxyz"), s3, s4, .o (.list acc), .v (encC (.dg x u y)), .v (T [rnm step x])] = _
    rw [ex_seq (e1 := [s0, .v (.int (step : Int)), .v (.str "abcdefghijklmnopqrstuvwxyz"), s3, s4, .o (.list acc), .v (encC (.dg x u y)), .v (encC (ren (rnm step) (.dg x u y)))]) ((ex_iffT hc rfl).trans ((ex_seq (ex_set hv)).trans rfl))]
    simp only [ex, ev, En.at, En.put, Sl.strict, Sl.weak, Sl.froz, En.frz, En.wip, bindT, slots, List.nil_append, List.cons_append, asL, Res.ok_bind, Res.noE_ok, ha, if_true]
def lawRenamedB : C := .seq (.set 2 (.dat (.str "abcdefghijklmnopqrstuvwxyz")))
      (.seq (.seto 3 (.lst .nil))
      (.seq (.for_ (.var 4) (.var 0) (.seq (.seto 5 (.lst .nil))
      (.seq (.for_ (.var 6) (.var 4) cellRB)
      (.seq (.app 3 (.blt .tuple (.cons (.wv 5) .nil)))
      .skip))))
      (.seq (.ret (.blt .tuple (.cons (.wv 3) .nil)))
      .skip)))
theorem lawRenamed_run {p : Pt} (b : Box 10 p) (hp : LetP p) (step : Nat) (s2 s3 s4 s5 s6 s7 : Sl) : ex K lawRenamedB [.v (encP p), .v (.int (step : Int)), s2, s3, s4, s5, s6, s7] = .ok (.rt (encP (p.map (·.map (ren (rnm step)))))) := by
  have l1 : lim = 1000000 := rfl
  obtain ⟨h, w, rc, h0, w0, h10, w10⟩ := b
  unfold lawRenamedB
  rw [ex_seq (e1 := [.v (encP p), .v (.int (step : Int)), .v (.str "abcdefghijklmnopqrstuvwxyz"), s3, s4, s5, s6, s7]) rfl]
  rw [ex_seq (e1 := [.v (encP p), .v (.int (step : Int)), .v (.str "abcdefghijklmnopqrstuvwxyz"), .o (.list []), s4, s5, s6, s7]) rfl]
  obtain ⟨e', g, s4', s5', s6', s7', rfl⟩ := forP encRow (fun pre e => ∃ s4 s5 s6 s7, e = [.v (encP p), .v (.int (step : Int)), .v (.str "abcdefghijklmnopqrstuvwxyz"), .o (.list ((pre.map (·.map (ren (rnm step)))).map encRow)), s4, s5, s6, s7]) (l := p) (e := [.v (encP p), .v (.int (step : Int)), .v (.str "abcdefghijklmnopqrstuvwxyz"), .o (.list []), s4, s5, s6, s7])
    (f := fun x e1 => (bindT (.var 4) x e1).bind fun e2 => ex K (.seq (.seto 5 (.lst .nil)) (.seq (.for_ (.var 6) (.var 4) cellRB) (.seq (.app 3 (.blt .tuple (.cons (.wv 5) .nil))) .skip))) e2) ⟨s4, s5, s6, s7, rfl⟩ (fun pre r q e hl hi => by
      obtain ⟨s4, s5, s6, s7, rfl⟩ := hi
      have hr : r ∈ p := by rw [hl]; simp
      have hlen : ((pre.map (·.map (ren (rnm step)))).map encRow).length < lim := by
        rw [List.length_map, List.length_map]
        have : pre.length < p.length := by rw [hl]; simp
        rw [rc.1] at this
        omega
      obtain ⟨e', g, s6', s7', rfl⟩ := forP encC (fun pre2 e => ∃ s6 s7, e = [.v (encP p), .v (.int (step : Int)), .v (.str "abcdefghijklmnopqrstuvwxyz"), .o (.list ((pre.map (·.map (ren (rnm step)))).map encRow)), .v (encRow r), .o (.list ((pre2.map (ren (rnm step))).map encC)), s6, s7]) (l := r) (e := [.v (encP p), .v (.int (step : Int)), .v (.str "abcdefghijklmnopqrstuvwxyz"), .o (.list ((pre.map (·.map (ren (rnm step)))).map encRow)), .v (encRow r), .o (.list []), s6, s7])
        (f := fun x e1 => (bindT (.var 6) x e1).bind fun e2 => ex K cellRB e2) ⟨s6, s7, rfl⟩ (fun p2 c q2 e hl2 hi => by
          obtain ⟨s6, s7, rfl⟩ := hi
          have hc : c ∈ r := by rw [hl2]; simp
          have hp2 : p2.length < r.length := by rw [hl2]; simp
          rw [rc.2 r hr] at hp2
          refine ⟨_, cellR_run (K := K) (step := step) (hp r hr c hc) (acc := (p2.map (ren (rnm step))).map encC) (by rw [List.length_map, List.length_map]; omega) _ _ _ s7, .v (encC c), .v (encC (ren (rnm step) c)), ?_⟩
          rw [List.map_append, List.map_append]
          rfl)
      refine ⟨[.v (encP p), .v (.int (step : Int)), .v (.str "abcdefghijklmnopqrstuvwxyz"), .o (.list (((pre ++ [r]).map (·.map (ren (rnm step)))).map encRow)), .v (encRow r), .o (.list ((r.map (ren (rnm step))).map encC)), s6', s7'], ?_, _, _, _, _, rfl⟩
      show ex K _ [.v (encP p), .v (.int (step : Int)), .v (.str "abcdefghijklmnopqrstuvwxyz"), .o (.list ((pre.map (·.map (ren (rnm step)))).map encRow)), .v (encRow r), s5, s6, s7] = _
      rw [ex_seq (e1 := [.v (encP p), .v (.int (step : Int)), .v (.str "abcdefghijklmnopqrstuvwxyz"), .o (.list ((pre.map (·.map (ren (rnm step)))).map encRow)), .v (encRow r), .o (.list []), s6, s7]) rfl]
      rw [ex_seq ((ex_for (s := encRow r) rfl rfl).trans g)]
      have ht : blD .tuple [.list ((r.map (ren (rnm step))).map encC)] = .ok (encRow (r.map (ren (rnm step)))) := rfl
      simp only [ex, ev, En.at, En.put, Sl.strict, Sl.weak, Sl.froz, En.frz, En.wip, bindT, slots, List.nil_append, List.cons_append, asL, Res.ok_bind, Res.noE_ok, ht, hlen, if_true]
      rw [List.map_append, List.map_append]
      rfl)
  have src : ev K (.var 0) [.v (encP p), .v (.int (step : Int)), .v (.str "abcdefghijklmnopqrstuvwxyz"), .o (.list []), s4, s5, s6, s7] = .ok (.tuple (p.map encRow)) := by rw [← encP_rows]; rfl
  refine (ex_seq ((ex_for src rfl).trans g)).trans ?_
  have hb : blD .tuple [.list ((p.map (·.map (ren (rnm step)))).map encRow)] = .ok (encP (p.map (·.map (ren (rnm step))))) := by
    rw [encP_rows]; rfl
  simp only [ex, ev, En.at, En.put, Sl.strict, Sl.weak, Sl.froz, En.frz, En.wip, bindT, slots, List.nil_append, List.cons_append, asL, Res.ok_bind, Res.noE_ok, hb]
theorem ren_let {p : Pt} {step : Nat} : LetP (p.map (·.map (ren (rnm step)))) := by
  intro r hr c hc x hx
  obtain ⟨r', _, rfl⟩ := List.mem_map.mp hr
  obtain ⟨c', _, rfl⟩ := List.mem_map.mp hc
  rw [fabs_ren] at hx
  obtain ⟨y, _, rfl⟩ := List.mem_map.mp hx
  have := Nat.mod_lt (5 * (y - 97) + step) (show 0 < 26 by decide)
  show 97 ≤ 97 + (5 * (y - 97) + step) % 26 ∧ 97 + (5 * (y - 97) + step) % 26 ≤ 122
  omega
theorem naming_rnm {p : Pt} (h : LetP p) (step : Nat) : naming (p.map (·.map (ren (rnm step)))) = naming p := by
  have lt : ∀ x ∈ fabsP p, isL x := fun x hx => by
    obtain ⟨c, h1, h2⟩ := List.mem_flatMap.mp hx
    obtain ⟨r, h3, h4⟩ := List.mem_flatten.mp h1
    exact h r h3 c h4 x h2
  exact naming_ren fun x hx y hy e => rnm_inj (lt x hx) (lt y hy) e
theorem box_map {p : Pt} {m : Nat} (b : Box m p) (g : Cell → Cell) : Box m (p.map (·.map g)) := b.map g
theorem let1 : ∀ c ∈ cells1, ∀ x ∈ fabs c, 97 ≤ x ∧ x ≤ 122 := by decide
theorem let2 : ∀ c ∈ cells2, ∀ x ∈ fabs c, 97 ≤ x ∧ x ≤ 122 := by decide
theorem let_of {p : Pt} (h : Of cells1 p ∨ Of cells2 p) : LetP p := fun r hr c hc x hx => h.elim (fun h => let1 c (h r hr c hc) x hx) fun h => let2 c (h r hr c hc) x hx
end
end SQ

/-! SqFit: patches on a pattern: cells_of, is_of_one_piece, sides, fits. -/
namespace SQ
open PySem C
def isFabricB : C :=
    (.seq (.ret (.and (.cmp .eq (.blt .len (.cons (.var 0) .nil)) (.dat (.int 1))) (.cmp .isin (.var 0) (.con "FABRICS" (.str "abcdefghijklmnopqrstuvwxyz")))))
      .skip)
def sidesB : C :=
    (.seq (.ret (.tup (.cons (.blt .max1 (.cons (.cmp1 (.var 1) (.var 0) (.bin .add (.idx (.var 1) (.dat (.int 0))) (.idx (.var 1) (.dat (.int 2)))) .na) .nil)) (.cons (.blt .max1 (.cons (.cmp1 (.var 1) (.var 0) (.bin .add (.idx (.var 1) (.dat (.int 1))) (.idx (.var 1) (.dat (.int 3)))) .na) .nil)) .nil))))
      .skip)
def cellsOfB : C :=
    (.seq (.sett (.tup (.cons (.var 2) (.cons (.var 3) (.cons (.var 4) (.cons (.var 5) .nil))))) (.var 1))
      (.seq (.ret (.cmp2 (.var 6) (.slc (.var 0) (.var 2) (.bin .add (.var 2) (.var 4))) (.var 7) (.slc (.var 6) (.var 3) (.bin .add (.var 3) (.var 5))) (.var 7)))
      .skip))
def onePieceB (f : Nat) : C :=
    (.seq (.iff (.cmp .eq (.blt .len (.cons (.var 0) .nil)) (.dat (.int 1))) (.seq (.ret (.dat (.bool true)))
      .skip) .skip)
      (.seq (.ret (.and (.call f (.cons (.idx (.var 0) (.dat (.int 0))) .nil)) (.gen true (.var 1) (.var 0) (.cmp .eq (.var 1) (.idx (.var 0) (.dat (.int 0)))))))
      .skip))
def fitsB (sd ce on : Nat) : C :=
    (.seq (.iff (.cmp .ne (.call sd (.cons (.var 1) .nil)) (.tup (.cons (.blt .len (.cons (.var 0) .nil)) (.cons (.blt .len (.cons (.idx (.var 0) (.dat (.int 0))) .nil)) .nil)))) (.seq (.ret (.dat (.bool false)))
      .skip) .skip)
      (.seq (.ret (.gen true (.var 2) (.var 1) (.call on (.cons (.call ce (.cons (.var 0) (.cons (.var 2) .nil))) .nil))))
      .skip))

/-! ### plain -/
def isFab : Cell → Bool
  | .pl _ => true
  | .dg .. => false
def LetC (c : Cell) : Prop := ∀ x ∈ fabs c, isL x
def cellsN (p : Pt) (r : Rc) : List Cell := ((p.drop r.t.toNat).take r.h.toNat).flatMap fun row => (row.drop r.l.toNat).take r.w.toNat
def oneP : List Cell → Bool
  | [] => false
  | c :: l => decide ((c :: l).length = 1) || (isFab c && (c :: l).all fun d => decide (d = c))
def hiT (ps : List Rc) : Int := maxL (ps.map fun r => r.t + r.h)
def hiL (ps : List Rc) : Int := maxL (ps.map fun r => r.l + r.w)
def fitsN (p : Pt) (ps : List Rc) (h w : Nat) : Bool := decide (hiT ps = (h : Int) ∧ hiL ps = (w : Int)) && ps.all fun r => oneP (cellsN p r)
/-- patches that have their places right -/
def Pos (ps : List Rc) : Prop := ∀ r ∈ ps, 0 ≤ r.t ∧ 0 ≤ r.l ∧ 0 < r.h ∧ 0 < r.w
theorem cellsN_ne {p : Pt} {h w : Nat} (rc : Rect h w p) {r : Rc} (h0 : 0 ≤ r.t ∧ 0 ≤ r.l ∧ 0 < r.h ∧ 0 < r.w) (h1 : r.t + r.h ≤ h) (h2 : r.l + r.w ≤ w) : cellsN p r ≠ [] := by
  obtain ⟨r1, r2⟩ := rc
  have hd : (p.drop r.t.toNat).take r.h.toNat ≠ [] := by
    intro e
    have := congrArg List.length e
    simp at this
    omega
  obtain ⟨row, hr⟩ := List.exists_mem_of_ne_nil _ hd
  have hrp : row ∈ p := List.mem_of_mem_drop (List.mem_of_mem_take hr)
  have hw := r2 row hrp
  have hc : (row.drop r.l.toNat).take r.w.toNat ≠ [] := by
    intro e
    have := congrArg List.length e
    simp at this
    omega
  obtain ⟨c, hcm⟩ := List.exists_mem_of_ne_nil _ hc
  exact List.ne_nil_of_mem (List.mem_flatMap.mpr ⟨row, hr, hcm⟩)
theorem cellsN_let {p : Pt} (h : LetP p) {r : Rc} : ∀ c ∈ cellsN p r, LetC c := fun c hc => by
  obtain ⟨row, h1, h2⟩ := List.mem_flatMap.mp hc
  exact h row (List.mem_of_mem_drop (List.mem_of_mem_take h1)) c (List.mem_of_mem_drop (List.mem_of_mem_take h2))
theorem cellsN_len {p : Pt} {h w : Nat} (rc : Rect h w p) (hh : h ≤ 1000) (hw : w ≤ 100) (r : Rc) : (cellsN p r).length ≤ 100000 := by
  unfold cellsN
  have key : ∀ l : List (List Cell), (∀ x ∈ l, x.length = w) → (l.flatMap fun row => (row.drop r.l.toNat).take r.w.toNat).length ≤ l.length * 100 := by
    intro l
    induction l with
    | nil => intro _; simp
    | cons a l ih =>
      intro h
      have := ih fun x hx => h x (List.mem_cons_of_mem _ hx)
      have ha := h a List.mem_cons_self
      rw [List.flatMap_cons, List.length_append, List.length_take, List.length_drop, List.length_cons]
      omega
  have := key ((p.drop r.t.toNat).take r.h.toNat) fun x hx => rc.2 x (List.mem_of_mem_drop (List.mem_of_mem_take hx))
  have l1 : ((p.drop r.t.toNat).take r.h.toNat).length ≤ 1000 := by
    have := rc.1
    rw [List.length_take, List.length_drop]
    omega
  omega
theorem in_fabrics {x : Nat} (h : isL x) : cmD .isin (T [x]) (.str "abcdefghijklmnopqrstuvwxyz") = .ok true := by
  have key : ((List.range 26).all fun k => match cmD .isin (T [97 + k]) (.str "abcdefghijklmnopqrstuvwxyz") with
    | .ok b => b
    | _ => false) = true := by decide +kernel
  have := List.all_eq_true.mp key (x - 97) (List.mem_range.mpr (by unfold isL at h; omega))
  rw [show 97 + (x - 97) = x by unfold isL at h; omega] at this
  cases e : cmD .isin (T [x]) (.str "abcdefghijklmnopqrstuvwxyz") with
  | ok b => rw [e] at this; rw [show b = true from this]
  | err _ _ => rw [e] at this; cases this
  | bad => rw [e] at this; cases this
theorem eq_encC {c d : Cell} : cmD .eq (encC c) (encC d) = .ok (decide (c = d)) := by
  have g : ∀ c : Cell, Gdd 0 (encC c) := fun c => by cases c <;> exact gd_str _ 0
  obtain ⟨b, h1, h2⟩ := gd_eq (g c) (g d) (by decide) (by decide)
  rw [h1]
  refine ok_inj (Bool.eq_iff_iff.mpr (h2.trans ?_))
  rw [decide_eq_true_eq]
  exact ⟨encC_inj, fun e => by rw [e]⟩
theorem ne_encC {c d : Cell} : cmD .ne (encC c) (encC d) = .ok (!decide (c = d)) := by
  have g : ∀ c : Cell, Gdd 0 (encC c) := fun c => by cases c <;> exact gd_str _ 0
  obtain ⟨b, h1, h2⟩ := gd_ne (g c) (g d) (by decide) (by decide)
  rw [h1]
  refine ok_inj (Bool.eq_iff_iff.mpr (h2.trans ?_))
  rw [Bool.not_eq_true', decide_eq_false_iff_not]
  exact ⟨fun h e => h (by rw [e]), fun h e => h (encC_inj e)⟩
theorem ne_pair (a b c d : Int) : cmD .ne (.tuple [.int a, .int b]) (.tuple [.int c, .int d]) = .ok (!decide (a = c ∧ b = d)) := by
  have g : ∀ a b : Int, Gdd 1 (.tuple [.int a, .int b]) := fun a b => gd_tuple (gd_cons (gd_int _ 0) (gd_cons (gd_int _ 0) gd_nil))
  obtain ⟨q, h1, h2⟩ := gd_ne (g a b) (g c d) (by decide) (by decide)
  rw [h1]
  refine ok_inj (Bool.eq_iff_iff.mpr (h2.trans ?_))
  rw [Bool.not_eq_true', decide_eq_false_iff_not]
  refine not_congr ⟨fun h => ?_, fun ⟨h, h'⟩ => by rw [h, h']⟩
  injection h with h
  injection h with h3 h4
  injection h4 with h4 _
  exact ⟨by injection h3, by injection h4⟩
theorem eq_pair (a b c d : Int) : cmD .eq (.tuple [.int a, .int b]) (.tuple [.int c, .int d]) = .ok (decide (a = c ∧ b = d)) := by
  have g : ∀ a b : Int, Gdd 1 (.tuple [.int a, .int b]) := fun a b => gd_tuple (gd_cons (gd_int _ 0) (gd_cons (gd_int _ 0) gd_nil))
  obtain ⟨q, h1, h2⟩ := gd_eq (g a b) (g c d) (by decide) (by decide)
  rw [h1]
  refine ok_inj (Bool.eq_iff_iff.mpr (h2.trans ?_))
  rw [decide_eq_true_eq]
  refine ⟨fun h => ?_, fun ⟨h, h'⟩ => by rw [h, h']⟩
  injection h with h
  injection h with h3 h4
  injection h4 with h4 _
  exact ⟨by injection h3, by injection h4⟩
section
variable {K : Nat → List D → Res D} {e : En} {s : D} {ps : List Rc}
theorem comp2L_flat {α : Type} {enc : α → D} {out : α → List D} {f : D → Res (List D)} : ∀ {l : List α}, (∀ a ∈ l, f (enc a) = .ok (out a)) → comp2L f (l.map enc) = .ok (l.flatMap out)
  | [], _ => rfl
  | x :: r, h => by
    show (f (enc x)).bind (fun y => (comp2L f (r.map enc)).bind fun l => Res.ok (y ++ l)) = _
    rw [h x List.mem_cons_self, Res.ok_bind, comp2L_flat fun y hy => h y (List.mem_cons_of_mem _ hy), List.flatMap_cons]
    rfl
theorem ev_cmp2 {α β : Type} (l : List α) (enc : α → D) (ys : α → List β) (enc' : β → D) (out : α → β → D) {tg src tg' src' elt : C} (h : ev K src e = .ok s) (hx : itemsD s = .ok (l.map enc))
    (hg : ∀ a ∈ l, ∃ e1 s', bindT tg (enc a) ((e.wip (slots tg')).wip (slots tg)) = .ok e1 ∧ ev K src' e1 = .ok s' ∧ itemsD s' = .ok ((ys a).map enc') ∧ ∀ b ∈ ys a, ∃ e2, bindT tg' (enc' b) (e1.wip (slots tg')) = .ok e2 ∧ ev K elt e2 = .ok (out a b))
    (hl : (l.flatMap fun a => (ys a).map (out a)).length ≤ lim) : ev K (.cmp2 tg src tg' src' elt) e = .ok (.list (l.flatMap fun a => (ys a).map (out a))) := by
  show (ev K src e).bind (fun s => (itemsD s).bind fun xs =>
      (comp2L (fun x => (bindT tg x ((e.wip (slots tg')).wip (slots tg))).bind fun e1 => (ev K src' e1).bind fun s' => (itemsD s').bind fun ys => compL (fun _ => .ok true) (fun y => (bindT tg' y (e1.wip (slots tg'))).bind fun e2 => ev K elt e2) ys) xs).noE.bind fun l => if l.length ≤ lim then Res.ok (PyData.list l) else .bad) = _
  rw [h, Res.ok_bind, hx, Res.ok_bind, comp2L_flat (enc := enc) (out := fun a => (ys a).map (out a)) fun a ha => by
    obtain ⟨e1, s', h1, h2, h3, h4⟩ := hg a ha
    rw [h1, Res.ok_bind, h2, Res.ok_bind, h3, Res.ok_bind]
    exact compL_mapT fun b hb => by
      obtain ⟨e2, h5, h6⟩ := h4 b hb
      rw [h5]; exact h6]
  show (if _ then _ else _) = _
  rw [if_pos hl]
theorem isFabric_run {c : Cell} (h : LetC c) : ex K isFabricB [.v (encC c)] = .ok (.rt (.bool (isFab c))) := by
  refine ex_seqR (ex_ret ?_)
  cases c with
  | pl x =>
    have e1 : ev K (.cmp .eq (.blt .len (.cons (.var 0) .nil)) (.dat (.int 1))) [.v (encC (.pl x))] = .ok (.bool true) := rfl
    refine (ev_andT e1 rfl).trans ?_
    exact ev_cmp rfl rfl (in_fabrics (h x List.mem_cons_self))
  | dg x u y =>
    have e1 : ev K (.cmp .eq (.blt .len (.cons (.var 0) .nil)) (.dat (.int 1))) [.v (encC (.dg x u y))] = .ok (.bool false) := rfl
    exact ev_andF e1 rfl
theorem sides_run (P : Pats s ps) (hne : ps ≠ []) (s1 : Sl) : ex K sidesB [.v s, s1] = .ok (.rt (.tuple [.int (hiT ps), .int (hiL ps)])) := by
  have ne : ∀ f : Rc → Int, ps.map f ≠ [] := fun f z => hne (List.map_eq_nil_iff.mp z)
  have go : ∀ (f : Rc → Int) (a b : Int), (∀ r : Rc, ∀ s0 : Sl, ev K (.bin .add (.idx (.var 1) (.dat (.int a))) (.idx (.var 1) (.dat (.int b)))) [s0, .v (encR4 r)] = .ok (.int (f r))) → ev K (.cmp1 (.var 1) (.var 0) (.bin .add (.idx (.var 1) (.dat (.int a))) (.idx (.var 1) (.dat (.int b)))) .na) [.v s, s1] = .ok (.list ((ps.map f).map .int)) := fun f a b hf => by
    rw [List.map_map]
    exact ev_cmpT ps encR4 (fun r => .int (f r)) rfl P.items fun r hr => ⟨_, rfl, hf r _⟩
  refine ex_seqR (ex_ret (ev_tup (ev_cons (ev_blt (ev_one (go (fun r => r.t + r.h) 0 2 fun r s0 => rfl)) (bl_max (ne _))) (ev_one (ev_blt (ev_one (go (fun r => r.l + r.w) 1 3 fun r s0 => rfl)) (bl_max (ne _)))))))
theorem cellsOf_run {p : Pt} {h w : Nat} (rc : Rect h w p) (hh : h ≤ 100) (hw : w ≤ 100) {r : Rc} (h0 : 0 ≤ r.t ∧ 0 ≤ r.l ∧ 0 < r.h ∧ 0 < r.w) (h1 : r.t + r.h ≤ h) (h2 : r.l + r.w ≤ w) (s2 s3 s4 s5 s6 s7 : Sl) :
    ex K cellsOfB [.v (encP p), .v (encR4 r), s2, s3, s4, s5, s6, s7] = .ok (.rt (.list ((cellsN p r).map encC))) := by
  have l1 : lim = 1000000 := rfl
  have len := cellsN_len rc (by omega) hw r
  unfold cellsN at *
  obtain ⟨rt, rl, rh, rw_⟩ := r
  dsimp only at *
  obtain ⟨t, rfl⟩ := Int.eq_ofNat_of_zero_le h0.1
  obtain ⟨l, rfl⟩ := Int.eq_ofNat_of_zero_le h0.2.1
  obtain ⟨m, rfl⟩ := Int.eq_ofNat_of_zero_le (show 0 ≤ rh by omega)
  obtain ⟨v, rfl⟩ := Int.eq_ofNat_of_zero_le (show 0 ≤ rw_ by omega)
  simp only [Int.toNat_natCast] at *
  unfold cellsOfB
  refine (ex_seq (ex_sett (e1 := [.v (encP p), .v (encR4 ⟨t, l, m, v⟩), .v (.int t), .v (.int l), .v (.int m), .v (.int v), s6, s7]) rfl rfl)).trans ?_
  refine ex_seqR (ex_ret ?_)
  have a1 : slcD (encP p) (some (t : Int)) (some ((t + m : Nat) : Int)) = .ok (.tuple (((p.drop t).take m).map encRow)) := by
    rw [encP_rows]
    show Res.ok (PyData.tuple (cutL (p.map encRow) _ _)) = _
    rw [cut_nat _ _ _ (by rw [List.length_map, rc.1]; omega), List.map_take, List.map_drop]
  have src : ev K (.slc (.var 0) (.var 2) (.bin .add (.var 2) (.var 4))) [.v (encP p), .v (encR4 ⟨t, l, m, v⟩), .v (.int t), .v (.int l), .v (.int m), .v (.int v), s6, s7] = .ok (.tuple (((p.drop t).take m).map encRow)) := by
    show ((slcD (encP p) (some (t : Int)) (some ((t : Int) + (m : Int)))).noE) = _
    rw [show ((t : Int) + (m : Int)) = ((t + m : Nat) : Int) from (Int.natCast_add t m).symm, a1]
    rfl
  have ee : ((p.drop t).take m).flatMap (fun row => ((row.drop l).take v).map encC) = (((p.drop t).take m).flatMap fun row => (row.drop l).take v).map encC := (List.map_flatMap).symm
  rw [← ee]
  refine ev_cmp2 ((p.drop t).take m) encRow (fun row => (row.drop l).take v) encC (fun _ c => encC c) (s := .tuple (((p.drop t).take m).map encRow)) src rfl (fun x hx => ?_) ?_
  · have hx : x ∈ p := List.mem_of_mem_drop (List.mem_of_mem_take hx)
    have a2 : slcD (encRow x) (some (l : Int)) (some ((l + v : Nat) : Int)) = .ok (encRow ((x.drop l).take v)) := by
      show Res.ok (PyData.tuple (cutL (x.map encC) _ _)) = _
      rw [cut_nat _ _ _ (by rw [List.length_map, rc.2 x hx]; omega)]
      unfold encRow
      rw [List.map_take, List.map_drop]
    refine ⟨_, encRow ((x.drop l).take v), rfl, ?_, rfl, fun b _ => ⟨_, rfl, rfl⟩⟩
    show ((slcD (encRow x) (some (l : Int)) (some ((l : Int) + (v : Int)))).noE) = _
    rw [show ((l : Int) + (v : Int)) = ((l + v : Nat) : Int) from (Int.natCast_add l v).symm, a2]
    rfl
  · rw [ee, List.length_map]
    omega
theorem onePiece_run {f : Nat} (hf : ∀ c, LetC c → K f [encC c] = .ok (.bool (isFab c))) {cs : List Cell} (hne : cs ≠ []) (hl : ∀ c ∈ cs, LetC c) (s1 : Sl) :
    ex K (onePieceB f) [.v (.list (cs.map encC)), s1] = .ok (.rt (.bool (oneP cs))) := by
  cases cs with
  | nil => exact absurd rfl hne
  | cons c l =>
    unfold onePieceB oneP
    dsimp only
    have e1 : ev K (.cmp .eq (.blt .len (.cons (.var 0) .nil)) (.dat (.int 1))) [.v (.list ((c :: l).map encC)), s1] = .ok (.bool (decide ((c :: l).length = 1))) := by
      rw [ev_cmp (ev_blt (ev_one rfl) rfl) rfl (cm_eqI _ 1)]
      exact ok_inj (congrArg _ (decide_eq_decide.mpr (by rw [List.length_map]; omega)))
    by_cases h1 : (c :: l).length = 1
    · rw [decide_eq_true h1] at e1 ⊢
      exact ex_seqR ((ex_iffT e1 rfl).trans rfl)
    · rw [decide_eq_false h1] at e1 ⊢
      refine (ex_seq ((ex_iffF e1 rfl).trans rfl)).trans (ex_seqR (ex_ret ?_))
      have fst : idxD (.list ((c :: l).map encC)) (.int 0) = .ok (encC c) := by
        show atL ((c :: l).map encC) ((0 : Nat) : Int) = _
        rw [atL_nat (by simp), List.getElem_map]
        rfl
      refine (ev_andB (ev_call (ev_one (ev_idx rfl rfl fst)) (hf c (hl c List.mem_cons_self))) fun _ => ?_)
      exact ev_all (c :: l) encC _ rfl rfl fun d _ => ⟨_, rfl, ev_cmp rfl (ev_idx rfl rfl fst) eq_encC⟩
theorem fits_run {sd ce on : Nat} {p : Pt} {h w : Nat} (rc : Rect h w p) (h0 : 0 < h) (w0 : 0 < w) (hh : h ≤ 100) (hw : w ≤ 100) (hlet : LetP p) (P : Pats s ps) (hne : ps ≠ []) (po : Pos ps)
    (ksd : K sd [s] = .ok (.tuple [.int (hiT ps), .int (hiL ps)]))
    (kce : ∀ r ∈ ps, r.t + r.h ≤ h → r.l + r.w ≤ w → K ce [encP p, encR4 r] = .ok (.list ((cellsN p r).map encC)))
    (kon : ∀ cs : List Cell, cs ≠ [] → (∀ c ∈ cs, LetC c) → K on [.list (cs.map encC)] = .ok (.bool (oneP cs))) (s2 : Sl) :
    ex K (fitsB sd ce on) [.v (encP p), .v s, s2] = .ok (.rt (.bool (fitsN p ps h w))) := by
  unfold fitsB fitsN
  have hlen : blD .len [encP p] = .ok (.int (h : Nat)) := by
    rw [encP_rows]
    show Res.ok (PyData.int ((p.map encRow).length : Nat)) = _
    rw [List.length_map, rc.1]
  have wlen : ∃ row, idxD (encP p) (.int 0) = .ok (encRow row) ∧ row.length = w := by
    refine ⟨p.getD 0 [], idx_encP (k := 0) (by rw [rc.1]; exact h0), ?_⟩
    have : 0 < p.length := by rw [rc.1]; exact h0
    rw [List.getD_eq_getElem?_getD, List.getElem?_eq_getElem this]
    exact rc.2 _ (List.getElem_mem this)
  obtain ⟨row, i1, i2⟩ := wlen
  have rlen : blD .len [encRow row] = .ok (.int (w : Nat)) := by
    show Res.ok (PyData.int ((row.map encC).length : Nat)) = _
    rw [List.length_map, i2]
  have e1 : ev K (.cmp .ne (.call sd (.cons (.var 1) .nil)) (.tup (.cons (.blt .len (.cons (.var 0) .nil)) (.cons (.blt .len (.cons (.idx (.var 0) (.dat (.int 0))) .nil)) .nil)))) [.v (encP p), .v s, s2] = .ok (.bool (!decide (hiT ps = (h : Int) ∧ hiL ps = (w : Int)))) :=
    ev_cmp (ev_call (ev_one rfl) ksd) (ev_tup (ev_cons (ev_blt (ev_one rfl) hlen) (ev_one (ev_blt (ev_one (ev_idx rfl rfl i1)) rlen)))) (ne_pair _ _ _ _)
  by_cases hs : hiT ps = (h : Int) ∧ hiL ps = (w : Int)
  · rw [decide_eq_true hs] at e1 ⊢
    refine (ex_seq ((ex_iffF e1 rfl).trans rfl)).trans (ex_seqR (ex_ret ?_))
    rw [Bool.true_and]
    refine ev_all ps encR4 _ rfl P.items fun r hr => ⟨_, rfl, ?_⟩
    have b1 : r.t + r.h ≤ h := by rw [← hs.1]; exact maxL_ge (List.mem_map.mpr ⟨r, hr, rfl⟩)
    have b2 : r.l + r.w ≤ w := by rw [← hs.2]; exact maxL_ge (List.mem_map.mpr ⟨r, hr, rfl⟩)
    exact ev_call (ev_one (ev_call (ev_cons rfl (ev_one rfl)) (kce r hr b1 b2))) (kon _ (cellsN_ne rc (po r hr) b1 b2) (cellsN_let hlet))
  · rw [decide_eq_false hs] at e1 ⊢
    exact ex_seqR ((ex_iffT e1 rfl).trans rfl)
end
end SQ

/-! SqTxt: patterns as texts. -/
namespace SQ
open PySem C
def isCellB (is_fabric : Nat) : C :=
    (.seq (.iff (.cmp .eq (.blt .len (.cons (.var 0) .nil)) (.dat (.int 1))) (.seq (.ret (.call is_fabric (.cons (.var 0) .nil)))
      .skip) .skip)
      (.seq (.iff (.or (.cmp .ne (.blt .len (.cons (.var 0) .nil)) (.dat (.int 3))) (.cmp .notin (.idx (.var 0) (.dat (.int 1))) (.dat (.str "/\\")))) (.seq (.ret (.dat (.bool false)))
      .skip) .skip)
      (.seq (.ret (.and (.call is_fabric (.cons (.idx (.var 0) (.dat (.int 0))) .nil)) (.and (.call is_fabric (.cons (.idx (.var 0) (.dat (.int 2))) .nil)) (.cmp .ne (.idx (.var 0) (.dat (.int 0))) (.idx (.var 0) (.dat (.int 2)))))))
      .skip)))
/-- row_fault(words, count); slots 0 words, 1 count, 2 word -/
def rowFaultB (is_cell : Nat) : C :=
    (.seq (.iff (.not (.gen true (.var 2) (.var 0) (.call is_cell (.cons (.var 2) .nil)))) (.seq (.ret (.dat (.str "not a cell")))
      .skip) .skip)
      (.seq (.iff (.cmp .gt (.blt .len (.cons (.var 0) .nil)) (.con "SIDE" (.int 10))) (.seq (.ret (.dat (.str "too many columns")))
      .skip) .skip)
      (.seq (.iff (.and (.nisn (.var 1)) (.cmp .ne (.blt .len (.cons (.var 0) .nil)) (.var 1))) (.seq (.ret (.dat (.str "another length")))
      .skip) .skip)
      (.seq (.ret (.dat .none))
      .skip))))
/-- lines_of(text); slots 0 text, 1 lines -/
def linesOfB : C :=
    (.seq (.set 1 (.mth .split (.var 0) (.cons (.dat (.str "\n")) .nil)))
      (.seq (.iff (.cmp .eq (.idx (.var 1) (.neg (.dat (.int 1)))) (.dat (.str ""))) (.seq (.ret (.slc (.var 1) .na (.neg (.dat (.int 1)))))
      .skip) .skip)
      (.seq (.ret (.var 1))
      .skip)))
/-- read_pattern(text); slots 0 text, 1 lines, 2 rows, 3 k, 4 words, 5 what -/
def readPatB (lines_of row_fault : Nat) : C :=
    (.seq (.set 1 (.call lines_of (.cons (.var 0) .nil)))
      (.seq (.seto 2 (.lst .nil))
      (.seq (.for_ (.var 3) (.rng (.dat (.int 0)) (.blt .len (.cons (.var 1) .nil)) (.dat (.int 1))) (.seq (.set 4 (.mth .split (.idx (.var 1) (.var 3)) (.cons (.dat (.str " ")) .nil)))
      (.seq (.set 5 (.call row_fault (.cons (.var 4) (.cons (.ite (.wv 2) (.blt .len (.cons (.idx (.wv 2) (.dat (.int 0))) .nil)) (.dat .none)) .nil))))
      (.seq (.iff (.cmp .ge (.var 3) (.con "SIDE" (.int 10))) (.seq (.set 5 (.dat (.str "too many rows")))
      .skip) .skip)
      (.seq (.iff (.nisn (.var 5)) (.seq (.rse 0 (.cons (.bin .add (.var 3) (.dat (.int 1))) (.cons (.var 5) .nil)))
      .skip) .skip)
      (.seq (.app 2 (.blt .tuple (.cons (.var 4) .nil)))
      .skip))))))
      (.seq (.iff (.cmp .eq (.blt .len (.cons (.wv 2) .nil)) (.dat (.int 0))) (.seq (.rse 0 (.cons (.dat (.int 1)) (.cons (.dat (.str "no rows")) .nil)))
      .skip) .skip)
      (.seq (.ret (.blt .tuple (.cons (.wv 2) .nil)))
      .skip)))))
/-- format_pattern(pattern); slots 0 pattern, 1 row -/
def formatB : C :=
    (.seq (.ret (.mth .join (.dat (.str "")) (.cons (.cmp1 (.var 1) (.var 0) (.bin .add (.mth .join (.dat (.str " ")) (.cons (.var 1) .nil)) (.dat (.str "\n"))) .na) .nil)))
      .skip)
/-! ### plain: joined and split -/
theorem split_no {c : Nat} : ∀ {x : List Nat}, c ∉ x → splitC c x = [x]
  | [], _ => rfl
  | a :: x, h => by
    have h1 : ¬ a = c := fun e => h (e ▸ List.mem_cons_self)
    show (if a = c then _ else _) = _
    rw [if_neg h1, split_no fun hm => h (List.mem_cons_of_mem _ hm)]
theorem split_at {c : Nat} : ∀ {x : List Nat} (r : List Nat), c ∉ x → splitC c (x ++ c :: r) = x :: splitC c r
  | [], r, _ => if_pos rfl
  | a :: x, r, h => by
    have h1 : ¬ a = c := fun e => h (e ▸ List.mem_cons_self)
    show (if a = c then [] :: splitC c (x ++ c :: r) else match splitC c (x ++ c :: r) with
      | [] => [[a]]
      | b :: l => (a :: b) :: l) = _
    rw [if_neg h1, split_at r fun hm => h (List.mem_cons_of_mem _ hm)]
theorem split_join {c : Nat} : ∀ {l : List (List Nat)}, l ≠ [] → (∀ x ∈ l, c ∉ x) → splitC c (joinC [c] l) = l
  | [], h, _ => absurd rfl h
  | [x], _, h => split_no (h x List.mem_cons_self)
  | x :: y :: r, _, h => by
    show splitC c (x ++ [c] ++ joinC [c] (y :: r)) = _
    rw [List.append_assoc, List.singleton_append, split_at _ (h x List.mem_cons_self), split_join (l := y :: r) (by simp) fun z hz => h z (List.mem_cons_of_mem _ hz)]
/-- with the last newline -/
theorem split_last {c : Nat} : ∀ {l : List (List Nat)}, l ≠ [] → (∀ x ∈ l, c ∉ x) → splitC c (joinC [c] l ++ [c]) = l ++ [[]]
  | [], h, _ => absurd rfl h
  | [x], _, h => split_at [] (h x List.mem_cons_self)
  | x :: y :: r, _, h => by
    show splitC c (x ++ [c] ++ joinC [c] (y :: r) ++ [c]) = _
    rw [List.append_assoc, List.append_assoc, List.singleton_append, split_at _ (h x List.mem_cons_self), split_last (l := y :: r) (by simp) fun z hz => h z (List.mem_cons_of_mem _ hz)]
    rfl
theorem join_nl {c : Nat} : ∀ {l : List (List Nat)}, l ≠ [] → joinC [] (l.map (· ++ [c])) = joinC [c] l ++ [c]
  | [], h => absurd rfl h
  | [x], _ => rfl
  | x :: y :: r, _ => by
    show x ++ [c] ++ [] ++ joinC [] ((y :: r).map (· ++ [c])) = x ++ [c] ++ joinC [c] (y :: r) ++ [c]
    rw [join_nl (l := y :: r) (by simp), List.append_nil, List.append_assoc, List.append_assoc, List.append_assoc]
theorem join_bound {sep : List Nat} {m : Nat} : ∀ {l : List (List Nat)}, (∀ x ∈ l, x.length ≤ m) → (joinC sep l).length ≤ l.length * (m + sep.length)
  | [], _ => Nat.zero_le _
  | [x], h => by
    have := h x List.mem_cons_self
    show x.length ≤ 1 * _
    omega
  | x :: y :: r, h => by
    have h1 := h x List.mem_cons_self
    have h2 := join_bound (sep := sep) (l := y :: r) fun z hz => h z (List.mem_cons_of_mem _ hz)
    show (x ++ sep ++ joinC sep (y :: r)).length ≤ _
    rw [List.length_append, List.length_append, List.length_cons, Nat.succ_mul]
    omega
theorem strsOf_T : ∀ l : List (List Nat), strsOf (l.map T) = .ok l
  | [] => rfl
  | x :: l => by
    show (strsOf (l.map T)).bind _ = _
    rw [strsOf_T l]
    show Res.ok (x.toArray.toList :: l) = _
    rw [List.toList_toArray]
theorem joinD_l {sep : List Nat} {l : List (List Nat)} (h : (joinC sep l).length ≤ lim) : mtD .join (T sep) [.list (l.map T)] = .ok (T (joinC sep l)) := by
  show (strsOf (l.map T)).bind _ = _
  rw [strsOf_T, Res.ok_bind]
  exact if_pos h
theorem joinD_t {sep : List Nat} {l : List (List Nat)} (h : (joinC sep l).length ≤ lim) : mtD .join (T sep) [.tuple (l.map T)] = .ok (T (joinC sep l)) := by
  show (strsOf (l.map T)).bind _ = _
  rw [strsOf_T, Res.ok_bind]
  exact if_pos h
theorem splitD {c : Nat} {x : List Nat} (hc : c < 256) (h : x.length + 2 ≤ lim) : mtD .split (T x) [T [c]] = .ok (.list ((splitC c x).map T)) := by
  have e : (⟨x.toArray⟩ : PySem.Str).cps.size + 2 ≤ lim := by show x.toArray.size + 2 ≤ lim; rw [List.size_toArray]; exact h
  show (if ([c] : List Nat).toArray.size = 1 ∧ ([c] : List Nat).toArray.getD 0 0 < 256 ∧ (⟨x.toArray⟩ : PySem.Str).cps.size + 2 ≤ lim then Res.ok (PyData.list ((splitC c x.toArray.toList).map T)) else .bad) = _
  rw [if_pos ⟨rfl, hc, e⟩, List.toList_toArray]
theorem addT {a b : List Nat} (h : a.length + b.length ≤ lim) : opD .add (T a) (T b) = .ok (T (a ++ b)) := by
  show (if a.toArray.size + b.toArray.size ≤ lim then Res.ok (PyData.str ⟨a.toArray ++ b.toArray⟩) else .bad) = _
  rw [if_pos (by rw [List.size_toArray, List.size_toArray]; exact h), List.append_toArray]
  rfl
theorem eqT (a b : List Nat) : cmD .eq (T a) (T b) = .ok (decide (a = b)) := by
  have e1 : fl (T a) = true := rfl
  have e2 : fl (T b) = true := rfl
  show (if fl (T a) && fl (T b) then Res.ok (PyData.eqv (T a) (T b)) else .bad) = _
  rw [e1, e2, if_pos (show (true && true) = true from rfl)]
  refine congrArg Res.ok ?_
  rw [Bool.eq_iff_iff, decide_eq_true_eq, gd_eqv (x := T a) (y := T b) (gd_str _ 0) (gd_str _ 0)]
  exact T_inj
theorem neT (a b : List Nat) : cmD .ne (T a) (T b) = .ok (!decide (a = b)) := by
  have e1 : fl (T a) = true := rfl
  have e2 : fl (T b) = true := rfl
  show (if fl (T a) && fl (T b) then Res.ok (!PyData.eqv (T a) (T b)) else .bad) = _
  rw [e1, e2, if_pos (show (true && true) = true from rfl)]
  refine congrArg (fun b => Res.ok (!b)) ?_
  rw [Bool.eq_iff_iff, decide_eq_true_eq, gd_eqv (x := T a) (y := T b) (gd_str _ 0) (gd_str _ 0)]
  exact T_inj
theorem cutL_init {α : Type} (a : List α) (x : α) : cutL (a ++ [x]) none (some (-1)) = a := by
  have e : sEnd (a ++ [x]).length (a ++ [x]).length (some (-1)) = a.length := by
    show (if (-1 : Int) < 0 then ((-1 : Int) + (((a ++ [x]).length : Nat) : Int)).toNat else min ((-1 : Int).toNat) (a ++ [x]).length) = _
    rw [if_pos (by decide), List.length_append, List.length_cons, List.length_nil]
    omega
  unfold cutL
  rw [e]
  show ((a ++ [x]).drop 0).take (a.length - 0) = a
  rw [List.drop_zero, Nat.sub_zero, List.take_left']
  rfl
theorem slcT_init (a : List Nat) (x : Nat) : slcD (T (a ++ [x])) none (some (-1)) = .ok (T a) := by
  show Res.ok (PyData.str ⟨(cutL (a ++ [x]).toArray.toList none (some (-1))).toArray⟩) = _
  rw [List.toList_toArray]
  rw [cutL_init]
  rfl
theorem slcl_init (a : List D) (x : D) : slcD (.list (a ++ [x])) none (some (-1)) = .ok (.list a) := by
  show Res.ok (PyData.list (cutL (a ++ [x]) none (some (-1)))) = _
  rw [cutL_init]
theorem lenT (a : List Nat) : blD .len [T a] = .ok (.int (a.length : Nat)) := len_T a
/-! ### cells as texts -/
def cc : Cell → List Nat
  | .pl x => [x]
  | .dg x up y => [x, if up then 47 else 92, y]
theorem encC_cc (c : Cell) : encC c = T (cc c) := by cases c <;> rfl
theorem cc_len (c : Cell) : (cc c).length ≤ 3 := by
  cases c
  · show 1 ≤ 3; omega
  · show 3 ≤ 3; omega
/-- a cell as the program has it -/
def GoodC : Cell → Prop
  | .pl x => isL x
  | .dg x _ y => isL x ∧ isL y ∧ x ≠ y
theorem cc_no {c : Cell} (h : GoodC c) {n : Nat} (hn : n = 32 ∨ n = 10) : n ∉ cc c := by
  cases c with
  | pl x =>
    have h : 97 ≤ x ∧ x ≤ 122 := h
    intro e
    rw [List.mem_singleton.mp e] at hn
    omega
  | dg x u y =>
    have h : (97 ≤ x ∧ x ≤ 122) ∧ (97 ≤ y ∧ y ≤ 122) ∧ x ≠ y := h
    intro e
    rcases List.mem_cons.mp e with e | e
    · omega
    · rcases List.mem_cons.mp e with e | e
      · split at e <;> omega
      · have := List.mem_singleton.mp e; omega
theorem cc_ne (c : Cell) : cc c ≠ [] := by cases c <;> exact List.cons_ne_nil _ _
def rowC (r : List Cell) : List Nat := joinC [32] (r.map cc)
theorem row_no {r : List Cell} (h : ∀ c ∈ r, GoodC c) : 10 ∉ rowC r := by
  unfold rowC
  induction r with
  | nil => simp [joinC]
  | cons a r ih =>
    cases r with
    | nil => exact cc_no (h a List.mem_cons_self) (.inr rfl)
    | cons b r =>
      show 10 ∉ cc a ++ [32] ++ joinC [32] ((b :: r).map cc)
      rw [List.mem_append, List.mem_append]
      rintro ((e | e) | e)
      · exact cc_no (h a List.mem_cons_self) (.inr rfl) e
      · have := List.mem_singleton.mp e; omega
      · exact ih (fun c hc => h c (List.mem_cons_of_mem _ hc)) e
theorem row_ne {r : List Cell} (h : r ≠ []) : rowC r ≠ [] := by
  unfold rowC
  match r, h with
  | [a], _ => exact cc_ne a
  | a :: b :: r, _ =>
    show cc a ++ [32] ++ _ ≠ []
    simp
theorem row_len {r : List Cell} : (rowC r).length ≤ r.length * 4 := by
  have := join_bound (sep := [32]) (m := 3) (l := r.map cc) fun x hx => by
    obtain ⟨c, _, rfl⟩ := List.mem_map.mp hx
    exact cc_len c
  rw [List.length_map] at this
  exact this
theorem row_split {r : List Cell} (hne : r ≠ []) (h : ∀ c ∈ r, GoodC c) : splitC 32 (rowC r) = r.map cc := split_join (fun e => hne (List.map_eq_nil_iff.mp e)) fun x hx => by
  obtain ⟨c, hc, rfl⟩ := List.mem_map.mp hx
  exact cc_no (h c hc) (.inl rfl)
/-- the text of a pattern, without its last newline -/
def txt (p : List (List Cell)) : List Nat := joinC [10] (p.map rowC)
theorem txt_len {p : List (List Cell)} {w : Nat} (h : ∀ r ∈ p, r.length ≤ w) : (txt p).length ≤ p.length * (w * 4 + 1) := by
  have := join_bound (sep := [10]) (m := w * 4) (l := p.map rowC) fun x hx => by
    obtain ⟨r, hr, rfl⟩ := List.mem_map.mp hx
    have := h r hr
    have := row_len (r := r)
    omega
  rw [List.length_map] at this
  exact this
section
variable {K : Nat → List D → Res D}
theorem e_mthT (m : Mt) (a es : C) (e : En) {x : D} (h : ev K a e = .ok x) (ht : mtTy m x = true) : ev K (.mth m a es) e = (ev K es e).bind fun l => (mtD m x (asL l)).noE := by
  show (ev K a e).bind _ = _
  rw [h, Res.ok_bind]
  exact if_pos ht
theorem isCell_run {f : Nat} (kf : ∀ x, isL x → K f [T [x]] = .ok (.bool true)) {c : Cell} (h : GoodC c) : ex K (isCellB f) [.v (encC c)] = .ok (.rt (.bool true)) := by
  cases c with
  | pl x =>
    show ex K (isCellB f) [.v (T [x])] = _
    unfold isCellB
    simp only [x_seq, thenX_nx, thenX_rt, thenX_bk, thenX_ct, thenX_err, thenX_cond, x_iff, ifX_d, x_skip, x_ret, x_retn, x_brk, x_cnt, x_set, x_seto, own_list, own_dict, x_sett, x_fz, x_aug, aug_addI, aug_subI, x_app, appS_l, appX_ok, x_puti, putS_o, x_pop, popS_l, x_ext, extS_l, idxl_0, idxl_1, idxl_last, e_slc, C.isNa, optI_t, optI_f, slc_lst, slc_tpl, cutL_map, ne_bool, eq_bool, cond_ok, cond_rt, cond_boolD, cond_or, cond_and, cond_andF, cond_true, cond_false, e_or, e_and, e_ite, e_chn, e_var, e_wv, e_dat, e_con, e_nil, e_cons, e_neg, e_bin, e_cmp, e_isn, e_nisn, e_not, e_tup, e_lst, e_idx, e_call, e_blt, isn_t, nisn_t, isn_i, nisn_i, isn_n, nisn_n, En.at, En.put, Sl.strict, Sl.weak, Sl.froz, En.frz, En.wip, b_var, b_tup, b_nil, b_cons, bindT_R4, idxR_0, idxR_1, idxR_2, idxR_3, slots, List.nil_append, List.cons_append, asL, Res.ok_bind, Res.noE_ok, idx4_0, idx4_1, idx4_2, idx4_3, idx2_0, idx2_1, op_addI, op_subI, cm_eqI, cm_neI, cm_geI, cm_ltI, cm_leI, cm_gtI, truth_b, boolR_b, Bool.not_true, Bool.not_false, bindX_ok, len_tup, len_lst, max2I, min2I, tup_lst, tup_tup, lst_lst, lst_tup, List.length_map, lenT, show (([x] : List Nat).length : Int) = 1 from rfl, decide_true, kf x h]
  | dg x u y =>
    have h : isL x ∧ isL y ∧ x ≠ y := h
    show ex K (isCellB f) [.v (T [x, if u then 47 else 92, y])] = _
    have i0 : idxD (T [x, if u then 47 else 92, y]) (.int 0) = .ok (T [x]) := rfl
    have i1 : idxD (T [x, if u then 47 else 92, y]) (.int 1) = .ok (T [if u then 47 else 92]) := rfl
    have i2 : idxD (T [x, if u then 47 else 92, y]) (.int 2) = .ok (T [y]) := rfl
    have ni : cmD .notin (T [if u then 47 else 92]) (.str "/\\") = .ok false := by cases u <;> rfl
    have nx : ¬ ([x] : List Nat) = [y] := fun e => h.2.2 (List.cons.inj e).1
    unfold isCellB
    simp only [x_seq, thenX_nx, thenX_rt, thenX_bk, thenX_ct, thenX_err, thenX_cond, x_iff, ifX_d, x_skip, x_ret, x_retn, x_brk, x_cnt, x_set, x_seto, own_list, own_dict, x_sett, x_fz, x_aug, aug_addI, aug_subI, x_app, appS_l, appX_ok, x_puti, putS_o, x_pop, popS_l, x_ext, extS_l, idxl_0, idxl_1, idxl_last, e_slc, C.isNa, optI_t, optI_f, slc_lst, slc_tpl, cutL_map, ne_bool, eq_bool, cond_ok, cond_rt, cond_boolD, cond_or, cond_and, cond_andF, cond_true, cond_false, e_or, e_and, e_ite, e_chn, e_var, e_wv, e_dat, e_con, e_nil, e_cons, e_neg, e_bin, e_cmp, e_isn, e_nisn, e_not, e_tup, e_lst, e_idx, e_call, e_blt, isn_t, nisn_t, isn_i, nisn_i, isn_n, nisn_n, En.at, En.put, Sl.strict, Sl.weak, Sl.froz, En.frz, En.wip, b_var, b_tup, b_nil, b_cons, bindT_R4, idxR_0, idxR_1, idxR_2, idxR_3, slots, List.nil_append, List.cons_append, asL, Res.ok_bind, Res.noE_ok, idx4_0, idx4_1, idx4_2, idx4_3, idx2_0, idx2_1, op_addI, op_subI, cm_eqI, cm_neI, cm_geI, cm_ltI, cm_leI, cm_gtI, truth_b, boolR_b, Bool.not_true, Bool.not_false, bindX_ok, len_tup, len_lst, max2I, min2I, tup_lst, tup_tup, lst_lst, lst_tup, List.length_map, lenT, show (([x, if u then 47 else 92, y] : List Nat).length : Int) = 3 from rfl, show decide ((3 : Int) = 1) = false from rfl, decide_true, Bool.not_true, Bool.or_false, Bool.false_or, i0, i1, i2, ni, kf x h.1, kf y h.2.1, neT, decide_eq_false nx, Bool.and_true, Bool.not_false]
theorem rowFault_run {ic : Nat} {r : List Cell} (hl : r.length ≤ 10) (kc : ∀ c ∈ r, K ic [encC c] = .ok (.bool true)) {d : D} (hd : d = .none ∨ d = .int (r.length : Nat)) (s2 : Sl) : ex K (rowFaultB ic) [.v (.list (r.map encC)), .v d, s2] = .ok (.rt .none) := by
  have g : ¬ (10 : Int) < (r.length : Nat) := by omega
  have e1 : ev K (.gen true (.var 2) (.var 0) (.call ic (.cons (.var 2) .nil))) [.v (.list (r.map encC)), .v d, s2] = .ok (.bool true) := by
    have := ev_all (K := K) (e := [.v (.list (r.map encC)), .v d, s2]) r encC (fun _ => true) (tg := .var 2) (src := .var 0) (elt := .call ic (.cons (.var 2) .nil)) (s := .list (r.map encC)) rfl rfl fun c hc => ⟨_, rfl, by simp only [x_seq, thenX_nx, thenX_rt, thenX_bk, thenX_ct, thenX_err, thenX_cond, x_iff, ifX_d, x_skip, x_ret, x_retn, x_brk, x_cnt, x_set, x_seto, own_list, own_dict, x_sett, x_fz, x_aug, aug_addI, aug_subI, x_app, appS_l, appX_ok, x_puti, putS_o, x_pop, popS_l, x_ext, extS_l, idxl_0, idxl_1, idxl_last, e_slc, C.isNa, optI_t, optI_f, slc_lst, slc_tpl, cutL_map, ne_bool, eq_bool, cond_ok, cond_rt, cond_boolD, cond_or, cond_and, cond_andF, cond_true, cond_false, e_or, e_and, e_ite, e_chn, e_var, e_wv, e_dat, e_con, e_nil, e_cons, e_neg, e_bin, e_cmp, e_isn, e_nisn, e_not, e_tup, e_lst, e_idx, e_call, e_blt, isn_t, nisn_t, isn_i, nisn_i, isn_n, nisn_n, En.at, En.put, Sl.strict, Sl.weak, Sl.froz, En.frz, En.wip, b_var, b_tup, b_nil, b_cons, bindT_R4, idxR_0, idxR_1, idxR_2, idxR_3, slots, List.nil_append, List.cons_append, asL, Res.ok_bind, Res.noE_ok, idx4_0, idx4_1, idx4_2, idx4_3, idx2_0, idx2_1, op_addI, op_subI, cm_eqI, cm_neI, cm_geI, cm_ltI, cm_leI, cm_gtI, truth_b, boolR_b, Bool.not_true, Bool.not_false, bindX_ok, len_tup, len_lst, max2I, min2I, tup_lst, tup_tup, lst_lst, lst_tup, List.length_map, kc c hc]⟩
    rw [this]
    simp
  unfold rowFaultB
  rcases hd with rfl | rfl
  · simp only [x_seq, thenX_nx, thenX_rt, thenX_bk, thenX_ct, thenX_err, thenX_cond, x_iff, ifX_d, x_skip, x_ret, x_retn, x_brk, x_cnt, x_set, x_seto, own_list, own_dict, x_sett, x_fz, x_aug, aug_addI, aug_subI, x_app, appS_l, appX_ok, x_puti, putS_o, x_pop, popS_l, x_ext, extS_l, idxl_0, idxl_1, idxl_last, e_slc, C.isNa, optI_t, optI_f, slc_lst, slc_tpl, cutL_map, ne_bool, eq_bool, cond_ok, cond_rt, cond_boolD, cond_or, cond_and, cond_andF, cond_true, cond_false, e_or, e_and, e_ite, e_chn, e_var, e_wv, e_dat, e_con, e_nil, e_cons, e_neg, e_bin, e_cmp, e_isn, e_nisn, e_not, e_tup, e_lst, e_idx, e_call, e_blt, isn_t, nisn_t, isn_i, nisn_i, isn_n, nisn_n, En.at, En.put, Sl.strict, Sl.weak, Sl.froz, En.frz, En.wip, b_var, b_tup, b_nil, b_cons, bindT_R4, idxR_0, idxR_1, idxR_2, idxR_3, slots, List.nil_append, List.cons_append, asL, Res.ok_bind, Res.noE_ok, idx4_0, idx4_1, idx4_2, idx4_3, idx2_0, idx2_1, op_addI, op_subI, cm_eqI, cm_neI, cm_geI, cm_ltI, cm_leI, cm_gtI, truth_b, boolR_b, Bool.not_true, Bool.not_false, bindX_ok, len_tup, len_lst, max2I, min2I, tup_lst, tup_tup, lst_lst, lst_tup, List.length_map, e1, Bool.not_true, decide_eq_false g]
  · simp only [x_seq, thenX_nx, thenX_rt, thenX_bk, thenX_ct, thenX_err, thenX_cond, x_iff, ifX_d, x_skip, x_ret, x_retn, x_brk, x_cnt, x_set, x_seto, own_list, own_dict, x_sett, x_fz, x_aug, aug_addI, aug_subI, x_app, appS_l, appX_ok, x_puti, putS_o, x_pop, popS_l, x_ext, extS_l, idxl_0, idxl_1, idxl_last, e_slc, C.isNa, optI_t, optI_f, slc_lst, slc_tpl, cutL_map, ne_bool, eq_bool, cond_ok, cond_rt, cond_boolD, cond_or, cond_and, cond_andF, cond_true, cond_false, e_or, e_and, e_ite, e_chn, e_var, e_wv, e_dat, e_con, e_nil, e_cons, e_neg, e_bin, e_cmp, e_isn, e_nisn, e_not, e_tup, e_lst, e_idx, e_call, e_blt, isn_t, nisn_t, isn_i, nisn_i, isn_n, nisn_n, En.at, En.put, Sl.strict, Sl.weak, Sl.froz, En.frz, En.wip, b_var, b_tup, b_nil, b_cons, bindT_R4, idxR_0, idxR_1, idxR_2, idxR_3, slots, List.nil_append, List.cons_append, asL, Res.ok_bind, Res.noE_ok, idx4_0, idx4_1, idx4_2, idx4_3, idx2_0, idx2_1, op_addI, op_subI, cm_eqI, cm_neI, cm_geI, cm_ltI, cm_leI, cm_gtI, truth_b, boolR_b, Bool.not_true, Bool.not_false, bindX_ok, len_tup, len_lst, max2I, min2I, tup_lst, tup_tup, lst_lst, lst_tup, List.length_map, e1, Bool.not_true, decide_eq_false g, decide_true]
theorem linesOf_run {l : List (List Nat)} (hne : l ≠ []) (hn : ∀ x ∈ l, 10 ∉ x) (hl : (joinC [10] l).length + 3 ≤ lim) (s1 : Sl) : ex K linesOfB [.v (T (joinC [10] l ++ [10])), s1] = .ok (.rt (.list (l.map T))) := by
  have nl : (.str "\n" : D) = T [10] := rfl
  have em : (.str "" : D) = T [] := rfl
  unfold linesOfB
  rw [nl, em]
  simp only [x_seq, thenX_nx, thenX_rt, thenX_bk, thenX_ct, thenX_err, thenX_cond, x_iff, ifX_d, x_skip, x_ret, x_retn, x_brk, x_cnt, x_set, x_seto, own_list, own_dict, x_sett, x_fz, x_aug, aug_addI, aug_subI, x_app, appS_l, appX_ok, x_puti, putS_o, x_pop, popS_l, x_ext, extS_l, idxl_0, idxl_1, idxl_last, e_slc, C.isNa, optI_t, optI_f, slc_lst, slc_tpl, cutL_map, ne_bool, eq_bool, cond_ok, cond_rt, cond_boolD, cond_or, cond_and, cond_andF, cond_true, cond_false, e_or, e_and, e_ite, e_chn, e_var, e_wv, e_dat, e_con, e_nil, e_cons, e_neg, e_bin, e_cmp, e_isn, e_nisn, e_not, e_tup, e_lst, e_idx, e_call, e_blt, isn_t, nisn_t, isn_i, nisn_i, isn_n, nisn_n, En.at, En.put, Sl.strict, Sl.weak, Sl.froz, En.frz, En.wip, b_var, b_tup, b_nil, b_cons, bindT_R4, idxR_0, idxR_1, idxR_2, idxR_3, slots, List.nil_append, List.cons_append, asL, Res.ok_bind, Res.noE_ok, idx4_0, idx4_1, idx4_2, idx4_3, idx2_0, idx2_1, op_addI, op_subI, cm_eqI, cm_neI, cm_geI, cm_ltI, cm_leI, cm_gtI, truth_b, boolR_b, Bool.not_true, Bool.not_false, bindX_ok, len_tup, len_lst, max2I, min2I, tup_lst, tup_tup, lst_lst, lst_tup, List.length_map]
  rw [e_mthT .split _ _ _ (x := T (joinC [10] l ++ [10])) rfl rfl]
  simp only [x_seq, thenX_nx, thenX_rt, thenX_bk, thenX_ct, thenX_err, thenX_cond, x_iff, ifX_d, x_skip, x_ret, x_retn, x_brk, x_cnt, x_set, x_seto, own_list, own_dict, x_sett, x_fz, x_aug, aug_addI, aug_subI, x_app, appS_l, appX_ok, x_puti, putS_o, x_pop, popS_l, x_ext, extS_l, idxl_0, idxl_1, idxl_last, e_slc, C.isNa, optI_t, optI_f, slc_lst, slc_tpl, cutL_map, ne_bool, eq_bool, cond_ok, cond_rt, cond_boolD, cond_or, cond_and, cond_andF, cond_true, cond_false, e_or, e_and, e_ite, e_chn, e_var, e_wv, e_dat, e_con, e_nil, e_cons, e_neg, e_bin, e_cmp, e_isn, e_nisn, e_not, e_tup, e_lst, e_idx, e_call, e_blt, isn_t, nisn_t, isn_i, nisn_i, isn_n, nisn_n, En.at, En.put, Sl.strict, Sl.weak, Sl.froz, En.frz, En.wip, b_var, b_tup, b_nil, b_cons, bindT_R4, idxR_0, idxR_1, idxR_2, idxR_3, slots, List.nil_append, List.cons_append, asL, Res.ok_bind, Res.noE_ok, idx4_0, idx4_1, idx4_2, idx4_3, idx2_0, idx2_1, op_addI, op_subI, cm_eqI, cm_neI, cm_geI, cm_ltI, cm_leI, cm_gtI, truth_b, boolR_b, Bool.not_true, Bool.not_false, bindX_ok, len_tup, len_lst, max2I, min2I, tup_lst, tup_tup, lst_lst, lst_tup, List.length_map, splitD (c := 10) (x := joinC [10] l ++ [10]) (by decide) (by rw [List.length_append]; show _ + 1 + 2 ≤ _; omega), split_last hne hn, List.map_append, List.map_cons, List.map_nil, eqT, decide_true, cutL_init]
theorem linesOf_run2 {l : List (List Nat)} {a : List Nat} (h0 : a ≠ []) (hn : ∀ x ∈ l ++ [a], 10 ∉ x) (hl : (joinC [10] (l ++ [a])).length + 3 ≤ lim) (s1 : Sl) : ex K linesOfB [.v (T (joinC [10] (l ++ [a]))), s1] = .ok (.rt (.list ((l ++ [a]).map T))) := by
  have nl : (.str "\n" : D) = T [10] := rfl
  have em : (.str "" : D) = T [] := rfl
  unfold linesOfB
  rw [nl, em]
  simp only [x_seq, thenX_nx, thenX_rt, thenX_bk, thenX_ct, thenX_err, thenX_cond, x_iff, ifX_d, x_skip, x_ret, x_retn, x_brk, x_cnt, x_set, x_seto, own_list, own_dict, x_sett, x_fz, x_aug, aug_addI, aug_subI, x_app, appS_l, appX_ok, x_puti, putS_o, x_pop, popS_l, x_ext, extS_l, idxl_0, idxl_1, idxl_last, e_slc, C.isNa, optI_t, optI_f, slc_lst, slc_tpl, cutL_map, ne_bool, eq_bool, cond_ok, cond_rt, cond_boolD, cond_or, cond_and, cond_andF, cond_true, cond_false, e_or, e_and, e_ite, e_chn, e_var, e_wv, e_dat, e_con, e_nil, e_cons, e_neg, e_bin, e_cmp, e_isn, e_nisn, e_not, e_tup, e_lst, e_idx, e_call, e_blt, isn_t, nisn_t, isn_i, nisn_i, isn_n, nisn_n, En.at, En.put, Sl.strict, Sl.weak, Sl.froz, En.frz, En.wip, b_var, b_tup, b_nil, b_cons, bindT_R4, idxR_0, idxR_1, idxR_2, idxR_3, slots, List.nil_append, List.cons_append, asL, Res.ok_bind, Res.noE_ok, idx4_0, idx4_1, idx4_2, idx4_3, idx2_0, idx2_1, op_addI, op_subI, cm_eqI, cm_neI, cm_geI, cm_ltI, cm_leI, cm_gtI, truth_b, boolR_b, Bool.not_true, Bool.not_false, bindX_ok, len_tup, len_lst, max2I, min2I, tup_lst, tup_tup, lst_lst, lst_tup, List.length_map]
  rw [e_mthT .split _ _ _ (x := T (joinC [10] (l ++ [a]))) rfl rfl]
  simp only [x_seq, thenX_nx, thenX_rt, thenX_bk, thenX_ct, thenX_err, thenX_cond, x_iff, ifX_d, x_skip, x_ret, x_retn, x_brk, x_cnt, x_set, x_seto, own_list, own_dict, x_sett, x_fz, x_aug, aug_addI, aug_subI, x_app, appS_l, appX_ok, x_puti, putS_o, x_pop, popS_l, x_ext, extS_l, idxl_0, idxl_1, idxl_last, e_slc, C.isNa, optI_t, optI_f, slc_lst, slc_tpl, cutL_map, ne_bool, eq_bool, cond_ok, cond_rt, cond_boolD, cond_or, cond_and, cond_andF, cond_true, cond_false, e_or, e_and, e_ite, e_chn, e_var, e_wv, e_dat, e_con, e_nil, e_cons, e_neg, e_bin, e_cmp, e_isn, e_nisn, e_not, e_tup, e_lst, e_idx, e_call, e_blt, isn_t, nisn_t, isn_i, nisn_i, isn_n, nisn_n, En.at, En.put, Sl.strict, Sl.weak, Sl.froz, En.frz, En.wip, b_var, b_tup, b_nil, b_cons, bindT_R4, idxR_0, idxR_1, idxR_2, idxR_3, slots, List.nil_append, List.cons_append, asL, Res.ok_bind, Res.noE_ok, idx4_0, idx4_1, idx4_2, idx4_3, idx2_0, idx2_1, op_addI, op_subI, cm_eqI, cm_neI, cm_geI, cm_ltI, cm_leI, cm_gtI, truth_b, boolR_b, Bool.not_true, Bool.not_false, bindX_ok, len_tup, len_lst, max2I, min2I, tup_lst, tup_tup, lst_lst, lst_tup, List.length_map, splitD (c := 10) (x := joinC [10] (l ++ [a])) (by decide) (by omega), split_join (l := l ++ [a]) (by simp) hn, List.map_append, List.map_cons, List.map_nil, eqT, decide_eq_false h0]
theorem readPat_run {lo rf : Nat} {x : D} {p : List (List Cell)} {h w : Nat} (rc : Rect h w p) (h0 : 0 < h) (w0 : 0 < w) (hh : h ≤ 10) (hw : w ≤ 10) (gd : ∀ r ∈ p, ∀ c ∈ r, GoodC c)
    (kl : K lo [x] = .ok (.list ((p.map rowC).map T))) (kr : ∀ r ∈ p, ∀ d : D, d = .none ∨ d = .int (r.length : Nat) → K rf [.list (r.map encC), d] = .ok .none) (s1 s2 s3 s4 s5 : Sl) :
    ex K (readPatB lo rf) [.v x, s1, s2, s3, s4, s5] = .ok (.rt (encP p)) := by
  have l1 : lim = 1000000 := rfl
  have sp : (.str " " : D) = T [32] := rfl
  have pl := rc.1
  refine wp_rt ?_
  unfold readPatB
  rw [sp]
  simp only [x_seq, thenX_nx, thenX_rt, thenX_bk, thenX_ct, thenX_err, thenX_cond, x_iff, ifX_d, x_skip, x_ret, x_retn, x_brk, x_cnt, x_set, x_seto, own_list, own_dict, x_sett, x_fz, x_aug, aug_addI, aug_subI, x_app, appS_l, appX_ok, x_puti, putS_o, x_pop, popS_l, x_ext, extS_l, idxl_0, idxl_1, idxl_last, e_slc, C.isNa, optI_t, optI_f, slc_lst, slc_tpl, cutL_map, ne_bool, eq_bool, cond_ok, cond_rt, cond_boolD, cond_or, cond_and, cond_andF, cond_true, cond_false, e_or, e_and, e_ite, e_chn, e_var, e_wv, e_dat, e_con, e_nil, e_cons, e_neg, e_bin, e_cmp, e_isn, e_nisn, e_not, e_tup, e_lst, e_idx, e_call, e_blt, isn_t, nisn_t, isn_i, nisn_i, isn_n, nisn_n, En.at, En.put, Sl.strict, Sl.weak, Sl.froz, En.frz, En.wip, b_var, b_tup, b_nil, b_cons, bindT_R4, idxR_0, idxR_1, idxR_2, idxR_3, slots, List.nil_append, List.cons_append, asL, Res.ok_bind, Res.noE_ok, idx4_0, idx4_1, idx4_2, idx4_3, idx2_0, idx2_1, op_addI, op_subI, cm_eqI, cm_neI, cm_geI, cm_ltI, cm_leI, cm_gtI, truth_b, boolR_b, Bool.not_true, Bool.not_false, bindX_ok, len_tup, len_lst, max2I, min2I, tup_lst, tup_tup, lst_lst, lst_tup, List.length_map, kl]
  refine wp_range p.length (fun k e => ∃ s3 s4 s5, e = [.v x, .v (.list ((p.map rowC).map T)), .o (.list ((p.take k).map encRow)), s3, s4, s5]) (by simp only [x_seq, thenX_nx, thenX_rt, thenX_bk, thenX_ct, thenX_err, thenX_cond, x_iff, ifX_d, x_skip, x_ret, x_retn, x_brk, x_cnt, x_set, x_seto, own_list, own_dict, x_sett, x_fz, x_aug, aug_addI, aug_subI, x_app, appS_l, appX_ok, x_puti, putS_o, x_pop, popS_l, x_ext, extS_l, idxl_0, idxl_1, idxl_last, e_slc, C.isNa, optI_t, optI_f, slc_lst, slc_tpl, cutL_map, ne_bool, eq_bool, cond_ok, cond_rt, cond_boolD, cond_or, cond_and, cond_andF, cond_true, cond_false, e_or, e_and, e_ite, e_chn, e_var, e_wv, e_dat, e_con, e_nil, e_cons, e_neg, e_bin, e_cmp, e_isn, e_nisn, e_not, e_tup, e_lst, e_idx, e_call, e_blt, isn_t, nisn_t, isn_i, nisn_i, isn_n, nisn_n, En.at, En.put, Sl.strict, Sl.weak, Sl.froz, En.frz, En.wip, b_var, b_tup, b_nil, b_cons, bindT_R4, idxR_0, idxR_1, idxR_2, idxR_3, slots, List.nil_append, List.cons_append, asL, Res.ok_bind, Res.noE_ok, idx4_0, idx4_1, idx4_2, idx4_3, idx2_0, idx2_1, op_addI, op_subI, cm_eqI, cm_neI, cm_geI, cm_ltI, cm_leI, cm_gtI, truth_b, boolR_b, Bool.not_true, Bool.not_false, bindX_ok, len_tup, len_lst, max2I, min2I, tup_lst, tup_tup, lst_lst, lst_tup, List.length_map]) (by omega) ⟨_, _, _, rfl⟩ (fun k hk e ⟨s3, s4, s5, he⟩ => ?_) (fun e ⟨s3, s4, s5, he⟩ => ?_)
  · subst he
    have hr := List.getElem_mem hk
    have hrw := rc.2 _ hr
    have ik : idxD (.list ((p.map rowC).map T)) (.int (k : Int)) = .ok (T (rowC p[k])) := by
      show atL _ _ = _
      rw [atL_nat (by rw [List.length_map, List.length_map]; exact hk), List.getElem_map, List.getElem_map]
    have rl := row_len (r := p[k])
    have sD := splitD (c := 32) (x := rowC p[k]) (by decide) (by omega)
    rw [row_split (r := p[k]) (fun e => by rw [e] at hrw; simp at hrw; omega) (gd _ hr), List.map_map] at sD
    have sD : mtD .split (T (rowC p[k])) [T [32]] = .ok (.list (p[k].map encC)) := by
      rw [sD]
      exact congrArg (fun l => Res.ok (PyData.list l)) (List.map_congr_left fun c _ => (encC_cc c).symm)
    have cnt : ∃ d : D, (d = .none ∨ d = .int (p[k].length : Nat)) ∧ ∀ s3 s4 s5, ev K (.ite (.wv 2) (.blt .len (.cons (.idx (.wv 2) (.dat (.int 0))) .nil)) (.dat .none)) [.v x, .v (.list ((p.map rowC).map T)), .o (.list ((p.take k).map encRow)), s3, s4, s5] = .ok d := by
      match p, k, hk, rc with
      | a :: p, 0, hk, rc => exact ⟨.none, .inl rfl, fun s3 s4 s5 => rfl⟩
      | a :: p, k + 1, hk, rc =>
        have e1 : (a.map encC).length = (a :: p)[k + 1].length := by
          rw [List.length_map, rc.2 a List.mem_cons_self, rc.2 _ (List.getElem_mem hk)]
        refine ⟨.int ((a :: p)[k + 1].length : Nat), .inr rfl, fun s3 s4 s5 => ?_⟩
        have i0 : idxD (.list (((a :: p).take (k + 1)).map encRow)) (.int 0) = .ok (.tuple (a.map encC)) := idxl_0 _ _
        simp only [x_seq, thenX_nx, thenX_rt, thenX_bk, thenX_ct, thenX_err, thenX_cond, x_iff, ifX_d, x_skip, x_ret, x_retn, x_brk, x_cnt, x_set, x_seto, own_list, own_dict, x_sett, x_fz, x_aug, aug_addI, aug_subI, x_app, appS_l, appX_ok, x_puti, putS_o, x_pop, popS_l, x_ext, extS_l, idxl_0, idxl_1, idxl_last, e_slc, C.isNa, optI_t, optI_f, slc_lst, slc_tpl, cutL_map, ne_bool, eq_bool, cond_ok, cond_rt, cond_boolD, cond_or, cond_and, cond_andF, cond_true, cond_false, e_or, e_and, e_ite, e_chn, e_var, e_wv, e_dat, e_con, e_nil, e_cons, e_neg, e_bin, e_cmp, e_isn, e_nisn, e_not, e_tup, e_lst, e_idx, e_call, e_blt, isn_t, nisn_t, isn_i, nisn_i, isn_n, nisn_n, En.at, En.put, Sl.strict, Sl.weak, Sl.froz, En.frz, En.wip, b_var, b_tup, b_nil, b_cons, bindT_R4, idxR_0, idxR_1, idxR_2, idxR_3, slots, List.nil_append, List.cons_append, asL, Res.ok_bind, Res.noE_ok, idx4_0, idx4_1, idx4_2, idx4_3, idx2_0, idx2_1, op_addI, op_subI, cm_eqI, cm_neI, cm_geI, cm_ltI, cm_leI, cm_gtI, truth_b, boolR_b, Bool.not_true, Bool.not_false, bindX_ok, len_tup, len_lst, max2I, min2I, tup_lst, tup_tup, lst_lst, lst_tup, List.length_map, i0, e1, show truth (.list (((a :: p).take (k + 1)).map encRow)) = true from rfl]
    obtain ⟨d, hd, cnt⟩ := cnt
    have kr' := kr _ hr d hd
    have k10 : (k : Int) < 10 := by omega
    have tl : (p.take k).length < lim := by rw [List.length_take]; omega
    generalize (C.ite (.wv 2) (.blt .len (.cons (.idx (.wv 2) (.dat (.int 0))) .nil)) (.dat .none)) = I at cnt ⊢
    simp only [x_seq, thenX_nx, thenX_rt, thenX_bk, thenX_ct, thenX_err, thenX_cond, x_iff, ifX_d, x_skip, x_ret, x_retn, x_brk, x_cnt, x_set, x_seto, own_list, own_dict, x_sett, x_fz, x_aug, aug_addI, aug_subI, x_app, appS_l, appX_ok, x_puti, putS_o, x_pop, popS_l, x_ext, extS_l, idxl_0, idxl_1, idxl_last, e_slc, C.isNa, optI_t, optI_f, slc_lst, slc_tpl, cutL_map, ne_bool, eq_bool, cond_ok, cond_rt, cond_boolD, cond_or, cond_and, cond_andF, cond_true, cond_false, e_or, e_and, e_ite, e_chn, e_var, e_wv, e_dat, e_con, e_nil, e_cons, e_neg, e_bin, e_cmp, e_isn, e_nisn, e_not, e_tup, e_lst, e_idx, e_call, e_blt, isn_t, nisn_t, isn_i, nisn_i, isn_n, nisn_n, En.at, En.put, Sl.strict, Sl.weak, Sl.froz, En.frz, En.wip, b_var, b_tup, b_nil, b_cons, bindT_R4, idxR_0, idxR_1, idxR_2, idxR_3, slots, List.nil_append, List.cons_append, asL, Res.ok_bind, Res.noE_ok, idx4_0, idx4_1, idx4_2, idx4_3, idx2_0, idx2_1, op_addI, op_subI, cm_eqI, cm_neI, cm_geI, cm_ltI, cm_leI, cm_gtI, truth_b, boolR_b, Bool.not_true, Bool.not_false, bindX_ok, len_tup, len_lst, max2I, min2I, tup_lst, tup_tup, lst_lst, lst_tup, List.length_map]
    rw [e_mthT .split _ _ _ (x := T (rowC p[k])) (by simp only [x_seq, thenX_nx, thenX_rt, thenX_bk, thenX_ct, thenX_err, thenX_cond, x_iff, ifX_d, x_skip, x_ret, x_retn, x_brk, x_cnt, x_set, x_seto, own_list, own_dict, x_sett, x_fz, x_aug, aug_addI, aug_subI, x_app, appS_l, appX_ok, x_puti, putS_o, x_pop, popS_l, x_ext, extS_l, idxl_0, idxl_1, idxl_last, e_slc, C.isNa, optI_t, optI_f, slc_lst, slc_tpl, cutL_map, ne_bool, eq_bool, cond_ok, cond_rt, cond_boolD, cond_or, cond_and, cond_andF, cond_true, cond_false, e_or, e_and, e_ite, e_chn, e_var, e_wv, e_dat, e_con, e_nil, e_cons, e_neg, e_bin, e_cmp, e_isn, e_nisn, e_not, e_tup, e_lst, e_idx, e_call, e_blt, isn_t, nisn_t, isn_i, nisn_i, isn_n, nisn_n, En.at, En.put, Sl.strict, Sl.weak, Sl.froz, En.frz, En.wip, b_var, b_tup, b_nil, b_cons, bindT_R4, idxR_0, idxR_1, idxR_2, idxR_3, slots, List.nil_append, List.cons_append, asL, Res.ok_bind, Res.noE_ok, idx4_0, idx4_1, idx4_2, idx4_3, idx2_0, idx2_1, op_addI, op_subI, cm_eqI, cm_neI, cm_geI, cm_ltI, cm_leI, cm_gtI, truth_b, boolR_b, Bool.not_true, Bool.not_false, bindX_ok, len_tup, len_lst, max2I, min2I, tup_lst, tup_tup, lst_lst, lst_tup, List.length_map, ik]) rfl]
    simp only [x_seq, thenX_nx, thenX_rt, thenX_bk, thenX_ct, thenX_err, thenX_cond, x_iff, ifX_d, x_skip, x_ret, x_retn, x_brk, x_cnt, x_set, x_seto, own_list, own_dict, x_sett, x_fz, x_aug, aug_addI, aug_subI, x_app, appS_l, appX_ok, x_puti, putS_o, x_pop, popS_l, x_ext, extS_l, idxl_0, idxl_1, idxl_last, e_slc, C.isNa, optI_t, optI_f, slc_lst, slc_tpl, cutL_map, ne_bool, eq_bool, cond_ok, cond_rt, cond_boolD, cond_or, cond_and, cond_andF, cond_true, cond_false, e_or, e_and, e_ite, e_chn, e_var, e_wv, e_dat, e_con, e_nil, e_cons, e_neg, e_bin, e_cmp, e_isn, e_nisn, e_not, e_tup, e_lst, e_idx, e_call, e_blt, isn_t, nisn_t, isn_i, nisn_i, isn_n, nisn_n, En.at, En.put, Sl.strict, Sl.weak, Sl.froz, En.frz, En.wip, b_var, b_tup, b_nil, b_cons, bindT_R4, idxR_0, idxR_1, idxR_2, idxR_3, slots, List.nil_append, List.cons_append, asL, Res.ok_bind, Res.noE_ok, idx4_0, idx4_1, idx4_2, idx4_3, idx2_0, idx2_1, op_addI, op_subI, cm_eqI, cm_neI, cm_geI, cm_ltI, cm_leI, cm_gtI, truth_b, boolR_b, Bool.not_true, Bool.not_false, bindX_ok, len_tup, len_lst, max2I, min2I, tup_lst, tup_tup, lst_lst, lst_tup, List.length_map, sD, cnt, kr', decide_eq_true k10, Bool.not_true, tl]
    refine wp_ok ⟨.v (.int (k : Int)), .v (.list (p[k].map encC)), .v .none, ?_⟩
    rw [List.take_succ, List.getElem?_eq_getElem hk, List.map_append]
    rfl
  · subst he
    rw [List.take_length]
    have n0 : ¬ ((p.length : Nat) : Int) = 0 := by omega
    simp only [x_seq, thenX_nx, thenX_rt, thenX_bk, thenX_ct, thenX_err, thenX_cond, x_iff, ifX_d, x_skip, x_ret, x_retn, x_brk, x_cnt, x_set, x_seto, own_list, own_dict, x_sett, x_fz, x_aug, aug_addI, aug_subI, x_app, appS_l, appX_ok, x_puti, putS_o, x_pop, popS_l, x_ext, extS_l, idxl_0, idxl_1, idxl_last, e_slc, C.isNa, optI_t, optI_f, slc_lst, slc_tpl, cutL_map, ne_bool, eq_bool, cond_ok, cond_rt, cond_boolD, cond_or, cond_and, cond_andF, cond_true, cond_false, e_or, e_and, e_ite, e_chn, e_var, e_wv, e_dat, e_con, e_nil, e_cons, e_neg, e_bin, e_cmp, e_isn, e_nisn, e_not, e_tup, e_lst, e_idx, e_call, e_blt, isn_t, nisn_t, isn_i, nisn_i, isn_n, nisn_n, En.at, En.put, Sl.strict, Sl.weak, Sl.froz, En.frz, En.wip, b_var, b_tup, b_nil, b_cons, bindT_R4, idxR_0, idxR_1, idxR_2, idxR_3, slots, List.nil_append, List.cons_append, asL, Res.ok_bind, Res.noE_ok, idx4_0, idx4_1, idx4_2, idx4_3, idx2_0, idx2_1, op_addI, op_subI, cm_eqI, cm_neI, cm_geI, cm_ltI, cm_leI, cm_gtI, truth_b, boolR_b, Bool.not_true, Bool.not_false, bindX_ok, len_tup, len_lst, max2I, min2I, tup_lst, tup_tup, lst_lst, lst_tup, List.length_map, decide_eq_false n0]
    refine wp_ok ?_
    rw [encP_rows]
theorem format_run {p : List (List Cell)} {h w : Nat} (rc : Rect h w p) (h0 : 0 < h) (hh : h ≤ 10) (hw : w ≤ 10) (s1 : Sl) : ex K formatB [.v (encP p), s1] = .ok (.rt (T (txt p ++ [10]))) := by
  have l1 : lim = 1000000 := rfl
  have sp : (.str " " : D) = T [32] := rfl
  have nl : (.str "\n" : D) = T [10] := rfl
  have em : (.str "" : D) = T [] := rfl
  have tl := txt_len (p := p) (w := w) fun r hr => by rw [rc.2 r hr]; exact Nat.le_refl _
  have b1 : p.length * (w * 4 + 1) ≤ 10 * 41 := Nat.mul_le_mul (by rw [rc.1]; exact hh) (by omega)
  have jn := join_nl (c := 10) (l := p.map rowC) (fun e => by have := congrArg List.length e; rw [List.length_map, rc.1] at this; simp at this; omega)
  unfold formatB
  rw [sp, nl, em, encP_rows]
  simp only [x_seq, thenX_nx, thenX_rt, thenX_bk, thenX_ct, thenX_err, thenX_cond, x_iff, ifX_d, x_skip, x_ret, x_retn, x_brk, x_cnt, x_set, x_seto, own_list, own_dict, x_sett, x_fz, x_aug, aug_addI, aug_subI, x_app, appS_l, appX_ok, x_puti, putS_o, x_pop, popS_l, x_ext, extS_l, idxl_0, idxl_1, idxl_last, e_slc, C.isNa, optI_t, optI_f, slc_lst, slc_tpl, cutL_map, ne_bool, eq_bool, cond_ok, cond_rt, cond_boolD, cond_or, cond_and, cond_andF, cond_true, cond_false, e_or, e_and, e_ite, e_chn, e_var, e_wv, e_dat, e_con, e_nil, e_cons, e_neg, e_bin, e_cmp, e_isn, e_nisn, e_not, e_tup, e_lst, e_idx, e_call, e_blt, isn_t, nisn_t, isn_i, nisn_i, isn_n, nisn_n, En.at, En.put, Sl.strict, Sl.weak, Sl.froz, En.frz, En.wip, b_var, b_tup, b_nil, b_cons, bindT_R4, idxR_0, idxR_1, idxR_2, idxR_3, slots, List.nil_append, List.cons_append, asL, Res.ok_bind, Res.noE_ok, idx4_0, idx4_1, idx4_2, idx4_3, idx2_0, idx2_1, op_addI, op_subI, cm_eqI, cm_neI, cm_geI, cm_ltI, cm_leI, cm_gtI, truth_b, boolR_b, Bool.not_true, Bool.not_false, bindX_ok, len_tup, len_lst, max2I, min2I, tup_lst, tup_tup, lst_lst, lst_tup, List.length_map]
  rw [e_mthT .join _ _ _ (x := T []) rfl rfl]
  simp only [x_seq, thenX_nx, thenX_rt, thenX_bk, thenX_ct, thenX_err, thenX_cond, x_iff, ifX_d, x_skip, x_ret, x_retn, x_brk, x_cnt, x_set, x_seto, own_list, own_dict, x_sett, x_fz, x_aug, aug_addI, aug_subI, x_app, appS_l, appX_ok, x_puti, putS_o, x_pop, popS_l, x_ext, extS_l, idxl_0, idxl_1, idxl_last, e_slc, C.isNa, optI_t, optI_f, slc_lst, slc_tpl, cutL_map, ne_bool, eq_bool, cond_ok, cond_rt, cond_boolD, cond_or, cond_and, cond_andF, cond_true, cond_false, e_or, e_and, e_ite, e_chn, e_var, e_wv, e_dat, e_con, e_nil, e_cons, e_neg, e_bin, e_cmp, e_isn, e_nisn, e_not, e_tup, e_lst, e_idx, e_call, e_blt, isn_t, nisn_t, isn_i, nisn_i, isn_n, nisn_n, En.at, En.put, Sl.strict, Sl.weak, Sl.froz, En.frz, En.wip, b_var, b_tup, b_nil, b_cons, bindT_R4, idxR_0, idxR_1, idxR_2, idxR_3, slots, List.nil_append, List.cons_append, asL, Res.ok_bind, Res.noE_ok, idx4_0, idx4_1, idx4_2, idx4_3, idx2_0, idx2_1, op_addI, op_subI, cm_eqI, cm_neI, cm_geI, cm_ltI, cm_leI, cm_gtI, truth_b, boolR_b, Bool.not_true, Bool.not_false, bindX_ok, len_tup, len_lst, max2I, min2I, tup_lst, tup_tup, lst_lst, lst_tup, List.length_map]
  rw [ev_cmpT p encRow (fun r => T (rowC r ++ [10])) (s := .tuple (p.map encRow)) rfl rfl fun r hr => ⟨_, rfl, by
    have rl := row_len (r := r)
    have := rc.2 r hr
    have e : encRow r = .tuple ((r.map cc).map T) := by
      unfold encRow
      rw [List.map_map]
      exact congrArg PyData.tuple (List.map_congr_left fun c _ => encC_cc c)
    simp only [x_seq, thenX_nx, thenX_rt, thenX_bk, thenX_ct, thenX_err, thenX_cond, x_iff, ifX_d, x_skip, x_ret, x_retn, x_brk, x_cnt, x_set, x_seto, own_list, own_dict, x_sett, x_fz, x_aug, aug_addI, aug_subI, x_app, appS_l, appX_ok, x_puti, putS_o, x_pop, popS_l, x_ext, extS_l, idxl_0, idxl_1, idxl_last, e_slc, C.isNa, optI_t, optI_f, slc_lst, slc_tpl, cutL_map, ne_bool, eq_bool, cond_ok, cond_rt, cond_boolD, cond_or, cond_and, cond_andF, cond_true, cond_false, e_or, e_and, e_ite, e_chn, e_var, e_wv, e_dat, e_con, e_nil, e_cons, e_neg, e_bin, e_cmp, e_isn, e_nisn, e_not, e_tup, e_lst, e_idx, e_call, e_blt, isn_t, nisn_t, isn_i, nisn_i, isn_n, nisn_n, En.at, En.put, Sl.strict, Sl.weak, Sl.froz, En.frz, En.wip, b_var, b_tup, b_nil, b_cons, bindT_R4, idxR_0, idxR_1, idxR_2, idxR_3, slots, List.nil_append, List.cons_append, asL, Res.ok_bind, Res.noE_ok, idx4_0, idx4_1, idx4_2, idx4_3, idx2_0, idx2_1, op_addI, op_subI, cm_eqI, cm_neI, cm_geI, cm_ltI, cm_leI, cm_gtI, truth_b, boolR_b, Bool.not_true, Bool.not_false, bindX_ok, len_tup, len_lst, max2I, min2I, tup_lst, tup_tup, lst_lst, lst_tup, List.length_map]
    rw [e_mthT .join _ _ _ (x := T [32]) rfl rfl]
    simp only [x_seq, thenX_nx, thenX_rt, thenX_bk, thenX_ct, thenX_err, thenX_cond, x_iff, ifX_d, x_skip, x_ret, x_retn, x_brk, x_cnt, x_set, x_seto, own_list, own_dict, x_sett, x_fz, x_aug, aug_addI, aug_subI, x_app, appS_l, appX_ok, x_puti, putS_o, x_pop, popS_l, x_ext, extS_l, idxl_0, idxl_1, idxl_last, e_slc, C.isNa, optI_t, optI_f, slc_lst, slc_tpl, cutL_map, ne_bool, eq_bool, cond_ok, cond_rt, cond_boolD, cond_or, cond_and, cond_andF, cond_true, cond_false, e_or, e_and, e_ite, e_chn, e_var, e_wv, e_dat, e_con, e_nil, e_cons, e_neg, e_bin, e_cmp, e_isn, e_nisn, e_not, e_tup, e_lst, e_idx, e_call, e_blt, isn_t, nisn_t, isn_i, nisn_i, isn_n, nisn_n, En.at, En.put, Sl.strict, Sl.weak, Sl.froz, En.frz, En.wip, b_var, b_tup, b_nil, b_cons, bindT_R4, idxR_0, idxR_1, idxR_2, idxR_3, slots, List.nil_append, List.cons_append, asL, Res.ok_bind, Res.noE_ok, idx4_0, idx4_1, idx4_2, idx4_3, idx2_0, idx2_1, op_addI, op_subI, cm_eqI, cm_neI, cm_geI, cm_ltI, cm_leI, cm_gtI, truth_b, boolR_b, Bool.not_true, Bool.not_false, bindX_ok, len_tup, len_lst, max2I, min2I, tup_lst, tup_tup, lst_lst, lst_tup, List.length_map]
    have j := joinD_t (sep := [32]) (l := r.map cc) (by show (rowC r).length ≤ _; omega)
    rw [e, j]
    simp only [x_seq, thenX_nx, thenX_rt, thenX_bk, thenX_ct, thenX_err, thenX_cond, x_iff, ifX_d, x_skip, x_ret, x_retn, x_brk, x_cnt, x_set, x_seto, own_list, own_dict, x_sett, x_fz, x_aug, aug_addI, aug_subI, x_app, appS_l, appX_ok, x_puti, putS_o, x_pop, popS_l, x_ext, extS_l, idxl_0, idxl_1, idxl_last, e_slc, C.isNa, optI_t, optI_f, slc_lst, slc_tpl, cutL_map, ne_bool, eq_bool, cond_ok, cond_rt, cond_boolD, cond_or, cond_and, cond_andF, cond_true, cond_false, e_or, e_and, e_ite, e_chn, e_var, e_wv, e_dat, e_con, e_nil, e_cons, e_neg, e_bin, e_cmp, e_isn, e_nisn, e_not, e_tup, e_lst, e_idx, e_call, e_blt, isn_t, nisn_t, isn_i, nisn_i, isn_n, nisn_n, En.at, En.put, Sl.strict, Sl.weak, Sl.froz, En.frz, En.wip, b_var, b_tup, b_nil, b_cons, bindT_R4, idxR_0, idxR_1, idxR_2, idxR_3, slots, List.nil_append, List.cons_append, asL, Res.ok_bind, Res.noE_ok, idx4_0, idx4_1, idx4_2, idx4_3, idx2_0, idx2_1, op_addI, op_subI, cm_eqI, cm_neI, cm_geI, cm_ltI, cm_leI, cm_gtI, truth_b, boolR_b, Bool.not_true, Bool.not_false, bindX_ok, len_tup, len_lst, max2I, min2I, tup_lst, tup_tup, lst_lst, lst_tup, List.length_map]
    rw [addT (by show (rowC r).length + 1 ≤ _; omega)]
    rfl⟩]
  have e2 : (p.map fun r => T (rowC r ++ [10])) = ((p.map rowC).map (· ++ [10])).map T := by rw [List.map_map, List.map_map]; rfl
  simp only [x_seq, thenX_nx, thenX_rt, thenX_bk, thenX_ct, thenX_err, thenX_cond, x_iff, ifX_d, x_skip, x_ret, x_retn, x_brk, x_cnt, x_set, x_seto, own_list, own_dict, x_sett, x_fz, x_aug, aug_addI, aug_subI, x_app, appS_l, appX_ok, x_puti, putS_o, x_pop, popS_l, x_ext, extS_l, idxl_0, idxl_1, idxl_last, e_slc, C.isNa, optI_t, optI_f, slc_lst, slc_tpl, cutL_map, ne_bool, eq_bool, cond_ok, cond_rt, cond_boolD, cond_or, cond_and, cond_andF, cond_true, cond_false, e_or, e_and, e_ite, e_chn, e_var, e_wv, e_dat, e_con, e_nil, e_cons, e_neg, e_bin, e_cmp, e_isn, e_nisn, e_not, e_tup, e_lst, e_idx, e_call, e_blt, isn_t, nisn_t, isn_i, nisn_i, isn_n, nisn_n, En.at, En.put, Sl.strict, Sl.weak, Sl.froz, En.frz, En.wip, b_var, b_tup, b_nil, b_cons, bindT_R4, idxR_0, idxR_1, idxR_2, idxR_3, slots, List.nil_append, List.cons_append, asL, Res.ok_bind, Res.noE_ok, idx4_0, idx4_1, idx4_2, idx4_3, idx2_0, idx2_1, op_addI, op_subI, cm_eqI, cm_neI, cm_geI, cm_ltI, cm_leI, cm_gtI, truth_b, boolR_b, Bool.not_true, Bool.not_false, bindX_ok, len_tup, len_lst, max2I, min2I, tup_lst, tup_tup, lst_lst, lst_tup, List.length_map]
  rw [e2, joinD_l (by rw [jn, List.length_append]; show (txt p).length + 1 ≤ _; omega), jn]
  rfl
end
end SQ

/-! the text of sewnwhole_k01_patterns_come_back_from_th as C, printed by gen.py -/
namespace K01
open PySem SQ SQ.C
/-- lines_of(text); slots 0 text, 1 lines -/
def b_lines_of : C :=
    (.seq (.set 1 (.mth .split (.var 0) (.cons (.dat (.str "\n")) .nil)))
      (.seq (.iff (.cmp .eq (.idx (.var 1) (.neg (.dat (.int 1)))) (.dat (.str ""))) (.seq (.ret (.slc (.var 1) .na (.neg (.dat (.int 1)))))
      .skip) .skip)
      (.seq (.ret (.var 1))
      .skip)))
/-- is_fabric(sign); slots 0 sign -/
def b_is_fabric : C :=
    (.seq (.ret (.and (.cmp .eq (.blt .len (.cons (.var 0) .nil)) (.dat (.int 1))) (.cmp .isin (.var 0) (.con "FABRICS" (.str "abcdefghijklmnopqrstuvwxyz")))))
      .skip)
/-- is_cell(word); slots 0 word -/
def b_is_cell : C :=
    (.seq (.iff (.cmp .eq (.blt .len (.cons (.var 0) .nil)) (.dat (.int 1))) (.seq (.ret (.call 1 (.cons (.var 0) .nil)))
      .skip) .skip)
      (.seq (.iff (.or (.cmp .ne (.blt .len (.cons (.var 0) .nil)) (.dat (.int 3))) (.cmp .notin (.idx (.var 0) (.dat (.int 1))) (.dat (.str "/\\")))) (.seq (.ret (.dat (.bool false)))
      .skip) .skip)
      (.seq (.ret (.and (.call 1 (.cons (.idx (.var 0) (.dat (.int 0))) .nil)) (.and (.call 1 (.cons (.idx (.var 0) (.dat (.int 2))) .nil)) (.cmp .ne (.idx (.var 0) (.dat (.int 0))) (.idx (.var 0) (.dat (.int 2)))))))
      .skip)))
/-- row_fault(words, count); slots 0 words, 1 count, 2 word -/
def b_row_fault : C :=
    (.seq (.iff (.not (.gen true (.var 2) (.var 0) (.call 2 (.cons (.var 2) .nil)))) (.seq (.ret (.dat (.str "not a cell")))
      .skip) .skip)
      (.seq (.iff (.cmp .gt (.blt .len (.cons (.var 0) .nil)) (.con "SIDE" (.int 10))) (.seq (.ret (.dat (.str "too many columns")))
      .skip) .skip)
      (.seq (.iff (.and (.nisn (.var 1)) (.cmp .ne (.blt .len (.cons (.var 0) .nil)) (.var 1))) (.seq (.ret (.dat (.str "another length")))
      .skip) .skip)
      (.seq (.ret (.dat .none))
      .skip))))
/-- read_pattern(text); slots 0 text, 1 lines, 2 rows, 3 k, 4 words, 5 what -/
def b_read_pattern : C :=
    (.seq (.set 1 (.call 0 (.cons (.var 0) .nil)))
      (.seq (.seto 2 (.lst .nil))
      (.seq (.for_ (.var 3) (.rng (.dat (.int 0)) (.blt .len (.cons (.var 1) .nil)) (.dat (.int 1))) (.seq (.set 4 (.mth .split (.idx (.var 1) (.var 3)) (.cons (.dat (.str " ")) .nil)))
      (.seq (.set 5 (.call 3 (.cons (.var 4) (.cons (.ite (.wv 2) (.blt .len (.cons (.idx (.wv 2) (.dat (.int 0))) .nil)) (.dat .none)) .nil))))
      (.seq (.iff (.cmp .ge (.var 3) (.con "SIDE" (.int 10))) (.seq (.set 5 (.dat (.str "too many rows")))
      .skip) .skip)
      (.seq (.iff (.nisn (.var 5)) (.seq (.rse 0 (.cons (.bin .add (.var 3) (.dat (.int 1))) (.cons (.var 5) .nil)))
      .skip) .skip)
      (.seq (.app 2 (.blt .tuple (.cons (.var 4) .nil)))
      .skip))))))
      (.seq (.iff (.cmp .eq (.blt .len (.cons (.wv 2) .nil)) (.dat (.int 0))) (.seq (.rse 0 (.cons (.dat (.int 1)) (.cons (.dat (.str "no rows")) .nil)))
      .skip) .skip)
      (.seq (.ret (.blt .tuple (.cons (.wv 2) .nil)))
      .skip)))))
/-- format_pattern(pattern); slots 0 pattern, 1 row -/
def b_format_pattern : C :=
    (.seq (.ret (.mth .join (.dat (.str "")) (.cons (.cmp1 (.var 1) (.var 0) (.bin .add (.mth .join (.dat (.str " ")) (.cons (.var 1) .nil)) (.dat (.str "\n"))) .na) .nil)))
      .skip)
/-- _law_cell(_law_script, _law_k); slots 0 _law_script, 1 _law_k -/
def b__law_cell : C :=
    (.seq (.iff (.cmp .lt (.var 1) (.blt .len (.cons (.var 0) .nil))) (.seq (.ret (.idx (.var 0) (.var 1)))
      .skip) .skip)
      (.seq (.ret (.dat (.int 0)))
      .skip))
/-- _law_draw(_law_script, _law_k, _law_sizes); slots 0 _law_script, 1 _law_k, 2 _law_sizes, 3 _law_cell_here, 4 _law_drawn, 5 _law_mixed, 6 _law_j, 7 _law_size -/
def b__law_draw : C :=
    (.seq (.set 3 (.call 6 (.cons (.var 0) (.cons (.var 1) .nil))))
      (.seq (.iff (.cmp .lt (.var 3) (.dat (.int 0))) (.seq (.set 3 (.neg (.var 3)))
      .skip) .skip)
      (.seq (.seto 4 (.lst .nil))
      (.seq (.iff (.cmp .ge (.var 3) (.bin .pow (.dat (.int 10)) (.dat (.int 18)))) (.seq (.set 3 (.bin .sub (.var 3) (.bin .pow (.dat (.int 10)) (.dat (.int 18)))))
      (.seq (.for_ (.var 7) (.var 2) (.seq (.app 4 (.bin .mod (.var 3) (.var 7)))
      (.seq (.set 3 (.bin .fdiv (.var 3) (.var 7)))
      .skip)))
      (.fz [4] (.seq (.ret (.var 4))
      .skip)))) .skip)
      (.seq (.set 5 (.bin .mod (.bin .add (.bin .add (.var 3) (.dat (.int 1))) (.bin .mul (.dat (.int 31)) (.var 1))) (.dat (.int 2147483647))))
      (.seq (.for_ (.var 6) (.rng (.dat (.int 0)) (.blt .len (.cons (.var 2) .nil)) (.dat (.int 1))) (.seq (.set 5 (.bin .mod (.bin .add (.bin .add (.bin .mul (.var 5) (.dat (.int 48271))) (.dat (.int 11))) (.var 6)) (.dat (.int 2147483647))))
      (.seq (.set 5 (.bin .mod (.bin .add (.bin .mul (.var 5) (.dat (.int 69621))) (.dat (.int 3))) (.dat (.int 2147483647))))
      (.seq (.app 4 (.bin .mod (.bin .fdiv (.var 5) (.dat (.int 7))) (.idx (.var 2) (.var 6))))
      .skip))))
      (.fz [4] (.seq (.ret (.var 4))
      .skip))))))))
/-- _law_pattern(_law_script, _law_k, _law_most); slots 0 _law_script, 1 _law_k, 2 _law_most, 3 _law_digits, 4 _law_rows, 5 _law_r, 6 _law_row, 7 _law_c -/
def b__law_pattern : C :=
    (.seq (.set 3 (.call 7 (.cons (.var 0) (.cons (.var 1) (.cons (.bin .add (.lst (.cons (.var 2) (.cons (.var 2) .nil))) (.bin .mul (.lst (.cons (.dat (.int 9)) .nil)) (.dat (.int 36)))) .nil)))))
      (.seq (.seto 4 (.lst .nil))
      (.seq (.for_ (.var 5) (.rng (.dat (.int 0)) (.bin .add (.dat (.int 1)) (.idx (.var 3) (.dat (.int 0)))) (.dat (.int 1))) (.seq (.seto 6 (.lst .nil))
      (.seq (.for_ (.var 7) (.rng (.dat (.int 0)) (.bin .add (.dat (.int 1)) (.idx (.var 3) (.dat (.int 1)))) (.dat (.int 1))) (.seq (.app 6 (.idx (.lst (.cons (.dat (.str "a")) (.cons (.dat (.str "b")) (.cons (.dat (.str "c")) (.cons (.dat (.str "a")) (.cons (.dat (.str "b")) (.cons (.dat (.str "a/b")) (.cons (.dat (.str "a\\b")) (.cons (.dat (.str "c\\a")) (.cons (.dat (.str "b/c")) .nil)))))))))) (.idx (.var 3) (.bin .add (.bin .add (.dat (.int 2)) (.bin .mul (.dat (.int 6)) (.var 5))) (.var 7)))))
      .skip))
      (.seq (.app 4 (.blt .tuple (.cons (.wv 6) .nil)))
      .skip))))
      (.seq (.ret (.blt .tuple (.cons (.wv 4) .nil)))
      .skip))))
/-- _law_text(_law_pattern_here); slots 0 _law_pattern_here, 1 _law_row -/
def b__law_text : C :=
    (.seq (.ret (.mth .join (.dat (.str "")) (.cons (.cmp1 (.var 1) (.var 0) (.bin .add (.mth .join (.dat (.str " ")) (.cons (.var 1) .nil)) (.dat (.str "\n"))) .na) .nil)))
      .skip)
/-- law(_law_script); slots 0 _law_script, 1 _law_k, 2 _law_pattern_here, 3 _law_text_here -/
def b_law : C :=
    (.seq (.for_ (.var 1) (.rng (.dat (.int 0)) (.blt .min2 (.cons (.dat (.int 16)) (.cons (.blt .max2 (.cons (.dat (.int 1)) (.cons (.blt .len (.cons (.var 0) .nil)) .nil))) .nil))) (.dat (.int 1))) (.seq (.set 2 (.call 8 (.cons (.var 0) (.cons (.var 1) (.cons (.dat (.int 5)) .nil)))))
      (.seq (.set 3 (.call 9 (.cons (.var 2) .nil)))
      (.seq (.iff (.or (.cmp .ne (.call 5 (.cons (.var 2) .nil)) (.var 3)) (.or (.cmp .ne (.call 4 (.cons (.var 3) .nil)) (.var 2)) (.cmp .ne (.call 4 (.cons (.slc (.var 3) .na (.neg (.dat (.int 1)))) .nil)) (.var 2)))) (.seq (.ret (.dat (.bool false)))
      .skip) .skip)
      .skip))))
      (.seq (.ret (.dat (.bool true)))
      .skip))
def fns : List Fn := [⟨1, 2, b_lines_of⟩, ⟨1, 1, b_is_fabric⟩, ⟨1, 1, b_is_cell⟩, ⟨2, 3, b_row_fault⟩, ⟨1, 6, b_read_pattern⟩, ⟨1, 2, b_format_pattern⟩, ⟨2, 2, b__law_cell⟩, ⟨3, 8, b__law_draw⟩, ⟨3, 8, b__law_pattern⟩, ⟨1, 2, b__law_text⟩, ⟨1, 4, b_law⟩]
def Δ : Nat → Option Fn := fun i => fns[i]?
end K01

/-! the program of sewnwhole_k01_patterns_come_back_from_th beside its C terms, printed by gen.py -/
set_option maxHeartbeats 4000000
namespace K01
open PySem PySem.Spec PyProof.Rows L2 SQ
def topS (i : Nat) : Stmt := PySem.Challenge.pw_sewnwhole_k01_patterns_come_back_from_th.main.body.getD i (.Pass ⟨0, 0, 0, 0⟩)
abbrev s_lines_of : Stmt := topS 5
abbrev d_lines_of : Df := ⟨"lines_of", s_lines_of, ["text", "lines"], ["text"]⟩
abbrev s_is_fabric : Stmt := topS 8
abbrev d_is_fabric : Df := ⟨"is_fabric", s_is_fabric, ["sign"], ["sign"]⟩
abbrev s_is_cell : Stmt := topS 9
abbrev d_is_cell : Df := ⟨"is_cell", s_is_cell, ["word"], ["word"]⟩
abbrev s_row_fault : Stmt := topS 10
abbrev d_row_fault : Df := ⟨"row_fault", s_row_fault, ["words", "count", "word"], ["words", "count"]⟩
abbrev s_read_pattern : Stmt := topS 11
abbrev d_read_pattern : Df := ⟨"read_pattern", s_read_pattern, ["text", "lines", "rows", "k", "words", "what"], ["text"]⟩
abbrev s_format_pattern : Stmt := topS 12
abbrev d_format_pattern : Df := ⟨"format_pattern", s_format_pattern, ["pattern", "row"], ["pattern"]⟩
abbrev s__law_cell : Stmt := topS 14
abbrev d__law_cell : Df := ⟨"_law_cell", s__law_cell, ["_law_script", "_law_k"], ["_law_script", "_law_k"]⟩
abbrev s__law_draw : Stmt := topS 15
abbrev d__law_draw : Df := ⟨"_law_draw", s__law_draw, ["_law_script", "_law_k", "_law_sizes", "_law_cell_here", "_law_drawn", "_law_mixed", "_law_j", "_law_size"], ["_law_script", "_law_k", "_law_sizes"]⟩
abbrev s__law_pattern : Stmt := topS 16
abbrev d__law_pattern : Df := ⟨"_law_pattern", s__law_pattern, ["_law_script", "_law_k", "_law_most", "_law_digits", "_law_rows", "_law_r", "_law_row", "_law_c"], ["_law_script", "_law_k", "_law_most"]⟩
abbrev s__law_text : Stmt := topS 17
abbrev d__law_text : Df := ⟨"_law_text", s__law_text, ["_law_pattern_here", "_law_row"], ["_law_pattern_here"]⟩
abbrev s_law : Stmt := topS 18
abbrev d_law : Df := ⟨"law", s_law, ["_law_script", "_law_k", "_law_pattern_here", "_law_text_here"], ["_law_script"]⟩
abbrev dfs : List Df := [d_lines_of, d_is_fabric, d_is_cell, d_row_fault, d_read_pattern, d_format_pattern, d__law_cell, d__law_draw, d__law_pattern, d__law_text, d_law]
def nms : Nms := ⟨fun i => (dfs[i]?).map (·.x), [("SIDE", .int 10), ("FABRICS", .str "abcdefghijklmnopqrstuvwxyz")], [("TextError", 0, ["line", "what"])]⟩
abbrev i_TextError : Stmt := clsInit (topS 2)
theorem j_TextError : iniB ["self", "line", "what"] ["line", "what"] (defScope i_TextError) (defArgs i_TextError) (defBody i_TextError) = true := by decide +kernel
theorem c_lines_of : tabB nms Δ dfs 0 = true := by decide +kernel
theorem f_lines_of : FnScope d_lines_of.N d_lines_of.ps (defScope d_lines_of.st) := ⟨rfl, rfl, rfl, by decide +kernel, rfl, by decide +kernel, by decide +kernel⟩
theorem c_is_fabric : tabB nms Δ dfs 1 = true := by decide +kernel
theorem f_is_fabric : FnScope d_is_fabric.N d_is_fabric.ps (defScope d_is_fabric.st) := ⟨rfl, rfl, rfl, by decide +kernel, rfl, by decide +kernel, by decide +kernel⟩
theorem c_is_cell : tabB nms Δ dfs 2 = true := by decide +kernel
theorem f_is_cell : FnScope d_is_cell.N d_is_cell.ps (defScope d_is_cell.st) := ⟨rfl, rfl, rfl, by decide +kernel, rfl, by decide +kernel, by decide +kernel⟩
theorem c_row_fault : tabB nms Δ dfs 3 = true := by decide +kernel
theorem f_row_fault : FnScope d_row_fault.N d_row_fault.ps (defScope d_row_fault.st) := ⟨rfl, rfl, rfl, by decide +kernel, rfl, by decide +kernel, by decide +kernel⟩
theorem c_read_pattern : tabB nms Δ dfs 4 = true := by decide +kernel
theorem f_read_pattern : FnScope d_read_pattern.N d_read_pattern.ps (defScope d_read_pattern.st) := ⟨rfl, rfl, rfl, by decide +kernel, rfl, by decide +kernel, by decide +kernel⟩
theorem c_format_pattern : tabB nms Δ dfs 5 = true := by decide +kernel
theorem f_format_pattern : FnScope d_format_pattern.N d_format_pattern.ps (defScope d_format_pattern.st) := ⟨rfl, rfl, rfl, by decide +kernel, rfl, by decide +kernel, by decide +kernel⟩
theorem c__law_cell : tabB nms Δ dfs 6 = true := by decide +kernel
theorem f__law_cell : FnScope d__law_cell.N d__law_cell.ps (defScope d__law_cell.st) := ⟨rfl, rfl, rfl, by decide +kernel, rfl, by decide +kernel, by decide +kernel⟩
theorem c__law_draw : tabB nms Δ dfs 7 = true := by decide +kernel
theorem f__law_draw : FnScope d__law_draw.N d__law_draw.ps (defScope d__law_draw.st) := ⟨rfl, rfl, rfl, by decide +kernel, rfl, by decide +kernel, by decide +kernel⟩
theorem c__law_pattern : tabB nms Δ dfs 8 = true := by decide +kernel
theorem f__law_pattern : FnScope d__law_pattern.N d__law_pattern.ps (defScope d__law_pattern.st) := ⟨rfl, rfl, rfl, by decide +kernel, rfl, by decide +kernel, by decide +kernel⟩
theorem c__law_text : tabB nms Δ dfs 9 = true := by decide +kernel
theorem f__law_text : FnScope d__law_text.N d__law_text.ps (defScope d__law_text.st) := ⟨rfl, rfl, rfl, by decide +kernel, rfl, by decide +kernel, by decide +kernel⟩
theorem c_law : tabB nms Δ dfs 10 = true := by decide +kernel
theorem f_law : FnScope d_law.N d_law.ps (defScope d_law.st) := ⟨rfl, rfl, rfl, by decide +kernel, rfl, by decide +kernel, by decide +kernel⟩
theorem tab : Tab nms Δ dfs where
  sc := fun i d h => by
    match i, h with
    | 0, h => cases h; exact f_lines_of
    | 1, h => cases h; exact f_is_fabric
    | 2, h => cases h; exact f_is_cell
    | 3, h => cases h; exact f_row_fault
    | 4, h => cases h; exact f_read_pattern
    | 5, h => cases h; exact f_format_pattern
    | 6, h => cases h; exact f__law_cell
    | 7, h => cases h; exact f__law_draw
    | 8, h => cases h; exact f__law_pattern
    | 9, h => cases h; exact f__law_text
    | 10, h => cases h; exact f_law
    | n + 11, h => cases h
  chk := fun i h => by
    match i, h with
    | 0, _ => exact c_lines_of
    | 1, _ => exact c_is_fabric
    | 2, _ => exact c_is_cell
    | 3, _ => exact c_row_fault
    | 4, _ => exact c_read_pattern
    | 5, _ => exact c_format_pattern
    | 6, _ => exact c__law_cell
    | 7, _ => exact c__law_draw
    | 8, _ => exact c__law_pattern
    | 9, _ => exact c__law_text
    | 10, _ => exact c_law
    | n + 11, h => exact absurd h (by show ¬ (n + 11 < 11); omega)
  out := fun i h => List.getElem?_eq_none h
  nm := fun i => rfl
theorem all_mk {l : PySem.W.OpenLaw} {w : World} {K : PySem.W.Frag} {h : Heap} {mg : Str → Option Value} {fa : Addr} {m : Nat} {q : Program} {cs : List (Addr × Addr)} (X : K.In h) (G : h.Ns mainGlobals mg) (hfa : mg "law" = some (.ref fa)) (hcs : CodsAt q mg h cs) (vq : (dfs.all fun d => (recsOf q).any fun e => e.name == d.x) = true)
    {f0 : Addr} {od0 an0 : Option Addr} {sl0 : Array (Option Value)} {oc0 kV0 dc0 pm0 cd0 ct0 : Value}
    (a0 : PySem.W.nsIn K mainGlobals "lines_of" = some (some (.ref f0))) (l0 : K.lookup f0 = some ⟨oc0, od0, .func (PySem.W.fnOf "lines_of" "lines_of" (defArgs s_lines_of) (defBody s_lines_of) (defScope s_lines_of) .none kV0 dc0 pm0 an0 cd0 ct0), sl0⟩) (c0 : PySem.W.codeIn K cd0 "lines_of" = true) (k0 : PySem.W.keepIn K (.ref f0) = true)
    {f1 : Addr} {od1 an1 : Option Addr} {sl1 : Array (Option Value)} {oc1 kV1 dc1 pm1 cd1 ct1 : Value}
    (a1 : PySem.W.nsIn K mainGlobals "is_fabric" = some (some (.ref f1))) (l1 : K.lookup f1 = some ⟨oc1, od1, .func (PySem.W.fnOf "is_fabric" "is_fabric" (defArgs s_is_fabric) (defBody s_is_fabric) (defScope s_is_fabric) .none kV1 dc1 pm1 an1 cd1 ct1), sl1⟩) (c1 : PySem.W.codeIn K cd1 "is_fabric" = true) (k1 : PySem.W.keepIn K (.ref f1) = true)
    {f2 : Addr} {od2 an2 : Option Addr} {sl2 : Array (Option Value)} {oc2 kV2 dc2 pm2 cd2 ct2 : Value}
    (a2 : PySem.W.nsIn K mainGlobals "is_cell" = some (some (.ref f2))) (l2 : K.lookup f2 = some ⟨oc2, od2, .func (PySem.W.fnOf "is_cell" "is_cell" (defArgs s_is_cell) (defBody s_is_cell) (defScope s_is_cell) .none kV2 dc2 pm2 an2 cd2 ct2), sl2⟩) (c2 : PySem.W.codeIn K cd2 "is_cell" = true) (k2 : PySem.W.keepIn K (.ref f2) = true)
    {f3 : Addr} {od3 an3 : Option Addr} {sl3 : Array (Option Value)} {oc3 kV3 dc3 pm3 cd3 ct3 : Value}
    (a3 : PySem.W.nsIn K mainGlobals "row_fault" = some (some (.ref f3))) (l3 : K.lookup f3 = some ⟨oc3, od3, .func (PySem.W.fnOf "row_fault" "row_fault" (defArgs s_row_fault) (defBody s_row_fault) (defScope s_row_fault) .none kV3 dc3 pm3 an3 cd3 ct3), sl3⟩) (c3 : PySem.W.codeIn K cd3 "row_fault" = true) (k3 : PySem.W.keepIn K (.ref f3) = true)
    {f4 : Addr} {od4 an4 : Option Addr} {sl4 : Array (Option Value)} {oc4 kV4 dc4 pm4 cd4 ct4 : Value}
    (a4 : PySem.W.nsIn K mainGlobals "read_pattern" = some (some (.ref f4))) (l4 : K.lookup f4 = some ⟨oc4, od4, .func (PySem.W.fnOf "read_pattern" "read_pattern" (defArgs s_read_pattern) (defBody s_read_pattern) (defScope s_read_pattern) .none kV4 dc4 pm4 an4 cd4 ct4), sl4⟩) (c4 : PySem.W.codeIn K cd4 "read_pattern" = true) (k4 : PySem.W.keepIn K (.ref f4) = true)
    {f5 : Addr} {od5 an5 : Option Addr} {sl5 : Array (Option Value)} {oc5 kV5 dc5 pm5 cd5 ct5 : Value}
    (a5 : PySem.W.nsIn K mainGlobals "format_pattern" = some (some (.ref f5))) (l5 : K.lookup f5 = some ⟨oc5, od5, .func (PySem.W.fnOf "format_pattern" "format_pattern" (defArgs s_format_pattern) (defBody s_format_pattern) (defScope s_format_pattern) .none kV5 dc5 pm5 an5 cd5 ct5), sl5⟩) (c5 : PySem.W.codeIn K cd5 "format_pattern" = true) (k5 : PySem.W.keepIn K (.ref f5) = true)
    {f6 : Addr} {od6 an6 : Option Addr} {sl6 : Array (Option Value)} {oc6 kV6 dc6 pm6 cd6 ct6 : Value}
    (a6 : PySem.W.nsIn K mainGlobals "_law_cell" = some (some (.ref f6))) (l6 : K.lookup f6 = some ⟨oc6, od6, .func (PySem.W.fnOf "_law_cell" "_law_cell" (defArgs s__law_cell) (defBody s__law_cell) (defScope s__law_cell) .none kV6 dc6 pm6 an6 cd6 ct6), sl6⟩) (c6 : PySem.W.codeIn K cd6 "_law_cell" = true) (k6 : PySem.W.keepIn K (.ref f6) = true)
    {f7 : Addr} {od7 an7 : Option Addr} {sl7 : Array (Option Value)} {oc7 kV7 dc7 pm7 cd7 ct7 : Value}
    (a7 : PySem.W.nsIn K mainGlobals "_law_draw" = some (some (.ref f7))) (l7 : K.lookup f7 = some ⟨oc7, od7, .func (PySem.W.fnOf "_law_draw" "_law_draw" (defArgs s__law_draw) (defBody s__law_draw) (defScope s__law_draw) .none kV7 dc7 pm7 an7 cd7 ct7), sl7⟩) (c7 : PySem.W.codeIn K cd7 "_law_draw" = true) (k7 : PySem.W.keepIn K (.ref f7) = true)
    {f8 : Addr} {od8 an8 : Option Addr} {sl8 : Array (Option Value)} {oc8 kV8 dc8 pm8 cd8 ct8 : Value}
    (a8 : PySem.W.nsIn K mainGlobals "_law_pattern" = some (some (.ref f8))) (l8 : K.lookup f8 = some ⟨oc8, od8, .func (PySem.W.fnOf "_law_pattern" "_law_pattern" (defArgs s__law_pattern) (defBody s__law_pattern) (defScope s__law_pattern) .none kV8 dc8 pm8 an8 cd8 ct8), sl8⟩) (c8 : PySem.W.codeIn K cd8 "_law_pattern" = true) (k8 : PySem.W.keepIn K (.ref f8) = true)
    {f9 : Addr} {od9 an9 : Option Addr} {sl9 : Array (Option Value)} {oc9 kV9 dc9 pm9 cd9 ct9 : Value}
    (a9 : PySem.W.nsIn K mainGlobals "_law_text" = some (some (.ref f9))) (l9 : K.lookup f9 = some ⟨oc9, od9, .func (PySem.W.fnOf "_law_text" "_law_text" (defArgs s__law_text) (defBody s__law_text) (defScope s__law_text) .none kV9 dc9 pm9 an9 cd9 ct9), sl9⟩) (c9 : PySem.W.codeIn K cd9 "_law_text" = true) (k9 : PySem.W.keepIn K (.ref f9) = true)
    {f10 : Addr} {od10 an10 : Option Addr} {sl10 : Array (Option Value)} {oc10 kV10 dc10 pm10 cd10 ct10 : Value}
    (a10 : PySem.W.nsIn K mainGlobals "law" = some (some (.ref f10))) (l10 : K.lookup f10 = some ⟨oc10, od10, .func (PySem.W.fnOf "law" "law" (defArgs s_law) (defBody s_law) (defScope s_law) .none kV10 dc10 pm10 an10 cd10 ct10), sl10⟩) (c10 : PySem.W.codeIn K cd10 "law" = true) (k10 : PySem.W.keepIn K (.ref f10) = true)
    (z0 : PySem.W.nsIn K mainGlobals "len" = some none) (z1 : PySem.W.nsIn K mainGlobals "max" = some none) (z2 : PySem.W.nsIn K mainGlobals "min" = some none) (z3 : PySem.W.nsIn K mainGlobals "sum" = some none) (z4 : PySem.W.nsIn K mainGlobals "tuple" = some none) (z5 : PySem.W.nsIn K mainGlobals "list" = some none) (z6 : PySem.W.nsIn K mainGlobals "sorted" = some none) (z7 : PySem.W.nsIn K mainGlobals "range" = some none) (z8 : PySem.W.nsIn K mainGlobals "isinstance" = some none) (z9 : PySem.W.nsIn K mainGlobals "all" = some none) (z10 : PySem.W.nsIn K mainGlobals "any" = some none) (z11 : PySem.W.nsIn K mainGlobals "dict" = some none) (z12 : PySem.W.nsIn K mainGlobals "abs" = some none) (z13 : PySem.W.nsIn K mainGlobals "bool" = some none) (z14 : PySem.W.nsIn K mainGlobals "super" = some none)
    {t0 : Tok} (q0 : PySem.W.nsIn K mainGlobals "SIDE" = some (some (.int 10 t0)))
    {t1 : Tok} (q1 : PySem.W.nsIn K mainGlobals "FABRICS" = some (some (.str "abcdefghijklmnopqrstuvwxyz" t1)))
    (w0 : (l.prog.main.scope.names.lookup ("super" : Str)).isSome = false) (w1 : PySem.W.nsIn K cStatics "thirdparty.any" = some none)
    {C0 CN0 g0 cc0 cda0 : Addr} {name0 qual0 : Str} {gkV0 gdc0 gpm0 gct0 goc0 ccl0 ocl0 : Value} {gan0 god0 cdd0 odd0 : Option Addr} {gsl0 ccs0 ocs0 : Array (Option Value)} {cvs0 : Array Value} {file0 : Str} {tf0 : Tok}
    {nm0 qn0 : Str} {bs0 bm0 : List Value} {sn0 : List Str} {sub0 : List Value} {ab0 : Bool} {col0 : Option Bool} {dd0 : Option Addr} {ka0 kb0 kc0 kd0 ke0 : Option Value}
    (x0_0 : PySem.W.nsIn K mainGlobals "TextError" = some (some (.ref C0)))
    (x1_0 : K.lookup C0 = some (excClassObj nm0 qn0 C0 CN0 bs0 bm0 true sn0 sub0 ab0 col0 dd0 ka0 kb0 kc0 kd0 ke0 "ValueError.__new__"))
    (x2_0 : PySem.HandSPX.refsVE bm0 = true)
    (x3_0 : PySem.W.findIn K (.ref C0) "__setattr__" = some (some (.builtin "object.__setattr__")))
    (x4_0 : PySem.W.subIn K (.ref C0) (.type "BaseException") = some true)
    (x5_0 : PySem.W.typeIn K (.ref C0) = some (.type "type"))
    (x6_0 : PySem.W.keepIn K (.ref C0) = true)
    (x7_0 : PySem.W.findIn K (.ref C0) "__init__" = some (some (.ref g0)))
    (x8_0 : PySem.W.typeIn K (.ref g0) = some (.type "function"))
    (x9_0 : K.lookup g0 = some ⟨goc0, god0, .func (PySem.W.ksFn name0 qual0 (defArgs i_TextError) (defBody i_TextError) (defScope i_TextError) .none gkV0 gdc0 gpm0 gan0 (.ref cda0) gct0 cc0), gsl0⟩)
    (x10_0 : PySem.W.codeIn K (.ref cda0) qual0 = true)
    (x11_0 : K.lookup cda0 = some ⟨ccl0, cdd0, .fields cvs0, ccs0⟩)
    (x12_0 : cvs0[2]? = some (.str file0 tf0))
    (x13_0 : ((l.prog.main.file : Str) == file0) = true)
    (x14_0 : K.lookup cc0 = some ⟨ocl0, odd0, .cell (some (.ref C0)), ocs0⟩)
    (x16_0 : PySem.W.ks_superIn K C0 C0 "__init__" = some (some (.builtin "ValueError.__init__")))
    (x17_0 : PySem.W.subIn K (.ref C0) (.type "ValueError") = some true)
    (x18_0 : PySem.W.mroIn K C0 (.ref C0) = some true)
    (x19line_0 : PySem.W.findIn K (.ref C0) "line" = some none)
    (x19what_0 : PySem.W.findIn K (.ref C0) "what" = some none)
    (x20_0 : PySem.W.findIn K (.ref C0) "__getattribute__" = some (some (.builtin "BaseException.__getattribute__")))
    (x21_0 : PySem.W.findIn K (.ref C0) "__getattr__" = some none)
    (x22_0 : PySem.W.hasDictIn K C0 = true)
    (x23_0 : PySem.W.subIn K (.ref C0) (.ref C0) = some true)
    : ∃ fd : FuncData, (∀ (s : Shared) (v : Value), BindsTo s fd ⟨[v], []⟩ [("_law_script", v)]) ∧ ∀ base : Heap, K.In base → base.Ns mainGlobals mg → (∀ p ∈ cs, GxR.TabB base mg p.1 p.2) → FnOk l.prog w K mg base (L2.CX l.prog w) (2 * m + 2) fa fd ["_law_script"] (@spL ⟨cs.map (·.2)⟩ 1 (run Δ m 10)) := by
  have F0 := fun_mk (st := s_lines_of) l0 c0 k0
  have b0 := F0.binds (ps := d_lines_of.ps) fun _ _ _ _ _ _ us hl => match us, hl with | [_], _ => rfl
  have F1 := fun_mk (st := s_is_fabric) l1 c1 k1
  have b1 := F1.binds (ps := d_is_fabric.ps) fun _ _ _ _ _ _ us hl => match us, hl with | [_], _ => rfl
  have F2 := fun_mk (st := s_is_cell) l2 c2 k2
  have b2 := F2.binds (ps := d_is_cell.ps) fun _ _ _ _ _ _ us hl => match us, hl with | [_], _ => rfl
  have F3 := fun_mk (st := s_row_fault) l3 c3 k3
  have b3 := F3.binds (ps := d_row_fault.ps) fun _ _ _ _ _ _ us hl => match us, hl with | [_, _], _ => rfl
  have F4 := fun_mk (st := s_read_pattern) l4 c4 k4
  have b4 := F4.binds (ps := d_read_pattern.ps) fun _ _ _ _ _ _ us hl => match us, hl with | [_], _ => rfl
  have F5 := fun_mk (st := s_format_pattern) l5 c5 k5
  have b5 := F5.binds (ps := d_format_pattern.ps) fun _ _ _ _ _ _ us hl => match us, hl with | [_], _ => rfl
  have F6 := fun_mk (st := s__law_cell) l6 c6 k6
  have b6 := F6.binds (ps := d__law_cell.ps) fun _ _ _ _ _ _ us hl => match us, hl with | [_, _], _ => rfl
  have F7 := fun_mk (st := s__law_draw) l7 c7 k7
  have b7 := F7.binds (ps := d__law_draw.ps) fun _ _ _ _ _ _ us hl => match us, hl with | [_, _, _], _ => rfl
  have F8 := fun_mk (st := s__law_pattern) l8 c8 k8
  have b8 := F8.binds (ps := d__law_pattern.ps) fun _ _ _ _ _ _ us hl => match us, hl with | [_, _, _], _ => rfl
  have F9 := fun_mk (st := s__law_text) l9 c9 k9
  have b9 := F9.binds (ps := d__law_text.ps) fun _ _ _ _ _ _ us hl => match us, hl with | [_], _ => rfl
  have F10 := fun_mk (st := s_law) l10 c10 k10
  have b10 := F10.binds (ps := d_law.ps) fun _ _ _ _ _ _ us hl => match us, hl with | [_], _ => rfl
  have here : ∀ d ∈ dfs, Here K mg d := by
    intro d hd
    simp only [dfs, List.mem_cons, List.not_mem_nil, or_false] at hd
    rcases hd with rfl | rfl | rfl | rfl | rfl | rfl | rfl | rfl | rfl | rfl | rfl
    · exact ⟨f0, _, F0, PySem.W.mg_of X G a0, b0⟩
    · exact ⟨f1, _, F1, PySem.W.mg_of X G a1, b1⟩
    · exact ⟨f2, _, F2, PySem.W.mg_of X G a2, b2⟩
    · exact ⟨f3, _, F3, PySem.W.mg_of X G a3, b3⟩
    · exact ⟨f4, _, F4, PySem.W.mg_of X G a4, b4⟩
    · exact ⟨f5, _, F5, PySem.W.mg_of X G a5, b5⟩
    · exact ⟨f6, _, F6, PySem.W.mg_of X G a6, b6⟩
    · exact ⟨f7, _, F7, PySem.W.mg_of X G a7, b7⟩
    · exact ⟨f8, _, F8, PySem.W.mg_of X G a8, b8⟩
    · exact ⟨f9, _, F9, PySem.W.mg_of X G a9, b9⟩
    · exact ⟨f10, _, F10, PySem.W.mg_of X G a10, b10⟩
  have hb : ∀ x ∈ bltNames, mg x = none := by
    intro x hx
    simp only [bltNames, List.mem_cons, List.not_mem_nil, or_false] at hx
    rcases hx with rfl | rfl | rfl | rfl | rfl | rfl | rfl | rfl | rfl | rfl | rfl | rfl | rfl | rfl | rfl
    · exact PySem.W.mg_none_of X G z0
    · exact PySem.W.mg_none_of X G z1
    · exact PySem.W.mg_none_of X G z2
    · exact PySem.W.mg_none_of X G z3
    · exact PySem.W.mg_none_of X G z4
    · exact PySem.W.mg_none_of X G z5
    · exact PySem.W.mg_none_of X G z6
    · exact PySem.W.mg_none_of X G z7
    · exact PySem.W.mg_none_of X G z8
    · exact PySem.W.mg_none_of X G z9
    · exact PySem.W.mg_none_of X G z10
    · exact PySem.W.mg_none_of X G z11
    · exact PySem.W.mg_none_of X G z12
    · exact PySem.W.mg_none_of X G z13
    · exact PySem.W.mg_none_of X G z14
  have hc : ∀ x d, nms.cn.lookup x = some d → ∃ u, mg x = some u ∧ RelV (dV d) u := by
    intro x d hx
    simp only [nms, List.lookup_cons, List.lookup_nil] at hx
    split at hx
    · rename_i e; cases hx; rw [eq_of_beq e]; exact ⟨_, PySem.W.mg_of X G q0, ⟨_, rfl⟩⟩
    split at hx
    · rename_i e; cases hx; rw [eq_of_beq e]; exact ⟨_, PySem.W.mg_of X G q1, ⟨_, rfl⟩⟩
    cases hx
  have e := hfa.symm.trans (PySem.W.mg_of X G a10)
  cases e
  refine ⟨PySem.W.fnOf "law" "law" (defArgs s_law) (defBody s_law) (defScope s_law) .none kV10 dc10 pm10 an10 cd10 ct10, fun s v => .of_eq rfl, fun base _ _ hT => ?_⟩
  letI tc : TabsC := ⟨cs.map (·.2)⟩
  have cod := cod_of (base := base) X hcs hT vq
  have hx : ∀ x c fs, nms.ex.lookup x = some (c, fs) → ExK ⟨fun c => if c = 0 then C0 else 0, fun c => if c = 0 then ["line", "what"] else []⟩ l.prog w K mg base x c fs := by
    intro x c fs hx
    simp only [nms, List.lookup_cons, List.lookup_nil] at hx
    split at hx
    · rename_i e; cases hx; rw [eq_of_beq e]
      exact exk_mk (N := ["self", "line", "what"]) rfl rfl j_TextError (PySem.W.mg_none_of X G z14) w0 (PySem.W.mg_of X G x0_0) (fun us hl => match us, hl with | [_, _, _], _ => rfl) x1_0 x2_0 x3_0 x4_0 x5_0 x6_0 x7_0 x8_0 x9_0 x10_0 x11_0 x12_0 x13_0 x14_0 w1 x16_0 x17_0 x18_0 (fun f hf => by simp only [List.mem_cons, List.not_mem_nil, or_false] at hf; rcases hf with rfl | rfl <;> assumption) x20_0 x21_0 x22_0 x23_0
    cases hx
  refine FnOk.imp (fn_all (P := l.prog) (w := w) (base := base) (T := ⟨fun c => if c = 0 then C0 else 0, fun c => if c = 0 then ["line", "what"] else []⟩) tab here hb hc hx cod m 10 d_law rfl _ _ F10 hfa) fun _ _ _ _ h => spL_D h
end K01

namespace K01
open PySem SQ SQ.C
section
variable (n : Nat) (ns : List Int) (k : Nat)
theorem cellK : ∃ z : Int, run Δ (n + 1) 6 [.list (ns.map .int), .int (k : Int)] = .ok (.int z) := by
  obtain ⟨z, h⟩ := cell_run (K := run Δ n) ns k
  exact ⟨z, run_rt (F := ⟨2, 2, b__law_cell⟩) rfl rfl h⟩
theorem drawK : Draws (run Δ (n + 2)) 7 (.list (ns.map .int)) (k : Int) := fun ss h1 h2 => by
  obtain ⟨ds, h3, h4⟩ := draw_run (K := run Δ (n + 1)) 6 (.list (ns.map .int)) (k : Int) ss (cellK n ns k) h1 h2
  exact ⟨ds, run_rt (F := ⟨3, 8, b__law_draw⟩) rfl rfl h3, h4⟩
theorem patK {most : Nat} (h0 : 0 < most) (h5 : most ≤ 5) : ∃ q, Box most q ∧ Of cells1 q ∧ run Δ (n + 3) 8 [.list (ns.map .int), .int (k : Int), .int (most : Int)] = .ok (encP q) := by
  obtain ⟨q, h1, h2, h3⟩ := lawPattern_run (drawK n ns k) h0 h5
  exact ⟨q, h1, h2, run_rt (F := ⟨3, 8, b__law_pattern⟩) rfl rfl h3⟩
theorem fabK {c : Cell} (h : LetC c) : run Δ (n + 1) 1 [encC c] = .ok (.bool (isFab c)) := run_rt (F := ⟨1, 1, b_is_fabric⟩) rfl rfl (isFabric_run h)
theorem fab1K {x : Nat} (h : isL x) : run Δ (n + 1) 1 [T [x]] = .ok (.bool true) := run_rt (F := ⟨1, 1, b_is_fabric⟩) rfl rfl (isFabric_run (c := .pl x) fun y hy => by rw [List.mem_singleton.mp hy]; exact h)
theorem isCellK {c : Cell} (h : GoodC c) : run Δ (n + 2) 2 [encC c] = .ok (.bool true) := run_rt (F := ⟨1, 1, b_is_cell⟩) rfl rfl (isCell_run (fun x hx => fab1K n hx) h)
theorem rowFaultK {r : List Cell} (hl : r.length ≤ 10) (g : ∀ c ∈ r, GoodC c) {d : D} (hd : d = .none ∨ d = .int (r.length : Nat)) : run Δ (n + 3) 3 [.list (r.map encC), d] = .ok .none := run_rt (F := ⟨2, 3, b_row_fault⟩) rfl rfl (rowFault_run hl (fun c hc => isCellK n (g c hc)) hd .u)
theorem linesOfK {l : List (List Nat)} (hne : l ≠ []) (hn : ∀ x ∈ l, 10 ∉ x) (hl : (joinC [10] l).length + 3 ≤ lim) : run Δ (n + 1) 0 [T (joinC [10] l ++ [10])] = .ok (.list (l.map T)) := run_rt (F := ⟨1, 2, b_lines_of⟩) rfl rfl (linesOf_run hne hn hl .u)
theorem linesOfK2 {l : List (List Nat)} {a : List Nat} (h0 : a ≠ []) (hn : ∀ x ∈ l ++ [a], 10 ∉ x) (hl : (joinC [10] (l ++ [a])).length + 3 ≤ lim) : run Δ (n + 1) 0 [T (joinC [10] (l ++ [a]))] = .ok (.list ((l ++ [a]).map T)) := run_rt (F := ⟨1, 2, b_lines_of⟩) rfl rfl (linesOf_run2 h0 hn hl .u)
theorem readPatK {x : D} {p : List (List Cell)} {h w : Nat} (rc : Rect h w p) (h0 : 0 < h) (w0 : 0 < w) (hh : h ≤ 10) (hw : w ≤ 10) (gd : ∀ r ∈ p, ∀ c ∈ r, GoodC c) (kl : run Δ (n + 3) 0 [x] = .ok (.list ((p.map rowC).map T))) : run Δ (n + 4) 4 [x] = .ok (encP p) := run_rt (F := ⟨1, 6, b_read_pattern⟩) rfl rfl (readPat_run rc h0 w0 hh hw gd kl (fun r hr d hd => rowFaultK n (by rw [rc.2 r hr]; exact hw) (gd r hr) hd) .u .u .u .u .u)
theorem formatK {p : List (List Cell)} {h w : Nat} (rc : Rect h w p) (h0 : 0 < h) (hh : h ≤ 10) (hw : w ≤ 10) : run Δ (n + 1) 5 [encP p] = .ok (T (txt p ++ [10])) := run_rt (F := ⟨1, 2, b_format_pattern⟩) rfl rfl (format_run rc h0 hh hw .u)
theorem lawTextK {p : List (List Cell)} {h w : Nat} (rc : Rect h w p) (h0 : 0 < h) (hh : h ≤ 10) (hw : w ≤ 10) : run Δ (n + 1) 9 [encP p] = .ok (T (txt p ++ [10])) := run_rt (F := ⟨1, 2, b__law_text⟩) rfl rfl (format_run rc h0 hh hw .u)
end
end K01

namespace K01
open PySem SQ SQ.C
def lawBody : C := match b_law with
  | .seq (.for_ _ _ body) _ => body
  | _ => .skip
def goodB : Cell → Bool
  | .pl x => decide (97 ≤ x ∧ x ≤ 122)
  | .dg x _ y => decide ((97 ≤ x ∧ x ≤ 122) ∧ (97 ≤ y ∧ y ≤ 122) ∧ x ≠ y)
theorem good_of {c : Cell} (h : goodB c = true) : GoodC c := by
  cases c with
  | pl x => exact (of_decide_eq_true h : 97 ≤ x ∧ x ≤ 122)
  | dg x u y => exact (of_decide_eq_true h : (97 ≤ x ∧ x ≤ 122) ∧ (97 ≤ y ∧ y ≤ 122) ∧ x ≠ y)
theorem good1 : cells1.all goodB = true := by decide
theorem body_K {K : Nat → List D → Res D} {S : D} {i : Nat} {p : List (List Cell)} {x : List Nat} (hf : fl (encP p) = true)
    (kp : K 8 [S, .int (i : Int), .int 5] = .ok (encP p)) (kt : K 9 [encP p] = .ok (T (x ++ [10]))) (kf : K 5 [encP p] = .ok (T (x ++ [10]))) (kr : K 4 [T (x ++ [10])] = .ok (encP p)) (kr2 : K 4 [T x] = .ok (encP p)) (s2 s3 : Sl) :
    ex K lawBody [.v S, .v (.int (i : Int)), s2, s3] = .ok (.nx [.v S, .v (.int (i : Int)), .v (encP p), .v (T (x ++ [10]))]) := by
  unfold lawBody b_law
  dsimp only
  simp only [x_seq, thenX_nx, thenX_rt, thenX_bk, thenX_ct, thenX_err, thenX_cond, x_iff, ifX_d, x_skip, x_ret, x_retn, x_brk, x_cnt, x_set, x_seto, own_list, own_dict, x_sett, x_fz, x_aug, aug_addI, aug_subI, x_app, appS_l, appX_ok, x_puti, putS_o, x_pop, popS_l, x_ext, extS_l, idxl_0, idxl_1, idxl_last, e_slc, C.isNa, optI_t, optI_f, slc_lst, slc_tpl, cutL_map, ne_bool, eq_bool, cond_ok, cond_rt, cond_boolD, cond_or, cond_and, cond_andF, cond_true, cond_false, e_or, e_and, e_ite, e_chn, e_var, e_wv, e_dat, e_con, e_nil, e_cons, e_neg, e_bin, e_cmp, e_isn, e_nisn, e_not, e_tup, e_lst, e_idx, e_call, e_blt, isn_t, nisn_t, isn_i, nisn_i, isn_n, nisn_n, En.at, En.put, Sl.strict, Sl.weak, Sl.froz, En.frz, En.wip, b_var, b_tup, b_nil, b_cons, bindT_R4, idxR_0, idxR_1, idxR_2, idxR_3, slots, List.nil_append, List.cons_append, asL, Res.ok_bind, Res.noE_ok, idx4_0, idx4_1, idx4_2, idx4_3, idx2_0, idx2_1, op_addI, op_subI, cm_eqI, cm_neI, cm_geI, cm_ltI, cm_leI, cm_gtI, truth_b, boolR_b, Bool.not_true, Bool.not_false, bindX_ok, len_tup, len_lst, max2I, min2I, tup_lst, tup_tup, lst_lst, lst_tup, List.length_map, kp, kt, kf, kr, ne_same hf, neT, decide_true, Bool.not_true, slcT_init, kr2]
theorem body_ok (ns : List Int) (i : Nat) (r : List Sl) (hr : r.length = 2) : ∃ r', r'.length = 2 ∧ ex (run Δ 9) lawBody (.v (.list (ns.map .int)) :: .v (.int (i : Int)) :: r) = .ok (.nx (.v (.list (ns.map .int)) :: .v (.int (i : Int)) :: r')) := by
  have l1 : lim = 1000000 := rfl
  obtain ⟨p, ⟨h, w, rc, h0, w0, hh, hw⟩, of, hp⟩ := patK 6 ns i (most := 5) (by decide) (by decide)
  have gd : ∀ r ∈ p, ∀ c ∈ r, GoodC c := fun r hr c hc => good_of (List.all_eq_true.mp good1 c (of r hr c hc))
  have kt := lawTextK 8 rc h0 (by omega) (by omega)
  have kf := formatK 8 rc h0 (by omega) (by omega)
  have tl := txt_len (p := p) (w := w) fun r hr => by rw [rc.2 r hr]; exact Nat.le_refl _
  have b1 : p.length * (w * 4 + 1) ≤ 5 * 21 := Nat.mul_le_mul (by rw [rc.1]; exact hh) (by omega)
  have hne : p ≠ [] := fun e => by have := rc.1; rw [e] at this; simp at this; omega
  have nn : ∀ x ∈ p.map rowC, 10 ∉ x := fun x hx => by
    obtain ⟨r, hr, rfl⟩ := List.mem_map.mp hx
    exact row_no (gd r hr)
  have tb : (joinC [10] (p.map rowC)).length + 3 ≤ lim := by show (txt p).length + 3 ≤ lim; omega
  have kr := readPatK 5 rc h0 w0 (by omega) (by omega) gd (x := T (txt p ++ [10])) (linesOfK 7 (l := p.map rowC) (fun e => hne (List.map_eq_nil_iff.mp e)) nn tb)
  have kr2 := readPatK 5 rc h0 w0 (by omega) (by omega) gd (x := T (txt p)) (by
    unfold txt
    obtain ⟨l, a, e, ha⟩ : ∃ l a, p.map rowC = l ++ [a] ∧ a ≠ [] := by
      refine ⟨(p.map rowC).dropLast, rowC (p.getLast hne), ?_, row_ne fun e => ?_⟩
      · rw [← List.map_dropLast]
        conv => lhs; rw [← List.dropLast_concat_getLast hne]
        rw [List.map_append]
        rfl
      · have := rc.2 _ (List.getLast_mem hne)
        rw [e] at this
        simp at this
        omega
    rw [e] at nn tb ⊢
    exact linesOfK2 7 ha nn tb)
  match r, hr with
  | [s2, s3], _ => exact ⟨_, rfl, body_K (K := run Δ 9) (S := .list (ns.map .int)) (i := i) (x := txt p) (encP_fl p) hp kt kf kr kr2 s2 s3⟩
theorem law_ok (ns : List Int) (h : ns.length ≤ 63) : SQ.run Δ 10 10 [.list (ns.map .int)] = .ok (.bool true) := by
  refine run_rt (F := ⟨1, 4, b_law⟩) rfl rfl ?_
  obtain ⟨N, hN, e1⟩ := hi_len (run Δ 9) 16 (by decide) ns (List.replicate 3 .u)
  exact law_loop (m := 2) (body := lawBody) (by omega) e1 fun i r hr => body_ok ns i r hr
end K01

open PySem PySem.W PyProof.Rows SQ
set_option maxHeartbeats 0 in
theorem PySem.Challenge.cw_sewnwhole_k01_patterns_come_back_from_th_holds : PySem.Challenge.rw_sewnwhole_k01_patterns_come_back_from_th.Holds := by
  w_on; o_law; k_head; (case hw => w_witness2)
  k_fill
  refine SQ.walk_gen (l := PySem.Challenge.rw_sewnwhole_k01_patterns_come_back_from_th) (k := 22) (x := "_law_script") (g := SQ.run K01.Δ 10 10) rfl rfl ⟨rfl, by decide, by decide⟩ (fun w h Y => PySem.W.kIn_of Y) ?K (fun ns hl => K01.law_ok ns hl) ?F
  case K => exact fun w => by with_unfolding_all rfl
  case F =>
    intro w mg fa h cs KX G hmg hcs
    refine' K01.all_mk (l := PySem.Challenge.rw_sewnwhole_k01_patterns_come_back_from_th) (m := 10) KX G hmg hcs ?vq ?a0 ?l0 ?c0 ?k0 ?a1 ?l1 ?c1 ?k1 ?a2 ?l2 ?c2 ?k2 ?a3 ?l3 ?c3 ?k3 ?a4 ?l4 ?c4 ?k4 ?a5 ?l5 ?c5 ?k5 ?a6 ?l6 ?c6 ?k6 ?a7 ?l7 ?c7 ?k7 ?a8 ?l8 ?c8 ?k8 ?a9 ?l9 ?c9 ?k9 ?a10 ?l10 ?c10 ?k10 ?z0 ?z1 ?z2 ?z3 ?z4 ?z5 ?z6 ?z7 ?z8 ?z9 ?z10 ?z11 ?z12 ?z13 ?z14 ?q0 ?q1 ?w0 ?w1 ?x0_0 ?x1_0 ?x2_0 ?x3_0 ?x4_0 ?x5_0 ?x6_0 ?x7_0 ?x8_0 ?x9_0 ?x10_0 ?x11_0 ?x12_0 ?x13_0 ?x14_0 ?x16_0 ?x17_0 ?x18_0 ?x19line_0 ?x19what_0 ?x20_0 ?x21_0 ?x22_0 ?x23_0
    case vq => decide +kernel
    (case a0 => k_is); (case l0 => k_is); (case c0 => k_is); (case k0 => k_is); (case a1 => k_is); (case l1 => k_is); (case c1 => k_is); (case k1 => k_is)
    (case a2 => k_is); (case l2 => k_is); (case c2 => k_is); (case k2 => k_is); (case a3 => k_is); (case l3 => k_is); (case c3 => k_is); (case k3 => k_is)
    (case a4 => k_is); (case l4 => k_is); (case c4 => k_is); (case k4 => k_is); (case a5 => k_is); (case l5 => k_is); (case c5 => k_is); (case k5 => k_is)
    (case a6 => k_is); (case l6 => k_is); (case c6 => k_is); (case k6 => k_is); (case a7 => k_is); (case l7 => k_is); (case c7 => k_is); (case k7 => k_is)
    (case a8 => k_is); (case l8 => k_is); (case c8 => k_is); (case k8 => k_is); (case a9 => k_is); (case l9 => k_is); (case c9 => k_is); (case k9 => k_is)
    (case a10 => k_is); (case l10 => k_is); (case c10 => k_is); (case k10 => k_is); (case z0 => k_is); (case z1 => k_is); (case z2 => k_is); (case z3 => k_is)
    (case z4 => k_is); (case z5 => k_is); (case z6 => k_is); (case z7 => k_is); (case z8 => k_is); (case z9 => k_is); (case z10 => k_is); (case z11 => k_is)
    (case z12 => k_is); (case z13 => k_is); (case z14 => k_is); (case q0 => k_is); (case q1 => k_is); (case w0 => decide +kernel); (case w1 => k_is); (case x0_0 => k_is)
    (case x1_0 => k_is); (case x2_0 => rfl); (case x3_0 => k_is); (case x4_0 => k_is); (case x5_0 => k_is); (case x6_0 => k_is); (case x7_0 => k_is); (case x8_0 => k_is)
    (case x9_0 => k_is); (case x10_0 => k_is); (case x11_0 => k_is); (case x12_0 => rfl); (case x13_0 => decide +kernel); (case x14_0 => k_is); (case x16_0 => ks_is); (case x17_0 => k_is)
    (case x18_0 => k_is); (case x19line_0 => k_is); (case x19what_0 => k_is); (case x20_0 => k_is); (case x21_0 => k_is); (case x22_0 => k_is); (case x23_0 => k_is)

