import PyProof.Rows.All
import PySem.Syntax
import PySem.PyData
import PySem.Builtin.Int.W1All
import Wide.All
import OpenK.AllK
import Wide.FinOn
import HandS.ForMost
import HandS.Flow
import HandS.Style
import HandS.Wide
import HandS.WideBits
import HandS.TupAny
import HandS.TupMul
import HandS.TupSets
import HandS.Conv
import HandS.IsInst
import HandS.Defaults
import HandS.Exc
import HandS.Codes
import HandS.RevRange
import HandS.Rev
import HandS.SortInts
import HandS.Deep
import HandS.WordsDict
import KE.DatumOrd
import HandS.SortKw
import KE.GoesEnum
import HandS.Iter
import HandS.Zip
import HandS.NoneIn
import KE.KDictList
import HandS.HeadHook1
import HandS.HeadHook2
import HandS.HeadEnd
import HandS.Words
import KE.KStateDown
import HandS.Head0
import HandS.Head1
import HandS.Head2
import KE.BitLaws
import PySem.Challenge.RW_learnrealm_k51_mistake_numbers
set_option Elab.async false
set_option linter.all false
set_option maxRecDepth 100000
set_option maxHeartbeats 4000000
section
set_option linter.all false
/-! A small definitional interpreter of a part of Python, over plain data. -/
namespace Py
open PySem

/-- values as trees -/
inductive D where
  | non | bl (b : Bool) | int (i : Int) | str (s : Str)
  | tup (xs : List D) | lst (xs : List D) | dic (ks vs : List D) | set (xs : List D)
  | ins (c : Nat) (ids : List Nat) (vs : List D)
  | fro (xs : List D) | glo (g : Nat)
  deriving Inhabited

/-- a tree with owned (mutable) nodes at its top -/
inductive M where
  | leaf (d : D) | lst (xs : List M) | dic (ks : List D) (vs : List M) | ins (c : Nat) (ids : List Nat) (vs : List M)
  deriving Inhabited

inductive Slot where
  | dead | sh (d : D) | ow (m : M)
  deriving Inhabited
abbrev Env := List Slot

inductive R (α : Type) where
  | bad | ok (G : Env) (a : α)
def R.bind {α β : Type} (r : R α) (f : Env → α → R β) : R β := match r with
  | .bad => .bad
  | .ok G a => f G a
@[simp] theorem R.bind_ok {α β : Type} (G : Env) (a : α) (f : Env → α → R β) : (R.ok G a).bind f = f G a := rfl
@[simp] theorem R.bind_bad {α β : Type} (f : Env → α → R β) : (R.bad : R α).bind f = R.bad := rfl
def R.ofO {α : Type} (G : Env) : Option α → R α
  | none => .bad
  | some a => .ok G a
@[simp] theorem R.ofO_some {α : Type} (G : Env) (a : α) : R.ofO G (some a) = R.ok G a := rfl
@[simp] theorem R.ofO_none {α : Type} (G : Env) : R.ofO G (none : Option α) = R.bad := rfl

/-- what a call gives: the owned arguments behind it (in order; dead for the others), the value -/
inductive RC where
  | bad | ok (outs : List Slot) (d : D)

mutual
/-- no mutable node within -/
def D.imm : D → Bool
  | .non => true | .bl _ => true | .int _ => true | .str _ => true | .glo _ => true
  | .tup xs => D.immL xs | .fro xs => D.immL xs
  | .lst _ => false | .dic _ _ => false | .set _ => false | .ins _ _ _ => false
def D.immL : List D → Bool
  | [] => true
  | x :: xs => x.imm && D.immL xs
end
mutual
def M.fz : M → D
  | .leaf d => d
  | .lst xs => .lst (M.fzL xs)
  | .dic ks vs => .dic ks (M.fzL vs)
  | .ins c ids vs => .ins c ids (M.fzL vs)
def M.fzL : List M → List D
  | [] => []
  | x :: xs => x.fz :: M.fzL xs
end

/-! ### operations on values -/
mutual
def D.py : D → PyData
  | .bl b => .bool b | .int i => .int i | .str s => .str s
  | .tup xs => .tuple (D.pyL xs)
  | .lst xs => .list (D.pyL xs)
  | _ => .none
def D.pyL : List D → List PyData
  | [] => []
  | x :: xs => x.py :: D.pyL xs
end

inductive BinO where
  | add | sub | mul | fdiv | mod | pow | shl | shr | band | bor | bxor
  deriving DecidableEq
inductive UnO where
  | neg | inv
  deriving DecidableEq
inductive CmpO where
  | eq | ne | lt | le | gt | ge | isNone | isntNone | isTrue | isFalse | mem | nmem
  deriving DecidableEq

/-- n < 2 ^ b, so written that the kernel stops at once at an n that is no numeral -/
def ltp (n b : Nat) : Bool := decide (n.log2 < b)
theorem ltp_lt {n b : Nat} (h : ltp n b = true) : n < 2 ^ b := by
  have h := of_decide_eq_true h
  cases n with
  | zero => exact Nat.pow_pos (by decide)
  | succ n => exact (Nat.log2_lt (by simp)).mp h
theorem ltp_int {i : Int} {b : Nat} (h : ltp i.natAbs b = true) : -(2 ^ b) < i ∧ i < 2 ^ b := by
  have h := ltp_lt h
  have e : ((2 ^ b : Nat) : Int) = 2 ^ b := by simp
  omega
def szLine : Nat := 16777216
def mulOk (i j : Int) : Bool := ltp i.natAbs 64 || (ltp j.natAbs 64 || decide (i.natAbs.log2 + j.natAbs.log2 < 1000000))
def lenOk (n : Nat) : Bool := decide (n ≤ szLine)
def rep {α : Type} (n : Nat) (xs : List α) : List α := (List.replicate n xs).flatten

def binop : BinO → D → D → Option D
  | .add, .int i, .int j => some (.int (i + j))
  | .add, .lst xs, .lst ys => if lenOk (xs.length + ys.length) then some (.lst (xs ++ ys)) else none
  | .add, .tup xs, .tup ys => if lenOk (xs.length + ys.length) then some (.tup (xs ++ ys)) else none
  | .sub, .int i, .int j => some (.int (i - j))
  | .mul, .int i, .int j => if mulOk i j then some (.int (i * j)) else none
  | .mul, .lst xs, .int k => if ltp k.natAbs 30 && (lenOk (xs.length * k.toNat)) then some (.lst (rep k.toNat xs)) else none
  | .mul, .tup xs, .int k => if ltp k.natAbs 9 && (decide (xs.length ≤ 1000)) then some (.tup (rep k.toNat xs)) else none
  | .fdiv, .int i, .int j => if decide (0 < j) && decide (j.natAbs.log2 < 9000) then some (.int (i / j)) else none
  | .mod, .int i, .int j => if decide (0 < j) then some (.int (i % j)) else none
  | .pow, .int i, .int j => if decide (0 ≤ j) && (ltp j.natAbs 19 && ltp i.natAbs 64) then some (.int (i ^ j.toNat)) else none
  | .shl, .int i, .int j => if decide (0 ≤ j) && (ltp j.natAbs 19 && ltp i.natAbs 64) then some (.int (i * 2 ^ j.toNat)) else none
  | .shr, .int i, .int j => if decide (0 ≤ j) then some (.int (i / 2 ^ j.toNat)) else none
  | .band, .int i, .int j => some (.int (Builtin.bitAnd i j))
  | .bor, .int i, .int j => some (.int (Builtin.bitOr i j))
  | .bxor, .int i, .int j => some (.int (Builtin.bitXor i j))
  | _, _, _ => none
def unop : UnO → D → Option D
  | .neg, .int i => some (.int (-i))
  | .inv, .int i => some (.int (Builtin.bitNot i))
  | _, _ => none

mutual
/-- == of data, as Python has it -/
def D.eqv : D → D → Bool
  | .non, .non => true
  | .bl a, .bl b => a == b
  | .bl a, .int j => (if a then 1 else 0) == j
  | .int i, .bl b => i == (if b then 1 else 0)
  | .int i, .int j => i == j
  | .str x, .str y => x == y
  | .lst xs, .lst ys => D.eqvL xs ys
  | .tup xs, .tup ys => D.eqvL xs ys
  | _, _ => false
def D.eqvL : List D → List D → Bool
  | [], [] => true
  | x :: xs, y :: ys => x.eqv y && D.eqvL xs ys
  | _, _ => false
end
mutual
/-- data that == may be asked of, at most so deep -/
def D.eqOk : Nat → D → Bool
  | _, .non => true | _, .bl _ => true | _, .int _ => true
  | _, .str s => s.cps.all (· < 0x110000)
  | n, .tup xs => match n with
    | 0 => false
    | n + 1 => D.eqOkL n xs
  | n, .lst xs => match n with
    | 0 => false
    | n + 1 => D.eqOkL n xs
  | _, _ => false
def D.eqOkL : Nat → List D → Bool
  | _, [] => true
  | n, x :: xs => D.eqOk n x && D.eqOkL n xs
end
def eqd (a b : D) : Option Bool := match a, b with
  | .str x, .str y => some (x == y)
  | a, b => if D.eqOk 64 a && D.eqOk 64 b then some (D.eqv a b) else none

/-- keys of a dict: gInts and texts -/
def D.isKey : D → Bool
  | .int _ => true | .str _ => true | _ => false
def keyEq : D → D → Bool
  | .int i, .int j => i == j
  | .str x, .str y => x == y
  | _, _ => false
def dget : List D → List D → D → Option D
  | k :: ks, v :: vs, x => if keyEq k x then some v else dget ks vs x
  | _, _, _ => none
def memOk (x : D) (xs : List D) : Bool := D.eqOk 64 x && D.eqOkL 63 xs
def cmpop : CmpO → D → D → Option D
  | .eq, a, b => (eqd a b).map .bl
  | .ne, a, b => (eqd a b).map fun k => .bl (!k)
  | .lt, .int i, .int j => some (.bl (decide (i < j)))
  | .le, .int i, .int j => some (.bl (decide (i ≤ j)))
  | .gt, .int i, .int j => some (.bl (decide (j < i)))
  | .ge, .int i, .int j => some (.bl (decide (j ≤ i)))
  | .isNone, a, .non => some (.bl (match a with | .non => true | _ => false))
  | .isntNone, a, .non => some (.bl (match a with | .non => false | _ => true))
  | .isTrue, a, .bl true => some (.bl (match a with | .bl true => true | _ => false))
  | .isFalse, a, .bl false => some (.bl (match a with | .bl false => true | _ => false))
  | .mem, a, .lst xs => if memOk a xs then some (.bl (xs.any fun x => D.eqv x a)) else none
  | .mem, a, .tup xs => if memOk a xs then some (.bl (xs.any fun x => D.eqv x a)) else none
  | .mem, a, .dic ks vs => if a.isKey then some (.bl (dget ks vs a).isSome) else none
  | .nmem, a, .lst xs => if memOk a xs then some (.bl (!xs.any fun x => D.eqv x a)) else none
  | .nmem, a, .tup xs => if memOk a xs then some (.bl (!xs.any fun x => D.eqv x a)) else none
  | .nmem, a, .dic ks vs => if a.isKey then some (.bl (!(dget ks vs a).isSome)) else none
  | _, _, _ => none

def truth : D → Option Bool
  | .non => some false
  | .bl b => some b
  | .int i => some (i != 0)
  | .str s => if lenOk s.length then some ((s.length : Int) != 0) else none
  | .lst xs => some !xs.isEmpty
  | .tup xs => some !xs.isEmpty
  | _ => none

def ixN (n : Nat) (i : Int) : Option Nat := if 0 ≤ i then (if i < n then some i.toNat else none) else if -(n : Int) ≤ i then some (i + n).toNat else none
def atI (xs : List D) (i : Int) : Option D := (ixN xs.length i).bind fun j => xs[j]?
def index : D → D → Option D
  | .lst xs, .int i => atI xs i
  | .fro xs, .int i => atI xs i
  | .tup xs, .int i => atI xs i
  | .dic ks vs, k => if k.isKey then dget ks vs k else none
  | _, _ => none
def sIx (n d : Nat) : Option Int → Nat
  | none => d
  | some v => if v < 0 then (v + n).toNat else min v.toNat n
def cutD (xs : List D) (lo hi : Option Int) : List D := (xs.drop (sIx xs.length 0 lo)).take (sIx xs.length xs.length hi - sIx xs.length 0 lo)
def slice : D → Option Int → Option Int → Option D
  | .lst xs, lo, hi => some (.lst (cutD xs lo hi))
  | .tup xs, lo, hi => some (.tup (cutD xs lo hi))
  | _, _, _ => none

inductive Ty where
  | int | bool | tuple | list | str | dict | none | cls (c : Nat)
  deriving DecidableEq
def D.hasTy : D → Ty → Bool
  | .int _, .int => true
  | .bl _, .int => true
  | .bl _, .bool => true
  | .tup _, .tuple => true
  | .lst _, .list => true
  | .fro _, .list => true
  | .str _, .str => true
  | .dic _ _, .dict => true
  | .ins c _ _, .cls k => c == k
  | _, _ => false
/-- values that isinstance may be asked of -/
def D.tyOk : D → Bool
  | .glo _ => false | .set _ => false | .fro _ => false | .ins _ _ _ => false | _ => true

inductive Bi where
  | len | sum | max | min | abs | int | bool | tuple | list | set | sorted | all | any
  deriving DecidableEq
def gInts : List D → Option (List Int)
  | [] => some []
  | .int i :: r => (gInts r).map (i :: ·)
  | _ :: _ => none
def gBools : List D → Option (List Bool)
  | [] => some []
  | .bl i :: r => (gBools r).map (i :: ·)
  | _ :: _ => none
/-- tuples of gInts -/
def rowsOf : List D → Option (List (List Int))
  | [] => some []
  | .tup xs :: r => (gInts xs).bind fun x => (rowsOf r).map (x :: ·)
  | _ :: _ => none
def maxL : List Int → Int
  | [] => 0
  | x :: xs => xs.foldl (fun a b => if b > a then b else a) x
def minL : List Int → Int
  | [] => 0
  | x :: xs => xs.foldl (fun a b => if b < a then b else a) x
def lexLt : List Int → List Int → Bool
  | [], _ :: _ => true
  | x :: xs, y :: ys => if x = y then lexLt xs ys else decide (x < y)
  | _, [] => false
def lexLe (a b : List Int) : Bool := !lexLt b a
def insRow (x : List Int) : List (List Int) → List (List Int)
  | [] => [x]
  | y :: ys => if lexLe x y then x :: y :: ys else y :: insRow x ys
def sortRows : List (List Int) → List (List Int)
  | [] => []
  | x :: xs => insRow x (sortRows xs)
def insInt (x : Int) : List Int → List Int
  | [] => [x]
  | y :: ys => if x ≤ y then x :: y :: ys else y :: insInt x ys
def sortInts : List Int → List Int
  | [] => []
  | x :: xs => insInt x (sortInts xs)
def rowD (x : List Int) : D := .tup (x.map .int)
def intsD (x : List Int) : List D := x.map .int
/-- each once, where it is first met -/
def firstMet {α : Type} [BEq α] : List α → List α
  | [] => []
  | x :: xs => x :: (firstMet xs).filter (fun y => !(y == x))
def nnRows (rs : List (List Int)) : Bool := rs.all fun r => r.all fun i => decide (0 ≤ i)
def sortedD (xs : List D) : Option D :=
  match gInts xs with
  | some ns => some (.lst (intsD (sortInts ns)))
  | none => match rowsOf xs with
    | some rs => if decide (rs.length ≤ 1) || decide (rs.length < 64) && nnRows rs && rs.all (fun r => decide (1 ≤ r.length ∧ r.length = (rs.headD []).length)) then some (.lst ((sortRows rs).map rowD)) else none
    | none => none
def bltin : Bi → List D → Option D
  | .len, [.lst xs] => some (.int xs.length)
  | .len, [.fro xs] => some (.int xs.length)
  | .len, [.tup xs] => some (.int xs.length)
  | .len, [.str s] => if lenOk s.length then some (.int s.length) else none
  | .len, [.dic ks _] => some (.int ks.length)
  | .sum, [.lst xs] => (gInts xs).map fun ns => .int ns.sum
  | .sum, [.tup xs] => (gInts xs).map fun ns => .int ns.sum
  | .max, [.lst xs] => (gInts xs).bind fun ns => if ns.isEmpty then none else some (.int (maxL ns))
  | .max, [.int i, .int j] => some (.int (if j > i then j else i))
  | .max, [.tup xs] => (gInts xs).bind fun ns => if ns.isEmpty then none else some (.int (maxL ns))
  | .min, [.lst xs] => (gInts xs).bind fun ns => if ns.isEmpty then none else some (.int (minL ns))
  | .min, [.int i, .int j] => some (.int (if j < i then j else i))
  | .min, [.tup xs] => (gInts xs).bind fun ns => if ns.isEmpty then none else some (.int (minL ns))
  | .abs, [.int i] => some (.int (if i < 0 then -i else i))
  | .int, [.int i] => some (.int i)
  | .int, [.bl b] => some (.int (if b then 1 else 0))
  | .bool, [.bl b] => some (.bl b)
  | .bool, [.int i] => some (.bl (i != 0))
  | .tuple, [.lst xs] => some (.tup xs)
  | .tuple, [.tup xs] => some (.tup xs)
  | .list, [.lst xs] => some (.lst xs)
  | .list, [.tup xs] => some (.lst xs)
  | .sorted, [.lst xs] => sortedD xs
  | .sorted, [.set xs] => sortedD xs
  | .all, [.lst xs] => (gBools xs).map fun bs => .bl (bs.all id)
  | .any, [.lst xs] => (gBools xs).map fun bs => .bl (bs.any id)
  | _, _ => none
/-- what set() is asked of -/
def setSrc : D → Option (List D)
  | .lst xs => some xs
  | .tup xs => some xs
  | _ => none
inductive Me where
  | index | keys | get1 | get2 | bitLength
  deriving DecidableEq
def idxOf (x : D) : List D → Option Nat
  | [] => none
  | y :: ys => if D.eqv y x then some 0 else (idxOf x ys).map (· + 1)
def D.flat : D → Bool
  | .non => true | .bl _ => true | .int _ => true | .str _ => true | _ => false
def meth : Me → D → List D → Option D
  | .index, .lst xs, [x] => if memOk x xs then (idxOf x xs).map fun (n : Nat) => .int (n : Int) else none
  | .get1, .dic ks vs, [k] => if k.isKey then some ((dget ks vs k).getD .non) else none
  | .get2, .dic ks vs, [k, x] => if k.isKey then some ((dget ks vs k).getD x) else none
  | _, _, _ => none

/-! ### terms -/
/-- a place: a slot, a path of fields -/
structure Pl where
  i : Nat
  fs : List Nat := []
inductive Tg where
  | n (i : Nat) | t (ts : List Tg) | skip
inductive Mu where
  | append | pop | popAt
  deriving DecidableEq
mutual
inductive E where
  | var (i : Nat)
  | pth (i : Nat) (fs : List Nat)
  | con (d : D)
  | bin (o : BinO) (a b : E) | un (o : UnO) (a : E) | cmp (o : CmpO) (a b : E)
  | chain (o o' : CmpO) (a b c : E)
  | and (a b : E) | or (a b : E) | not (a : E) | ife (c a b : E)
  | tup (es : List E) | lst (es : List E) | dic0
  | idx (a b : E) | sli (a : E) (lo hi : E)
  | att (a : E) (f : Nat)
  | call (f : Nat) (es : List E) (pm : List Nat)
  | callO (f : Nat) (as : List Arg) (pm : List Nat)
  | blt (b : Bi) (es : List E)
  | sets (e : E)
  | isi (a : E) (tys : List Ty)
  | met (m : Me) (a : E) (es : List E)
  | mth (a : E) (m : Nat) (es : List E)
  | mut (m : Mu) (i : Nat) (fs : List Nat) (es : List E)
  | new (c : Nat) (es : List E)
  | lc (own : List Nat) (tg : Tg) (it : It) (ifs : List E) (elt : E)
  | lc2 (own : List Nat) (tg : Tg) (it : It) (ifs : List E) (tg2 : Tg) (it2 : It) (ifs2 : List E) (elt : E)
  | lrng (a : E) | callT (f : Nat) (a : E) (es : List E) | maxD (mx : Bool) (a : E) (c : Int) | skeys (a : E)
inductive Arg where
  | e (x : E) | io (i : Nat) (fs : List Nat)
inductive It where
  | e (x : E) | rng1 (a : E) | rng2 (a b : E) | rng3 (a b c : E)
  | zip (a b : E) | zip3 (a b c : E) | enum (a : E) | rev (a : E) | rrng1 (a : E) | rrng2 (a b : E)
end
inductive S where
  | asg (tg : Tg) (e : E) | asgO (i : Nat) (e : E)
  | set (i : Nat) (fs : List Nat) (k e : E) | fset (i : Nat) (fs : List Nat) (f : Nat) (e : E)
  | aug (i : Nat) (o : BinO) (e : E)
  | expr (e : E) | ret (e : E) | retN | retO (i : Nat)
  | ite (c : E) (a b : List S)
  | for_ (tg : Tg) (it : It) (body : List S)
  | while_ (c : E) (body : List S)
  | brk | cont | pass | raise
  | try_ (body : List S)

/-! ### places -/
def D.asInt : D → Option Int
  | .int i => some i
  | _ => none
def fldGet {α : Type} : List Nat → List α → Nat → Option α
  | k :: ks, v :: vs, f => if k = f then some v else fldGet ks vs f
  | _, _, _ => none
def fldSet {α : Type} : List Nat → List α → Nat → α → Option (List α)
  | k :: ks, v :: vs, f, x => if k = f then some (x :: vs) else (fldSet ks vs f x).map (v :: ·)
  | _, _, _, _ => none
def D.fld : D → Nat → Option D
  | .ins _ ids vs, f => fldGet ids vs f
  | _, _ => none
def D.path : D → List Nat → Option D
  | d, [] => some d
  | d, f :: fs => (d.fld f).bind fun e => D.path e fs
def M.fld : M → Nat → Option M
  | .ins _ ids vs, f => fldGet ids vs f
  | .leaf d, f => (d.fld f).map .leaf
  | _, _ => none
def M.path : M → List Nat → Option M
  | m, [] => some m
  | m, f :: fs => (m.fld f).bind fun e => M.path e fs
/-- a value read off an owned tree: is it borrowed -/
def M.val : M → D × Bool
  | .leaf d => (d, false)
  | m => (m.fz, true)
def Slot.path : Slot → List Nat → Option M
  | .dead, _ => none
  | .sh d, fs => (d.path fs).map .leaf
  | .ow m, fs => m.path fs
def readM (G : Env) (i : Nat) (fs : List Nat) : Option M := G[i]?.bind fun s => s.path fs
def readPl (G : Env) (i : Nat) (fs : List Nat) : Option (D × Bool) := (readM G i fs).map M.val
def isLst : Option M → Bool
  | some (.lst _) => true
  | _ => false
/-- the owned node at a path, changed -/
def M.upd {β : Type} : List Nat → (M → Option (M × β)) → M → Option (M × β)
  | [], f, m => f m
  | k :: ks, f, .ins c ids vs => (fldGet ids vs k).bind fun m => (M.upd ks f m).bind fun r => (fldSet ids vs k r.1).map fun vs' => (.ins c ids vs', r.2)
  | _ :: _, _, _ => none
def updPl {β : Type} (G : Env) (i : Nat) (fs : List Nat) (f : M → Option (M × β)) : R β := match G[i]? with
  | some (.ow m) => (match M.upd fs f m with
    | some r => .ok (G.set i (.ow r.1)) r.2
    | none => .bad)
  | _ => .bad
def mIndex (m : M) (k : D) : Option M := match m with
  | .leaf d => (index d k).map .leaf
  | .lst xs => (match k with
    | .int i => (ixN xs.length i).bind fun j => xs[j]?
    | _ => none)
  | .dic ks vs => if k.isKey then mget ks vs k else none
  | _ => none
where mget : List D → List M → D → Option M
  | k :: ks, v :: vs, x => if keyEq k x then some v else mget ks vs x
  | _, _, _ => none
def allLeaf : List M → Bool
  | [] => true
  | .leaf _ :: r => allLeaf r
  | _ :: _ => false
def mPut (ks : List D) (vs : List M) (k : D) (v : M) : List D × List M :=
  if ks.any (keyEq · k) then (ks, List.zipWith (fun k' v' => if keyEq k' k then v else v') ks vs) else (ks ++ [k], vs ++ [v])
/-- o[k] = v on an owned node -/
def setM (k v : D) : M → Option (M × Unit)
  | .lst xs => (match k with
    | .int i => if allLeaf xs then (ixN xs.length i).map fun j => (.lst (xs.set j (.leaf v)), ()) else none
    | _ => none)
  | .dic ks vs => if k.isKey && (allLeaf vs && decide (ks.length < szLine)) then some (.dic (mPut ks vs k (.leaf v)).1 (mPut ks vs k (.leaf v)).2, ()) else none
  | _ => none
/-- o.f = v on an owned instance -/
def fsetM (f : Nat) (v : D) : M → Option (M × Unit)
  | .ins c ids vs => if allLeaf vs && decide (ids.length < 1000) then some ((match fldSet ids vs f (.leaf v) with
    | some vs' => .ins c ids vs'
    | none => .ins c (ids ++ [f]) (vs ++ [.leaf v])), ()) else none
  | _ => none
def mutM : Mu → List D → M → Option (M × D)
  | .append, [v], .lst xs => if decide (xs.length < szLine) then some (.lst (xs ++ [.leaf v]), .non) else none
  | .pop, [], .lst xs => (match xs.getLast? with
    | some (.leaf v) => some (.lst xs.dropLast, v)
    | _ => none)
  | .popAt, [.int i], .lst xs => (ixN xs.length i).bind fun j => (match xs[j]? with
    | some (.leaf v) => if ltp xs.length 30 then some (.lst (xs.eraseIdx j), v) else none
    | _ => none)
  | _, _, _ => none

/-! ### loops -/
inductive Out where
  | next | ret (d : D) | brk | cont
def forLoop (asgn : D → Env → R Unit) (body : Env → R Out) : List D → Env → R Out
  | [], G => .ok G .next
  | d :: ds, G => (asgn d G).bind fun G1 _ => (body G1).bind fun G2 o => match o with
    | .next => forLoop asgn body ds G2
    | .cont => forLoop asgn body ds G2
    | .brk => .ok G2 .next
    | .ret d => .ok G2 (.ret d)
def whileLoop (c : Env → R Bool) (body : Env → R Out) : Nat → Env → R Out
  | 0, _ => .bad
  | n + 1, G => (c G).bind fun G1 b => if b then (body G1).bind fun G2 o => (match o with
    | .next => whileLoop c body n G2
    | .cont => whileLoop c body n G2
    | .brk => .ok G2 .next
    | .ret d => .ok G2 (.ret d)) else .ok G1 .next
/-- f gives an item's value, none where a test leaves it out -/
def compLoop (f : D → Env → R (List D)) : List D → Env → R (List D)
  | [], G => .ok G []
  | d :: ds, G => (f d G).bind fun G1 o => (compLoop f ds G1).bind fun G2 r => .ok G2 (o ++ r)

def wipe (G : Env) : List Nat → Env
  | [] => G
  | v :: vs => (wipe G vs).set v .dead
/-- the slots vs as in G0 -/
def unwipe (G0 G : Env) : List Nat → Env
  | [] => G
  | v :: vs => (unwipe G0 G vs).set v (G0.getD v .dead)
def Slot.isOw : Slot → Bool
  | .ow _ => true | _ => false
def anyOw (G : Env) (vs : List Nat) : Bool := vs.any fun v => (G.getD v .dead).isOw

mutual
def asgT : Tg → D → Env → R Unit
  | .n i, d, G => if decide (i < G.length) then .ok (G.set i (.sh d)) () else .bad
  | .skip, _, _ => .bad
  | .t ts, .tup xs, G => asgL ts xs G
  | .t ts, .lst xs, G => asgL ts xs G
  | .t _, _, _ => .bad
def asgL : List Tg → List D → Env → R Unit
  | [], [], G => .ok G ()
  | t :: ts, d :: ds, G => (asgT t d G).bind fun G1 _ => asgL ts ds G1
  | _, _, _ => .bad
end

/-! ### the interpreter -/
structure Ctx where
  /-- a class's __init__, __len__, a method by its number -/
  init : Nat → Option Nat
  lenOf : Nat → Option Nat
  mth : Nat → Nat → Option Nat
  /-- turns of a while loop, at most -/
  wh : Nat
  /-- the defs that give a new list or dict -/
  fr : Nat → Bool
abbrev Orc := Nat → List Slot → RC

mutual
def E.mf : E → Bool
  | .var _ => true | .pth _ _ => true | .con _ => true | .dic0 => true
  | .bin _ a b => a.mf && b.mf | .un _ a => a.mf | .cmp _ a b => a.mf && b.mf
  | .chain _ _ a b c => a.mf && (b.mf && c.mf)
  | .and a b => a.mf && b.mf | .or a b => a.mf && b.mf | .not a => a.mf | .ife c a b => c.mf && (a.mf && b.mf)
  | .tup es => E.mfL es | .lst es => E.mfL es
  | .idx a b => a.mf && b.mf | .sli a b c => a.mf && (b.mf && c.mf)
  | .att a _ => a.mf
  | .call _ es _ => E.mfL es
  | .callO _ _ _ => false
  | .blt _ es => E.mfL es
  | .sets e => e.mf
  | .isi a _ => a.mf
  | .met _ a es => a.mf && E.mfL es
  | .mth a _ es => a.mf && E.mfL es
  | .mut _ _ _ _ => false
  | .new _ es => E.mfL es
  | .lc _ _ it ifs elt => it.mf && (E.mfL ifs && elt.mf)
  | .lc2 _ _ it ifs _ it2 ifs2 elt => it.mf && (E.mfL ifs && (it2.mf && (E.mfL ifs2 && elt.mf)))
  | .lrng a => a.mf | .callT _ _ _ => false | .maxD _ a _ => a.mf | .skeys a => a.mf
def E.mfL : List E → Bool
  | [] => true
  | e :: es => e.mf && E.mfL es
def It.mf : It → Bool
  | .e x => x.mf | .rng1 a => a.mf | .rng2 a b => a.mf && b.mf | .rng3 a b c => a.mf && (b.mf && c.mf)
  | .zip a b => a.mf && b.mf | .zip3 a b c => a.mf && (b.mf && c.mf) | .enum a => a.mf | .rev a => a.mf
  | .rrng1 a => a.mf | .rrng2 a b => a.mf && b.mf
end

def items : D → Option (List D)
  | .lst xs => some xs
  | .fro xs => some xs
  | .tup xs => some xs
  | _ => none
def rangeD (lo hi : Int) : List D := (List.range (hi - lo).toNat).map fun (k : Nat) => .int (lo + k)
def rngOk (i : Int) : Bool := ltp i.natAbs 62
def zipD : List D → List D → List D
  | x :: xs, y :: ys => .tup [x, y] :: zipD xs ys
  | _, _ => []
def zipD3 : List D → List D → List D → List D
  | x :: xs, y :: ys, z :: zs => .tup [x, y, z] :: zipD3 xs ys zs
  | _, _, _ => []
def enumD (n : Nat) : List D → List D
  | [] => []
  | x :: xs => .tup [.int n, x] :: enumD (n + 1) xs
def M.leaves : List M → Option (List D)
  | [] => some []
  | .leaf d :: r => (M.leaves r).map (d :: ·)
  | _ :: _ => none
/-- a place's list or tuple, to be walked -/
def M.seq : M → Option (List D × Bool)
  | .leaf d => (items d).map fun ds => (ds, false)
  | .lst ms => (M.leaves ms).map fun ds => (ds, true)
  | _ => none
/-- a value that is not borrowed -/
def fl (d : D) (b : Bool) : D × Bool := (d, b && !d.imm)
def own1 (d : D) : Option M := match d with
  | .lst xs => some (.lst (xs.map .leaf))
  | .dic ks vs => some (.dic ks (vs.map .leaf))
  | _ => none

/-- a list or dict all of whose members are leaves -/
def flatM : M → Bool
  | .lst ms => allLeaf ms
  | .dic _ ms => allLeaf ms
  | _ => false
/-- the owned arguments leave their places -/
def outsA : List (D ⊕ (Nat × List Nat)) → Env → Option (List Slot)
  | [], _ => some []
  | .inl d :: as, G => (outsA as G).map (.sh d :: ·)
  | .inr p :: as, G => if as.any (fun a => match a with | .inr q => q.1 == p.1 | _ => false) then none else (match G[p.1]? with
    | some (.ow m) => (match p.2 with
      | [] => (outsA as G).map (.ow m :: ·)
      | _ => none)
    | _ => none)
/-- .. and come back -/
def backA : List (D ⊕ (Nat × List Nat)) → List Slot → Env → Option Env
  | [], _, G => some G
  | .inl _ :: as, _ :: os, G => backA as os G
  | .inr p :: as, .ow m :: os, G => backA as os (G.set p.1 (.ow m))
  | _, _, _ => none
def callOw (orc : Orc) (f : Nat) (pm : List Nat) (r : List (D ⊕ (Nat × List Nat))) (G : Env) : R (D × Bool) :=
  match outsA (pm.map fun k => r.getD k (.inl .non)) G with
  | some ss => (match orc f ss with
    | .ok os d => (match backA (pm.map fun k => r.getD k (.inl .non)) os G with
      | some G1 => .ok G1 (d, false)
      | none => .bad)
    | .bad => .bad)
  | none => .bad

def notIns : Bi → List D → Bool
  | .len, [.ins _ _ _] => false
  | _, _ => true
/-- len of an instance -/
def lenI (C : Ctx) (orc : Orc) : List D → Option D
  | [.ins c ids vs] => (C.lenOf c).bind fun f => match orc f [.sh (.ins c ids vs)] with
    | .ok _ (.int n) => if decide (0 ≤ n) && ltp n.natAbs 62 then some (.int n) else none
    | _ => none
  | _ => none
def bltC (C : Ctx) (orc : Orc) (b : Bi) (r : List D × Bool) : Option (D × Bool) :=
  if notIns b r.1 then (bltin b r.1).map fun d => fl d r.2 else (lenI C orc r.1).map fun d => (d, false)
section
variable (C : Ctx) (orc : Orc)
mutual
def ev : E → Env → R (D × Bool)
  | .var i, G => (match G[i]? with
    | some (.sh d) => .ok G (d, false)
    | some (.ow m) => .ok (G.set i (.sh m.fz)) (m.fz, false)
    | _ => .bad)
  | .pth i fs, G => .ofO G (readPl G i fs)
  | .con d, G => .ok G (d, false)
  | .bin o a b, G => (ev a G).bind fun G1 x => if x.2 && !b.mf then .bad else (ev b G1).bind fun G2 y => .ofO G2 ((binop o x.1 y.1).map fun d => fl d (x.2 || y.2))
  | .un o a, G => (ev a G).bind fun G1 x => .ofO G1 ((unop o x.1).map fun d => fl d x.2)
  | .cmp o a b, G => (ev a G).bind fun G1 x => if x.2 && !b.mf then .bad else (ev b G1).bind fun G2 y => .ofO G2 ((cmpop o x.1 y.1).map fun d => fl d (x.2 || y.2))
  | .chain o o' a b c, G => (ev a G).bind fun G1 x => if x.2 && !b.mf then .bad else (ev b G1).bind fun G2 y => match cmpop o x.1 y.1 with
    | some (.bl false) => .ok G2 (.bl false, false)
    | some (.bl true) => if y.2 && !c.mf then .bad else (ev c G2).bind fun G3 z => .ofO G3 ((cmpop o' y.1 z.1).map fun d => fl d (y.2 || z.2))
    | _ => .bad
  | .and a b, G => (ev a G).bind fun G1 x => match truth x.1 with
    | some true => ev b G1
    | some false => .ok G1 x
    | none => .bad
  | .or a b, G => (ev a G).bind fun G1 x => match truth x.1 with
    | some false => ev b G1
    | some true => .ok G1 x
    | none => .bad
  | .not a, G => (evT a G).bind fun G1 k => .ok G1 (.bl (!k), false)
  | .ife c a b, G => (evT c G).bind fun G1 k => if k then ev a G1 else ev b G1
  | .tup es, G => (evs es G).bind fun G1 r => if r.2 then .bad else .ok G1 (.tup r.1, false)
  | .lst es, G => (evs es G).bind fun G1 r => if r.2 then .bad else .ok G1 (.lst r.1, false)
  | .dic0, G => .ok G (.dic [] [], false)
  | .idx a b, G => (match a with
    | .pth i fs => if (fs.isEmpty || b.mf) && (readM G i fs).isSome then (ev b G).bind fun G1 y => (match (readM G1 i fs).bind fun m => mIndex m y.1 with
      | some m => .ok G1 m.val
      | none => .bad) else .bad
    | a => (ev a G).bind fun G1 x => if x.2 && !b.mf then .bad else (ev b G1).bind fun G2 y => .ofO G2 ((index x.1 y.1).map fun d => fl d x.2))
  | .sli a lo hi, G => (ev a G).bind fun G1 x => if x.2 && !(lo.mf && hi.mf) then .bad else (evI lo G1).bind fun G2 l => (evI hi G2).bind fun G3 h => .ofO G3 ((slice x.1 l h).map fun d => fl d x.2)
  | .att a f, G => (ev a G).bind fun G1 x => .ofO G1 ((x.1.fld f).map fun d => fl d x.2)
  | .call f es pm, G => (evs es G).bind fun G1 r => match orc f (pm.map fun k => Slot.sh (r.1.getD k .non)) with
    | .ok _ d => .ok G1 (fl d r.2)
    | .bad => .bad
  | .callO f as pm, G => (evA as G).bind fun G1 r => callOw orc f pm r G1
  | .blt b es, G => (evs es G).bind fun G1 r => .ofO G1 (bltC C orc b r)
  | .sets e, G => (ev e G).bind fun G1 x => match setSrc x.1 with
    | some xs => (match rowsOf xs with
        | some rs => if decide (rs.length < 64) then .ok G1 (.set ((firstMet rs).map rowD), false) else .bad
        | none => .bad)
    | none => .bad
  | .isi a tys, G => (ev a G).bind fun G1 x => if x.1.tyOk then .ok G1 (.bl (tys.any x.1.hasTy), false) else .bad
  | .met m a es, G => (ev a G).bind fun G1 x => if x.2 && !E.mfL es then .bad else (evs es G1).bind fun G2 r => .ofO G2 ((meth m x.1 r.1).map fun d => fl d (x.2 || r.2))
  | .mth a m es, G => (ev a G).bind fun G1 x => if x.2 && !E.mfL es then .bad else (evs es G1).bind fun G2 r => match x.1 with
    | .ins c ids vs => (match C.mth c m with
      | some f => (match orc f (.sh (.ins c ids vs) :: r.1.map .sh) with
        | .ok _ d => .ok G2 (fl d (x.2 || r.2))
        | .bad => .bad)
      | none => .bad)
    | _ => .bad
  | .mut m i fs es, G => if isLst (readM G i fs) && (fs.isEmpty || E.mfL es) then (evs es G).bind fun G1 r => if r.2 then .bad else (updPl G1 i fs (mutM m r.1)).bind fun G2 d => .ok G2 (d, false) else .bad
  | .new c es, G => (evs es G).bind fun G1 r => if r.2 then .bad else match C.init c with
    | some f => (match orc f (.ow (.ins c [] []) :: r.1.map .sh) with
      | .ok (.ow m :: _) .non => .ok G1 (m.fz, false)
      | _ => .bad)
    | none => .bad
  | .lc own tg it ifs elt, G => (evIt it G).bind fun G1 r => if r.2 && !(E.mfL ifs && elt.mf) || anyOw G1 own then .bad else
      (compLoop (fun d G2 => (asgT tg d G2).bind fun G3 _ => (evIfs ifs G3).bind fun G4 k => if k then (ev elt G4).bind fun G5 x => if x.2 then .bad else .ok (wipe G5 own) [x.1] else .ok (wipe G4 own) []) r.1 (wipe G1 own)).bind fun G2 ds => if lenOk ds.length then .ok (unwipe G1 G2 own) (.lst ds, false) else .bad
  | .lc2 own tg it ifs tg2 it2 ifs2 elt, G => (evIt it G).bind fun G1 r => if r.2 && !(E.mfL ifs && (it2.mf && (E.mfL ifs2 && elt.mf))) || anyOw G1 own then .bad else
      (compLoop (fun d G2 => (asgT tg d G2).bind fun G3 _ => (evIfs ifs G3).bind fun G4 k => if k then
        (evIt it2 G4).bind fun G5 r2 => if r2.2 && !(E.mfL ifs2 && elt.mf) then .bad else
          (compLoop (fun d2 G6 => (asgT tg2 d2 G6).bind fun G7 _ => (evIfs ifs2 G7).bind fun G8 k2 => if k2 then (ev elt G8).bind fun G9 x => if x.2 then .bad else .ok G9 [x.1] else .ok G8 []) r2.1 G5).bind fun G6 ds => .ok (wipe G6 own) ds
        else .ok (wipe G4 own) []) r.1 (wipe G1 own)).bind fun G2 ds => if lenOk ds.length then .ok (unwipe G1 G2 own) (.lst ds, false) else .bad
  | .lrng a, G => (ev a G).bind fun G1 x => .ofO G1 (x.1.asInt.bind fun j => if ltp j.natAbs 24 then some (.lst (rangeD 0 j), false) else none)
  | .callT f a es, G => (ev a G).bind fun G1 x => if x.2 then .bad else (match own1 x.1 with
    | some m => (evs es G1).bind fun G2 r => if r.2 then .bad else (match orc f (.ow m :: r.1.map .sh) with
      | .ok (.ow _ :: _) d => .ok G2 (d, false)
      | _ => .bad)
    | none => .bad)
  | .maxD mx a c, G => (ev a G).bind fun G1 x => .ofO G1 (match x.1 with
    | .lst xs => (gInts xs).map fun ns => (.int (if ns.isEmpty then c else if mx then maxL ns else minL ns), false)
    | _ => none)
  | .skeys a, G => (ev a G).bind fun G1 x => .ofO G1 (match x.1 with
    | .dic ks _ => (gInts ks).map fun ns => (.lst (intsD (sortInts ns)), false)
    | _ => none)
/-- as a test -/
def evT : E → Env → R Bool
  | .and a b, G => (evT a G).bind fun G1 k => if k then evT b G1 else .ok G1 false
  | .or a b, G => (evT a G).bind fun G1 k => if k then .ok G1 true else evT b G1
  | .not a, G => (evT a G).bind fun G1 k => .ok G1 (!k)
  | e, G => (ev e G).bind fun G1 x => .ofO G1 (truth x.1)
/-- a slice's part -/
def evI : E → Env → R (Option Int)
  | .con .non, G => .ok G none
  | e, G => (ev e G).bind fun G1 x => .ofO G1 (x.1.asInt.map some)
def evs : List E → Env → R (List D × Bool)
  | [], G => .ok G ([], false)
  | e :: es, G => (ev e G).bind fun G1 x => if x.2 && !E.mfL es then .bad else (evs es G1).bind fun G2 r => .ok G2 (x.1 :: r.1, x.2 || r.2)
def evIfs : List E → Env → R Bool
  | [], G => .ok G true
  | e :: es, G => (evT e G).bind fun G1 k => if k then evIfs es G1 else .ok G1 false
def evA : List Arg → Env → R (List (D ⊕ (Nat × List Nat)))
  | [], G => .ok G []
  | .e x :: as, G => (ev x G).bind fun G1 v => if v.2 then .bad else (evA as G1).bind fun G2 r => .ok G2 (.inl v.1 :: r)
  | .io i fs :: as, G => if (G.getD i .dead).isOw && fs.isEmpty then (evA as G).bind fun G2 r => .ok G2 (.inr (i, fs) :: r) else .bad
/-- a list or a tuple that is walked: its items (clean), and whether the object itself must stay as it is -/
def evSq : E → Env → R (List D × Bool)
  | .pth i fs, G => .ofO G ((readM G i fs).bind M.seq)
  | e, G => (ev e G).bind fun G1 v => .ofO G1 ((items v.1).bind fun ds => if v.2 && !D.immL ds then none else some (ds, v.2))
/-- what a loop walks: its items -/
def evIt : It → Env → R (List D × Bool)
  | .e x, G => evSq x G
  | .rng1 a, G => (ev a G).bind fun G1 x => .ofO G1 (x.1.asInt.bind fun j => if rngOk j then some (rangeD 0 j, false) else none)
  | .rng2 a b, G => (ev a G).bind fun G1 x => (ev b G1).bind fun G2 y => .ofO G2 (x.1.asInt.bind fun i => y.1.asInt.bind fun j => if rngOk i && rngOk j then some (rangeD i j, false) else none)
  | .rng3 _ _ _, _ => .bad
  | .zip a b, G => (evSq a G).bind fun G1 x => if x.2 && !b.mf then .bad else (evSq b G1).bind fun G2 y => .ok G2 (zipD x.1 y.1, x.2 || y.2)
  | .zip3 a b c, G => (evSq a G).bind fun G1 x => if x.2 && !(b.mf && c.mf) then .bad else (evSq b G1).bind fun G2 y => if y.2 && !c.mf then .bad else (evSq c G2).bind fun G3 z => .ok G3 (zipD3 x.1 y.1 z.1, x.2 || (y.2 || z.2))
  | .enum a, G => (evSq a G).bind fun G1 x => .ok G1 (enumD 0 x.1, x.2)
  | .rev a, G => (evSq a G).bind fun G1 x => .ok G1 (x.1.reverse, x.2)
  | .rrng1 a, G => (ev a G).bind fun G1 x => .ofO G1 (x.1.asInt.bind fun j => if rngOk j then some ((rangeD 0 j).reverse, false) else none)
  | .rrng2 a b, G => (ev a G).bind fun G1 x => (ev b G1).bind fun G2 y => .ofO G2 (x.1.asInt.bind fun i => y.1.asInt.bind fun j => if rngOk i && rngOk j then some ((rangeD i j).reverse, false) else none)
end

mutual
def evS : S → Env → R Out
  | .asg tg e, G => (ev C orc e G).bind fun G1 x => if x.2 then .bad else (asgT tg x.1 G1).bind fun G2 _ => .ok G2 .next
  | .asgO i e, G => (ev C orc e G).bind fun G1 x => if x.2 then .bad else (match own1 x.1 with
    | some m => if decide (i < G1.length) then .ok (G1.set i (.ow m)) .next else .bad
    | none => .bad)
  | .set i fs k e, G => (ev C orc e G).bind fun G1 x => if x.2 || !k.mf || (readM G1 i fs).isNone then .bad else (ev C orc k G1).bind fun G2 y => (updPl G2 i fs (setM y.1 x.1)).bind fun G3 _ => .ok G3 .next
  | .fset i fs f e, G => (ev C orc e G).bind fun G1 x => if x.2 then .bad else (updPl G1 i fs (fsetM f x.1)).bind fun G2 _ => .ok G2 .next
  | .aug i o e, G => (match G[i]? with
    | some (.sh x) => (ev C orc e G).bind fun G1 y => (match x, binop o x y.1 with
      | .int _, some d => .ok (G1.set i (.sh d)) .next
      | _, _ => .bad)
    | _ => .bad)
  | .expr e, G => (ev C orc e G).bind fun G1 _ => .ok G1 .next
  | .ret e, G => (ev C orc e G).bind fun G1 x => if x.2 then .bad else .ok G1 (.ret x.1)
  | .retN, G => .ok G (.ret .non)
  | .retO i, G => (match G[i]? with
    | some (.ow m) => if flatM m then .ok (G.set i .dead) (.ret m.fz) else .bad
    | _ => .bad)
  | .ite c a b, G => (evT C orc c G).bind fun G1 k => if k then evSs a G1 else evSs b G1
  | .for_ tg it body, G => (evIt C orc it G).bind fun G1 r => if r.2 then .bad else forLoop (asgT tg) (evSs body) r.1 G1
  | .while_ c body, G => whileLoop (evT C orc c) (evSs body) C.wh G
  | .brk, G => .ok G .brk
  | .cont, G => .ok G .cont
  | .pass, G => .ok G .next
  | .raise, _ => .bad
  | .try_ body, G => evSs body G
def evSs : List S → Env → R Out
  | [], G => .ok G .next
  | s :: ss, G => (evS s G).bind fun G1 o => match o with
    | .next => evSs ss G1
    | o => .ok G1 o
end
end

/-- a def: how many names, which parameters are owned, the body -/
structure Fn where
  n : Nat
  io : List Bool
  body : List S
  fr : Bool
def enter (n : Nat) (as : List Slot) : Env := as ++ List.replicate (n - as.length) .dead
/-- the owned parameters at the end -/
def leave : List Bool → Env → Option (List Slot)
  | [], _ => some []
  | true :: bs, .ow m :: G => (leave bs G).map (.ow m :: ·)
  | false :: bs, _ :: G => (leave bs G).map (.dead :: ·)
  | _, _ => none
def ioOk : List Bool → List Slot → Bool
  | [], [] => true
  | true :: bs, .ow _ :: as => ioOk bs as
  | false :: bs, .sh _ :: as => ioOk bs as
  | _, _ => false
def runFn (C : Ctx) (orc : Orc) (F : Fn) (as : List Slot) : RC :=
  if ioOk F.io as && decide (as.length ≤ F.n) then (match evSs C orc F.body (enter F.n as) with
    | .ok G o => (match leave F.io G with
      | some os => (match o with
        | .ret d => .ok os d
        | .next => if F.fr then .bad else .ok os .non
        | _ => .bad)
      | none => .bad)
    | .bad => .bad) else .bad
def callN (C : Ctx) (fns : List Fn) : Nat → Orc
  | 0 => fun _ _ => .bad
  | d + 1 => fun f as => match fns[f]? with
    | some F => runFn C (callN C fns d) F as
    | none => .bad

end Py
end
section
set_option Elab.async false
set_option linter.all false
set_option maxRecDepth 100000
set_option maxHeartbeats 1000000
namespace Py
open PySem PySem.Spec PyProof.Rows L2

abbrev St := L2.St
/-- what stands fixed: the written part, the classes, the names of the fields -/
structure Ki where
  P : Program
  w : World
  K : PySem.W.Frag
  ca : Nat → Addr
  fd : Nat → Str
  inj : ∀ f g, fd f = fd g → f = g

def LstAt (_ : Ki) (P : Addr → Prop) (H : Hp) (a : Addr) (vs : List V) : Prop := H a = some (.lst vs) ∧ ¬ P a
theorem LstAt.sq {k : Ki} {K : PySem.W.Frag} {P : Addr → Prop} {H : Hp} {a : Addr} {vs : List V} (h : LstAt k P H a vs) : SqL K H a vs := .inl (.inl h.1)

/-- a list that stays as it is: the script's -/
def FroAt (k : Ki) (H : Hp) (a : Addr) (vs : List V) : Prop := (∃ o, H a = some (.frz o (.lst vs))) ∨ ∃ (o : Obj) (its : Array Value) (n : Nat), k.K.lookup a = some o ∧ o.cls = .type "list" ∧ o.dict = none ∧ o.data = .seq its n ∧ its.size ≤ sizeLine ∧ Vals vs its.toList
theorem FroAt.sq {k : Ki} {H : Hp} {a : Addr} {vs : List V} (h : FroAt k H a vs) : SqL k.K H a vs := h.imp (fun h => .inr h) id

def keyV : D → Option Key
  | .int i => some (.inl i)
  | .str s => some (.inr s)
  | _ => none

mutual
inductive RepX (k : Ki) (P : Addr → Prop) (H : Hp) : V → D → Prop
  | non : RepX k P H .non .non
  | bl (b : Bool) : RepX k P H (.bl b) (.bl b)
  | int (i : Int) : RepX k P H (.int i) (.int i)
  | str (s : Str) : RepX k P H (.str s) (.str s)
  | tup {a : Addr} {vs : List V} {ds : List D} : SqT k.K H a vs → RepL k P H vs ds → RepX k P H (.ref a) (.tup ds)
  | fro {a : Addr} {vs : List V} {ds : List D} : FroAt k H a vs → RepL k P H vs ds → RepX k P H (.ref a) (.fro ds)
  | lst {a : Addr} {vs : List V} {ds : List D} : LstAt k P H a vs → RepL k P H vs ds → RepX k P H (.ref a) (.lst ds)
  | dic {a : Addr} {kvs : List (Key × V)} {ks ds : List D} : H a = some (.dK kvs) → ¬ P a → ks.map keyV = kvs.map (fun p => some p.1) → RepL k P H (kvs.map (·.2)) ds → RepX k P H (.ref a) (.dic ks ds)
  | set {a : Addr} {L : List (Addr × List Int)} {rs : List (List Int)} {ds : List D} : H a = some (SetTO k.P k.w a L) → ¬ P a → (∀ p ∈ L, SqT k.K H p.1 (p.2.map V.int)) → (∀ r, r ∈ L.map (·.2) ↔ r ∈ rs) → rs.Nodup → ds = rs.map rowD → RepX k P H (.ref a) (.set ds)
  | ins {a dx : Addr} {c : Nat} {fs : List (Str × V)} {ids : List Nat} {ds : List D} : H a = some (.ins (k.ca c) dx fs) → ¬ P a → fs.map (·.1) = ids.map k.fd → RepL k P H (fs.map (·.2)) ds → RepX k P H (.ref a) (.ins c ids ds)
inductive RepL (k : Ki) (P : Addr → Prop) (H : Hp) : List V → List D → Prop
  | nil : RepL k P H [] []
  | cons {v : V} {d : D} {vs : List V} {ds : List D} : RepX k P H v d → RepL k P H vs ds → RepL k P H (v :: vs) (d :: ds)
end

/-- what is not in P stands -/
def Ext (P : Addr → Prop) (H H' : Hp) : Prop := ∀ a o, H a = some o → ¬ P a → H' a = some o
/-- what is in P may be written -/
def Pm (P : Addr → Prop) (H : Hp) : Prop := ∀ a, P a → Mut (H a)

section
variable {k : Ki} {P P' : Addr → Prop} {H H' : Hp}
theorem sqt_mono {K : PySem.W.Frag} {a : Addr} {vs : List V} (e : Ext P H H') (pm : Pm P H) (h : SqT K H a vs) : SqT K H' a vs := by
  rcases h with (h | ⟨o, h⟩) | h
  · exact .inl (.inl (e a _ h fun q => by have := pm a q; rw [h] at this; exact this))
  · exact .inl (.inr ⟨o, e a _ h fun q => by have := pm a q; rw [h] at this; exact this⟩)
  · exact .inr h
theorem LstAt.mono {a : Addr} {vs : List V} (e : Ext P H H') (pm : Pm P H) (hp : ∀ a, P' a → P a ∨ H a = none) (h : LstAt k P H a vs) : LstAt k P' H' a vs := by
  obtain ⟨h, n⟩ := h
  refine ⟨e a _ h n, fun q => ?_⟩
  rcases hp a q with q | q
  · exact n q
  · rw [h] at q; cases q
theorem frz_mono {a : Addr} {o : Obj} {u : HO} (e : Ext P H H') (pm : Pm P H) (h : H a = some (.frz o u)) : H' a = some (.frz o u) := e a _ h fun q => by have := pm a q; rw [h] at this; exact this
theorem fro_mono {a : Addr} {vs : List V} (e : Ext P H H') (pm : Pm P H) (h : FroAt k H a vs) : FroAt k H' a vs := h.imp (fun ⟨o, h⟩ => ⟨o, frz_mono e pm h⟩) id
theorem notin_mono {a : Addr} {o : HO} (hp : ∀ a, P' a → P a ∨ H a = none) (h : H a = some o) (n : ¬ P a) : ¬ P' a := fun q => by
  rcases hp a q with q | q
  · exact n q
  · rw [h] at q; cases q
mutual
theorem RepX.mono (e : Ext P H H') (pm : Pm P H) (hp : ∀ a, P' a → P a ∨ H a = none) : ∀ {v : V} {d : D}, RepX k P H v d → RepX k P' H' v d
  | _, _, .non => .non
  | _, _, .bl b => .bl b
  | _, _, .int i => .int i
  | _, _, .str s => .str s
  | _, _, .tup h r => .tup (sqt_mono e pm h) (RepL.mono e pm hp r)
  | _, _, .fro h r => .fro (fro_mono e pm h) (RepL.mono e pm hp r)
  | _, _, .lst h r => .lst (LstAt.mono e pm hp h) (RepL.mono e pm hp r)
  | _, _, .dic h n hk r => .dic (e _ _ h n) (notin_mono hp h n) hk (RepL.mono e pm hp r)
  | _, _, .set h n ht hl hn hd => .set (e _ _ h n) (notin_mono hp h n) (fun p q => sqt_mono e pm (ht p q)) hl hn hd
  | _, _, .ins h n hk r => .ins (e _ _ h n) (notin_mono hp h n) hk (RepL.mono e pm hp r)
theorem RepL.mono (e : Ext P H H') (pm : Pm P H) (hp : ∀ a, P' a → P a ∨ H a = none) : ∀ {vs : List V} {ds : List D}, RepL k P H vs ds → RepL k P' H' vs ds
  | _, _, .nil => .nil
  | _, _, .cons h r => .cons (RepX.mono e pm hp h) (RepL.mono e pm hp r)
end
mutual
theorem RepX.imm : ∀ {v : V} {d : D}, RepX k P H v d → d.imm = true → RepX k P' H v d
  | _, _, .non, _ => .non
  | _, _, .bl b, _ => .bl b
  | _, _, .int i, _ => .int i
  | _, _, .str s, _ => .str s
  | _, _, .tup h r, e => .tup h (RepL.imm r (by simpa [D.imm] using e))
  | _, _, .fro h r, e => .fro h (RepL.imm r (by simpa [D.imm] using e))
  | _, _, .lst _ _, e => by simp [D.imm] at e
  | _, _, .dic _ _ _ _, e => by simp [D.imm] at e
  | _, _, .set _ _ _ _ _ _, e => by simp [D.imm] at e
  | _, _, .ins _ _ _ _, e => by simp [D.imm] at e
theorem RepL.imm : ∀ {vs : List V} {ds : List D}, RepL k P H vs ds → D.immL ds = true → RepL k P' H vs ds
  | _, _, .nil, _ => .nil
  | _, _, .cons h r, e => by
    simp only [D.immL, Bool.and_eq_true] at e
    exact .cons (RepX.imm h e.1) (RepL.imm r e.2)
end
theorem Ext.refl : Ext P H H := fun _ _ h _ => h
theorem RepX.sub (hp : ∀ a, P' a → P a) {v : V} {d : D} (pm : Pm P H) (h : RepX k P H v d) : RepX k P' H v d := h.mono Ext.refl pm fun a q => .inl (hp a q)
theorem RepL.sub (hp : ∀ a, P' a → P a) {vs : List V} {ds : List D} (pm : Pm P H) (h : RepL k P H vs ds) : RepL k P' H vs ds := h.mono Ext.refl pm fun a q => .inl (hp a q)
theorem same_ext (h : Same H H') : Ext P H H' := fun a o e _ => h a o e
theorem RepL.length : ∀ {vs : List V} {ds : List D}, RepL k P H vs ds → vs.length = ds.length
  | _, _, .nil => rfl
  | _, _, .cons _ r => congrArg Nat.succ (RepL.length r)
theorem RepL.get : ∀ {vs : List V} {ds : List D} {i : Nat} {d : D}, RepL k P H vs ds → ds[i]? = some d → ∃ v, vs[i]? = some v ∧ RepX k P H v d
  | _, _, _, _, .nil, e => by simp at e
  | _, _, 0, _, .cons h _, e => by simp at e; subst e; exact ⟨_, rfl, h⟩
  | _, _, i + 1, d, .cons _ r, e => by
    obtain ⟨v, h1, h2⟩ := RepL.get (i := i) (d := d) r (by simpa using e)
    exact ⟨v, by simpa using h1, h2⟩
theorem RepL.getV : ∀ {vs : List V} {ds : List D} {i : Nat} {v : V}, RepL k P H vs ds → vs[i]? = some v → ∃ d, ds[i]? = some d ∧ RepX k P H v d
  | _, _, _, _, .nil, e => by simp at e
  | _, _, 0, _, .cons h _, e => by simp at e; subst e; exact ⟨_, rfl, h⟩
  | _, _, i + 1, d, .cons _ r, e => by
    obtain ⟨v, h1, h2⟩ := RepL.getV (i := i) (v := d) r (by simpa using e)
    exact ⟨v, by simpa using h1, h2⟩
theorem RepL.append : ∀ {vs ws : List V} {ds es : List D}, RepL k P H vs ds → RepL k P H ws es → RepL k P H (vs ++ ws) (ds ++ es)
  | _, _, _, _, .nil, s => s
  | _, _, _, _, .cons h r, s => .cons h (RepL.append r s)
theorem RepL.take : ∀ {vs : List V} {ds : List D} (n : Nat), RepL k P H vs ds → RepL k P H (vs.take n) (ds.take n)
  | _, _, 0, _ => .nil
  | _, _, _ + 1, .nil => .nil
  | _, _, n + 1, .cons h r => .cons h (RepL.take n r)
theorem RepL.drop : ∀ {vs : List V} {ds : List D} (n : Nat), RepL k P H vs ds → RepL k P H (vs.drop n) (ds.drop n)
  | _, _, 0, r => r
  | _, _, _ + 1, .nil => .nil
  | _, _, n + 1, .cons _ r => RepL.drop n r
theorem RepL.reverse {vs : List V} {ds : List D} (h : RepL k P H vs ds) : RepL k P H vs.reverse ds.reverse := by
  induction vs generalizing ds with
  | nil => cases h; exact .nil
  | cons v vs ih =>
    cases h with
    | cons h r => rw [List.reverse_cons, List.reverse_cons]; exact (ih r).append (.cons h .nil)
theorem RepL.rep {vs : List V} {ds : List D} (h : RepL k P H vs ds) : ∀ n : Nat, RepL k P H (List.replicate n vs).flatten (List.replicate n ds).flatten
  | 0 => .nil
  | n + 1 => by
    rw [List.replicate_succ, List.replicate_succ, List.flatten_cons, List.flatten_cons]
    exact h.append (h.rep n)
/-- gInts -/
theorem RepX.int_inv {v : V} {i : Int} (h : RepX k P H v (.int i)) : v = .int i := by cases h; rfl
theorem RepX.bl_inv {v : V} {b : Bool} (h : RepX k P H v (.bl b)) : v = .bl b := by cases h; rfl
theorem RepX.str_inv {v : V} {s : Str} (h : RepX k P H v (.str s)) : v = .str s := by cases h; rfl
theorem RepX.non_inv {v : V} (h : RepX k P H v .non) : v = .non := by cases h; rfl
theorem RepL.ints_inv : ∀ {vs : List V} {ds : List D} {ns : List Int}, RepL k P H vs ds → gInts ds = some ns → vs = ns.map V.int
  | _, _, _, .nil, e => by simp [gInts] at e; subst e; rfl
  | _, _, ns, .cons h r, e => by
    cases h with
    | int i =>
      simp only [gInts, Option.map_eq_some_iff] at e
      obtain ⟨ms, e1, rfl⟩ := e
      rw [RepL.ints_inv r e1]; rfl
    | _ => simp [gInts] at e
theorem RepL.bools_inv : ∀ {vs : List V} {ds : List D} {ns : List Bool}, RepL k P H vs ds → gBools ds = some ns → vs = ns.map V.bl
  | _, _, _, .nil, e => by simp [gBools] at e; subst e; rfl
  | _, _, ns, .cons h r, e => by
    cases h with
    | bl i =>
      simp only [gBools, Option.map_eq_some_iff] at e
      obtain ⟨ms, e1, rfl⟩ := e
      rw [RepL.bools_inv r e1]; rfl
    | _ => simp [gBools] at e
theorem repL_ints (ns : List Int) : RepL k P H (ns.map V.int) (intsD ns) := by
  induction ns with
  | nil => exact .nil
  | cons n ns ih => exact .cons (.int n) ih
end
end Py
end
section
set_option Elab.async false
set_option linter.all false
set_option maxRecDepth 100000
set_option maxHeartbeats 1000000
namespace Py
open PySem PySem.Spec PyProof.Rows L2

mutual
inductive RepM (k : Ki) (P : Addr → Prop) (H : Hp) : V → M → List Addr → Prop
  | leaf {v : V} {d : D} : RepX k P H v d → RepM k P H v (.leaf d) []
  | lst {a : Addr} {vs : List V} {ms : List M} {as : List Addr} : H a = some (.lst vs) → RepMs k P H vs ms as → RepM k P H (.ref a) (.lst ms) (a :: as)
  | dic {a : Addr} {kvs : List (Key × V)} {ks : List D} {ms : List M} {as : List Addr} : H a = some (.dK kvs) → ks.map keyV = kvs.map (fun p => some p.1) → RepMs k P H (kvs.map (·.2)) ms as → RepM k P H (.ref a) (.dic ks ms) (a :: as)
  | ins {a dx : Addr} {c : Nat} {fs : List (Str × V)} {ids : List Nat} {ms : List M} {as : List Addr} : H a = some (.ins (k.ca c) dx fs) → fs.map (·.1) = ids.map k.fd → RepMs k P H (fs.map (·.2)) ms as → RepM k P H (.ref a) (.ins c ids ms) (a :: as)
inductive RepMs (k : Ki) (P : Addr → Prop) (H : Hp) : List V → List M → List Addr → Prop
  | nil : RepMs k P H [] [] []
  | cons {v : V} {m : M} {vs : List V} {ms : List M} {as bs : List Addr} : RepM k P H v m as → RepMs k P H vs ms bs → RepMs k P H (v :: vs) (m :: ms) (as ++ bs)
end
section
variable {k : Ki} {P P' : Addr → Prop} {H H' : Hp}
mutual
theorem RepM.mono (e : Ext P H H') (pm : Pm P H) (hp : ∀ a, P' a → P a ∨ H a = none) : ∀ {v : V} {m : M} {as : List Addr}, (∀ a ∈ as, H' a = H a) → RepM k P H v m as → RepM k P' H' v m as
  | _, _, _, _, .leaf h => .leaf (h.mono e pm hp)
  | _, _, _, s, .lst h r => .lst ((s _ List.mem_cons_self).trans h) (RepMs.mono e pm hp (fun a q => s a (List.mem_cons_of_mem _ q)) r)
  | _, _, _, s, .dic h hk r => .dic ((s _ List.mem_cons_self).trans h) hk (RepMs.mono e pm hp (fun a q => s a (List.mem_cons_of_mem _ q)) r)
  | _, _, _, s, .ins h hk r => .ins ((s _ List.mem_cons_self).trans h) hk (RepMs.mono e pm hp (fun a q => s a (List.mem_cons_of_mem _ q)) r)
theorem RepMs.mono (e : Ext P H H') (pm : Pm P H) (hp : ∀ a, P' a → P a ∨ H a = none) : ∀ {v : List V} {m : List M} {as : List Addr}, (∀ a ∈ as, H' a = H a) → RepMs k P H v m as → RepMs k P' H' v m as
  | _, _, _, _, .nil => .nil
  | _, _, _, s, .cons h r => .cons (RepM.mono e pm hp (fun a q => s a (List.mem_append_left _ q)) h) (RepMs.mono e pm hp (fun a q => s a (List.mem_append_right _ q)) r)
end
mutual
theorem RepM.fz (pm : Pm P H) (hp : ∀ a, P' a → P a) : ∀ {v : V} {m : M} {as : List Addr}, (∀ a ∈ as, ¬ P' a) → RepM k P H v m as → RepX k P' H v m.fz
  | _, _, _, _, .leaf h => h.sub hp pm
  | _, _, _, s, .lst h r => .lst ⟨h, s _ List.mem_cons_self⟩ (RepMs.fz pm hp (fun a q => s a (List.mem_cons_of_mem _ q)) r)
  | _, _, _, s, .dic h hk r => .dic h (s _ List.mem_cons_self) hk (RepMs.fz pm hp (fun a q => s a (List.mem_cons_of_mem _ q)) r)
  | _, _, _, s, .ins h hk r => .ins h (s _ List.mem_cons_self) hk (RepMs.fz pm hp (fun a q => s a (List.mem_cons_of_mem _ q)) r)
theorem RepMs.fz (pm : Pm P H) (hp : ∀ a, P' a → P a) : ∀ {v : List V} {m : List M} {as : List Addr}, (∀ a ∈ as, ¬ P' a) → RepMs k P H v m as → RepL k P' H v (M.fzL m)
  | _, _, _, _, .nil => .nil
  | _, _, _, s, .cons h r => .cons (RepM.fz pm hp (fun a q => s a (List.mem_append_left _ q)) h) (RepMs.fz pm hp (fun a q => s a (List.mem_append_right _ q)) r)
end
theorem RepM.there {v : V} {m : M} {as : List Addr} (h : RepM k P H v m as) : ∀ a ∈ as, ∃ o, H a = some o := by
  revert h
  exact RepM.rec (k := k) (P := P) (H := H) (motive_1 := fun v m as _ => ∀ a ∈ as, ∃ o, H a = some o) (motive_2 := fun v m as _ => ∀ a ∈ as, ∃ o, H a = some o)
    (fun _ a q => by cases q) (fun h _ ih a q => (List.mem_cons.mp q).elim (fun e => ⟨_, e ▸ h⟩) (ih a))
    (fun h _ _ ih a q => (List.mem_cons.mp q).elim (fun e => ⟨_, e ▸ h⟩) (ih a))
    (fun h _ _ ih a q => (List.mem_cons.mp q).elim (fun e => ⟨_, e ▸ h⟩) (ih a))
    (fun a q => by cases q) (fun _ _ i1 i2 a q => (List.mem_append.mp q).elim (i1 a) (i2 a))
theorem RepM.mut {v : V} {m : M} {as : List Addr} (h : RepM k P H v m as) : ∀ a ∈ as, Mut (H a) := by
  revert h
  exact RepM.rec (k := k) (P := P) (H := H) (motive_1 := fun v m as _ => ∀ a ∈ as, Mut (H a)) (motive_2 := fun v m as _ => ∀ a ∈ as, Mut (H a))
    (fun _ a q => by cases q) (fun h _ ih a q => (List.mem_cons.mp q).elim (fun e => by rw [e, h]; trivial) (ih a))
    (fun h _ _ ih a q => (List.mem_cons.mp q).elim (fun e => by rw [e, h]; trivial) (ih a))
    (fun h _ _ ih a q => (List.mem_cons.mp q).elim (fun e => by rw [e, h]; trivial) (ih a))
    (fun a q => by cases q) (fun _ _ i1 i2 a q => (List.mem_append.mp q).elim (i1 a) (i2 a))
theorem RepMs.leaves {vs : List V} {ds : List D} (h : RepL k P H vs ds) : RepMs k P H vs (ds.map .leaf) [] := by
  induction vs generalizing ds with
  | nil => cases h; exact .nil
  | cons v vs ih => cases h with
    | cons h r => exact .cons (as := []) (.leaf h) (ih r)
end

/-! ### the frame's slots -/
abbrev Fp := Nat → List Addr
def Own (F : Addr → Prop) (fp : Fp) : Addr → Prop := fun a => F a ∨ ∃ i, a ∈ fp i
def SlotOk (k : Ki) (P : Addr → Prop) (H : Hp) (v : Option (Option V)) (as : List Addr) : Option Slot → Prop
  | some (.sh d) => (∃ x, v = some (some x) ∧ RepX k P H x d) ∧ as = []
  | some (.ow m) => ∃ x, v = some (some x) ∧ RepM k P H x m as
  | _ => as = []
structure EnvOk (k : Ki) (F : Addr → Prop) (σ : St) (H : Hp) (G : Env) (fp : Fp) : Prop where
  len : σ.length = G.length
  slot : ∀ i, SlotOk k (Own F fp) H σ[i]? (fp i) G[i]?
  nd : ∀ i, (fp i).Nodup
  dj : ∀ i j a, a ∈ fp i → a ∈ fp j → i = j
  df : ∀ i a, a ∈ fp i → ¬ F a
  pm : Pm (Own F fp) H
/-- from a state to a later one -/
structure Tr (fp : Fp) (H : Hp) (fp' : Fp) (H' : Hp) : Prop where
  keep : ∀ a o, H a = some o → (∀ i, a ∉ fp i) → H' a = some o
  new : ∀ i a, a ∈ fp' i → (∃ j, a ∈ fp j) ∨ H a = none
  stay : ∀ a, H' a = none → H a = none
theorem Tr.refl (fp : Fp) (H : Hp) : Tr fp H fp H := ⟨fun _ _ h _ => h, fun i _ h => .inl ⟨i, h⟩, fun _ h => h⟩
theorem Tr.trans {fp fp1 fp2 : Fp} {H H1 H2 : Hp} (a : Tr fp H fp1 H1) (b : Tr fp1 H1 fp2 H2) : Tr fp H fp2 H2 where
  stay := fun x h => a.stay x (b.stay x h)
  keep := fun x o h n => b.keep x o (a.keep x o h n) fun i q => by
    rcases a.new i x q with ⟨j, q⟩ | q
    · exact n j q
    · rw [h] at q; cases q
  new := fun i x q => by
    rcases b.new i x q with ⟨j, q⟩ | q
    · exact a.new j x q
    · by_cases hx : ∃ j, x ∈ fp j
      · exact .inl hx
      · right
        cases e : H x with
        | none => rfl
        | some o => rw [a.keep x o e fun i r => hx ⟨i, r⟩] at q; cases q
section
variable {k : Ki} {F : Addr → Prop} {σ : St} {H H' : Hp} {G : Env} {fp fp' : Fp}
theorem Tr.ext (t : Tr fp H fp' H') : Ext (Own F fp) H H' := fun a o h n => t.keep a o h fun i q => n (.inr ⟨i, q⟩)
theorem Tr.sub (t : Tr fp H fp' H') : ∀ a, Own F fp' a → Own F fp a ∨ H a = none := fun a q => by
  rcases q with q | ⟨i, q⟩
  · exact .inl (.inl q)
  · rcases t.new i a q with q | q
    · exact .inl (.inr q)
    · exact .inr q
theorem Tr.rep (t : Tr fp H fp' H') (pm : Pm (Own F fp) H) {v : V} {d : D} (h : RepX k (Own F fp) H v d) : RepX k (Own F fp') H' v d := h.mono t.ext pm t.sub
theorem Tr.repL (t : Tr fp H fp' H') (pm : Pm (Own F fp) H) {v : List V} {d : List D} (h : RepL k (Own F fp) H v d) : RepL k (Own F fp') H' v d := h.mono t.ext pm t.sub
/-- all that stood stands -/
theorem EnvOk.same (E : EnvOk k F σ H G fp) (s : Same H H') : EnvOk k F σ H' G fp := by
  have hm : ∀ i a, a ∈ fp i → H' a = H a := fun i a q => by
    have hs := E.slot i
    cases hg : G[i]? with
    | none => rw [hg] at hs; have : fp i = [] := hs; rw [this] at q; cases q
    | some sl =>
      rw [hg] at hs
      cases sl with
      | dead => have : fp i = [] := hs; rw [this] at q; cases q
      | sh d => have : fp i = [] := hs.2; rw [this] at q; cases q
      | ow m =>
        obtain ⟨x, _, r⟩ := hs
        obtain ⟨o, ho⟩ := r.there a q
        rw [ho, s a o ho]
  refine ⟨E.len, fun i => ?_, E.nd, E.dj, E.df, fun a q => ?_⟩
  · have hs := E.slot i
    cases hg : G[i]? with
    | none => rw [hg] at hs; exact hs
    | some sl =>
      rw [hg] at hs
      cases sl with
      | dead => exact hs
      | sh d => obtain ⟨⟨x, e, r⟩, z⟩ := hs; exact ⟨⟨x, e, r.mono (same_ext s) E.pm fun _ q => .inl q⟩, z⟩
      | ow m => obtain ⟨x, e, r⟩ := hs; exact ⟨x, e, r.mono (same_ext s) E.pm (fun _ q => .inl q) (hm i)⟩
  · have := E.pm a q
    cases e : H a with
    | none => rw [e] at this; exact this.elim
    | some o => rw [s a o e]; rw [e] at this; exact this
theorem same_tr (s : Same H H') : Tr fp H fp H' := ⟨fun a o h _ => s a o h, fun i _ h => .inl ⟨i, h⟩, fun a h => by
  cases e : H a with
  | none => rfl
  | some o => rw [s a o e] at h; cases h⟩
/-- a value as an expression gives it: clean, or borrowed -/
def VRep (k : Ki) (F : Addr → Prop) (fp : Fp) (H : Hp) (v : V) (d : D) (b : Bool) : Prop := RepX k (if b = true then F else Own F fp) H v d
theorem Pm.sub {P P' : Addr → Prop} (pm : Pm P H) (h : ∀ a, P' a → P a) : Pm P' H := fun a q => pm a (h a q)
theorem EnvOk.pmB (E : EnvOk k F σ H G fp) (b : Bool) : Pm (if b = true then F else Own F fp) H := by
  cases b with
  | true => exact E.pm.sub fun a q => .inl q
  | false => exact E.pm
theorem VRep.weak (E : EnvOk k F σ H G fp) {v : V} {d : D} {b c : Bool} (h : VRep k F fp H v d b) (hb : b = true → c = true) : VRep k F fp H v d c := by
  cases b with
  | true => rw [hb rfl]; exact h
  | false =>
    cases c with
    | false => exact h
    | true => exact RepX.sub (P := Own F fp) (fun a q => .inl q) E.pm h
theorem VRep.imm {v : V} {d : D} {b c : Bool} (h : VRep k F fp H v d b) (hi : d.imm = true) : VRep k F fp H v d c := RepX.imm h hi
/-- a borrowed value stays if all stands, a clean one always -/
theorem VRep.tr (E : EnvOk k F σ H G fp) (t : Tr fp H fp' H') {v : V} {d : D} {b : Bool} (h : VRep k F fp H v d b) (hb : b = true → Same H H') : VRep k F fp' H' v d b := by
  cases b with
  | true => exact RepX.mono (P := F) (same_ext (hb rfl)) (E.pm.sub fun a q => .inl q) (fun a q => .inl q) h
  | false => exact t.rep E.pm h
end
end Py
end
section
set_option Elab.async false
set_option linter.all false
set_option maxRecDepth 100000
set_option maxHeartbeats 4000000
namespace Py
open PySem PySem.Spec PyProof.Rows L2

theorem same_new {H : Hp} {p : Addr} {o : HO} (h : H p = none) : Same H (upd H p o) := fun b x e => by
  rw [upd_ne (ne_of_none e h)]
  exact e
theorem ssame {H : Hp} : Same H H := fun _ _ h => h

/-! ### t * k for k below 2 -/
theorem tuple_mul1 (l : Addr) (items : Array Value) (n : Nat) (dd : Option Addr) (sl : Array (Option Value)) (x : Int) (u : Tok) (c0 : (decide (x < -(2 ^ 63)) || decide (x ≥ 2 ^ 63)) = false) (c1 : (items.isEmpty || x == 1) = true) :
    Meets (Builtin.«tuple.__mul__» ⟨[.ref l, .int x u], []⟩) (fun _ R s => s.heap.get? l = some { cls := .type "tuple", dict := dd, data := .seq items n, slots := sl } ∧
      R (.ok (.ret (Value.ref l))) s) :=
  .of_wp fun prog w A R s h => by
    obtain ⟨hp, g, d, tk, os⟩ := s
    obtain ⟨hl, h⟩ := h
    have f1 := AutoSeq1.idx_int
    wp_walk using wpAny_loadPart' hl
    repeat (first
      | (refine wpAny_ite_false (decide_eq_false (by rw [c0]; exact Bool.false_ne_true)) ?_; wp_walk using wpAny_loadPart' hl)
      | (refine wpAny_ite_true (decide_eq_true (by rw [c1])) ?_; wp_walk using wpAny_loadPart' hl))
    exact ⟨_, rfl, h⟩
theorem tuple_mul0 (l : Addr) (items : Array Value) (n : Nat) (dd : Option Addr) (sl : Array (Option Value)) (x : Int) (u : Tok) (c0 : (decide (x < -(2 ^ 63)) || decide (x ≥ 2 ^ 63)) = false) (c1 : (items.isEmpty || x == 1) = false) (c2 : (decide (x ≤ 0) || items.isEmpty) = true) :
    Meets (Builtin.«tuple.__mul__» ⟨[.ref l, .int x u], []⟩) (fun _ R s => s.heap.get? l = some { cls := .type "tuple", dict := dd, data := .seq items n, slots := sl } ∧
      R (.ok (.ret (Value.ref s.heap.objs.size))) { s with heap := s.heap.push { cls := Value.type "tuple", data := Data.seq #[] }, toks := s.toks }) :=
  .of_wp fun prog w A R s h => by
    obtain ⟨hp, g, d, tk, os⟩ := s
    obtain ⟨hl, h⟩ := h
    have f1 := AutoSeq1.idx_int
    wp_walk using wpAny_loadPart' hl
    repeat (first
      | (refine wpAny_ite_false (decide_eq_false (by rw [c0]; exact Bool.false_ne_true)) ?_; wp_walk using wpAny_loadPart' hl)
      | (refine wpAny_ite_false (decide_eq_false (by rw [c1]; exact Bool.false_ne_true)) ?_; wp_walk using wpAny_loadPart' hl)
      | (refine wpAny_ite_true (decide_eq_true (by rw [c2])) ?_; wp_walk using wpAny_loadPart' hl))
    exact ⟨_, rfl, h⟩

def rRepA (K : PySem.W.Frag) : R2 := fun x y H Q => ∃ l k xs, x = .ref l ∧ y = .int k ∧ SqT K H l xs ∧ -1000 ≤ k ∧ k ≤ 1000 ∧ xs.length ≤ 1000 ∧
  ((xs = [] ∨ k = 1) → Q (.ref l) H) ∧ (¬ (xs = [] ∨ k = 1) → ∀ p, H p = none → Q (.ref p) (upd H p (.tup (List.replicate k.toNat xs).flatten)))
section
variable {X : Cx}
theorem op_repA : OpR X (binaryOp .Mult) (rRepA X.K) := by
  intro pins s σ H x y v u Q I rx ry h
  obtain ⟨l, k, xs, rfl, rfl, hT, h1, h2, hz, q1, q2⟩ := h
  by_cases big : xs ≠ [] ∧ 2 ≤ k
  · exact op_repT pins s σ H _ _ v u Q I rx ry ⟨l, k, xs, rfl, rfl, hT, big.1, big.2, h2, hz, q2 (fun z => z.elim big.1 (fun e => by omega))⟩
  cases rx
  obtain ⟨t, rfl⟩ := ry
  obtain ⟨its, r, ⟨⟨cls, dd, data, sl⟩, ho, hc, n, hd⟩, hs⟩ := I.tuple hT
  simp only at hc hd
  subst hc hd
  have c0 : (decide (k < -(2 ^ 63)) || decide (k ≥ 2 ^ 63)) = false := by
    rw [decide_eq_false (by omega), decide_eq_false (by omega)] <;> rfl
  have hi : its.toArray.isEmpty = xs.isEmpty := by cases r <;> rfl
  by_cases one : xs = [] ∨ k = 1
  · have c1 : (its.toArray.isEmpty || k == 1) = true := by
      rw [hi]
      rcases one with e | e
      · rw [e]; rfl
      · rw [e]; simp
    exact wpAny_binaryOp_repeat_ref (T := "tuple") (U := "int") (by decide) ⟨_, ho, rfl⟩ (fun s' => typeIs_int s' k t) noFill_tuple_mul F.fills_int_mul F.slot_int_rmul repeat_tuple F.slot_int_index.lookup
      (call_meets F.slot_int_rmul (typeIs_int s k t) F.entry_int_rmul (F.args_int_rmul_2 _ _) (int_rmul_tuple k t l its.toArray n dd sl)
        ⟨ho, rfl, ⟨_, ho, rfl⟩, call_meets F.slot_tuple_mul ⟨_, ho, rfl⟩ F.entry_tuple_mul (F.args_tuple_mul_2 _ _) (tuple_mul1 l its.toArray n dd sl k t c0 c1) ⟨ho, ⟨.ref l, H, I, rfl, q1 one⟩⟩⟩)
  · have ne : xs ≠ [] := fun e => one (.inl e)
    have n1 : k ≠ 1 := fun e => one (.inr e)
    have le : k ≤ 0 := by
      by_cases z : 2 ≤ k
      · exact absurd ⟨ne, z⟩ big
      · omega
    have hx : xs.isEmpty = false := by cases xs with
      | nil => exact absurd rfl ne
      | cons _ _ => rfl
    have c1 : (its.toArray.isEmpty || k == 1) = false := by rw [hi, hx]; simpa using n1
    have c2 : (decide (k ≤ 0) || its.toArray.isEmpty) = true := by rw [decide_eq_true le]; rfl
    refine wpAny_binaryOp_repeat_ref (T := "tuple") (U := "int") (by decide) ⟨_, ho, rfl⟩ (fun s' => typeIs_int s' k t) noFill_tuple_mul F.fills_int_mul F.slot_int_rmul repeat_tuple F.slot_int_index.lookup
      (call_meets F.slot_int_rmul (typeIs_int s k t) F.entry_int_rmul (F.args_int_rmul_2 _ _) (int_rmul_tuple k t l its.toArray n dd sl)
        ⟨ho, rfl, ⟨_, ho, rfl⟩, call_meets F.slot_tuple_mul ⟨_, ho, rfl⟩ F.entry_tuple_mul (F.args_tuple_mul_2 _ _) (tuple_mul0 l its.toArray n dd sl k t c0 c1 c2) ⟨ho, ?_⟩⟩)
    have e0 : (List.replicate k.toNat xs).flatten = [] := by rw [show k.toNat = 0 by omega]; rfl
    have q3 := q2 one
    rw [e0] at q3
    refine ⟨.ref s.heap.objs.size, _, I.laid (t' := s.toks) (o := .tup []) (fun b ob q => Heap.get?_push_of_some _ q) (Nat.le_refl _) ?_, rfl, q3 _ (I.hok.fresh (Nat.le_refl _))⟩
    exact ⟨Nat.zero_le _, [], .nil, IsTup.new _ _⟩

/-! ### two-place operations -/
def opOf : BinO → Operator
  | .add => .Add | .sub => .Sub | .mul => .Mult | .fdiv => .FloorDiv | .mod => .Mod | .pow => .Pow | .shl => .LShift | .shr => .RShift | .band => .BitAnd | .bor => .BitOr | .bxor => .BitXor
def rBin (k : Ki) (o : BinO) : R2 := fun x y H Q => ∃ P d1 d2 d, Pm P H ∧ RepX k P H x d1 ∧ RepX k P H y d2 ∧ binop o d1 d2 = some d ∧ ∀ H' v, Same H H' → RepX k P H' v d → Q v H'
theorem szLine_eq : szLine = sizeLine := by rw [sizeLine_eq]; rfl
theorem lenOk_le {n : Nat} (h : lenOk n = true) : n ≤ sizeLine := by
  have := of_decide_eq_true h
  rw [szLine_eq] at this
  exact this
theorem new_tup {k : Ki} {P : Addr → Prop} {H : Hp} {vs : List V} {ds : List D} {Q : VK} (pm : Pm P H) (r : RepL k P H vs ds) (q : ∀ H' v, Same H H' → RepX k P H' v (.tup ds) → Q v H') : ∀ p, H p = none → Q (.ref p) (upd H p (.tup vs)) := fun p np =>
  q _ _ (same_new np) (.tup (.inl (.inl upd_same)) (r.mono (same_ext (same_new np)) pm fun _ z => .inl z))
theorem pm_free {P : Addr → Prop} {H : Hp} (pm : Pm P H) {p : Addr} (np : H p = none) : ¬ P p := fun q => by have := pm p q; rw [np] at this; exact this
theorem new_lst {k : Ki} {P : Addr → Prop} {H : Hp} {vs : List V} {ds : List D} {Q : VK} (pm : Pm P H) (r : RepL k P H vs ds) (q : ∀ H' v, Same H H' → RepX k P H' v (.lst ds) → Q v H') : ∀ p, H p = none → Q (.ref p) (upd H p (.lst vs)) := fun p np =>
  q _ _ (same_new np) (.lst ⟨upd_same, pm_free pm np⟩ (r.mono (same_ext (same_new np)) pm fun _ z => .inl z))
theorem mulOk_ok {i j : Int} (h : mulOk i j = true) : CMul i j ∨ CMulW i j := by
  unfold mulOk at h
  simp only [Bool.or_eq_true, decide_eq_true_eq] at h
  rcases h with h | h | h
  · exact .inl (.inl (ltp_int h))
  · exact .inl (.inr (ltp_int h))
  · exact .inr h
theorem cpow_ok {i j : Int} (h : 0 ≤ j ∧ ltp j.natAbs 19 = true ∧ ltp i.natAbs 64 = true) : CPow i j := by
  have := ltp_int h.2.1
  exact ⟨h.1, by omega, ltp_lt h.2.2⟩
theorem op_bin {k : Ki} (hK : X.K = k.K) (o : BinO) : OpR X (binaryOp (opOf o)) (rBin k o) := by
  intro pins s σ H x y v u Q I rx ry ⟨P, d1, d2, d, pm, h1, h2, hb, q⟩
  have int : ∀ (i : Int), d = .int i → Q (.int i) H := fun i e => q H _ ssame (by rw [e]; exact .int i)
  cases o with
  | add =>
    cases h1 with
    | int i => cases h2 with
      | int j => exact op_add pins s σ H _ _ v u Q I rx ry ⟨i, j, rfl, rfl, int _ (by simpa [binop] using hb.symm)⟩
      | _ => simp [binop] at hb
    | tup ht r => cases h2 with
      | tup ht2 r2 =>
        simp only [binop] at hb
        split at hb
        · rename_i hz
          cases hb
          rw [← hK] at ht ht2
          refine op_catA pins s σ H _ _ v u Q I rx ry ⟨_, _, _, _, rfl, rfl, ht, ht2, ?_, fun e => ?_, fun _ e => ?_, fun _ _ => new_tup pm (r.append r2) q⟩
          · have := lenOk_le hz; rw [r.length, r2.length]; exact this
          · subst e; cases r; exact q H _ ssame (.tup (by rw [← hK]; exact ht2) r2)
          · subst e; cases r2; rw [List.append_nil] at q; exact q H _ ssame (.tup (by rw [← hK]; exact ht) r)
        · cases hb
      | _ => simp [binop] at hb
    | lst ht r => cases h2 with
      | lst ht2 r2 =>
        simp only [binop] at hb
        split at hb
        · rename_i hz
          cases hb
          refine op_cat pins s σ H _ _ v u Q I rx ry ⟨_, _, _, _, rfl, rfl, ht.1, ht2.1, ?_, new_lst pm (r.append r2) q⟩
          have := lenOk_le hz; rw [r.length, r2.length]; exact this
        · cases hb
      | _ => simp [binop] at hb
    | _ => simp [binop] at hb
  | sub => cases h1 <;> first | (simp [binop] at hb; done) | (cases h2 <;> first | (simp [binop] at hb; done) | exact op_sub pins s σ H _ _ v u Q I rx ry ⟨_, _, rfl, rfl, int _ (by simpa [binop] using hb.symm)⟩)
  | mul =>
    cases h1 with
    | int i => cases h2 with
      | int j =>
        simp only [binop] at hb
        split at hb
        · rename_i hz
          cases hb
          rcases mulOk_ok hz with hz | hz
          · exact op_mul pins s σ H _ _ v u Q I rx ry ⟨i, j, rfl, rfl, hz, int _ rfl⟩
          · exact op_mulW pins s σ H _ _ v u Q I rx ry ⟨i, j, rfl, rfl, hz, int _ rfl⟩
        · cases hb
      | _ => simp [binop] at hb
    | lst ht r => cases h2 with
      | int j =>
        simp only [binop] at hb
        split at hb
        · rename_i hz
          simp only [Bool.and_eq_true, decide_eq_true_eq] at hz
          obtain ⟨z1', z3⟩ := hz
          obtain ⟨z2, z1⟩ := ltp_int z1'
          cases hb
          refine op_rep pins s σ H _ _ v u Q I rx ry ⟨_, j, _, rfl, rfl, ht.1, by omega, by omega, ?_, new_lst pm (r.rep j.toNat) q⟩
          have := lenOk_le z3; rw [r.length]; exact this
        · cases hb
      | _ => simp [binop] at hb
    | tup ht r => cases h2 with
      | int j =>
        simp only [binop] at hb
        split at hb
        · rename_i hz
          simp only [Bool.and_eq_true, decide_eq_true_eq] at hz
          obtain ⟨z1', z3⟩ := hz
          have zb := ltp_int z1'
          have z1 : j ≤ 1000 := by omega
          have z2 : -1000 ≤ j := by omega
          cases hb
          refine op_repA pins s σ H _ _ v u Q I rx ry ⟨_, j, _, rfl, rfl, by rw [hK]; exact ht, z2, z1, by rw [r.length]; exact z3, fun e => ?_, fun _ => new_tup pm (r.rep j.toNat) q⟩
          rcases e with e | e
          · subst e; cases r
            refine q H _ ssame ?_
            rw [show rep j.toNat ([] : List D) = [] from by unfold rep; simp]
            exact .tup ht .nil
          · subst e
            refine q H _ ssame ?_
            rw [show ∀ z : List D, rep (1 : Int).toNat z = z from fun z => List.append_nil z]
            exact .tup ht r
        · cases hb
      | _ => simp [binop] at hb
    | _ => simp [binop] at hb
  | fdiv =>
    cases h1 <;> first | (simp [binop] at hb; done) | skip
    cases h2 <;> first | (simp [binop] at hb; done) | skip
    simp only [binop] at hb
    split at hb
    · rename_i hz
      simp only [Bool.and_eq_true, decide_eq_true_eq] at hz
      cases hb
      exact op_fdivW pins s σ H _ _ v u Q I rx ry ⟨_, _, rfl, rfl, hz, int _ rfl⟩
    · cases hb
  | mod =>
    cases h1 <;> first | (simp [binop] at hb; done) | skip
    cases h2 <;> first | (simp [binop] at hb; done) | skip
    simp only [binop] at hb
    split at hb
    · rename_i hz
      simp only [decide_eq_true_eq] at hz
      cases hb
      exact op_mod pins s σ H _ _ v u Q I rx ry ⟨_, _, rfl, rfl, hz, int _ rfl⟩
    · cases hb
  | pow =>
    cases h1 <;> first | (simp [binop] at hb; done) | skip
    cases h2 <;> first | (simp [binop] at hb; done) | skip
    simp only [binop] at hb
    split at hb
    · rename_i hz
      simp only [Bool.and_eq_true, decide_eq_true_eq] at hz
      cases hb
      exact op_pow pins s σ H _ _ v u Q I rx ry ⟨_, _, rfl, rfl, cpow_ok hz, int _ rfl⟩
    · cases hb
  | shl =>
    cases h1 <;> first | (simp [binop] at hb; done) | skip
    cases h2 <;> first | (simp [binop] at hb; done) | skip
    simp only [binop] at hb
    split at hb
    · rename_i hz
      simp only [Bool.and_eq_true, decide_eq_true_eq] at hz
      cases hb
      exact op_shl pins s σ H _ _ v u Q I rx ry ⟨_, _, rfl, rfl, cpow_ok hz, int _ rfl⟩
    · cases hb
  | shr =>
    cases h1 <;> first | (simp [binop] at hb; done) | skip
    cases h2 <;> first | (simp [binop] at hb; done) | skip
    simp only [binop] at hb
    split at hb
    · rename_i hz
      simp only [decide_eq_true_eq] at hz
      cases hb
      exact op_shr pins s σ H _ _ v u Q I rx ry ⟨_, _, rfl, rfl, hz, int _ rfl⟩
    · cases hb
  | band => cases h1 <;> first | (simp [binop] at hb; done) | (cases h2 <;> first | (simp [binop] at hb; done) | exact op_and pins s σ H _ _ v u Q I rx ry ⟨_, _, rfl, rfl, int _ (by simpa [binop] using hb.symm)⟩)
  | bor => cases h1 <;> first | (simp [binop] at hb; done) | (cases h2 <;> first | (simp [binop] at hb; done) | exact op_or pins s σ H _ _ v u Q I rx ry ⟨_, _, rfl, rfl, int _ (by simpa [binop] using hb.symm)⟩)
  | bxor => cases h1 <;> first | (simp [binop] at hb; done) | (cases h2 <;> first | (simp [binop] at hb; done) | exact op_xor pins s σ H _ _ v u Q I rx ry ⟨_, _, rfl, rfl, int _ (by simpa [binop] using hb.symm)⟩)
end
end Py
end
section
set_option Elab.async false
set_option linter.all false
set_option maxRecDepth 100000
set_option maxHeartbeats 4000000
namespace Py
open PySem PySem.Spec PyProof.Rows L2
mutual
theorem eqOk_lay : ∀ {n : Nat} {d : D}, D.eqOk n d = true → d.py.canLay0 = true ∧ d.py.depth ≤ n
  | n, .non, _ => ⟨rfl, Nat.zero_le _⟩
  | n, .bl _, _ => ⟨rfl, Nat.zero_le _⟩
  | n, .int _, _ => ⟨rfl, Nat.zero_le _⟩
  | n, .str s, h => ⟨by simpa [D.py, PyData.canLay0, PyData.strOk, D.eqOk] using h, Nat.zero_le _⟩
  | 0, .tup xs, h => by simp [D.eqOk] at h
  | n + 1, .tup xs, h => by
    have := eqOkL_lay (n := n) (ds := xs) (by simpa [D.eqOk] using h)
    simp only [D.py, PyData.canLay0, PyData.depth]
    exact ⟨this.1, Nat.succ_le_succ this.2⟩
  | 0, .lst xs, h => by simp [D.eqOk] at h
  | n + 1, .lst xs, h => by
    have := eqOkL_lay (n := n) (ds := xs) (by simpa [D.eqOk] using h)
    simp only [D.py, PyData.canLay0, PyData.depth]
    exact ⟨this.1, Nat.succ_le_succ this.2⟩
  | n, .dic _ _, h => by simp [D.eqOk] at h
  | n, .set _, h => by simp [D.eqOk] at h
  | n, .ins _ _ _, h => by simp [D.eqOk] at h
  | n, .fro _, h => by simp [D.eqOk] at h
  | n, .glo _, h => by simp [D.eqOk] at h
theorem eqOkL_lay : ∀ {n : Nat} {ds : List D}, D.eqOkL n ds = true → PyData.canLayAll0 (D.pyL ds) = true ∧ PyData.depthAll (D.pyL ds) ≤ n
  | n, [], _ => ⟨rfl, Nat.zero_le _⟩
  | n, d :: ds, h => by
    simp only [D.eqOkL, Bool.and_eq_true] at h
    have h1 := eqOk_lay h.1
    have h2 := eqOkL_lay h.2
    simp only [D.pyL, PyData.canLayAll0, PyData.depthAll, Bool.and_eq_true]
    exact ⟨⟨h1.1, h2.1⟩, by omega⟩
end
mutual
theorem eqOk_dp {k : Ki} {P : Addr → Prop} {H : Hp} : ∀ {n : Nat} {v : V} {d : D}, RepX k P H v d → D.eqOk n d = true → Dp k.K H v d.py
  | n, _, _, .non, _ => .non
  | n, _, _, .bl b, _ => .bl b
  | n, _, _, .int i, _ => .int i
  | n, _, _, .str s, _ => .str s
  | 0, _, _, .tup _ _, h => by simp [D.eqOk] at h
  | n + 1, _, _, .tup ht r, h => .tup ht (eqOkL_dp (n := n) r (by simpa [D.eqOk] using h))
  | 0, _, _, .lst _ _, h => by simp [D.eqOk] at h
  | n + 1, _, _, .lst ht r, h => .lst ht.sq (eqOkL_dp (n := n) r (by simpa [D.eqOk] using h))
  | n, _, _, .dic _ _ _ _, h => by simp [D.eqOk] at h
  | n, _, _, .set _ _ _ _ _ _, h => by simp [D.eqOk] at h
  | n, _, _, .ins _ _ _ _, h => by simp [D.eqOk] at h
  | n, _, _, .fro _ _, h => by simp [D.eqOk] at h
theorem eqOkL_dp {k : Ki} {P : Addr → Prop} {H : Hp} : ∀ {n : Nat} {vs : List V} {ds : List D}, RepL k P H vs ds → D.eqOkL n ds = true → DpAll k.K H vs (D.pyL ds)
  | n, _, _, .nil, _ => .nil
  | n, _, _, .cons h r, e => by
    simp only [D.eqOkL, Bool.and_eq_true] at e
    exact .cons (eqOk_dp h e.1) (eqOkL_dp r e.2)
end
mutual
theorem eqv_py : ∀ {n m : Nat} (a b : D), D.eqOk n a = true → D.eqOk m b = true → PyData.eqv a.py b.py = D.eqv a b
  | n, m, a, b, ha, hb => by
    cases a <;> first | (simp [D.eqOk] at ha; done) | skip
    all_goals (cases b <;> first | (simp [D.eqOk] at hb; done) | skip)
    all_goals first
      | (simp only [D.py, D.eqv, PyData.eqv]; done)
      | rfl
      | (rename_i xs ys
         cases n <;> first | (simp [D.eqOk] at ha; done) | skip
         cases m <;> first | (simp [D.eqOk] at hb; done) | skip
         simp only [D.py, D.eqv, PyData.eqv]
         exact eqvL_py xs ys (by simpa [D.eqOk] using ha) (by simpa [D.eqOk] using hb))
theorem eqvL_py : ∀ {n m : Nat} (a b : List D), D.eqOkL n a = true → D.eqOkL m b = true → PyData.eqvAll (D.pyL a) (D.pyL b) = D.eqvL a b
  | _, _, [], [], _, _ => rfl
  | _, _, [], _ :: _, _, _ => rfl
  | _, _, _ :: _, [], _, _ => rfl
  | _, _, x :: xs, y :: ys, ha, hb => by
    simp only [D.eqOkL, Bool.and_eq_true] at ha hb
    simp only [D.pyL, D.eqvL, PyData.eqvAll]
    rw [eqv_py x y ha.1 hb.1, eqvL_py xs ys ha.2 hb.2]
end
theorem any_py {n m : Nat} (a : D) (ha : D.eqOk n a = true) : ∀ xs : List D, D.eqOkL m xs = true → ((D.pyL xs).any fun y => PyData.eqv y a.py) = xs.any fun x => D.eqv x a
  | [], _ => rfl
  | x :: xs, h => by
    simp only [D.eqOkL, Bool.and_eq_true] at h
    simp only [D.pyL, List.any_cons]
    rw [eqv_py x a h.1 ha, any_py a ha xs h.2]
theorem shaped_of {d : D} (h : D.eqOk 64 d = true) : SeqAt.shaped d.py = true := by
  have := eqOk_lay h
  unfold SeqAt.shaped
  rw [this.1, Bool.true_and]
  exact decide_eq_true this.2

section
variable {X : Cx}
def cmpOf : CmpO → CmpOp
  | .eq => .Eq | .ne => .NotEq | .lt => .Lt | .le => .LtE | .gt => .Gt | .ge => .GtE | .isNone => .Is | .isntNone => .IsNot | .isTrue => .Is | .isFalse => .Is | .mem => .In | .nmem => .NotIn
theorem is_bool_gen {M : Model} {A : Around} {E : Value → Shared → Prop} {s : Shared} {Q : Value → Shared → Prop} {x : V} {v : Value} {b : Bool} (r : RelV x v) (h : Q (.bool (decide (x = .bl b))) s) : wpAny M A (compareOp .Is v (.bool b)) Q E s := by
  have f : ∀ {u : Value} {c : Bool}, (u == Value.bool b) = c → Q (.bool c) s → Q (.bool (u == Value.bool b)) s := fun e q => by rw [e]; exact q
  cases x with
  | non => cases r; exact wpAny_pure (f (c := false) rfl (by simpa using h))
  | bl c =>
    cases r
    by_cases e : c = b
    · subst e; exact wpAny_is_self rfl (by simpa using h)
    · exact wpAny_is_other rfl (fun z => e (Value.bool.inj z)) (by simpa [e] using h)
  | int i => obtain ⟨t, rfl⟩ := r; exact wpAny_pure (f (c := false) rfl (by simpa using h))
  | str i => obtain ⟨t, rfl⟩ := r; exact wpAny_pure (f (c := false) rfl (by simpa using h))
  | byt i => obtain ⟨t, rfl⟩ := r; exact wpAny_pure (f (c := false) rfl (by simpa using h))
  | flt i => obtain ⟨t, rfl⟩ := r; exact wpAny_pure (f (c := false) rfl (by simpa using h))
  | ref i => cases r; exact wpAny_pure (f (c := false) rfl (by simpa using h))
  | ty i => cases r; exact wpAny_pure (f (c := false) rfl (by simpa using h))
def rCmp (k : Ki) (o : CmpO) : R2 := fun x y H Q => ∃ P d1 d2 d, Pm P H ∧ RepX k P H x d1 ∧ RepX k P H y d2 ∧ cmpop o d1 d2 = some d ∧ ∀ v, RepX k P H v d → Q v H
theorem pyl_list (xs : List D) : D.py (.lst xs) = .list (D.pyL xs) := rfl
theorem key_rel {d : D} {key : Key} (h : keyV d = some key) {k : Ki} {P : Addr → Prop} {H : Hp} {v : V} (r : RepX k P H v d) : v = kV key := by
  cases r <;> simp [keyV] at h
  · subst h; rfl
  · subst h; rfl
theorem isKey_key {d : D} (h : d.isKey = true) : ∃ key, keyV d = some key := by
  cases d <;> simp [D.isKey] at h
  · exact ⟨_, rfl⟩
  · exact ⟨_, rfl⟩
theorem keyEq_iff {a b : D} {p q : Key} (ha : keyV a = some p) (hb : keyV b = some q) : keyEq a b = decide (p = q) := by
  cases a <;> simp [keyV] at ha <;> cases b <;> simp [keyV] at hb <;> subst ha <;> subst hb <;> simp [keyEq, Bool.beq_eq_decide_eq]
theorem dget_val {k : Ki} {P : Addr → Prop} {H : Hp} {x : D} {key : Key} (hx : keyV x = some key) : ∀ {ks ds : List D} {kvs : List (Key × V)}, ks.map keyV = kvs.map (fun p => some p.1) → RepL k P H (kvs.map (·.2)) ds →
    (dget ks ds x = none ∧ valV kvs key = none) ∨ ∃ d v, dget ks ds x = some d ∧ valV kvs key = some v ∧ RepX k P H v d
  | [], ds, [], _, r => by
    left
    exact ⟨by cases ds <;> rfl, rfl⟩
  | c :: ks, ds, [], e, _ => by simp at e
  | [], ds, p :: kvs, e, _ => by simp at e
  | c :: ks, ds, p :: kvs, e, r => by
    simp only [List.map_cons, List.cons.injEq] at e
    cases r with
    | cons r1 r2 =>
      rename_i d ds
      by_cases z : p.1 = key
      · right
        refine ⟨d, p.2, ?_, valV_pos z, r1⟩
        show (if keyEq c x = true then some d else dget ks ds x) = some d
        rw [keyEq_iff e.1 hx, if_pos (decide_eq_true z)]
      · have h1 : dget (c :: ks) (d :: ds) x = dget ks ds x := by
          show (if keyEq c x = true then some d else dget ks ds x) = _
          rw [keyEq_iff e.1 hx, if_neg (by simpa using z)]
        rw [h1, valV_neg z]
        exact dget_val hx e.2 r2
theorem op_cmp {k : Ki} (hK : X.K = k.K) (hu : X.A.units + 100 < cLine) (o : CmpO) : OpR X (compareOp (cmpOf o)) (rCmp k o) := by
  intro pins s σ H x y v u Q I rx ry ⟨P, d1, d2, d, pm, h1, h2, hb, q⟩
  have bl : ∀ (b : Bool), d = .bl b → Q (.bl b) H := fun b e => q _ (by rw [e]; exact .bl b)
  have eqs : ∀ {b : Bool}, eqd d1 d2 = some b → (∃ i j, x = .str i ∧ y = .str j ∧ b = (i == j)) ∨ (Dp X.K H x d1.py ∧ Dp X.K H y d2.py ∧ SeqAt.shaped d1.py = true ∧ SeqAt.shaped d2.py = true ∧ PyData.eqv d1.py d2.py = b) := fun {b} e => by
    unfold eqd at e
    split at e
    · rename_i i j
      cases h1; cases h2; cases e
      exact .inl ⟨i, j, rfl, rfl, rfl⟩
    · split at e
      · rename_i z
        rw [Bool.and_eq_true] at z
        cases e
        rw [hK]
        exact .inr ⟨eqOk_dp h1 z.1, eqOk_dp h2 z.2, shaped_of z.1, shaped_of z.2, eqv_py _ _ z.1 z.2⟩
      · cases e
  cases o with
  | eq =>
    obtain ⟨b, e, e2⟩ := Option.map_eq_some_iff.mp (show (eqd d1 d2).map D.bl = some d from hb)
    rcases eqs e with ⟨i, j, rfl, rfl, rfl⟩ | ⟨a1, a2, a3, a4, a5⟩
    · exact op_eq pins s σ H _ _ v u Q I rx ry ⟨rfl, by rw [dec_str]; exact bl _ e2.symm⟩
    · exact op_eqD (by omega) pins s σ H _ _ v u Q I rx ry ⟨_, _, a1, a2, a3, a4, by rw [a5]; exact bl _ e2.symm⟩
  | ne =>
    obtain ⟨b, e, e2⟩ := Option.map_eq_some_iff.mp (show (eqd d1 d2).map (fun k => D.bl (!k)) = some d from hb)
    rcases eqs e with ⟨i, j, rfl, rfl, rfl⟩ | ⟨a1, a2, a3, a4, a5⟩
    · exact op_ne pins s σ H _ _ v u Q I rx ry ⟨rfl, by rw [dec_str]; exact bl _ e2.symm⟩
    · exact op_neD (by omega) pins s σ H _ _ v u Q I rx ry ⟨_, _, a1, a2, a3, a4, by rw [a5]; exact bl _ e2.symm⟩
  | lt => cases h1 <;> first | (simp [cmpop] at hb; done) | (cases h2 <;> first | (simp [cmpop] at hb; done) | exact op_lt pins s σ H _ _ v u Q I rx ry ⟨_, _, rfl, rfl, bl _ (by simpa [cmpop] using hb.symm)⟩)
  | le => cases h1 <;> first | (simp [cmpop] at hb; done) | (cases h2 <;> first | (simp [cmpop] at hb; done) | exact op_le pins s σ H _ _ v u Q I rx ry ⟨_, _, rfl, rfl, bl _ (by simpa [cmpop] using hb.symm)⟩)
  | gt => cases h1 <;> first | (simp [cmpop] at hb; done) | (cases h2 <;> first | (simp [cmpop] at hb; done) | exact op_gt pins s σ H _ _ v u Q I rx ry ⟨_, _, rfl, rfl, bl _ (by simpa [cmpop] using hb.symm)⟩)
  | ge => cases h1 <;> first | (simp [cmpop] at hb; done) | (cases h2 <;> first | (simp [cmpop] at hb; done) | exact op_ge pins s σ H _ _ v u Q I rx ry ⟨_, _, rfl, rfl, bl _ (by simpa [cmpop] using hb.symm)⟩)
  | isNone =>
    cases h2 <;> first | (simp [cmpop] at hb; done) | skip
    refine op_isN pins s σ H _ _ v u Q I rx ry ⟨rfl, ?_⟩
    cases h1 <;> exact bl _ (by simpa [cmpop] using hb.symm)
  | isntNone =>
    cases h2 <;> first | (simp [cmpop] at hb; done) | skip
    refine op_notN pins s σ H _ _ v u Q I rx ry ⟨rfl, ?_⟩
    cases h1 <;> exact bl _ (by simpa [cmpop] using hb.symm)
  | isTrue =>
    cases h2 with
    | bl b =>
      cases b with
      | false => cases d1 <;> simp [cmpop] at hb
      | true =>
        cases ry
        refine is_bool_gen rx ⟨.bl _, H, I, rfl, ?_⟩
        cases h1 with
        | bl c => cases c <;> exact bl _ (by simpa [cmpop] using hb.symm)
        | _ => exact bl _ (by simpa [cmpop] using hb.symm)
    | _ => cases d1 <;> simp [cmpop] at hb
  | isFalse =>
    cases h2 with
    | bl b =>
      cases b with
      | true => cases d1 <;> simp [cmpop] at hb
      | false =>
        cases ry
        refine is_bool_gen rx ⟨.bl _, H, I, rfl, ?_⟩
        cases h1 with
        | bl c => cases c <;> exact bl _ (by simpa [cmpop] using hb.symm)
        | _ => exact bl _ (by simpa [cmpop] using hb.symm)
    | _ => cases d1 <;> simp [cmpop] at hb
  | mem =>
    cases h2 with
    | lst ht r =>
      simp only [cmpop] at hb
      split at hb
      · rename_i z
        unfold memOk at z
        rw [Bool.and_eq_true] at z
        cases hb
        have lay := eqOkL_lay z.2
        refine op_inD (by omega) pins s σ H _ _ v u Q I rx ry ⟨d1.py, _, by rw [hK]; exact eqOk_dp h1 z.1, .lst (by rw [hK]; exact ht.sq) (by rw [hK]; exact eqOkL_dp r z.2), shaped_of z.1, ?_, ?_⟩
        · exact shaped_of (d := .lst _) (by simpa [D.eqOk] using z.2)
        · rw [any_py _ z.1 _ z.2]; exact bl _ rfl
      · cases hb
    | tup ht r =>
      simp only [cmpop] at hb
      split at hb
      · rename_i z
        unfold memOk at z
        rw [Bool.and_eq_true] at z
        cases hb
        have lay := eqOkL_lay z.2
        have lay1 := eqOk_lay z.1
        obtain ⟨as, r1⟩ := Dp.reads I _ x v (by rw [hK]; exact eqOk_dp h1 z.1) rx
        obtain ⟨bs, r2⟩ := Dp.reads I (.tuple (D.pyL _)) _ u (Dp.tup (by rw [hK]; exact ht) (by rw [hK]; exact eqOkL_dp r z.2)) ry
        exact SeqAt.in_tuple_reads r2 r1 lay.1 lay1.1 (by omega) ⟨.bl _, H, I, rfl, by rw [any_py _ z.1 _ z.2]; exact bl _ rfl⟩
      · cases hb
    | dic ht hn hk r =>
      simp only [cmpop] at hb
      split at hb
      · rename_i z
        cases hb
        obtain ⟨key, ke⟩ := isKey_key z
        cases key_rel ke h1
        cases ry
        refine d_in (by omega) I (DGet.k ht) rx fun s' I' => ⟨.bl _, H, I', rfl, bl _ ?_⟩
        rcases dget_val ke hk r with ⟨e1, e2⟩ | ⟨d, v, e1, e2, _⟩ <;> rw [e1, e2] <;> rfl
      · cases hb
    | _ => simp [cmpop] at hb
  | nmem =>
    cases h2 with
    | lst ht r =>
      simp only [cmpop] at hb
      split at hb
      · rename_i z
        unfold memOk at z
        rw [Bool.and_eq_true] at z
        cases hb
        have lay := eqOkL_lay z.2
        refine op_notInD (by omega) pins s σ H _ _ v u Q I rx ry ⟨d1.py, _, by rw [hK]; exact eqOk_dp h1 z.1, .lst (by rw [hK]; exact ht.sq) (by rw [hK]; exact eqOkL_dp r z.2), shaped_of z.1, ?_, ?_⟩
        · exact shaped_of (d := .lst _) (by simpa [D.eqOk] using z.2)
        · rw [any_py _ z.1 _ z.2]; exact bl _ rfl
      · cases hb
    | tup ht r =>
      simp only [cmpop] at hb
      split at hb
      · rename_i z
        unfold memOk at z
        rw [Bool.and_eq_true] at z
        cases hb
        have lay := eqOkL_lay z.2
        have lay1 := eqOk_lay z.1
        obtain ⟨as, r1⟩ := Dp.reads I _ x v (by rw [hK]; exact eqOk_dp h1 z.1) rx
        obtain ⟨bs, r2⟩ := Dp.reads I (.tuple (D.pyL _)) _ u (Dp.tup (by rw [hK]; exact ht) (by rw [hK]; exact eqOkL_dp r z.2)) ry
        exact SeqAt.notIn_tuple_reads r2 r1 lay.1 lay1.1 (by omega) ⟨.bl _, H, I, rfl, by rw [any_py _ z.1 _ z.2]; exact bl _ rfl⟩
      · cases hb
    | dic ht hn hk r =>
      simp only [cmpop] at hb
      split at hb
      · rename_i z
        cases hb
        obtain ⟨key, ke⟩ := isKey_key z
        cases key_rel ke h1
        cases ry
        refine d_notIn (by omega) I (DGet.k ht) rx fun s' I' => ⟨.bl _, H, I', rfl, bl _ ?_⟩
        rcases dget_val ke hk r with ⟨e1, e2⟩ | ⟨d, v, e1, e2, _⟩ <;> rw [e1, e2] <;> rfl
      · cases hb
    | _ => simp [cmpop] at hb
end
end Py
end
section
set_option Elab.async false
set_option linter.all false
set_option maxRecDepth 100000
set_option maxHeartbeats 4000000
namespace Py
open PySem PySem.Spec PyProof.Rows L2

/-! ### rows by their code -/
theorem code_nn {B : Int} (hB : 0 < B) : ∀ {x : List Int}, TS.Bd B x → 0 ≤ TS.code B x ∧ TS.code B x < B ^ x.length
  | [], _ => by show (0 : Int) ≤ 0 ∧ (0 : Int) < B ^ 0; simp
  | a :: r, h => by
    obtain ⟨h0, h1⟩ := h a List.mem_cons_self
    obtain ⟨i0, i1⟩ := code_nn hB (x := r) fun m q => h m (List.mem_cons_of_mem _ q)
    have hp : (0 : Int) < B ^ r.length := Int.pow_pos hB
    show 0 ≤ a * B ^ r.length + TS.code B r ∧ a * B ^ r.length + TS.code B r < B ^ (r.length + 1)
    have e : B ^ (r.length + 1) = B * B ^ r.length := by rw [Int.pow_succ, Int.mul_comm]
    have m1 : 0 ≤ a * B ^ r.length := Int.mul_nonneg h0 (Int.le_of_lt hp)
    have m2 : (a + 1) * B ^ r.length ≤ B * B ^ r.length := Int.mul_le_mul_of_nonneg_right (by omega) (Int.le_of_lt hp)
    have m3 : (a + 1) * B ^ r.length = a * B ^ r.length + B ^ r.length := by rw [Int.add_mul, Int.one_mul]
    rw [e]
    omega
theorem code_lex {B : Int} (hB : 0 < B) : ∀ {x y : List Int}, TS.Bd B x → TS.Bd B y → x.length = y.length → (TS.code B x < TS.code B y ↔ lexLt x y = true)
  | [], [], _, _, _ => by show (0 : Int) < 0 ↔ lexLt [] [] = true; simp [lexLt]
  | [], _ :: _, _, _, e => by simp at e
  | _ :: _, [], _, _, e => by simp at e
  | a :: x, b :: y, hx, hy, e => by
    have e' : x.length = y.length := by simpa using e
    have hx' : TS.Bd B x := fun m q => hx m (List.mem_cons_of_mem _ q)
    have hy' : TS.Bd B y := fun m q => hy m (List.mem_cons_of_mem _ q)
    obtain ⟨x0, x1⟩ := code_nn hB hx'
    obtain ⟨y0, y1⟩ := code_nn hB hy'
    have hp : (0 : Int) < B ^ y.length := Int.pow_pos hB
    show a * B ^ x.length + TS.code B x < b * B ^ y.length + TS.code B y ↔ (if a = b then lexLt x y else decide (a < b)) = true
    rw [e'] at x1 ⊢
    by_cases h : a = b
    · subst h
      rw [if_pos rfl, ← code_lex hB hx' hy' e']
      omega
    · rw [if_neg h, decide_eq_true_eq]
      constructor
      · intro q
        by_cases l : a < b
        · exact l
        · have m2 : (b + 1) * B ^ y.length ≤ a * B ^ y.length := Int.mul_le_mul_of_nonneg_right (by omega) (Int.le_of_lt hp)
          have m3 : (b + 1) * B ^ y.length = b * B ^ y.length + B ^ y.length := by rw [Int.add_mul, Int.one_mul]
          omega
      · intro l
        have m2 : (a + 1) * B ^ y.length ≤ b * B ^ y.length := Int.mul_le_mul_of_nonneg_right (by omega) (Int.le_of_lt hp)
        have m3 : (a + 1) * B ^ y.length = a * B ^ y.length + B ^ y.length := by rw [Int.add_mul, Int.one_mul]
        omega
theorem lexLt_irr : ∀ x : List Int, lexLt x x = false
  | [] => rfl
  | a :: x => by show (if a = a then lexLt x x else _) = false; rw [if_pos rfl]; exact lexLt_irr x
theorem lexLt_tot : ∀ x y : List Int, lexLt x y = false → lexLt y x = false → x = y
  | [], [], _, _ => rfl
  | [], _ :: _, h, _ => by simp [lexLt] at h
  | _ :: _, [], _, h => by simp [lexLt] at h
  | a :: x, b :: y, h, h' => by
    simp only [lexLt] at h h'
    by_cases e : a = b
    · subst e
      rw [if_pos rfl] at h h'
      rw [lexLt_tot x y h h']
    · rw [if_neg e] at h
      rw [if_neg (Ne.symm e)] at h'
      have := of_decide_eq_false h
      have := of_decide_eq_false h'
      omega
theorem lexLt_trans : ∀ x y z : List Int, lexLt x y = true → lexLt y z = true → lexLt x z = true
  | [], [], _, h, _ => by simp [lexLt] at h
  | [], _ :: _, [], _, h => by simp [lexLt] at h
  | [], _ :: _, _ :: _, _, _ => rfl
  | _ :: _, [], _, h, _ => by simp [lexLt] at h
  | _ :: _, _ :: _, [], _, h => by simp [lexLt] at h
  | a :: x, b :: y, c :: z, h, h' => by
    simp only [lexLt] at h h' ⊢
    by_cases e : a = b
    · subst e
      rw [if_pos rfl] at h
      by_cases e' : a = c
      · subst e'
        rw [if_pos rfl] at h' ⊢
        exact lexLt_trans x y z h h'
      · rw [if_neg e'] at h' ⊢
        exact h'
    · rw [if_neg e] at h
      have h1 := of_decide_eq_true h
      by_cases e' : b = c
      · subst e'
        rw [if_neg e]
        exact h
      · rw [if_neg e'] at h'
        have h2 := of_decide_eq_true h'
        rw [if_neg (by omega)]
        exact decide_eq_true (by omega)
theorem lexLe_tot (x y : List Int) : lexLe x y = true ∨ lexLe y x = true := by
  unfold lexLe
  cases h : lexLt y x
  · exact .inl rfl
  · right
    cases h' : lexLt x y
    · rfl
    · have := lexLt_trans _ _ _ h h'
      rw [lexLt_irr] at this
      cases this
theorem lexLe_anti {x y : List Int} (h : lexLe x y = true) (h' : lexLe y x = true) : x = y := by
  unfold lexLe at h h'
  exact lexLt_tot x y (by simpa using h') (by simpa using h)
theorem lexLe_trans {x y z : List Int} (h : lexLe x y = true) (h' : lexLe y z = true) : lexLe x z = true := by
  unfold lexLe at h h' ⊢
  cases e : lexLt z x
  · rfl
  · exfalso
    by_cases e1 : lexLt z y = true
    · rw [e1] at h'; cases h'
    · have e1 : lexLt z y = false := by simpa using e1
      have e2 : lexLt y x = false := by simpa using h
      by_cases e3 : lexLt y z = true
      · have := lexLt_trans _ _ _ e3 e
        rw [e2] at this; cases this
      · have e3 : lexLt y z = false := by simpa using e3
        have := lexLt_tot _ _ e1 e3
        subst this
        rw [e] at e2; cases e2
theorem insRow_perm (x : List Int) : ∀ ys, (insRow x ys).Perm (x :: ys)
  | [] => .refl _
  | y :: ys => by
    show (if lexLe x y = true then x :: y :: ys else y :: insRow x ys).Perm _
    by_cases h : lexLe x y = true
    · rw [if_pos h]
    · rw [if_neg h]
      exact ((insRow_perm x ys).cons y).trans (.swap x y ys)
theorem insRow_sorted (x : List Int) : ∀ ys, ys.Pairwise (fun a b => lexLe a b = true) → (insRow x ys).Pairwise (fun a b => lexLe a b = true)
  | [], _ => List.pairwise_singleton _ _
  | y :: ys, h => by
    show (if lexLe x y = true then x :: y :: ys else y :: insRow x ys).Pairwise _
    obtain ⟨h1, h2⟩ := List.pairwise_cons.mp h
    by_cases e : lexLe x y = true
    · rw [if_pos e]
      refine List.pairwise_cons.mpr ⟨fun z hz => ?_, h⟩
      rcases List.mem_cons.mp hz with q | q
      · rw [q]; exact e
      · exact lexLe_trans e (h1 z q)
    · rw [if_neg e]
      refine List.pairwise_cons.mpr ⟨fun z hz => ?_, insRow_sorted x ys h2⟩
      rcases List.mem_cons.mp ((insRow_perm x ys).mem_iff.mp hz) with q | q
      · rw [q]; exact (lexLe_tot x y).resolve_left e
      · exact h1 z q
theorem sortRows_perm : ∀ xs, (sortRows xs).Perm xs
  | [] => .refl _
  | x :: xs => (insRow_perm x (sortRows xs)).trans ((sortRows_perm xs).cons x)
theorem sortRows_sorted : ∀ xs, (sortRows xs).Pairwise (fun a b => lexLe a b = true)
  | [] => .nil
  | x :: xs => insRow_sorted x _ (sortRows_sorted xs)
theorem sortRows_of {xs ys : List (List Int)} (p : ys.Perm xs) (s : ys.Pairwise (fun a b => lexLe a b = true)) : ys = sortRows xs :=
  List.Perm.eq_of_pairwise (fun a b _ _ h h' => lexLe_anti h h') s (sortRows_sorted xs) (p.trans (sortRows_perm xs).symm)
theorem insInt_perm (x : Int) : ∀ ys, (insInt x ys).Perm (x :: ys)
  | [] => .refl _
  | y :: ys => by
    show (if x ≤ y then x :: y :: ys else y :: insInt x ys).Perm _
    by_cases h : x ≤ y
    · rw [if_pos h]
    · rw [if_neg h]
      exact ((insInt_perm x ys).cons y).trans (.swap x y ys)
theorem insInt_sorted (x : Int) : ∀ ys, ys.Pairwise (· ≤ ·) → (insInt x ys).Pairwise (· ≤ ·)
  | [], _ => List.pairwise_singleton _ _
  | y :: ys, h => by
    show (if x ≤ y then x :: y :: ys else y :: insInt x ys).Pairwise _
    obtain ⟨h1, h2⟩ := List.pairwise_cons.mp h
    by_cases e : x ≤ y
    · rw [if_pos e]
      refine List.pairwise_cons.mpr ⟨fun z hz => ?_, h⟩
      rcases List.mem_cons.mp hz with q | q
      · rw [q]; exact e
      · exact Int.le_trans e (h1 z q)
    · rw [if_neg e]
      refine List.pairwise_cons.mpr ⟨fun z hz => ?_, insInt_sorted x ys h2⟩
      rcases List.mem_cons.mp ((insInt_perm x ys).mem_iff.mp hz) with q | q
      · rw [q]; omega
      · exact h1 z q
theorem sortInts_perm : ∀ xs, (sortInts xs).Perm xs
  | [] => .refl _
  | x :: xs => (insInt_perm x (sortInts xs)).trans ((sortInts_perm xs).cons x)
theorem sortInts_sorted : ∀ xs, (sortInts xs).Pairwise (· ≤ ·)
  | [] => .nil
  | x :: xs => insInt_sorted x _ (sortInts_sorted xs)
theorem sortInts_of {xs ys : List Int} (p : ys.Perm xs) (s : ys.Pairwise (· ≤ ·)) : ys = sortInts xs :=
  List.Perm.eq_of_pairwise (fun a b _ _ h h' => Int.le_antisymm h h') s (sortInts_sorted xs) (p.trans (sortInts_perm xs).symm)
theorem maxL_of {x : Int} {xs : List Int} : maxL (x :: xs) ∈ x :: xs ∧ ∀ y ∈ x :: xs, y ≤ maxL (x :: xs) := by
  show (xs.foldl (fun a b => if b > a then b else a) x) ∈ x :: xs ∧ ∀ y ∈ x :: xs, y ≤ (xs.foldl (fun a b => if b > a then b else a) x)
  induction xs generalizing x with
  | nil => exact ⟨List.mem_singleton_self _, fun y h => by rw [List.mem_singleton.mp h]; exact Int.le_refl _⟩
  | cons b xs ih =>
    rw [List.foldl_cons]
    obtain ⟨i1, i2⟩ := ih (x := if b > x then b else x)
    refine ⟨?_, fun y h => ?_⟩
    · rcases List.mem_cons.mp i1 with e | e
      · rw [e]
        by_cases l : b > x
        · rw [if_pos l]; simp
        · rw [if_neg l]; simp
      · exact List.mem_cons_of_mem _ (List.mem_cons_of_mem _ e)
    · have i0 := i2 _ List.mem_cons_self
      rcases List.mem_cons.mp h with e | h
      · subst e
        by_cases l : b > y
        · rw [if_pos l] at i0 ⊢; omega
        · rw [if_neg l] at i0 ⊢; omega
      · rcases List.mem_cons.mp h with e | h
        · subst e
          by_cases l : y > x
          · rw [if_pos l] at i0 ⊢; omega
          · rw [if_neg l] at i0 ⊢; omega
        · exact i2 y (List.mem_cons_of_mem _ h)
theorem minL_of {x : Int} {xs : List Int} : minL (x :: xs) ∈ x :: xs ∧ ∀ y ∈ x :: xs, minL (x :: xs) ≤ y := by
  show (xs.foldl (fun a b => if b < a then b else a) x) ∈ x :: xs ∧ ∀ y ∈ x :: xs, (xs.foldl (fun a b => if b < a then b else a) x) ≤ y
  induction xs generalizing x with
  | nil => exact ⟨List.mem_singleton_self _, fun y h => by rw [List.mem_singleton.mp h]; exact Int.le_refl _⟩
  | cons b xs ih =>
    rw [List.foldl_cons]
    obtain ⟨i1, i2⟩ := ih (x := if b < x then b else x)
    refine ⟨?_, fun y h => ?_⟩
    · rcases List.mem_cons.mp i1 with e | e
      · rw [e]
        by_cases l : b < x
        · rw [if_pos l]; simp
        · rw [if_neg l]; simp
      · exact List.mem_cons_of_mem _ (List.mem_cons_of_mem _ e)
    · have i0 := i2 _ List.mem_cons_self
      rcases List.mem_cons.mp h with e | h
      · subst e
        by_cases l : b < y
        · rw [if_pos l] at i0 ⊢; omega
        · rw [if_neg l] at i0 ⊢; omega
      · rcases List.mem_cons.mp h with e | h
        · subst e
          by_cases l : y < x
          · rw [if_pos l] at i0 ⊢; omega
          · rw [if_neg l] at i0 ⊢; omega
        · exact i2 y (List.mem_cons_of_mem _ h)
end Py
end
section
set_option Elab.async false
set_option linter.all false
set_option maxRecDepth 100000
set_option maxHeartbeats 4000000
namespace Py
open PySem PySem.Spec PyProof.Rows L2
section
variable {X : Cx}
theorem ixN_eq (n : Nat) (i : Int) : Py.ixN n i = L2.ixN n i := rfl
theorem at_rep {k : Ki} {P : Addr → Prop} {H : Hp} {vs : List V} {ds : List D} {i : Int} {d : D} (r : RepL k P H vs ds) (h : Py.atI ds i = some d) : ∃ v, L2.atI vs i = some v ∧ RepX k P H v d := by
  unfold Py.atI at h
  obtain ⟨j, e1, e2⟩ := Option.bind_eq_some_iff.mp h
  obtain ⟨v, e3, r1⟩ := r.get e2
  refine ⟨v, ?_, r1⟩
  unfold L2.atI
  rw [r.length, ← ixN_eq, e1]
  exact e3
def rIdx (k : Ki) : R2 := fun x y H Q => ∃ P P2 d1 d2 d, RepX k P H x d1 ∧ RepX k P2 H y d2 ∧ index d1 d2 = some d ∧ ∀ v, RepX k P H v d → Q v H
theorem ix_dict (hu : X.A.units + 1 < cLine) : IxR X (fun x y H Q => ∃ a v, x = .ref a ∧ DGet H a y (some v) ∧ Q v H) := by
  intro value slice pins s σ H x y v u Q I rx ry h hs
  obtain ⟨a, z, ex, g, q⟩ := h
  subst ex
  cases rx
  unfold subscriptTail
  refine wpAny_bind ?_
  have hT := dict_typeIs I g
  rw [getitemInPython_of_ne hT.not_modules]
  refine wpAny_bind (wpAny_specialOf hT PySem.F.slot_dict_getitem.lookup ?_)
  have fin : wpAny (model X.prog X.w) X.A (subscripted slice false (.ref a) u) (fun r s₃ => wpAny (model X.prog X.w) X.A (letTemporaryGo value (.ref a) r >>= fun _ => pure r) (EP X pins σ Q) X.xe s₃) X.xe s := by
    rw [hs]
    exact wpAny_operating (d_getItem hu I g ry fun w' s3 I3 rw' => wpAny_bind (wpAny_letTemporaryGo (wpAny_pure ⟨z, H, I3, rw', q⟩)))
  first
    | exact wpAny_pure (wpAny_bind fin)
    | exact wpAny_bind (wpAny_pure (wpAny_bind fin))
    | exact wpAny_bind fin
theorem ix_all {k : Ki} (hK : X.K = k.K) (hu : X.A.units + 100 < cLine) : IxR X (rIdx k) := by
  intro value slice pins s σ H x y v u Q I rx ry ⟨P, P2, d1, d2, d, h1, h2, hd, q⟩ hs
  cases h1 with
  | lst ht r => cases h2 with
    | int i =>
      obtain ⟨w, e, rw⟩ := at_rep r (show Py.atI _ i = some d from hd)
      exact ix_list value slice pins s σ H _ _ v u Q I rx ry ⟨_, _, i, w, rfl, rfl, ht.sq, e, q w rw⟩ hs
    | _ => simp [index] at hd
  | fro ht r => cases h2 with
    | int i =>
      obtain ⟨w, e, rw⟩ := at_rep r (show Py.atI _ i = some d from hd)
      exact ix_list value slice pins s σ H _ _ v u Q I rx ry ⟨_, _, i, w, rfl, rfl, by rw [hK]; exact ht.sq, e, q w rw⟩ hs
    | _ => simp [index] at hd
  | tup ht r => cases h2 with
    | int i =>
      obtain ⟨w, e, rw⟩ := at_rep r (show Py.atI _ i = some d from hd)
      exact ix_tup value slice pins s σ H _ _ v u Q I rx ry ⟨_, _, i, w, rfl, rfl, by rw [hK]; exact ht, e, q w rw⟩ hs
    | _ => simp [index] at hd
  | dic ht hn hk r =>
    simp only [index] at hd
    split at hd
    · rename_i z
      obtain ⟨key, ke⟩ := isKey_key z
      cases key_rel ke h2
      rcases dget_val ke hk r with ⟨e1, e2⟩ | ⟨d', w, e1, e2, rw⟩
      · rw [e1] at hd; cases hd
      · rw [e1] at hd; cases hd
        exact ix_dict (by omega) value slice pins s σ H _ _ v u Q I rx ry ⟨_, w, rfl, by rw [← e2]; exact DGet.k ht, q w rw⟩ hs
    · cases hd
  | _ => simp [index] at hd
theorem sIx_eq (n d : Nat) (o : Option Int) : Py.sIx n d o = HT.sIx n d o := by cases o <;> rfl
theorem cut_rep {k : Ki} {P : Addr → Prop} {H : Hp} {vs : List V} {ds : List D} (r : RepL k P H vs ds) (lo hi : Option Int) : RepL k P H (cutV vs lo hi) (cutD ds lo hi) := by
  unfold cutV cutD
  rw [← sIx_eq, ← sIx_eq, r.length]
  exact (r.drop _).take _
def rSli (k : Ki) : V → Option Int → Option Int → Hp → VK → Prop := fun x lo hi H Q => ∃ P d1 d, Pm P H ∧ RepX k P H x d1 ∧ slice d1 lo hi = some d ∧ ∀ H' v, Same H H' → RepX k P H' v d → Q v H'
theorem sl_all {k : Ki} (hK : X.K = k.K) : SlR X (rSli k) := by
  intro pins s σ H x v vl vu lo hi sl Q I rx hs pl pu ⟨P, d1, d, pm, h1, hd, q⟩
  cases h1 with
  | lst ht r =>
    cases hd
    exact sl_list pins s σ H _ v vl vu lo hi sl Q I rx hs pl pu ⟨_, _, rfl, ht.sq, new_lst pm (cut_rep r lo hi) q⟩
  | @tup a0 vs0 ds0 ht r =>
    cases hd
    refine sl_tupA pins s σ H _ v vl vu lo hi sl Q I rx hs pl pu ⟨_, _, rfl, by rw [hK]; exact ht, fun ⟨e1, e2⟩ => ?_, fun _ => new_tup pm (cut_rep r lo hi) q⟩
    refine q H _ ssame ?_
    have e : cutD ds0 lo hi = ds0 := by
      unfold cutD
      rw [sIx_eq, sIx_eq, ← r.length, e1, e2, r.length]
      show List.take _ (List.drop 0 _) = _
      rw [List.drop_zero, Nat.sub_zero]
      exact List.take_length
    rw [e]
    exact .tup ht r
  | _ => simp [slice] at hd
theorem tru_all {k : Ki} (hK : X.K = k.K) {P : Addr → Prop} {H : Hp} {x : V} {d : D} {b : Bool} (h : RepX k P H x d) (e : truth d = some b) : TruV X.K x H b := by
  cases h with
  | non => cases e; rfl
  | bl c => cases e; rfl
  | int i => cases e; rfl
  | str s =>
    simp only [truth] at e
    split at e
    · rename_i z
      cases e
      exact ⟨lenOk_le z, rfl⟩
    · cases e
  | tup ht r =>
    cases e
    exact .inr (.inl ⟨_, by rw [hK]; exact ht, by cases r <;> rfl⟩)
  | lst ht r =>
    cases e
    exact .inl ⟨_, ht.sq, by cases r <;> rfl⟩
  | _ => cases e
end

/-! ### sum of a tuple -/
section
variable {prog : Program} {w : World} {A : Around} {E : Value → Shared → Prop} {s : Shared}
theorem sum_rawT {l : Addr} {its : List Value} {ns : List Int} {Q : Value → Shared → Prop} (hh : A.handled = none) (hl : IsTup s.heap l its.toArray) (hi : IntsAre its ns)
    (h : ∀ h' tk t', (∀ b o, s.heap.get? b = some o → h'.get? b = some o) → Q (.int ns.sum t') { s with heap := h', toks := tk }) : wpAny (model prog w) A (call (.builtin "sum") [.ref l]) Q E s := by
  obtain ⟨xs, e⟩ := hi.allInts.items
  have hn : numsOf (intItems xs).toList = ns := by rw [← e]; exact hi.numsOf
  rw [nums_intItems] at hn
  rw [e] at hl
  have hlt : l < s.heap.objs.size := hl.lt
  refine call_sum_walkG (wpAny_pyIter_tuple (show s.heap.IsTuple l (intItems xs) from hl) ?_)
  have kp : ∀ b o, s.heap.get? b = some o → (s.heap.push { cls := .type "tuple_iterator", data := .fields #[.ref l, .int 0 0] }).get? b = some o := fun b o q => Heap.get?_push_of_some _ q
  have hT2 : IsTup (s.heap.push { cls := .type "tuple_iterator", data := .fields #[.ref l, .int 0 0] }) l (intItems xs) := by
    obtain ⟨o, e1, e2, n, e3⟩ := hl
    exact ⟨o, kp _ _ e1, e2, n, e3⟩
  refine ⟨_, _, _, _, _, _, numAt xs, rfl, Walks.tuple (A := A.in1) hh s.heap.objs.size l (Nat.ne_of_lt hlt) (intItems xs), ⟨⟨_, Heap.get?_push_size _ rfl, rfl, rfl⟩, hT2⟩, fun b hb => ?_, (fun _ _ => intItems_at), fun h' tk t' hk => ?_⟩
  · show b < (s.heap.push _).objs.size
    rw [Heap.size_push]
    rcases List.mem_cons.mp hb with q | q
    · rw [q]; exact Nat.lt_succ_self _
    · rw [List.mem_singleton.mp q]; exact Nat.lt_succ_of_lt hlt
  · have q := h h' tk t' fun b o e0 => hk b o (fun hm => by
      have e1 : b = s.heap.objs.size := List.mem_singleton.mp hm
      have e2 := Heap.lt_size e0
      rw [e1] at e2
      exact absurd e2 (Nat.lt_irrefl _)) (kp b o e0)
    rw [show (intItems xs).size = xs.size by simp [intItems]]
    rw [preSum_eq, List.take_of_length_le (by simp), hn]; exact q
end
section
variable {X : Cx}
theorem cr_sumT (hc : X.calm = true) : CallR X (.builtin "sum") (fun vs H Q => ∃ (a : Addr) (ns : List Int), vs = [V.ref a] ∧ SqT X.K H a (ns.map V.int) ∧ Q (.int ns.sum) H) := by
  intro pins s σ H vs us Q I r h
  obtain ⟨a, ns, rfl, hs, q⟩ := h
  obtain ⟨its, rv, hl, _⟩ := I.tuple hs
  rw [Vals.ref1 r]
  exact sum_rawT (I.ok.hd hc) hl rv.ints fun h' tk t' k => ⟨.int ns.sum, H, I.kept k, ⟨_, rfl⟩, q⟩
end

/-! ### built-in functions by values -/
def bVal : Bi → Value
  | .len => .builtin "len" | .sum => .builtin "sum" | .max => .builtin "max" | .min => .builtin "min" | .abs => .builtin "abs" | .int => .type "int" | .bool => .type "bool" | .tuple => .type "tuple" | .list => .type "list" | .set => .type "set"
  | .sorted => .builtin "sorted" | .all => .builtin "all" | .any => .builtin "any"
section
variable {X : Cx}
def rBlt (k : Ki) (b : Bi) : List V → Hp → VK → Prop := fun vs H Q => ∃ P ds d, Pm P H ∧ RepL k P H vs ds ∧ bltin b ds = some d ∧ ∀ H' v, Same H H' → RepX k P H' v d → Q v H'
theorem repL1 {k : Ki} {P : Addr → Prop} {H : Hp} {vs : List V} {d : D} (r : RepL k P H vs [d]) : ∃ v, vs = [v] ∧ RepX k P H v d := by
  cases r with
  | cons h r => cases r; exact ⟨_, rfl, h⟩
theorem repL2 {k : Ki} {P : Addr → Prop} {H : Hp} {vs : List V} {d e : D} (r : RepL k P H vs [d, e]) : ∃ v w, vs = [v, w] ∧ RepX k P H v d ∧ RepX k P H w e := by
  cases r with
  | cons h r => cases r with
    | cons h2 r => cases r; exact ⟨_, _, rfl, h, h2⟩
theorem rows_addrs {k : Ki} {P : Addr → Prop} {H : Hp} : ∀ {vs : List V} {ds : List D} {rs : List (List Int)}, RepL k P H vs ds → rowsOf ds = some rs → ∃ as : List Addr, vs = as.map V.ref ∧ as.length = rs.length ∧ ∀ p ∈ as.zip rs, SqT k.K H p.1 (p.2.map V.int)
  | _, _, rs, .nil, e => by simp [rowsOf] at e; subst e; exact ⟨[], rfl, rfl, fun p q => by cases q⟩
  | _, _, rs, .cons h r, e => by
    cases h with
    | @tup a vs0 ds0 ht r0 =>
      simp only [rowsOf, Option.bind_eq_some_iff, Option.map_eq_some_iff] at e
      obtain ⟨x, e1, ys, e2, rfl⟩ := e
      obtain ⟨as, e3, e4, e5⟩ := rows_addrs r e2
      refine ⟨a :: as, by rw [e3]; rfl, by simp [e4], fun p q => ?_⟩
      rcases List.mem_cons.mp (show p ∈ (a, x) :: as.zip ys from q) with z | z
      · subst z
        rw [← RepL.ints_inv r0 e1]
        exact ht
      · exact e5 p z
    | _ => simp [rowsOf] at e
theorem repL_rows {k : Ki} {P : Addr → Prop} {H : Hp} : ∀ {as : List Addr} {rs : List (List Int)}, as.length = rs.length → (∀ p ∈ as.zip rs, SqT k.K H p.1 (p.2.map V.int)) → RepL k P H (as.map V.ref) (rs.map rowD)
  | [], [], _, _ => .nil
  | [], _ :: _, h, _ => by simp at h
  | _ :: _, [], h, _ => by simp at h
  | a :: as, r :: rs, h, hs => .cons (.tup (hs (a, r) List.mem_cons_self) (repL_ints r)) (repL_rows (by simpa using h) fun p q => hs p (List.mem_cons_of_mem _ q))
theorem nnRows_bd {rs : List (List Int)} (h : nnRows rs = true) : ∃ B : Int, 0 < B ∧ ∀ r ∈ rs, TS.Bd B r := by
  induction rs with
  | nil => exact ⟨1, by decide, fun r q => by cases q⟩
  | cons r rs ih =>
    unfold nnRows at h ih
    rw [List.all_cons, Bool.and_eq_true] at h
    obtain ⟨B, h0, h1⟩ := ih h.2
    have one : ∀ x : List Int, (∀ i ∈ x, 0 ≤ i) → ∃ C : Int, 0 < C ∧ ∀ i ∈ x, i < C := by
      intro x
      induction x with
      | nil => intro _; exact ⟨1, by decide, fun i q => by cases q⟩
      | cons a x ih =>
        intro hx
        obtain ⟨C, c0, c1⟩ := ih fun i q => hx i (List.mem_cons_of_mem _ q)
        refine ⟨C + a + 1, by have := hx a List.mem_cons_self; omega, fun i q => ?_⟩
        rcases List.mem_cons.mp q with e | q
        · subst e; omega
        · have := c1 i q; have := hx a List.mem_cons_self; omega
    have nn : ∀ i ∈ r, 0 ≤ i := fun i q => of_decide_eq_true (List.all_eq_true.mp h.1 i q)
    obtain ⟨C, c0, c1⟩ := one r nn
    refine ⟨B + C, by omega, fun x q m hm => ?_⟩
    rcases List.mem_cons.mp q with e | q
    · subst e; exact ⟨nn m hm, by have := c1 m hm; omega⟩
    · obtain ⟨a, b⟩ := h1 x q m hm; exact ⟨a, by omega⟩
/-- a short list, sorted -/
theorem sorted_one {k : Ki} {P : Addr → Prop} {pins : List (Addr × Obj)} {s : Shared} {σ : St} {H : Hp} {a : Addr} {vs : List V} {ds : List D} {u : Value} {Q : VK} (I : L2.Inv X pins σ H s) (pm : Pm P H) (hs : SqL X.K H a vs) (r : RepL k P H vs ds) (ru : RelV (.ref a) u) (h1 : ds.length ≤ 1)
    (q : ∀ H' v, Same H H' → RepX k P H' v (.lst ds) → Q v H') : wpAny (model X.prog X.w) X.A (call (.builtin "sorted") [u]) (EP X pins σ Q) X.xe s := by
  obtain ⟨its, rv, hl, hz⟩ := I.list hs
  cases ru
  have ln : its.length ≤ 1 := by rw [← rv.length, r.length]; exact h1
  refine SrtO.sorted_ord (ltv := fun _ _ => false) ⟨fun _ _ e => (Bool.noConfusion e), fun _ _ _ _ _ => rfl⟩ hl.isList (by rw [← rv.length]; exact hz) (fun h2 _ _ _ _ => absurd h2 (by omega)) fun out _ hb => ?_
  have eo : out = its := by
    have p := hb.perm
    match its, ln, p with
    | [], _, p => exact List.perm_nil.mp p
    | [v], _, p => exact List.perm_singleton.mp p
    | _ :: _ :: _, ln, _ => exact absurd ln (by simp)
  subst eo
  obtain ⟨ep, he'⟩ := PyProof.Rows.sortedAll_at s.heap out out.toArray
  have nf := I.hok.fresh (Nat.le_succ s.heap.objs.size)
  exact ⟨.ref _, upd H (s.heap.objs.size + 1) (.lst vs), I.laid (t' := s.toks) (fun _ _ => PyProof.Rows.sortedAll_old) (Nat.le_succ _) ⟨hz, out, ep, rv, he'⟩, rfl, new_lst pm r q _ nf⟩
theorem rowsOf_map (rs : List (List Int)) : rowsOf (rs.map rowD) = some rs := by
  induction rs with
  | nil => rfl
  | cons r rs ih =>
    have e : gInts (r.map D.int) = some r := by
      induction r with
      | nil => rfl
      | cons i r ih => simp [gInts, ih]
    simp only [List.map_cons, rowD, rowsOf, e, Option.bind_some, ih, Option.map_some]
theorem rowD_nil (x : List Int) : rowD x = .tup (x.map .int) := rfl
end
end Py
end
section
set_option Elab.async false
set_option linter.all false
set_option maxRecDepth 100000
set_option maxHeartbeats 4000000
namespace Py
open PySem PySem.Spec PyProof.Rows L2
/-! ### sorted(a set of at most one tuple) -/
section
variable {P : Program} {w : World} {A : Around} {E : Value → Shared → Prop} {s : Shared}
theorem sorted_set01 {a : Addr} {L : List (Addr × List Int)} {es : Array (Int × Value)} {ep : Nat} {t : SetTable} {Q : Value → Shared → Prop} (R : SetTR P w s.heap a L es ep t) (hh : A.handled = none) (h1 : L.length ≤ 1)
    (hQ : ∀ s' p (c : Nat), (∀ b o, s.heap.get? b = some o → s'.heap.get? b = some o) → s'.gens = s.gens → s'.os = s.os → s.heap.objs.size ≤ p →
      s'.heap.get? p = some (PyProof.Rows.seqObj "list" (L.map fun q => Value.ref q.1).toArray c) → Q (.ref p) s') :
    wpAny (model P w) A (call (.builtin "sorted") [.ref a]) Q E s := by
  obtain ⟨o, ho, hex, hd⟩ := R.ob
  have hsz := R.size
  refine Calls.call_function_entry kind_sorted plain_sorted entry_sorted (args_sorted1 _) ?_
  unfold Builtin.«sorted»
  refine wpAny_bind (m := checkCount "sorted" 1 1 _) (wpAny_pure ?_)
  refine wpAny_bind (collect_set (A := A.in1) hh ⟨o, ho, hex.1, hd⟩ R.fits (by unfold scanBound; omega) R.tab.ris R.led fun s1 vs k1 hz g1 o1 pm => ?_)
  have hes : es.toList.map (·.2) = L.map fun q => Value.ref q.1 := by
    rw [R.rows]
    unfold L2.rowsOf
    rw [List.map_map] <;> rfl
  rw [hes] at pm
  have small : ∀ {x y : List Value}, x.Perm y → y.length ≤ 1 → x = y := by
    intro x y p l
    match y, l, p with
    | [], _, p => exact List.perm_nil.mp p
    | [v], _, p => exact List.perm_singleton.mp p
    | _ :: _ :: _, l, _ => exact absurd l (by simp)
  have lL : (L.map fun q => Value.ref q.1).length ≤ 1 := by rw [List.length_map]; exact h1
  have ev : vs = L.map fun q => Value.ref q.1 := small pm lL
  have lv : vs.length ≤ 1 := by rw [ev]; exact lL
  have zl := sizeLine_eq
  refine wpAny_bind (wpAny_newList ?_ (by omega))
  have hoL : (s1.heap.push (PyProof.Rows.seqObj "list" vs.toArray 0)).get? s1.heap.objs.size = some (PyProof.Rows.seqObj "list" vs.toArray 0) := Heap.get?_push_size _ rfl
  refine wpAny_bind (wpAny_holding (wpAny_call_entry slot_list_sort ⟨_, hoL, rfl⟩ entry_list_sort (SrtO.list_sort_ord (ltv := fun _ _ => false) ⟨fun _ _ e => (Bool.noConfusion e), fun _ _ _ _ _ => rfl⟩ hoL (by omega) (fun h2 => absurd h2 (by omega)) fun out hs hb => ⟨_, rfl, ?_⟩) (args_list_sort _)))
  have eo : out = vs := small hb.perm lv
  obtain ⟨c, hc⟩ := PyProof.Rows.sortedHeap_at (vs := vs) (out := out.toArray) hoL
  refine wpAny_pure ⟨_, rfl, hQ _ s1.heap.objs.size c (fun b u e => ?_) g1 o1 hz (by rw [← ev, ← eo]; rw [eo] at hc ⊢; exact hc)⟩
  have q := k1 b u e
  have hlt := Heap.lt_size q
  show (PyProof.Rows.sortedHeap (s1.heap.push (PyProof.Rows.seqObj "list" vs.toArray 0)) s1.heap.objs.size vs out.toArray).get? b = some u
  rw [PyProof.Rows.sortedHeap_old (Nat.ne_of_lt hlt) (by rw [PyProof.Rows.size_push']; exact Nat.lt_succ_of_lt hlt)]
  exact Heap.get?_push_of_some _ q
end
section
variable {X : Cx}
theorem cr_sortedT1 (hc : X.calm = true) : CallR X (.builtin "sorted") (fun vs H Q => ∃ (a : Addr) (L : List (Addr × List Int)), vs = [V.ref a] ∧ H a = some (SetTO X.prog X.w a L) ∧ (∀ p ∈ L, SqT X.K H p.1 (p.2.map V.int)) ∧ L.length ≤ 1 ∧ ∀ p, H p = none → Q (.ref p) (upd H p (.lst (L.map fun q => V.ref q.1)))) := by
  intro pins s σ H vs us Q I r h
  obtain ⟨a, L, rfl, ha, hk, h1, q⟩ := h
  have R0 : SetT0 X.prog X.w s.heap a L := (I.hok a _ ha).1
  obtain ⟨es, ep, t, R⟩ := R0.full fun p hp => I.isT (hk p hp)
  rw [Vals.ref1 r]
  refine sorted_set01 R (I.ok.hd hc) h1 fun s' p c k g o hp hg => ?_
  have zl := sizeLine_eq
  have hlen : (L.map fun q => V.ref q.1).length ≤ sizeLine := by rw [List.length_map, zl]; omega
  have hn : H p = none := I.hok.fresh hp
  have J : Inv X pins σ (upd H p (.lst (L.map fun q => V.ref q.1))) { s with heap := s'.heap, gens := s'.gens, drawn := s'.drawn, toks := s'.toks } :=
    I.call (ch := []) (Un.laid k hp hn) (I.hok.laid k hp ⟨hlen, _, c, vals_of_refs L, hg⟩) (by rw [g]; exact I.bare) (fun _ z => nomatch z)
  have e : s' = { s with heap := s'.heap, gens := s'.gens, drawn := s'.drawn, toks := s'.toks } := by
    cases s'
    cases s
    cases o
    rfl
  rw [e]
  exact ⟨.ref p, _, J, rfl, q p hn⟩

/-! ### the built-in functions -/
theorem intsD_eq {ds : List D} {ns : List Int} (h : gInts ds = some ns) : ds = intsD ns := by
  induction ds generalizing ns with
  | nil => simp [gInts] at h; subst h; rfl
  | cons d ds ih =>
    cases d with
    | int i =>
      simp only [gInts, Option.map_eq_some_iff] at h
      obtain ⟨ms, e, rfl⟩ := h
      rw [ih e]; rfl
    | _ => simp [gInts] at h
theorem rowsD_eq {ds : List D} {rs : List (List Int)} (h : rowsOf ds = some rs) : ds = rs.map rowD := by
  induction ds generalizing rs with
  | nil => simp [rowsOf] at h; subst h; rfl
  | cons d ds ih =>
    cases d with
    | tup xs =>
      simp only [rowsOf, Option.bind_eq_some_iff, Option.map_eq_some_iff] at h
      obtain ⟨x, e, ys, e2, rfl⟩ := h
      rw [ih e2, intsD_eq e]; rfl
    | _ => simp [rowsOf] at h
theorem short_rows {rs : List (List Int)} (h : rs.length ≤ 1) : sortRows rs = rs := by
  match rs, h with
  | [], _ => rfl
  | [r], _ => rfl
  | _ :: _ :: _, h => exact absurd h (by simp)
theorem zip_map_fst {α β γ : Type} (f : α → γ) : ∀ {as : List α} {bs : List β}, as.length = bs.length → (as.zip bs).map (fun p => f p.1) = as.map f
  | [], [], _ => rfl
  | [], _ :: _, h => by simp at h
  | _ :: _, [], h => by simp at h
  | a :: as, b :: bs, h => by rw [List.zip_cons_cons, List.map_cons, List.map_cons, zip_map_fst f (by simpa using h)]
theorem zip_map_snd {α β : Type} : ∀ {as : List α} {bs : List β}, as.length = bs.length → (as.zip bs).map (·.2) = bs
  | [], [], _ => rfl
  | [], _ :: _, h => by simp at h
  | _ :: _, [], h => by simp at h
  | a :: as, b :: bs, h => by rw [List.zip_cons_cons, List.map_cons, zip_map_snd (by simpa using h)]
/-- rows that ascend by code are the sorted rows -/
theorem code_sorted {B : Int} (h0 : 0 < B) {rs : List (List Int)} {d : Nat} {α : Type} {f : α → List Int} {ys : List α} (p : (ys.map f).Perm rs) (hB : ∀ r ∈ rs, r.length = d ∧ TS.Bd B r) (hs : ys.Pairwise fun x y => TS.code B (f x) ≤ TS.code B (f y)) : ys.map f = sortRows rs := by
  refine sortRows_of p (List.pairwise_map.mpr (List.Pairwise.imp_of_mem (fun {x y} hx hy hle => ?_) hs))
  have bx := hB _ (p.mem_iff.mp (List.mem_map_of_mem hx))
  have bd := hB _ (p.mem_iff.mp (List.mem_map_of_mem hy))
  unfold lexLe
  rw [Bool.not_eq_true', Bool.eq_false_iff]
  intro hl
  have := (code_lex h0 bd.2 bx.2 (by rw [bx.1, bd.1])).mpr hl
  omega
theorem rows_of_lst {k : Ki} {P : Addr → Prop} {H : Hp} : ∀ {L : List (Addr × List Int)}, (∀ p ∈ L, SqT k.K H p.1 (p.2.map V.int)) → RepL k P H (L.map fun q => V.ref q.1) ((L.map (·.2)).map rowD)
  | [], _ => .nil
  | p :: L, h => .cons (.tup (h p List.mem_cons_self) (repL_ints p.2)) (rows_of_lst fun q z => h q (List.mem_cons_of_mem _ z))
theorem sorted_set {k : Ki} (hK : X.K = k.K) (hc : X.calm = true) (hP : X.prog = k.P) (hw : X.w = k.w) : CallR X (.builtin "sorted") (fun vs H Q => ∃ P ds d, Pm P H ∧ RepL k P H vs [.set ds] ∧ sortedD ds = some d ∧ ∀ H' v, Same H H' → RepX k P H' v d → Q v H') := by
  intro pins s σ H vs us Q I r ⟨P, ds, d, pm, h, hd, q⟩
  obtain ⟨x, rfl, hx⟩ := repL1 h
  cases hx with
  | @set a L rs _ ht hn hs hl hr hds =>
    subst hds
    have hp : (L.map (·.2)).Perm rs := by
      have R0 : SetT0 X.prog X.w s.heap a L := by rw [hP, hw]; exact (I.hok a _ ht).1
      obtain ⟨_, _, _, _, _, _, nd, _⟩ := R0.ex
      exact (List.perm_ext_iff_of_nodup nd hr).mpr fun x => hl x
    rw [sortedD] at hd
    have fin : ∀ {rs' : List (List Int)}, rs' = rs → gInts (rs'.map rowD) = none ∨ rs' = [] := by
      intro rs' _
      cases rs' with
      | nil => exact .inr rfl
      | cons r rs' => exact .inl rfl
    by_cases h1 : rs.length ≤ 1
    · have ed : d = .lst (rs.map rowD) := by
        rcases fin rfl with e | e
        · rw [e] at hd
          simp only [rowsOf_map, h1, decide_true, Bool.true_or, if_true, short_rows h1] at hd
          cases hd; rfl
        · subst e; cases hd; rfl
      subst ed
      have l1 : L.length ≤ 1 := by rw [← List.length_map (f := fun p : Addr × List Int => p.2), hp.length_eq]; exact h1
      have er : L.map (·.2) = rs := by
        match rs, h1, hp with
        | [], _, p => exact List.perm_nil.mp p
        | [v], _, p => exact List.perm_singleton.mp p
        | _ :: _ :: _, l, _ => exact absurd l (by simp)
      refine cr_sortedT1 hc pins s σ H _ us Q I r ⟨a, L, rfl, by rw [hP, hw]; exact ht, fun p z => by rw [hK]; exact hs p z, l1, new_lst pm (ds := rs.map rowD) ?_ q⟩
      rw [← er]
      exact rows_of_lst hs
    · have e0 : gInts (rs.map rowD) = none := by
        rcases fin rfl with e | e
        · exact e
        · subst e; simp at h1
      rw [e0] at hd
      simp only [rowsOf_map, h1, decide_false, Bool.false_or] at hd
      split at hd
      · rename_i hcnd
        cases hd
        simp only [Bool.and_eq_true, decide_eq_true_eq, List.all_eq_true] at hcnd
        obtain ⟨⟨h64, hnn⟩, hall⟩ := hcnd
        obtain ⟨B, b0, bb⟩ := nnRows_bd hnn
        have hd1 : 1 ≤ (rs.headD []).length := by
          cases rs with
          | nil => simp at h1
          | cons r rs => exact (hall r List.mem_cons_self).1
        refine cr_sortedT hc pins s σ H _ us Q I r ⟨a, L, (rs.headD []).length, B, rfl, by rw [hP, hw]; exact ht, fun p z => by rw [hK]; exact hs p z, hd1, fun p z => ?_, fun L' p pl _ hlt hpw hn => ?_⟩
        · have m : p.2 ∈ rs := (hl _).mp (List.mem_map_of_mem z)
          exact ⟨(hall _ m).2, bb _ m⟩
        · have es := code_sorted b0 (f := fun p : Addr × List Int => p.2) ((pl.map _).trans hp) (fun r z => ⟨(hall r z).2, bb r z⟩) hpw
          refine new_lst pm (ds := (sortRows rs).map rowD) ?_ q p hn
          rw [← es]
          exact rows_of_lst fun p z => hs p (pl.mem_iff.mp z)
      · cases hd
end
end Py
end
section
set_option Elab.async false
set_option linter.all false
set_option maxRecDepth 100000
set_option maxHeartbeats 4000000
namespace Py
open PySem PySem.Spec PyProof.Rows L2
/-! ### min and max of a tuple of ints; with default= -/
section
variable {X : Cx}
theorem minOf_int (x : Int) (xs : List Int) : PySem.W.minOf x xs = minL (x :: xs) := by
  unfold PySem.W.minOf minL
  congr 1
  funext a y
  show (if decide (y < a) = true then y else a) = _
  by_cases h : y < a <;> simp [h]
theorem maxOf_int (x : Int) (xs : List Int) : PySem.W.maxOf x xs = maxL (x :: xs) := by
  unfold PySem.W.maxOf maxL
  congr 1
  funext a y
  show (if decide (a < y) = true then y else a) = _
  by_cases h : a < y <;> simp [h]
theorem dep {u : Nat} (hu : u + 100 < cLine) : u + 1 + PySem.W.Datum.depth Int < cLine := by
  have hd : PySem.W.Datum.depth Int = 0 := rfl
  rw [hd]
  generalize cLine = c at *
  omega
theorem int_of_holds {h : Heap} {its : List Value} {ns : List Int} {i : Nat} {v : Value} {m : Int} (rv : Vals (ns.map V.int) its) (e : its[i]? = some v) (H : PySem.W.Holds h v m) : ∃ t, v = .int m t := by
  have hl := rv.length
  rw [List.length_map] at hl
  have hi : i < its.length := by
    by_cases hi : i < its.length
    · exact hi
    · rw [List.getElem?_eq_none (by omega)] at e; cases e
  obtain ⟨u, e1, r⟩ := rv.get (i := i) (x := V.int ns[i]) (by rw [List.getElem?_map, List.getElem?_eq_getElem (by omega)]; rfl)
  rw [e] at e1
  cases e1
  obtain ⟨t, rfl⟩ := r
  obtain ⟨as, r2⟩ := H
  cases r2
  exact ⟨t, rfl⟩
def rMinT (K : PySem.W.Frag) : List V → Hp → VK → Prop := fun vs H Q => ∃ (a : Addr) (ns : List Int), vs = [V.ref a] ∧ SqT K H a (ns.map V.int) ∧ ns ≠ [] ∧ Q (.int (minL ns)) H
theorem cr_minT (hc : X.calm = true) (hu : X.A.units + 100 < cLine) : CallR X (.builtin "min") (rMinT X.K) := by
  intro pins s σ H vs us Q I r h
  obtain ⟨a, ns, rfl, hs, hne, q⟩ := h
  obtain ⟨its, rv, hl, _⟩ := I.tuple hs
  rw [Vals.ref1 r]
  obtain ⟨n, ns, rfl⟩ := List.exists_cons_of_ne_nil hne
  · refine PySem.W.min_tuple_datum (α := Int) (x := n) (xs := ns) (I.ok.hd hc) (show s.heap.IsTuple a its.toArray from hl) (by simpa using PySem.W.HoldAll.of_ints rv.ints) (dep hu) fun i v h' tk hi H' hk => ?_
    rw [minOf_int] at H'
    obtain ⟨t, rfl⟩ := int_of_holds rv (by simpa using hi) H'
    exact ⟨.int _, H, I.kept hk, ⟨_, rfl⟩, q⟩
def rMaxT (K : PySem.W.Frag) : List V → Hp → VK → Prop := fun vs H Q => ∃ (a : Addr) (ns : List Int), vs = [V.ref a] ∧ SqT K H a (ns.map V.int) ∧ ns ≠ [] ∧ Q (.int (maxL ns)) H
theorem cr_maxT (hc : X.calm = true) (hu : X.A.units + 100 < cLine) : CallR X (.builtin "max") (rMaxT X.K) := by
  intro pins s σ H vs us Q I r h
  obtain ⟨a, ns, rfl, hs, hne, q⟩ := h
  obtain ⟨its, rv, hl, _⟩ := I.tuple hs
  rw [Vals.ref1 r]
  obtain ⟨n, ns, rfl⟩ := List.exists_cons_of_ne_nil hne
  · refine PySem.W.max_tuple_datum (α := Int) (x := n) (xs := ns) (I.ok.hd hc) (show s.heap.IsTuple a its.toArray from hl) (by simpa using PySem.W.HoldAll.of_ints rv.ints) (dep hu) fun i v h' tk hi H' hk => ?_
    rw [maxOf_int] at H'
    obtain ⟨t, rfl⟩ := int_of_holds rv (by simpa using hi) H'
    exact ⟨.int _, H, I.kept hk, ⟨_, rfl⟩, q⟩
def rMaxD (mx : Bool) (c : Int) (K : PySem.W.Frag) : List V → List V → Hp → VK → Prop := fun vs zs H Q => ∃ (a : Addr) (ns : List Int), vs = [V.ref a] ∧ zs = [V.int c] ∧ SqL K H a (ns.map V.int) ∧ Q (.int (if ns.isEmpty then c else if mx then maxL ns else minL ns)) H
theorem crk_maxD {c : Int} (hc : X.calm = true) (hu : X.A.units + 100 < cLine) : CallRK X (.builtin "max") [Str.ofString "default"] (rMaxD true c X.K) := by
  intro pins s σ H vs zs us ws Q I r rz h
  obtain ⟨a, ns, rfl, rfl, hs, q⟩ := h
  obtain ⟨its, rv, hl, _⟩ := I.list hs
  rw [Vals.ref1 r]
  obtain ⟨w, rfl, rw'⟩ := rz.one
  obtain ⟨t, rfl⟩ := rw'
  refine PySem.W.max_list_datum_default (α := Int) (xs := ns) (I.ok.hd hc) hl.isList (by simpa using PySem.W.HoldAll.of_ints rv.ints) (dep hu) (fun e h' tk hk => ?_) fun y yl i v h' tk e hi H' hk => ?_
  · subst e
    exact ⟨.int c, H, I.kept hk, ⟨_, rfl⟩, q⟩
  · subst e
    rw [maxOf_int] at H'
    obtain ⟨t, rfl⟩ := int_of_holds rv (by simpa using hi) H'
    exact ⟨.int _, H, I.kept hk, ⟨_, rfl⟩, q⟩
theorem crk_minD {c : Int} (hc : X.calm = true) (hu : X.A.units + 100 < cLine) : CallRK X (.builtin "min") [Str.ofString "default"] (rMaxD false c X.K) := by
  intro pins s σ H vs zs us ws Q I r rz h
  obtain ⟨a, ns, rfl, rfl, hs, q⟩ := h
  obtain ⟨its, rv, hl, _⟩ := I.list hs
  rw [Vals.ref1 r]
  obtain ⟨w, rfl, rw'⟩ := rz.one
  obtain ⟨t, rfl⟩ := rw'
  refine PySem.W.min_list_datum_default (α := Int) (xs := ns) (I.ok.hd hc) hl.isList (by simpa using PySem.W.HoldAll.of_ints rv.ints) (dep hu) (fun e h' tk hk => ?_) fun y yl i v h' tk e hi H' hk => ?_
  · subst e
    exact ⟨.int c, H, I.kept hk, ⟨_, rfl⟩, q⟩
  · subst e
    rw [minOf_int] at H'
    obtain ⟨t, rfl⟩ := int_of_holds rv (by simpa using hi) H'
    exact ⟨.int _, H, I.kept hk, ⟨_, rfl⟩, q⟩
end
end Py
end
section
set_option Elab.async false
set_option linter.all false
set_option maxRecDepth 100000
set_option maxHeartbeats 4000000
namespace Py
open PySem PySem.Spec PyProof.Rows L2
section
variable {X : Cx}
theorem srt_lst {k : Ki} (hK : X.K = k.K) : CallR X (.builtin "sorted") (fun vs H Q => ∃ P ds d, Pm P H ∧ RepL k P H vs [.lst ds] ∧ sortedD ds = some d ∧ ∀ H' v, Same H H' → RepX k P H' v d → Q v H') := by
  intro pins s σ H vs us Q I r ⟨P, ds, d, pm, h, hd, q⟩
  obtain ⟨x, rfl, hx⟩ := repL1 h
  cases hx with
  | @lst a xs _ ht rl =>
    unfold sortedD at hd
    split at hd
    · rename_i ns e
      cases hd
      have ev := rl.ints_inv e
      refine cr_sortedI pins s σ H _ us Q I r ⟨a, ns, rfl, by rw [← ev]; exact ht.sq, fun ns' p pl hs hn => ?_⟩
      rw [sortInts_of pl hs]
      exact new_lst pm (repL_ints _) q p hn
    · split at hd
      · rename_i rs e
        by_cases h1 : rs.length ≤ 1
        · simp only [h1, decide_true, Bool.true_or, if_true, short_rows h1] at hd
          cases hd
          have l1 : ds.length ≤ 1 := by rw [rowsD_eq e, List.length_map]; exact h1
          have ru := r
          cases ru with
          | cons r1 r2 =>
            cases r2
            refine sorted_one (k := k) (ds := ds) I pm ht.sq rl r1 l1 fun H' v s1 rx => q H' v s1 ?_
            rw [← rowsD_eq e]
            exact rx
        · simp only [h1, decide_false, Bool.false_or] at hd
          split at hd
          · rename_i hcnd
            cases hd
            simp only [Bool.and_eq_true, decide_eq_true_eq, List.all_eq_true] at hcnd
            obtain ⟨⟨h64, hnn⟩, hall⟩ := hcnd
            obtain ⟨B, b0, bb⟩ := nnRows_bd hnn
            have hd1 : 1 ≤ (rs.headD []).length := by
              cases rs with
              | nil => simp at h1
              | cons r rs => exact (hall r List.mem_cons_self).1
            obtain ⟨as, e1, e2, e3⟩ := rows_addrs rl e
            have lx : xs.length = rs.length := by rw [e1, List.length_map, e2]
            -- each value is one row
            have row : ∀ x ∈ xs, ∃ a r, x = V.ref a ∧ r ∈ rs ∧ SqT k.K H a (r.map V.int) := fun x hx => by
              obtain ⟨i, hi, hg⟩ := List.getElem_of_mem hx
              have hi2 : i < as.length := by omega
              have hi3 : i < rs.length := by omega
              refine ⟨as[i], rs[i], ?_, List.getElem_mem hi3, e3 (as[i], rs[i]) ?_⟩
              · rw [← hg]
                simp only [e1, List.getElem_map]
              · exact List.mem_iff_getElem.mpr ⟨i, by rw [List.length_zip]; omega, by rw [List.getElem_zip]⟩
            refine cr_sortT (d := (rs.headD []).length) (B := B) hd1 pins s σ H _ us Q I r ⟨a, xs, rfl, ht.sq, by omega, fun x hx => ?_, fun ys p pl hpw hn => ?_⟩
            · obtain ⟨b, r, e4, e5, e6⟩ := row x hx
              exact ⟨r, ⟨b, e4, by rw [hK]; exact e6⟩, (hall r e5).2, bb r e5⟩
            · -- the pairs in the new order
              have pair : ∀ {ys : List V}, (∀ y ∈ ys, y ∈ xs) → ∃ L : List (Addr × List Int), ys = L.map (fun p => V.ref p.1) ∧ ∀ p ∈ L, p.2 ∈ rs ∧ SqT k.K H p.1 (p.2.map V.int) := by
                intro ys
                induction ys with
                | nil => intro _; exact ⟨[], rfl, fun p z => by cases z⟩
                | cons y ys ih =>
                  intro hy
                  obtain ⟨L, f1, f2⟩ := ih fun z hz => hy z (List.mem_cons_of_mem _ hz)
                  obtain ⟨b, r, g1, g2, g3⟩ := row y (hy y List.mem_cons_self)
                  exact ⟨(b, r) :: L, by rw [List.map_cons, g1, f1], fun p hp => (List.mem_cons.mp hp).elim (fun e => by rw [e]; exact ⟨g2, g3⟩) (f2 p)⟩
              obtain ⟨L, f1, f2⟩ := pair fun y hy => pl.mem_iff.mp hy
              have uniq : ∀ {b : Addr} {r r' : List Int}, SqT k.K H b (r.map V.int) → SqT k.K H b (r'.map V.int) → r = r' := fun {b r r'} h1 h2 => by
                have h3 := I.tuple_inj (by rw [hK]; exact h1) (by rw [hK]; exact h2)
                have inj : ∀ {a b : List Int}, a.map V.int = b.map V.int → a = b := by
                  intro a
                  induction a with
                  | nil => intro b h; cases b with
                    | nil => rfl
                    | cons _ _ => simp at h
                  | cons x a ih => intro b h; cases b with
                    | nil => simp at h
                    | cons y b => simp only [List.map_cons, List.cons.injEq, V.int.injEq] at h; rw [h.1, ih h.2]
                exact inj h3
              have hpl : (L.map (·.2)).Perm rs := by
                -- by rows of addresses
                let g : V → List Int := fun v => match v with
                  | .ref b => (match ((as.zip rs).find? fun p => p.1 == b) with | some p => p.2 | none => [])
                  | _ => []
                have gz : ∀ p ∈ as.zip rs, g (V.ref p.1) = p.2 := fun p hp => by
                  show (match ((as.zip rs).find? fun q => q.1 == p.1) with | some p => p.2 | none => []) = p.2
                  cases hf : ((as.zip rs).find? fun q => q.1 == p.1) with
                  | none => exact absurd (List.find?_eq_none.mp hf p hp) (by simp)
                  | some q =>
                    have m := List.mem_of_find?_eq_some hf
                    have e : q.1 = p.1 := by simpa using List.find?_some hf
                    exact uniq (by rw [← e]; exact e3 q m) (e3 p hp)
                have gx : xs.map g = rs := by
                  rw [e1, List.map_map, ← zip_map_fst (g ∘ V.ref) e2]
                  conv => rhs; rw [← zip_map_snd e2]
                  exact List.map_congr_left fun p hp => gz p hp
                have gL : ∀ p ∈ L, g (V.ref p.1) = p.2 := fun p hp => by
                  have hm : V.ref p.1 ∈ xs := pl.mem_iff.mp (by rw [f1]; exact List.mem_map.mpr ⟨p, hp, rfl⟩)
                  obtain ⟨i, hi, hg⟩ := List.getElem_of_mem hm
                  have hi2 : i < as.length := by omega
                  have hi3 : i < rs.length := by omega
                  have mz : (as[i], rs[i]) ∈ as.zip rs := List.mem_iff_getElem.mpr ⟨i, by rw [List.length_zip]; omega, by rw [List.getElem_zip]⟩
                  have ea : as[i] = p.1 := by
                    have : V.ref as[i] = V.ref p.1 := by rw [← hg]; simp only [e1, List.getElem_map]
                    injection this
                  have h5 := gz _ mz
                  simp only [ea] at h5
                  rw [h5]
                  exact uniq (by have := e3 _ mz; simp only [ea] at this; exact this) (f2 p hp).2
                have h6 := pl.map g
                rw [f1, List.map_map, gx] at h6
                rw [show L.map (·.2) = L.map (g ∘ fun p => V.ref p.1) from List.map_congr_left fun p hp => (gL p hp).symm]
                exact h6
              have es : L.map (·.2) = sortRows rs := code_sorted b0 (f := fun p : Addr × List Int => p.2) hpl (fun r z => ⟨(hall r z).2, bb r z⟩) (by
                rw [f1] at hpw
                refine List.Pairwise.imp_of_mem (fun {x y} hx hy h => ?_) (List.pairwise_map.mp hpw)
                exact h x.2 y.2 ⟨x.1, rfl, by rw [hK]; exact (f2 x hx).2⟩ ⟨y.1, rfl, by rw [hK]; exact (f2 y hy).2⟩)
              rw [f1]
              refine new_lst pm (ds := (sortRows rs).map rowD) ?_ q p hn
              rw [← es]
              exact rows_of_lst fun p z => (f2 p z).2
          · cases hd
      · cases hd
theorem cr_blt {k : Ki} (hK : X.K = k.K) (hc : X.calm = true) (hP : X.prog = k.P) (hw : X.w = k.w) (hu : X.A.units + 100 < cLine) (b : Bi) : CallR X (bVal b) (rBlt k b) := by
  intro pins s σ H vs us Q I r ⟨P, ds, d, pm, h, hd, q⟩
  have q0 : ∀ v, RepX k P H v d → Q v H := fun v rv => q H v ssame rv
  unfold bltin at hd
  split at hd
  · cases hd
    obtain ⟨x, rfl, hx⟩ := repL1 h
    cases hx with
    | lst ht rl => exact call_len pins s σ H _ us Q I r ⟨_, _, rfl, .inl ⟨_, ht.sq, rfl⟩, q0 _ (by rw [rl.length]; exact .int _)⟩
  · cases hd
    obtain ⟨x, rfl, hx⟩ := repL1 h
    cases hx with
    | fro ht rl => exact call_len pins s σ H _ us Q I r ⟨_, _, rfl, .inl ⟨_, by rw [hK]; exact ht.sq, rfl⟩, q0 _ (by rw [rl.length]; exact .int _)⟩
  · cases hd
    obtain ⟨x, rfl, hx⟩ := repL1 h
    cases hx with
    | tup ht rl => exact call_len pins s σ H _ us Q I r ⟨_, _, rfl, .inr ⟨_, by rw [hK]; exact ht, rfl⟩, q0 _ (by rw [rl.length]; exact .int _)⟩
  · split at hd
    · rename_i z
      cases hd
      obtain ⟨x, rfl, hx⟩ := repL1 h
      cases hx with
      | str y => exact call_len pins s σ H _ us Q I r ⟨_, _, rfl, ⟨lenOk_le z, rfl⟩, q0 _ (.int _)⟩
    · cases hd
  · cases hd
    obtain ⟨x, rfl, hx⟩ := repL1 h
    cases hx with
    | dic ht hn hk rl =>
      refine call_lenD pins s σ H _ us Q I r ⟨_, _, rfl, ht, q0 _ ?_⟩
      rw [show (_ : List (Key × V)).length = _ from by have := congrArg List.length hk; simpa using this.symm]
      exact .int _
  · simp only [Option.map_eq_some_iff] at hd
    obtain ⟨ns, e, rfl⟩ := hd
    obtain ⟨x, rfl, hx⟩ := repL1 h
    cases hx with
    | lst ht rl => exact cr_sum hc pins s σ H _ us Q I r ⟨_, ns, rfl, by rw [← rl.ints_inv e]; exact ht.sq, q0 _ (.int _)⟩
  · simp only [Option.map_eq_some_iff] at hd
    obtain ⟨ns, e, rfl⟩ := hd
    obtain ⟨x, rfl, hx⟩ := repL1 h
    cases hx with
    | tup ht rl => exact cr_sumT hc pins s σ H _ us Q I r ⟨_, ns, rfl, by rw [← rl.ints_inv e, hK]; exact ht, q0 _ (.int _)⟩
  · simp only [Option.bind_eq_some_iff] at hd
    obtain ⟨ns, e, hd⟩ := hd
    split at hd
    · cases hd
    · rename_i ne
      cases hd
      obtain ⟨x, rfl, hx⟩ := repL1 h
      cases hx with
      | lst ht rl =>
        match ns, ne with
        | [], ne => simp at ne
        | n :: ns, _ =>
          refine cr_max hc pins s σ H _ us Q I r ⟨_, n :: ns, rfl, by rw [← rl.ints_inv e]; exact ht.sq, by simp, fun m h1 h2 => ?_⟩
          obtain ⟨h3, h4⟩ := maxL_of (x := n) (xs := ns)
          rw [show m = maxL (n :: ns) from by have := h2 _ h3; have := h4 _ h1; omega]
          exact q0 _ (.int _)
  · cases hd
    obtain ⟨x, y, rfl, hx, hy⟩ := repL2 h
    cases hx; cases hy
    exact call_max2 hc pins s σ H _ us Q I r ⟨_, _, rfl, q0 _ (.int _)⟩
  · simp only [Option.bind_eq_some_iff] at hd
    obtain ⟨ns, e, hd⟩ := hd
    split at hd
    · cases hd
    · rename_i ne
      cases hd
      obtain ⟨x, rfl, hx⟩ := repL1 h
      cases hx with
      | tup ht rl => exact cr_maxT hc hu pins s σ H _ us Q I r ⟨_, ns, rfl, by rw [← rl.ints_inv e, hK]; exact ht, by intro z; subst z; simp at ne, q0 _ (.int _)⟩
  · simp only [Option.bind_eq_some_iff] at hd
    obtain ⟨ns, e, hd⟩ := hd
    split at hd
    · cases hd
    · rename_i ne
      cases hd
      obtain ⟨x, rfl, hx⟩ := repL1 h
      cases hx with
      | lst ht rl =>
        match ns, ne with
        | [], ne => simp at ne
        | n :: ns, _ =>
          refine cr_min hc pins s σ H _ us Q I r ⟨_, n :: ns, rfl, by rw [← rl.ints_inv e]; exact ht.sq, by simp, fun m h1 h2 => ?_⟩
          obtain ⟨h3, h4⟩ := minL_of (x := n) (xs := ns)
          rw [show m = minL (n :: ns) from by have := h2 _ h3; have := h4 _ h1; omega]
          exact q0 _ (.int _)
  · cases hd
    obtain ⟨x, y, rfl, hx, hy⟩ := repL2 h
    cases hx; cases hy
    exact call_min2 hc pins s σ H _ us Q I r ⟨_, _, rfl, q0 _ (.int _)⟩
  · simp only [Option.bind_eq_some_iff] at hd
    obtain ⟨ns, e, hd⟩ := hd
    split at hd
    · cases hd
    · rename_i ne
      cases hd
      obtain ⟨x, rfl, hx⟩ := repL1 h
      cases hx with
      | tup ht rl => exact cr_minT hc hu pins s σ H _ us Q I r ⟨_, ns, rfl, by rw [← rl.ints_inv e, hK]; exact ht, by intro z; subst z; simp at ne, q0 _ (.int _)⟩
  · cases hd
    obtain ⟨x, rfl, hx⟩ := repL1 h
    cases hx
    exact call_abs pins s σ H _ us Q I r ⟨_, rfl, q0 _ (.int _)⟩
  · cases hd
    obtain ⟨x, rfl, hx⟩ := repL1 h
    cases hx
    exact call_int1 pins s σ H _ us Q I r (.inl ⟨_, rfl, q0 _ (.int _)⟩)
  · cases hd
    obtain ⟨x, rfl, hx⟩ := repL1 h
    cases hx
    exact call_int1 pins s σ H _ us Q I r (.inr ⟨_, rfl, q0 _ (.int _)⟩)
  · cases hd
    obtain ⟨x, rfl, hx⟩ := repL1 h
    cases hx
    exact call_bool1 pins s σ H _ us Q I r (.inr ⟨_, rfl, q0 _ (.bl _)⟩)
  · cases hd
    obtain ⟨x, rfl, hx⟩ := repL1 h
    cases hx
    exact call_bool1 pins s σ H _ us Q I r (.inl ⟨_, rfl, q0 _ (.bl _)⟩)
  · cases hd
    obtain ⟨x, rfl, hx⟩ := repL1 h
    cases hx with
    | lst ht rl => exact call_tuple_of pins s σ H _ us Q I r ⟨_, _, rfl, .inl ⟨ht.sq, new_tup pm rl q⟩⟩
  · cases hd
    obtain ⟨x, rfl, hx⟩ := repL1 h
    cases hx with
    | tup ht rl => exact call_tuple_of pins s σ H _ us Q I r ⟨_, _, rfl, .inr ⟨by rw [hK]; exact ht, q0 _ (.tup ht rl)⟩⟩
  · cases hd
    obtain ⟨x, rfl, hx⟩ := repL1 h
    cases hx with
    | lst ht rl => exact call_list_of pins s σ H _ us Q I r ⟨_, _, rfl, .inl ht.sq, new_lst pm rl q⟩
  · cases hd
    obtain ⟨x, rfl, hx⟩ := repL1 h
    cases hx with
    | tup ht rl => exact call_list_of pins s σ H _ us Q I r ⟨_, _, rfl, .inr (by rw [hK]; exact ht), new_lst pm rl q⟩
  · exact srt_lst hK pins s σ H _ us Q I r ⟨P, _, d, pm, h, hd, q⟩
  · exact sorted_set hK hc hP hw pins s σ H _ us Q I r ⟨P, _, d, pm, h, hd, q⟩
  · simp only [Option.map_eq_some_iff] at hd
    obtain ⟨ns, e, rfl⟩ := hd
    obtain ⟨x, rfl, hx⟩ := repL1 h
    cases hx with
    | lst ht rl => exact cr_all hc pins s σ H _ us Q I r ⟨_, ns, rfl, by rw [← rl.bools_inv e]; exact ht.sq, q0 _ (.bl _)⟩
  · simp only [Option.map_eq_some_iff] at hd
    obtain ⟨ns, e, rfl⟩ := hd
    obtain ⟨x, rfl, hx⟩ := repL1 h
    cases hx with
    | lst ht rl => exact cr_any hc pins s σ H _ us Q I r ⟨_, ns, rfl, by rw [← rl.bools_inv e]; exact ht.sq, q0 _ (.bl _)⟩
  · cases hd
end
end Py
end
section
set_option Elab.async false
set_option linter.all false
set_option maxRecDepth 100000
set_option maxHeartbeats 4000000
namespace Py
open PySem PySem.Spec PyProof.Rows L2
section
variable {X : Cx}
/-! ### set(a list of tuples) -/
theorem mem_firstMet {α : Type} [BEq α] [LawfulBEq α] (x : α) : ∀ xs : List α, x ∈ firstMet xs ↔ x ∈ xs
  | [] => Iff.rfl
  | y :: ys => by
    show x ∈ y :: (firstMet ys).filter _ ↔ _
    rw [List.mem_cons, List.mem_filter, mem_firstMet x ys, List.mem_cons]
    by_cases e : x = y
    · simp [e]
    · simp [e]
theorem nodup_firstMet {α : Type} [BEq α] [LawfulBEq α] : ∀ xs : List α, (firstMet xs).Nodup
  | [] => List.nodup_nil
  | y :: ys => by
    show (y :: (firstMet ys).filter _).Nodup
    rw [List.nodup_cons]
    refine ⟨fun h => ?_, (nodup_firstMet ys).filter _⟩
    have := (List.mem_filter.mp h).2
    simp at this
theorem set_of {k : Ki} (hK : X.K = k.K) (hc : X.calm = true) (hP : X.prog = k.P) (hw : X.w = k.w) (hu : X.A.units + 100 < cLine) :
    CallR X (.type "set") (fun vs H Q => ∃ P P' xs rs, Pm P H ∧ Pm P' H ∧ RepL k P H vs [.lst xs] ∧ Py.rowsOf xs = some rs ∧ rs.length < 64 ∧ ∀ H' v, Same H H' → RepX k P' H' v (.set ((firstMet rs).map rowD)) → Q v H') := by
  intro pins s σ H vs us Q I r ⟨P, P', xs, rs, pm, pm', h, e, h64, q⟩
  obtain ⟨x, rfl, hx⟩ := repL1 h
  cases hx with
  | @lst a ys _ ht rl =>
    obtain ⟨as, e1, e2, e3⟩ := rows_addrs rl e
    refine cr_setOfT hc (by omega) pins s σ H _ us Q I r ⟨a, as.zip rs, rfl, ?_, fun p hp => by rw [hK]; exact e3 p hp, by rw [List.length_zip]; omega, fun b L hn hs hcv => ?_⟩
    · rw [zip_map_fst V.ref e2, ← e1]; exact ht.sq
    · have sm : Same H (upd H b (SetTO X.prog X.w b L)) := same_new hn
      refine q _ _ sm (.set (a := b) (L := L) (rs := firstMet rs) (by rw [← hP, ← hw]; exact upd_same) (pm_free pm' hn) (fun p hp => sqt_mono (P := P) (same_ext sm) pm (e3 p (hs p hp))) (fun r => ?_) (nodup_firstMet rs) rfl)
      rw [mem_firstMet]
      constructor
      · intro hr
        obtain ⟨p, hp, rfl⟩ := List.mem_map.mp hr
        exact (List.of_mem_zip (hs p hp)).2
      · intro hr
        obtain ⟨i, hi, hg⟩ := List.getElem_of_mem hr
        have hi2 : i < as.length := by omega
        have := hcv (as[i], rs[i]) (List.mem_iff_getElem.mpr ⟨i, by rw [List.length_zip]; omega, by rw [List.getElem_zip]⟩)
        rw [← hg]
        exact this

/-! ### isinstance -/
def Ty.nm : Ty → String
  | .int => "int" | .bool => "bool" | .tuple => "tuple" | .list => "list" | .str => "str" | .dict => "dict" | .none => "NoneType" | .cls _ => ""
def D.tn : D → String
  | .non => "NoneType" | .bl _ => "bool" | .int _ => "int" | .str _ => "str" | .tup _ => "tuple" | .lst _ => "list" | .dic _ _ => "dict" | _ => ""
def Ty.std : Ty → Bool
  | .cls _ => false | .none => false | _ => true
theorem tyx_of {k : Ki} {P : Addr → Prop} {H : Hp} {v : V} {d : D} (h : RepX k P H v d) (ok : d.tyOk = true) : TyX k.K H v (.type d.tn) := by
  cases h with
  | non => exact .base .non
  | bl b => exact .base (.bl b)
  | int i => exact .base (.int i)
  | str s => exact .base (.str s)
  | tup ht r =>
    rcases ht with (h | ⟨o, h⟩) | ⟨o, its, n, h1, h2, _⟩
    · exact .base (.tup h)
    · exact .fTuple h
    · exact .kTuple h1 h2
  | lst ht r => exact .base (.lst ht.1)
  | dic ht hn hk r => exact .base (.dK ht)
  | _ => simp [D.tyOk] at ok
theorem kit_std {K : PySem.W.Frag} (d : D) (t : Ty) (ok : d.tyOk = true) (st : t.std = true) : PySem.W.kitOne K (.type d.tn) (.type t.nm) = some (d.hasTy t) := by
  cases d <;> simp [D.tyOk] at ok <;> cases t <;> simp [Ty.std] at st <;> exact kit_ty (by simp only [D.tn, Ty.nm, D.hasTy]; decide +kernel)
theorem isi_one {k : Ki} (hK : X.K = k.K) : CallR X (.builtin "isinstance") (fun vs H Q => ∃ (P : Addr → Prop) (x : V) (d : D) (t : Ty), vs = [x, .ty t.nm] ∧ RepX k P H x d ∧ d.tyOk = true ∧ t.std = true ∧ Q (.bl (d.hasTy t)) H) := by
  intro pins s σ H vs us Q I r z
  obtain ⟨P, x, d, t, rfl, h, ok, st, q⟩ := z
  exact call_isi pins s σ H _ us Q I r ⟨x, .ty t.nm, .type d.tn, .type t.nm, _, rfl, .ty _, by rw [hK]; exact tyx_of h ok, by exact kit_std d t ok st, q⟩
theorem kit_any {K : PySem.W.Frag} (d : D) (ok : d.tyOk = true) : ∀ ts : List Ty, ts.all Ty.std = true → PySem.W.kitAny K (.type d.tn) (ts.map fun t => .type t.nm) = some (ts.any d.hasTy)
  | [], _ => rfl
  | t :: ts, h => by
    rw [List.all_cons, Bool.and_eq_true] at h
    rw [List.map_cons, List.any_cons]
    exact kitAny_cons (kit_std d t ok h.1) (fun e => by rw [e, Bool.false_or]; exact kit_any d ok ts h.2) (fun e => by rw [e, Bool.true_or])
theorem clsV_all : ∀ ts : List Ty, Paired ClsV (ts.map fun t => V.ty t.nm) (ts.map fun t => Value.type t.nm)
  | [] => .nil
  | t :: ts => .cons (.ty _) (clsV_all ts)
theorem isi_tup {k : Ki} (hK : X.K = k.K) : CallR X (.builtin "isinstance") (fun vs H Q => ∃ (P : Addr → Prop) (x : V) (d : D) (ts : List Ty) (tp : Addr), vs = [x, .ref tp] ∧ H tp = some (.tup (ts.map fun t => V.ty t.nm)) ∧ RepX k P H x d ∧ d.tyOk = true ∧ ts.all Ty.std = true ∧ Q (.bl (ts.any d.hasTy)) H) := by
  intro pins s σ H vs us Q I r z
  obtain ⟨P, x, d, ts, tp, rfl, ht, h, ok, st, q⟩ := z
  exact call_isiT pins s σ H _ us Q I r ⟨x, tp, _, .type d.tn, _, _, rfl, ht, clsV_all ts, by rw [hK]; exact tyx_of h ok, by exact kit_any d ok ts st, q⟩

/-! ### unary operators -/
def unOf : UnO → UnaryOp
  | .neg => .USub | .inv => .Invert
def rUn (o : UnO) : V → Hp → VK → Prop := fun x H Q => ∃ d d', (∃ k P, RepX k P H x d) ∧ unop o d = some d' ∧ ∀ (k : Ki) P v, RepX k P H v d' → Q v H
theorem op_un (o : UnO) : UnR X (unaryOp (unOf o)) (rUn o) := by
  intro pins s σ H x v Q I rx ⟨d, d', ⟨k, P, h⟩, e, q⟩
  cases o with
  | neg => cases h <;> simp [unop] at e; subst e; exact un_neg pins s σ H _ v Q I rx ⟨_, rfl, q k P _ (.int _)⟩
  | inv => cases h <;> simp [unop] at e; subst e; exact un_inv pins s σ H _ v Q I rx ⟨_, rfl, q k P _ (.int _)⟩
end
end Py
end
section
set_option Elab.async false
set_option linter.all false
set_option maxHeartbeats 4000000
set_option maxRecDepth 100000
namespace Py
open PySem PySem.Spec PyProof.Rows L2 C8
/-! ### set of a tuple of tuples (the road of the library's set of a list, turned) -/
section
variable {P : Program} {w : World} {A : Around} {E : Value → Shared → Prop} {s : Shared}
theorem call_set_tupsT {l : Addr} {items : Array Value} (ks : List (Addr × List Int)) {Q : Value → Shared → Prop} (hh : A.handled = none) (hl : s.heap.IsTuple l items) (hit : items.toList = ks.map fun p => Value.ref p.1)
    (hk : ∀ p ∈ ks, IsT P w s.heap p.2 p.1) (hfew : ks.length < 64) (hu : A.units + 3 < cLine)
    (h : ∀ (h' : Heap) (tk : Nat) L es ep t, SetTR P w h' s.heap.objs.size L es ep t → Got ks ks.length L → (∀ b o, s.heap.get? b = some o → h'.get? b = some o) → Q (.ref s.heap.objs.size) { s with heap := h', toks := tk }) :
    wpAny (model P w) A (call (.type "set") [.ref l]) Q E s := by
  have hisz : items.size = ks.length := by
    have q := congrArg List.length hit
    rw [Array.length_toList, List.length_map] at q
    exact q
  obtain ⟨c, tl, hmro⟩ := F.called_set.mro
  have hmade := F.called_set.made
  have hsub := F.called_set.sub
  refine wpAny_call (codeAny_of_tree ?_)
  show wpAny _ _ (callAny (.type "set") _) _ _ _
  refine wpAny_pure ⟨Code.quiet_builtin _ (by decide +kernel), codeAny_builtin F.entry_type_call ?_⟩
  rw [Around.under_plain (weight_type_call_type "set" [.ref l] []) rfl]
  have h1 := F.called_set.notType
  have h2 := F.called_set.canCreate
  have hct := F.typeCall_set_1 (.ref l)
  repeat (any_goals (first | assumption | wp_step))

  refine codeAny_mono (code_set_led1 (.ref l) (E := E) (Q₁ := fun obj s₁ => obj = .ref s.heap.objs.size ∧ s₁ = { s with heap := s.heap.push { cls := .type "set", dict := none, data := .set #[] 0 (.fresh 0 0 (!w.params.followText "set-order")) } }) ⟨rfl, rfl⟩) fun r s₁ hr => ?_
  cases r with
  | error e => exact hr
  | ok fl =>
    cases fl with
    | ret obj =>
      obtain ⟨rfl, rfl⟩ := hr
      have hS : (s.heap.push { cls := .type "set", dict := none, data := .set #[] 0 (.fresh 0 0 (!w.params.followText "set-order")) }).get? s.heap.objs.size = some { cls := .type "set", dict := none, data := .set #[] 0 (.fresh 0 0 (!w.params.followText "set-order")) } := Heap.get?_push_size _ rfl
      have hT : Shared.TypeIs { s with heap := s.heap.push { cls := .type "set", dict := none, data := .set #[] 0 (.fresh 0 0 (!w.params.followText "set-order")) } } (.ref s.heap.objs.size) "set" := ⟨_, hS, rfl⟩
      have hli := F.called_set.init.lookup
      have hbi := F.called_set.init.bind (.ref s.heap.objs.size)
      repeat (any_goals (first | assumption | wp_step))

      refine codeAny_mono (codeAny_call_builtin (R := wants (fun r s₂ => r = .none ∧ ∃ h' tk L es ep t, s₂ = { s with heap := h', toks := tk } ∧ SetTR P w h' s.heap.objs.size L es ep t ∧ Got ks ks.length L ∧
          (∀ b o, s.heap.get? b = some o → h'.get? b = some o)) E) F.called_set.init.plain F.entry_set_init (check_set_init_1 hT ?_)) fun r₂ s₂ hr₂ => ?_
      · obtain ⟨ol, hol, hcl, nl, hdl⟩ := hl
        obtain ⟨ocls, odict, odata, oslots⟩ := ol
        simp only at hcl hdl
        subst hcl; subst hdl
        have hol' : (s.heap.push { cls := .type "set", dict := none, data := .set #[] 0 (.fresh 0 0 (!w.params.followText "set-order")) }).get? l = some { cls := .type "tuple", dict := odict, data := .seq items nl, slots := oslots } := Heap.get?_push_of_some _ hol
        have hsls := F.sub_tuple_set
        have hslf := F.sub_tuple_frozenset
        have hne : (Value.type "tuple" == Value.type "dict") = false := by decide
        have hl1 : (s.heap.push { cls := .type "set", dict := none, data := .set #[] 0 (.fresh 0 0 (!w.params.followText "set-order")) }).IsTuple l items := ⟨_, hol', rfl, nl, rfl⟩
        unfold Builtin.«set.__init__» noKeywords Builtin.Frozenset.updateFrom
        generalize hPI : pyIter = PI
        wp_walk
        subst hPI

        refine wpAny_pyIter_tuple hl1 ?_
        refine wpAny_bind (wpAny_runValue ?_)
        have hlS : l < s.heap.objs.size := Heap.lt_size hol
        have hh3 : A.in1.in1.in1.handled = none := by simp [hh]
        have hz1 : (s.heap.push { cls := .type "set", dict := none, data := .set #[] 0 (.fresh 0 0 (!w.params.followText "set-order")) }).objs.size = s.heap.objs.size + 1 := Heap.size_push ..
        have hneI : l ≠ (s.heap.push { cls := .type "set", dict := none, data := .set #[] 0 (.fresh 0 0 (!w.params.followText "set-order")) }).objs.size := by
          rw [Heap.size_push]; exact Nat.ne_of_lt (Nat.lt_succ_of_lt hlS)
        have hSf : s.heap.objs.size ∉ [(s.heap.push { cls := .type "set", dict := none, data := .set #[] 0 (.fresh 0 0 (!w.params.followText "set-order")) }).objs.size, l] := by
          rw [Heap.size_push]; simp only [List.mem_cons, List.mem_singleton, List.not_mem_nil, or_false, not_or]
          exact ⟨Nat.ne_of_lt (Nat.lt_succ_self _), Nat.ne_of_gt hlS⟩
        have hval : ∀ (i : Nat) (v : Value), items[i]? = some v → ∃ p, ks[i]? = some p ∧ v = .ref p.1 := fun i v hv => by
          have q : items.toList[i]? = some v := by rw [Array.getElem?_toList]; exact hv
          rw [hit, List.getElem?_map] at q
          cases hq : ks[i]? with
          | none => rw [hq] at q; cases q
          | some p =>
            rw [hq] at q
            exact ⟨p, rfl, (Option.some.inj q).symm⟩
        have none_of : ∀ b, s.heap.objs.size ≤ b → s.heap.get? b = none := fun b hb => by
          cases q : s.heap.get? b with
          | none => rfl
          | some o => exact absurd (Nat.lt_of_lt_of_le (Heap.lt_size q) hb) (Nat.lt_irrefl _)
        refine set_update_tups ((Walks.tuple hh3 _ l hneI items).toS) s.heap.objs.size
          hSf ks hisz hfew hval s.heap hk (none_of _ (Nat.le_refl _)) (fun b hb => none_of b (by
            rw [List.mem_singleton.mp hb, Heap.size_push]
            exact Nat.le_succ _)) hu (items.size - 0) 0 _ (by omega) (Nat.zero_le _)
          ⟨⟨_, Heap.get?_push_size _ rfl, rfl, rfl⟩, (hl1.push _)⟩ (fun b o e => Heap.get?_push_of_some _ (Heap.get?_push_of_some _ e)) ?hS0 ?hR
        case hS0 =>
          have hget : ((s.heap.push { cls := .type "set", dict := none, data := .set #[] 0 (.fresh 0 0 (!w.params.followText "set-order")) }).push { cls := .type "tuple_iterator", data := .fields #[.ref l, .int 0 0] }).get? s.heap.objs.size
              = some { cls := .type "set", dict := none, data := .set #[] 0 (.fresh 0 0 (!w.params.followText "set-order")) } := Heap.get?_push_of_some _ hS
          exact ⟨[], #[], 0, _, setTR_fresh hget, Got.zero ks⟩
        case hR =>
          intro s' L es ep t hm hS' g' hkp
          obtain ⟨h', g2, d', tk', os'⟩ := s'
          have eg : g2 = s.gens := hm.gens
          have ed : d' = s.drawn := hm.drawn
          have eo : os' = s.os := hm.os
          subst eg; subst ed; subst eo
          show wpAny _ _ _ _ _ _
          refine wpAny_pure ?_
          show wpAny _ _ (ret Value.none) _ _ _
          rw [hisz] at g'
          exact wpAny_pure ⟨rfl, h', tk', L, es, ep, t, rfl, hS', g', hkp⟩

      · cases r₂ with
        | error e => exact hr₂
        | ok fl₂ =>
          cases fl₂ with
          | ret r =>
            obtain ⟨rfl, h', tk, L, es, ep, t, rfl, hS', g', hk'⟩ := hr₂
            repeat (any_goals (first | assumption | wp_step))
            exact h _ _ _ _ _ _ hS' g' hk'
          | _ => exact hr₂.elim
    | _ => exact hr.elim

end
section
variable {X : Cx}
def rSetOfTT (K : PySem.W.Frag) (P : Program) (w : World) : List V → Hp → VK → Prop := fun xs H Q => ∃ (l : Addr) (ks : List (Addr × List Int)), xs = [V.ref l] ∧ SqT K H l (ks.map fun p => V.ref p.1) ∧ (∀ p ∈ ks, SqT K H p.1 (p.2.map V.int)) ∧ ks.length < 64 ∧
  ∀ a L, H a = none → (∀ p ∈ L, p ∈ ks) → (∀ p ∈ ks, p.2 ∈ L.map (·.2)) → Q (.ref a) (upd H a (SetTO P w a L))
theorem cr_setOfTT (hc : X.calm = true) (hu : X.A.units + 64 < cLine) : CallR X (.type "set") (rSetOfTT X.K X.prog X.w) := by
  intro pins s σ H xs us Q I r h
  obtain ⟨l, ks, rfl, hl, hk, hf, q⟩ := h
  rw [Vals.ref1 r]
  obtain ⟨its, rv, pl, hz⟩ := I.tuple hl
  have hn : H s.heap.objs.size = none := I.hok.fresh (Nat.le_refl _)
  refine call_set_tupsT (P := X.prog) (w := X.w) ks (I.ok.hd hc) (show s.heap.IsTuple l its.toArray from pl) (by simpa using refs_of_vals rv) (fun p hp => I.isT (hk p hp)) hf (by omega) fun h' tk L es ep t R g k => ?_
  refine ⟨.ref s.heap.objs.size, upd H s.heap.objs.size (SetTO X.prog X.w s.heap.objs.size L), I.laid (t' := tk) k (Nat.le_refl _) (setTO_new R.t0), rfl, q _ L hn (fun p hp => ?_) fun p hp => ?_⟩
  · exact List.mem_of_mem_take (g.sub p hp)
  · exact g.all p (by rw [List.take_length]; exact hp)
theorem set_ofT {k : Ki} (hK : X.K = k.K) (hc : X.calm = true) (hP : X.prog = k.P) (hw : X.w = k.w) (hu : X.A.units + 100 < cLine) :
    CallR X (.type "set") (fun vs H Q => ∃ P P' y xs rs, Pm P H ∧ Pm P' H ∧ RepL k P H vs [y] ∧ setSrc y = some xs ∧ Py.rowsOf xs = some rs ∧ rs.length < 64 ∧ ∀ H' v, Same H H' → RepX k P' H' v (.set ((firstMet rs).map rowD)) → Q v H') := by
  intro pins s σ H vs us Q I r ⟨P, P', y, xs, rs, pm, pm', h, hy, e, h64, q⟩
  have fin : ∀ (as : List Addr), as.length = rs.length → (∀ p ∈ as.zip rs, SqT k.K H p.1 (p.2.map V.int)) → ∀ b L, H b = none → (∀ p ∈ L, p ∈ as.zip rs) → (∀ p ∈ as.zip rs, p.2 ∈ L.map (·.2)) → Q (.ref b) (upd H b (SetTO X.prog X.w b L)) := by
    intro as e2 e3 b L hn hs hcv
    have sm : Same H (upd H b (SetTO X.prog X.w b L)) := same_new hn
    refine q _ _ sm (.set (a := b) (L := L) (rs := firstMet rs) (by rw [← hP, ← hw]; exact upd_same) (pm_free pm' hn) (fun p hp => sqt_mono (P := P) (same_ext sm) pm (e3 p (hs p hp))) (fun r => ?_) (nodup_firstMet rs) rfl)
    rw [mem_firstMet]
    constructor
    · intro hr
      obtain ⟨p, hp, rfl⟩ := List.mem_map.mp hr
      exact (List.of_mem_zip (hs p hp)).2
    · intro hr
      obtain ⟨i, hi, hg⟩ := List.getElem_of_mem hr
      have hi2 : i < as.length := by omega
      have := hcv (as[i], rs[i]) (List.mem_iff_getElem.mpr ⟨i, by rw [List.length_zip]; omega, by rw [List.getElem_zip]⟩)
      rw [← hg]
      exact this
  obtain ⟨x, rfl, hx⟩ := repL1 h
  cases hx <;> first | (cases hy; done) | skip
  case lst a ys ds ht rl =>
    cases hy
    obtain ⟨as, e1, e2, e3⟩ := rows_addrs rl e
    refine cr_setOfT hc (by omega) pins s σ H _ us Q I r ⟨a, as.zip rs, rfl, ?_, fun p hp => by rw [hK]; exact e3 p hp, by rw [List.length_zip]; omega, fin as e2 e3⟩
    rw [zip_map_fst V.ref e2, ← e1]; exact ht.sq
  case tup a ys ds ht rl =>
    cases hy
    obtain ⟨as, e1, e2, e3⟩ := rows_addrs rl e
    refine cr_setOfTT hc (by omega) pins s σ H _ us Q I r ⟨a, as.zip rs, rfl, ?_, fun p hp => by rw [hK]; exact e3 p hp, by rw [List.length_zip]; omega, fin as e2 e3⟩
    rw [zip_map_fst V.ref e2, ← e1, hK]; exact ht
end
end Py
end
section
set_option Elab.async false
set_option linter.all false
set_option maxRecDepth 100000
set_option maxHeartbeats 4000000
namespace Py
open PySem PySem.Spec PyProof.Rows L2
/-! ### weakening of judgements -/
section
variable {X : Cx}
theorem pe_imp {e : Expr} {t t' : TE} (h : PE X e t) (i : ∀ σ H Q, t' σ H Q → t σ H Q) : PE X e t' := ⟨fun pins s σ H Q I q => h.run pins s σ H Q I (i σ H Q q)⟩
theorem pt_imp {e : Expr} {t t' : TT} (h : PT X e t) (i : ∀ σ H Q, t' σ H Q → t σ H Q) : PT X e t' := ⟨fun pins s σ H Q I q => h.run pins s σ H Q I (i σ H Q q)⟩
theorem pw_imp {e : Expr} {t t' : TT} (h : PW X e t) (i : ∀ σ H Q, t' σ H Q → t σ H Q) : PW X e t' := ⟨fun wh pins s σ H Q I q => h.run wh pins s σ H Q I (i σ H Q q)⟩
theorem pa_imp {es : List Expr} {t t' : TA} (h : PA X es t) (i : ∀ σ H Q, t' σ H Q → t σ H Q) : PA X es t' := ⟨fun pos pins s σ H Q I q => h.run pos pins s σ H Q I (i σ H Q q)⟩
theorem po_imp {e : Option Expr} {t t' : TO} (h : PO X e t) (i : ∀ σ H Q, t' σ H Q → t σ H Q) : PO X e t' := ⟨fun pins s σ H Q I q => h.run pins s σ H Q I (i σ H Q q)⟩
theorem pi_imp {tg e : Expr} {t t' : TI} (h : PI X tg e t) (i : ∀ σ H Q, t' σ H Q → t σ H Q) : PI X tg e t' := ⟨fun pins s σ H Q I q => h.run pins s σ H Q I (i σ H Q q)⟩
theorem ps_imp {s : Stmt} {t t' : TS} (h : PS X s t) (i : ∀ D σ H, t' D σ H → t D σ H) : PS X s t' := ⟨fun pins s σ H D I q => h.run pins s σ H D I (i D σ H q)⟩
theorem pss_imp {s : List Stmt} {t t' : TS} (h : PSs X s t) (i : ∀ D σ H, t' D σ H → t D σ H) : PSs X s t' := ⟨fun pins s σ H D I q => h.run pins s σ H D I (i D σ H q)⟩
theorem pe_or2 {e : Expr} {t t' : TE} (h : PE X e t) (h' : PE X e t') : PE X e (fun σ H Q => t σ H Q ∨ t' σ H Q) := ⟨fun pins s σ H Q I q => q.elim (h.run pins s σ H Q I) (h'.run pins s σ H Q I)⟩
theorem pi_or2 {tg e : Expr} {t t' : TI} (h : PI X tg e t) (h' : PI X tg e t') : PI X tg e (fun σ H Q => t σ H Q ∨ t' σ H Q) := ⟨fun pins s σ H Q I q => q.elim (h.run pins s σ H Q I) (h'.run pins s σ H Q I)⟩
end
theorem R.bind_inv {α β : Type} {r : R α} {f : Env → α → R β} {G' : Env} {b : β} (h : r.bind f = .ok G' b) : ∃ G1 a, r = .ok G1 a ∧ f G1 a = .ok G' b := by
  cases r with
  | bad => cases h
  | ok G1 a => exact ⟨G1, a, rfl, h⟩
theorem R.ofO_inv {α : Type} {G G' : Env} {o : Option α} {a : α} (h : R.ofO G o = .ok G' a) : o = some a ∧ G = G' := by
  cases o with
  | none => cases h
  | some x => cases h; exact ⟨rfl, rfl⟩
theorem ite_bad {α : Type} {c : Bool} {r : R α} {G : Env} {a : α} (h : (if c = true then R.bad else r) = .ok G a) : c = false ∧ r = .ok G a := by
  cases c with
  | true => simp at h
  | false => exact ⟨rfl, by simpa using h⟩
theorem ite_ok {α : Type} {c : Bool} {r : R α} {G : Env} {a : α} (h : (if c = true then r else R.bad) = .ok G a) : c = true ∧ r = .ok G a := by
  cases c with
  | false => simp at h
  | true => exact ⟨rfl, by simpa using h⟩
/-- borrowed only ahead of what changes nothing -/
theorem bor {b m : Bool} (h : (b && !m) = false) : b = true → m = true := by
  cases b <;> cases m <;> simp at h ⊢

/-- a context of the walk -/
structure XB (k : Ki) (X : Cx) : Prop where
  K : X.K = k.K
  P : X.prog = k.P
  w : X.w = k.w
  calm : X.calm = true
  units : X.A.units + 100 < cLine
  nd : X.N.Nodup

section
variable {k : Ki} {F : Addr → Prop} {σ : St} {H H' : Hp} {G : Env} {fp fp' : Fp}
theorem VRep.fl {v : V} {d : D} {b : Bool} (h : VRep k F fp H v d b) : VRep k F fp H v (Py.fl d b).1 (Py.fl d b).2 := by
  unfold Py.fl
  cases hi : d.imm with
  | true => exact h.imm hi
  | false => simpa using h
/-- clean to borrowed or as it is, by a flag -/
theorem VRep.or1 (E : EnvOk k F σ H G fp) {v : V} {d : D} {b c : Bool} (h : VRep k F fp H v d b) : VRep k F fp H v d (b || c) := h.weak E fun e => by rw [e]; rfl
theorem VRep.or2 (E : EnvOk k F σ H G fp) {v : V} {d : D} {b c : Bool} (h : VRep k F fp H v d b) : VRep k F fp H v d (c || b) := h.weak E fun e => by rw [e, Bool.or_true]
theorem EnvOk.sh (E : EnvOk k F σ H G fp) {i : Nat} {d : D} (h : G[i]? = some (.sh d)) : ∃ v, σ[i]? = some (some v) ∧ RepX k (Own F fp) H v d := by
  have := E.slot i
  rw [h] at this
  obtain ⟨⟨x, e, r⟩, _⟩ := this
  exact ⟨x, e, r⟩
theorem EnvOk.ow (E : EnvOk k F σ H G fp) {i : Nat} {m : M} (h : G[i]? = some (.ow m)) : ∃ v, σ[i]? = some (some v) ∧ RepM k (Own F fp) H v m (fp i) := by
  have := E.slot i
  rw [h] at this
  exact this
def fpSet (fp : Fp) (i : Nat) (as : List Addr) : Fp := fun j => if j = i then as else fp j
theorem fpSet_same {fp : Fp} {i : Nat} {as : List Addr} : fpSet fp i as i = as := if_pos rfl
theorem fpSet_ne {fp : Fp} {i j : Nat} {as : List Addr} (h : j ≠ i) : fpSet fp i as j = fp j := if_neg h
/-- a slot is given up: its objects belong to nobody -/
theorem own_less {i : Nat} : ∀ a, Own F (fpSet fp i []) a → Own F fp a := fun a q => by
  rcases q with q | ⟨j, q⟩
  · exact .inl q
  · by_cases e : j = i
    · rw [e, fpSet_same] at q; cases q
    · rw [fpSet_ne e] at q; exact .inr ⟨j, q⟩
theorem SlotOk.less (E : EnvOk k F σ H G fp) {i j : Nat} (hj : j ≠ i) {v : Option (Option V)} {s : Option Slot} (h : SlotOk k (Own F fp) H v (fp j) s) : SlotOk k (Own F (fpSet fp i [])) H v (fpSet fp i [] j) s := by
  rw [fpSet_ne hj]
  cases s with
  | none => exact h
  | some s =>
    cases s with
    | dead => exact h
    | sh d => obtain ⟨⟨x, e, r⟩, z⟩ := h; exact ⟨⟨x, e, r.sub own_less E.pm⟩, z⟩
    | ow m => obtain ⟨x, e, r⟩ := h; exact ⟨x, e, r.mono Ext.refl E.pm (fun a q => .inl (own_less a q)) fun _ _ => rfl⟩
/-- a new value (or none) in a slot, clean -/
theorem EnvOk.store (E : EnvOk k F σ H G fp) {i : Nat} {v : Option V} {s : Slot} (hi : i < G.length) (hs : SlotOk k (Own F (fpSet fp i [])) H (some v) [] (some s)) (hn : ∀ m, s ≠ .ow m) : EnvOk k F (σ.set i v) H (G.set i s) (fpSet fp i []) where
  len := by rw [List.length_set, List.length_set]; exact E.len
  slot := fun j => by
    by_cases e : j = i
    · subst e
      rw [fpSet_same, List.getElem?_set_self (by rw [E.len]; exact hi), List.getElem?_set_self hi]
      exact hs
    · rw [List.getElem?_set_ne (Ne.symm e), List.getElem?_set_ne (Ne.symm e)]
      exact (E.slot j).less E e
  nd := fun j => by
    by_cases e : j = i
    · rw [e, fpSet_same]; exact List.nodup_nil
    · rw [fpSet_ne e]; exact E.nd j
  dj := fun a b x h1 h2 => by
    by_cases e : a = i
    · rw [e, fpSet_same] at h1; cases h1
    · by_cases e2 : b = i
      · rw [e2, fpSet_same] at h2; cases h2
      · rw [fpSet_ne e] at h1; rw [fpSet_ne e2] at h2; exact E.dj a b x h1 h2
  df := fun a x h1 => by
    by_cases e : a = i
    · rw [e, fpSet_same] at h1; cases h1
    · rw [fpSet_ne e] at h1; exact E.df a x h1
  pm := E.pm.sub own_less
theorem tr_less {i : Nat} : Tr fp H (fpSet fp i []) H := ⟨fun _ _ h _ => h, fun j a q => by
  by_cases e : j = i
  · rw [e, fpSet_same] at q; cases q
  · rw [fpSet_ne e] at q; exact .inl ⟨j, q⟩, fun _ h => h⟩
theorem set_get {α : Type} {l : List α} {i : Nat} {x : α} (h : l[i]? = some x) : l.set i x = l := by
  obtain ⟨hi, rfl⟩ := List.getElem?_eq_some_iff.mp h
  exact List.set_getElem_self hi
/-- an owned slot is frozen -/
theorem EnvOk.freeze (E : EnvOk k F σ H G fp) {i : Nat} {m : M} (h : G[i]? = some (.ow m)) : ∃ v, σ[i]? = some (some v) ∧ EnvOk k F σ H (G.set i (.sh m.fz)) (fpSet fp i []) ∧ RepX k (Own F (fpSet fp i [])) H v m.fz := by
  obtain ⟨v, e, r⟩ := E.ow h
  have hr : RepX k (Own F (fpSet fp i [])) H v m.fz := r.fz E.pm own_less fun a q z => by
    rcases z with z | ⟨j, z⟩
    · exact E.df i a q z
    · by_cases e : j = i
      · rw [e, fpSet_same] at z; cases z
      · rw [fpSet_ne e] at z; exact e (E.dj j i a z q)
  refine ⟨v, e, ?_, hr⟩
  have := E.store (v := some v) (s := .sh m.fz) (List.getElem?_eq_some_iff.mp h).1 ⟨⟨v, rfl, hr⟩, rfl⟩ (fun _ z => by cases z)
  rwa [set_get e] at this
end

/-! ### readings -/
section
variable (k : Ki) (C : Ctx) (orc : Orc)
def tE (e : E) : TE := fun σ H Q => ∃ F G fp G' d b, EnvOk k F σ H G fp ∧ ev C orc e G = .ok G' (d, b) ∧ ∀ H' fp' v, EnvOk k F σ H' G' fp' → Tr fp H fp' H' → (e.mf = true → Same H H') → VRep k F fp' H' v d b → Q v H'
def tT (e : E) : TT := fun σ H Q => ∃ F G fp G' b, EnvOk k F σ H G fp ∧ evT C orc e G = .ok G' b ∧ ∀ H' fp', EnvOk k F σ H' G' fp' → Tr fp H fp' H' → (e.mf = true → Same H H') → Q b H'
def tEs (es : List E) : TA := fun σ H Q => ∃ F G fp G' ds b, EnvOk k F σ H G fp ∧ evs C orc es G = .ok G' (ds, b) ∧ ∀ H' fp' vs, EnvOk k F σ H' G' fp' → Tr fp H fp' H' → (E.mfL es = true → Same H H') → RepL k (if b = true then F else Own F fp') H' vs ds → Q vs H'
def tO (e : E) : TO := fun σ H Q => ∃ F G fp G' o, EnvOk k F σ H G fp ∧ evI C orc e G = .ok G' o ∧ ∀ H' fp', EnvOk k F σ H' G' fp' → Tr fp H fp' H' → (e.mf = true → Same H H') → Q o H'
end
section
variable {k : Ki} {C : Ctx} {orc : Orc} {X : Cx}
theorem same_trans {H H1 H2 : Hp} (a : Same H H1) (b : Same H1 H2) : Same H H2 := fun x o h => b x o (a x o h)
theorem se_var {i : Nat} {x : Str} {pos : Pos} (hN : X.N[i]? = some x) (hv : Vis X.env.scope x) (hd : (x == ("__debug__" : Str)) = false) (hcd : (x == ("__classdict__" : Str)) = false) : PE X (.Name x pos) (tE k C orc (.var i)) := by
  refine pe_imp (pe_var hN hv hd hcd) fun σ H Q ⟨F, G, fp, G', d, b, E, h, q⟩ => ?_
  rw [ev] at h
  split at h
  · rename_i d' hg
    cases h
    obtain ⟨v, e, r⟩ := E.sh hg
    exact ⟨v, e, q H fp v E (.refl _ _) (fun _ => ssame) r⟩
  · rename_i m hg
    cases h
    obtain ⟨v, e, E1, r⟩ := E.freeze hg
    exact ⟨v, e, q H _ v E1 tr_less (fun _ => ssame) r⟩
  · cases h
/-- constants -/
def ckCon : Const → D → Bool
  | .none, .non => true
  | .bool b, .bl c => b == c
  | .int i, .int j => i == j
  | .str s, .str t => s == t
  | _, _ => false
theorem se_con {c : Const} {d : D} {j : Nat} {pos : Pos} (h : ckCon c d = true) : PE X (.Constant c j pos) (tE k C orc (.con d)) := by
  have fin : ∀ {v : V}, (∀ P H, RepX k P H v d) → ∀ σ H Q, tE k C orc (.con d) σ H Q → tC v σ H Q := fun {v} r σ H Q ⟨F, G, fp, G', d', b, E, h, q⟩ => by
    rw [ev] at h
    cases h
    exact q H fp v E (.refl _ _) (fun _ => ssame) (r _ _)
  unfold ckCon at h
  split at h
  · exact pe_imp pe_non (fin fun _ _ => .non)
  · rename_i a b; have e : a = b := by simpa using h
    subst e; exact pe_imp pe_bl (fin fun _ _ => .bl _)
  · rename_i a b; have e : a = b := by simpa using h
    subst e; exact pe_imp pe_int (fin fun _ _ => .int _)
  · rename_i a b; have e : a = b := by simpa using h
    subst e; exact pe_imp pe_str (fin fun _ _ => .str _)
  · cases h
variable {a b c : Expr} {ea eb ec : E} {pos : Pos}
theorem se_bin (B : XB k X) {o : BinO} {op : Operator} (ho : opOf o = op) (ha : PE X a (tE k C orc ea)) (hb : PE X b (tE k C orc eb)) : PE X (.BinOp a op b pos) (tE k C orc (.bin o ea eb)) := by
  subst ho
  refine pe_imp (pe_op (op_bin B.K o) ha hb) fun σ H Q ⟨F, G, fp, G', d, b, E, h, q⟩ => ?_
  rw [ev] at h
  obtain ⟨G1, x, h1, h⟩ := R.bind_inv h
  obtain ⟨hb1, h⟩ := ite_bad h
  obtain ⟨G2, y, h2, h⟩ := R.bind_inv h
  obtain ⟨h3, rfl⟩ := R.ofO_inv h
  obtain ⟨d', h3, h4⟩ := Option.map_eq_some_iff.mp h3
  refine ⟨F, G, fp, G1, x.1, x.2, E, h1, fun H1 fp1 v1 E1 T1 S1 R1 => ⟨F, G1, fp1, G2, y.1, y.2, E1, h2, fun H2 fp2 v2 E2 T2 S2 R2 => ?_⟩⟩
  have R1' := (R1.tr E1 T2 fun z => S2 (bor hb1 z)).or1 E2 (c := y.2)
  refine ⟨_, x.1, y.1, d', E2.pmB (x.2 || y.2), R1', R2.or2 E2, h3, fun H3 v s r => ?_⟩
  have r := VRep.fl (b := x.2 || y.2) r
  rw [h4] at r
  exact q H3 fp2 v (E2.same s) ((T1.trans T2).trans (same_tr s)) (fun m => by
    simp only [Py.E.mf, Bool.and_eq_true] at m
    exact same_trans (same_trans (S1 m.1) (S2 m.2)) s) r
theorem se_un (B : XB k X) {o : UnO} {op : UnaryOp} (ho : unOf o = op) (ha : PE X a (tE k C orc ea)) : PE X (.UnaryOp op a pos) (tE k C orc (.un o ea)) := by
  subst ho
  refine pe_imp (pe_un (op_un o) ha) fun σ H Q ⟨F, G, fp, G', d, b, E, h, q⟩ => ?_
  rw [ev] at h
  obtain ⟨G1, x, h1, h⟩ := R.bind_inv h
  obtain ⟨h3, rfl⟩ := R.ofO_inv h
  obtain ⟨d', h3, h4⟩ := Option.map_eq_some_iff.mp h3
  refine ⟨F, G, fp, G1, x.1, x.2, E, h1, fun H1 fp1 v1 E1 T1 S1 R1 => ⟨x.1, d', ⟨k, _, R1⟩, h3, fun k' P v r => ?_⟩⟩
  have ri : ∃ i, d' = .int i := by
    cases o <;> cases hx : x.1 <;> rw [hx] at h3 <;> simp [unop] at h3 <;> exact ⟨_, h3.symm⟩
  obtain ⟨i, rfl⟩ := ri
  cases r
  have r : VRep k F fp1 H1 (.int i) (.int i) x.2 := RepX.int i
  have r := VRep.fl r
  rw [h4] at r
  exact q H1 fp1 _ E1 T1 (fun m => by simp only [Py.E.mf] at m; exact S1 m) r
theorem cmp_bl {o : CmpO} {x y d : D} (h : cmpop o x y = some d) : ∃ c, d = .bl c := by
  unfold cmpop at h
  split at h
  all_goals first
    | (cases h; done)
    | (cases h; exact ⟨_, rfl⟩)
    | (obtain ⟨e, _, rfl⟩ := Option.map_eq_some_iff.mp h; exact ⟨_, rfl⟩)
    | (split at h <;> first | (cases h; exact ⟨_, rfl⟩) | cases h)
theorem cmp_red (B : XB k X) {o : CmpO} (σ : St) (H : Hp) (Q : VK) : tE k C orc (.cmp o ea eb) σ H Q → tOp (rCmp k o) (tE k C orc ea) (tE k C orc eb) σ H fun v H' => (∃ c, v = .bl c) ∧ Q v H' := by
  intro ⟨F, G, fp, G', d, b, E, h, q⟩
  rw [ev] at h
  obtain ⟨G1, x, h1, h⟩ := R.bind_inv h
  obtain ⟨hb1, h⟩ := ite_bad h
  obtain ⟨G2, y, h2, h⟩ := R.bind_inv h
  obtain ⟨h3, rfl⟩ := R.ofO_inv h
  obtain ⟨d', h3, h4⟩ := Option.map_eq_some_iff.mp h3
  refine ⟨F, G, fp, G1, x.1, x.2, E, h1, fun H1 fp1 v1 E1 T1 S1 R1 => ⟨F, G1, fp1, G2, y.1, y.2, E1, h2, fun H2 fp2 v2 E2 T2 S2 R2 => ?_⟩⟩
  have R1' := (R1.tr E1 T2 fun z => S2 (bor hb1 z)).or1 E2 (c := y.2)
  refine ⟨_, x.1, y.1, d', E2.pmB (x.2 || y.2), R1', R2.or2 E2, h3, fun v r => ?_⟩
  obtain ⟨c, rfl⟩ := cmp_bl h3
  have r0 := r.bl_inv
  have r := VRep.fl (b := x.2 || y.2) r
  rw [h4] at r
  exact ⟨⟨c, r0⟩, q H2 fp2 v E2 (T1.trans T2) (fun m => by
    simp only [Py.E.mf, Bool.and_eq_true] at m
    exact same_trans (S1 m.1) (S2 m.2)) r⟩
def notIn : CmpO → Bool
  | .mem => false | .nmem => false | _ => true
def noSetE : Expr → Bool
  | .Set _ _ _ => false
  | _ => true
theorem nomarkE {e : Expr} (h : noSetE e = true) (op : CmpOp) : behindInMarks op e = false := by
  cases e <;> first | rfl | cases h
theorem r2_mono (o : CmpO) (x y : V) (H : Hp) (Q Q' : VK) (h : rCmp k o x y H Q) (i : ∀ v H', Q v H' → Q' v H') : rCmp k o x y H Q' := by
  obtain ⟨P, d1, d2, d, pm, r1, r2, e, q⟩ := h
  exact ⟨P, d1, d2, d, pm, r1, r2, e, fun v r => i v H (q v r)⟩
theorem tE_mono {e : E} {σ : St} {H : Hp} {Q Q' : VK} (h : tE k C orc e σ H Q) (i : ∀ v H', Q v H' → Q' v H') : tE k C orc e σ H Q' := by
  obtain ⟨F, G, fp, G', d, b, E, h, q⟩ := h
  exact ⟨F, G, fp, G', d, b, E, h, fun H' fp' v E' T S R => i v H' (q H' fp' v E' T S R)⟩
theorem se_cmp (B : XB k X) {o : CmpO} {op : CmpOp} (ho : cmpOf o = op) (hs : noSetE b = true) (ha : PE X a (tE k C orc ea)) (hb : PE X b (tE k C orc eb)) : PE X (.Compare a [op] [b] pos) (tE k C orc (.cmp o ea eb)) := by
  subst ho
  refine pe_imp (pe_cmpR (op_cmp B.K B.units o) ha hb (nomarkE hs _)) fun σ H Q h => ?_
  exact tE_mono (cmp_red B σ H Q h) fun v H' h' => tE_mono h' fun w H2 h2 => r2_mono o v w H2 _ _ h2 fun _ _ z => z.2
theorem evT_ev {e : E} (h : match e with | .and _ _ => False | .or _ _ => False | .not _ => False | _ => True) (G : Py.Env) : evT C orc e G = (ev C orc e G).bind fun G1 x => .ofO G1 (truth x.1) := by
  cases e <;> first | exact h.elim | simp only [evT]
/-- a value's truth, as the test -/
theorem tT_of {e : E} (hn : match e with | .and _ _ => False | .or _ _ => False | .not _ => False | _ => True) {σ : St} {H : Hp} {Q : Bool → Hp → Prop} (h : tT k C orc e σ H Q) : tE k C orc e σ H fun v H' => ∃ b P d, RepX k P H' v d ∧ truth d = some b ∧ Q b H' := by
  obtain ⟨F, G, fp, G', b, E, h, q⟩ := h
  rw [evT_ev hn] at h
  obtain ⟨G1, x, h1, h⟩ := R.bind_inv h
  obtain ⟨h3, rfl⟩ := R.ofO_inv h
  exact ⟨F, G, fp, G1, x.1, x.2, E, h1, fun H1 fp1 v E1 T1 S1 R1 => ⟨b, _, x.1, R1, h3, q H1 fp1 E1 T1 S1⟩⟩
theorem st_cmp (B : XB k X) {o : CmpO} {op : CmpOp} (ho : cmpOf o = op) (hs : noSetE b = true) (ha : PE X a (tE k C orc ea)) (hb : PE X b (tE k C orc eb)) : PT X (.Compare a [op] [b] pos) (tT k C orc (.cmp o ea eb)) := by
  subst ho
  refine pt_imp (pt_cmpR (op_cmp B.K B.units o) ha hb (nomarkE hs _)) fun σ H Q h => ?_
  refine tE_mono (cmp_red B σ H _ (tT_of trivial h)) fun v H' h' => tE_mono h' fun w H2 h2 => r2_mono o v w H2 _ _ h2 fun u H3 z => ?_
  obtain ⟨⟨c, rfl⟩, b, P, d, r, ht, q⟩ := z
  cases r
  cases ht
  exact ⟨c, rfl, q⟩
theorem chain_red (B : XB k X) {o o' : CmpO} (σ : St) (H : Hp) (Q : VK) : tE k C orc (.chain o o' ea eb ec) σ H Q → tChain (rCmp k o) (rCmp k o') (tE k C orc ea) (tE k C orc eb) (tE k C orc ec) σ H fun v H' => (∃ c, v = .bl c) ∧ Q v H' := by
  intro ⟨F, G, fp, G', d, b, E, h, q⟩
  rw [ev] at h
  obtain ⟨G1, x, h1, h⟩ := R.bind_inv h
  obtain ⟨hb1, h⟩ := ite_bad h
  obtain ⟨G2, y, h2, h⟩ := R.bind_inv h
  refine ⟨F, G, fp, G1, x.1, x.2, E, h1, fun H1 fp1 v1 E1 T1 S1 R1 => ⟨F, G1, fp1, G2, y.1, y.2, E1, h2, fun H2 fp2 v2 E2 T2 S2 R2 => ?_⟩⟩
  have R1' := (R1.tr E1 T2 fun z => S2 (bor hb1 z)).or1 E2 (c := y.2)
  split at h
  · rename_i hc
    cases h
    refine ⟨_, x.1, y.1, .bl false, E2.pmB (x.2 || y.2), R1', R2.or2 E2, hc, fun v r => ?_⟩
    cases r
    refine ⟨false, rfl, ?_⟩
    simp only [Bool.false_eq_true, if_false]
    exact ⟨⟨_, rfl⟩, q H2 fp2 _ E2 (T1.trans T2) (fun m => by
      simp only [Py.E.mf, Bool.and_eq_true] at m
      exact same_trans (S1 m.1) (S2 m.2.1)) (RepX.bl _)⟩
  · rename_i hc
    obtain ⟨hb2, h⟩ := ite_bad h
    obtain ⟨G3, z, h5, h⟩ := R.bind_inv h
    obtain ⟨h3, rfl⟩ := R.ofO_inv h
    obtain ⟨d', h3, h4⟩ := Option.map_eq_some_iff.mp h3
    refine ⟨_, x.1, y.1, .bl true, E2.pmB (x.2 || y.2), R1', R2.or2 E2, hc, fun v r => ?_⟩
    cases r
    refine ⟨true, rfl, ?_⟩
    simp only [if_true]
    refine ⟨F, G2, fp2, G3, z.1, z.2, E2, h5, fun H3 fp3 v3 E3 T3 S3 R3 => ?_⟩
    have R2' := (R2.tr E2 T3 fun q => S3 (bor hb2 q)).or1 E3 (c := z.2)
    refine ⟨_, y.1, z.1, d', E3.pmB (y.2 || z.2), R2', R3.or2 E3, h3, fun v r => ?_⟩
    obtain ⟨c, rfl⟩ := cmp_bl h3
    have r0 := r.bl_inv
    have r := VRep.fl (b := y.2 || z.2) r
    rw [h4] at r
    exact ⟨⟨c, r0⟩, q H3 fp3 v E3 ((T1.trans T2).trans T3) (fun m => by
      simp only [Py.E.mf, Bool.and_eq_true] at m
      exact same_trans (same_trans (S1 m.1) (S2 m.2.1)) (S3 m.2.2)) r⟩
  · cases h
theorem tChain_mono {o o' : CmpO} {σ : St} {H : Hp} {Q Q' : VK} (h : tChain (rCmp k o) (rCmp k o') (tE k C orc ea) (tE k C orc eb) (tE k C orc ec) σ H Q) (i : ∀ v H', Q v H' → Q' v H') : tChain (rCmp k o) (rCmp k o') (tE k C orc ea) (tE k C orc eb) (tE k C orc ec) σ H Q' := by
  refine tE_mono h fun v H1 h1 => tE_mono h1 fun w H2 h2 => r2_mono o v w H2 _ _ h2 fun u H3 ⟨c, e, h3⟩ => ⟨c, e, ?_⟩
  cases c with
  | true => simp only [if_true] at h3 ⊢; exact tE_mono h3 fun x H4 h4 => r2_mono o' _ _ H4 _ _ h4 i
  | false => simp only [Bool.false_eq_true, if_false] at h3 ⊢; exact i _ _ h3
theorem se_chain (B : XB k X) {o o' : CmpO} {op op' : CmpOp} (ho : cmpOf o = op) (ho' : cmpOf o' = op') (hs : noSetE c = true) (ha : PE X a (tE k C orc ea)) (hb : PE X b (tE k C orc eb)) (hc : PE X c (tE k C orc ec)) : PE X (.Compare a [op, op'] [b, c] pos) (tE k C orc (.chain o o' ea eb ec)) := by
  subst ho ho'
  refine pe_imp (pe_chain (op_cmp B.K B.units o) (op_cmp B.K B.units o') ha hb hc (by show behindInMarks _ c = false; exact nomarkE hs _)) fun σ H Q h => ?_
  exact tChain_mono (chain_red B σ H Q h) fun _ _ z => z.2
theorem st_chain (B : XB k X) {o o' : CmpO} {op op' : CmpOp} (ho : cmpOf o = op) (ho' : cmpOf o' = op') (hs : noSetE c = true) (ha : PE X a (tE k C orc ea)) (hb : PE X b (tE k C orc eb)) (hc : PE X c (tE k C orc ec)) : PT X (.Compare a [op, op'] [b, c] pos) (tT k C orc (.chain o o' ea eb ec)) := by
  subst ho ho'
  refine pt_imp (pt_chain (op_cmp B.K B.units o) (op_cmp B.K B.units o') ha hb hc (by show behindInMarks _ c = false; exact nomarkE hs _)) fun σ H Q h => ?_
  refine tChain_mono (chain_red B σ H _ (tT_of trivial h)) fun u H3 z => ?_
  obtain ⟨⟨c, rfl⟩, b, P, d, r, ht, q⟩ := z
  cases r
  cases ht
  exact ⟨c, rfl, q⟩
/-- a test by the value's truth -/
def plainT : Expr → Bool
  | .UnaryOp .Not _ _ => false | .BoolOp _ _ _ => false | .IfExp _ _ _ _ => false | .Compare _ _ _ _ => false | _ => true
theorem isTrue_plainT {e : Expr} (h : plainT e = true) (env : PySem.Env) (wh : Sem Value) : isTrue e env wh = (do let v ← wh; standAt e.pos; holding [v] (truthy v)) := by
  cases e with
  | UnaryOp op _ _ => cases op <;> first | rfl | cases h
  | BoolOp _ _ _ => cases h
  | IfExp _ _ _ _ => cases h
  | Compare _ _ _ _ => cases h
  | _ => rfl
theorem st_truth (B : XB k X) (hp : plainT a = true) (hn : match ea with | .and _ _ => False | .or _ _ => False | .not _ => False | _ => True) (ha : PE X a (tE k C orc ea)) : PT X a (tT k C orc ea) := by
  refine pt_imp (pt_truth ha fun wh => isTrue_plainT hp _ wh) fun σ H Q h => tE_mono (tT_of hn h) fun v H' ⟨b, P, d, r, ht, q⟩ => ⟨b, tru_all B.K r ht, q⟩
/-! and, or, not -/
theorem and_redT {σ : St} {H : Hp} {Q : Bool → Hp → Prop} (h : tT k C orc (.and ea eb) σ H Q) : tAnd (tT k C orc ea) (tT k C orc eb) σ H Q := by
  obtain ⟨F, G, fp, G', b, E, h, q⟩ := h
  rw [evT] at h
  obtain ⟨G1, x, h1, h⟩ := R.bind_inv h
  refine ⟨F, G, fp, G1, x, E, h1, fun H1 fp1 E1 T1 S1 => ?_⟩
  cases x with
  | true =>
    simp only [if_true] at h ⊢
    exact ⟨F, G1, fp1, G', b, E1, h, fun H2 fp2 E2 T2 S2 => q H2 fp2 E2 (T1.trans T2) fun m => by
      simp only [Py.E.mf, Bool.and_eq_true] at m
      exact same_trans (S1 m.1) (S2 m.2)⟩
  | false =>
    simp only [Bool.false_eq_true, if_false] at h ⊢
    cases h
    exact q H1 fp1 E1 T1 fun m => by
      simp only [Py.E.mf, Bool.and_eq_true] at m
      exact S1 m.1
theorem or_redT {σ : St} {H : Hp} {Q : Bool → Hp → Prop} (h : tT k C orc (.or ea eb) σ H Q) : tOr (tT k C orc ea) (tT k C orc eb) σ H Q := by
  obtain ⟨F, G, fp, G', b, E, h, q⟩ := h
  rw [evT] at h
  obtain ⟨G1, x, h1, h⟩ := R.bind_inv h
  refine ⟨F, G, fp, G1, x, E, h1, fun H1 fp1 E1 T1 S1 => ?_⟩
  cases x with
  | false =>
    simp only [Bool.false_eq_true, if_false] at h ⊢
    exact ⟨F, G1, fp1, G', b, E1, h, fun H2 fp2 E2 T2 S2 => q H2 fp2 E2 (T1.trans T2) fun m => by
      simp only [Py.E.mf, Bool.and_eq_true] at m
      exact same_trans (S1 m.1) (S2 m.2)⟩
  | true =>
    simp only [if_true] at h ⊢
    cases h
    exact q H1 fp1 E1 T1 fun m => by
      simp only [Py.E.mf, Bool.and_eq_true] at m
      exact S1 m.1
theorem not_redT {σ : St} {H : Hp} {Q : Bool → Hp → Prop} (h : tT k C orc (.not ea) σ H Q) : tNot (tT k C orc ea) σ H Q := by
  obtain ⟨F, G, fp, G', b, E, h, q⟩ := h
  rw [evT] at h
  obtain ⟨G1, x, h1, h⟩ := R.bind_inv h
  cases h
  exact ⟨F, G, fp, _, x, E, h1, fun H1 fp1 E1 T1 S1 => q H1 fp1 E1 T1 fun m => by simp only [Py.E.mf] at m; exact S1 m⟩
variable {rest : List Expr}
theorem sw_and1 {op : BoolOp} (ha : PT X a (tT k C orc ea)) : PW X (.BoolOp op [a] pos) (tT k C orc ea) := by
  cases op
  · exact pw_and1 ha
  · exact pw_or1 ha
theorem sw_and (ha : PT X a (tT k C orc ea)) (hb : PW X (.BoolOp .And (b :: rest) pos) (tT k C orc eb)) : PW X (.BoolOp .And (a :: b :: rest) pos) (tT k C orc (.and ea eb)) := pw_imp (pw_and ha hb) fun _ _ _ h => and_redT h
theorem sw_or (ha : PT X a (tT k C orc ea)) (hb : PW X (.BoolOp .Or (b :: rest) pos) (tT k C orc eb)) : PW X (.BoolOp .Or (a :: b :: rest) pos) (tT k C orc (.or ea eb)) := pw_imp (pw_or ha hb) fun _ _ _ h => or_redT h
theorem st_not (ha : PT X a (tT k C orc ea)) : PT X (.UnaryOp .Not a pos) (tT k C orc (.not ea)) := pt_imp (pt_not ha) fun _ _ _ h => not_redT h
theorem se_and (B : XB k X) (ha : PE X a (tE k C orc ea)) (hb : PE X (.BoolOp .And (b :: rest) pos) (tE k C orc eb)) : PE X (.BoolOp .And (a :: b :: rest) pos) (tE k C orc (.and ea eb)) := by
  refine pe_imp (pe_andT ha hb) fun σ H Q ⟨F, G, fp, G', d, b, E, h, q⟩ => ?_
  rw [ev] at h
  obtain ⟨G1, x, h1, h⟩ := R.bind_inv h
  refine ⟨F, G, fp, G1, x.1, x.2, E, h1, fun H1 fp1 v1 E1 T1 S1 R1 => ?_⟩
  split at h
  · rename_i ht
    refine ⟨true, tru_all B.K R1 ht, ?_⟩
    simp only [if_true]
    exact ⟨F, G1, fp1, G', d, b, E1, h, fun H2 fp2 v2 E2 T2 S2 R2 => q H2 fp2 v2 E2 (T1.trans T2) (fun m => by
      simp only [Py.E.mf, Bool.and_eq_true] at m
      exact same_trans (S1 m.1) (S2 m.2)) R2⟩
  · rename_i ht
    refine ⟨false, tru_all B.K R1 ht, ?_⟩
    simp only [Bool.false_eq_true, if_false]
    cases h
    exact q H1 fp1 v1 E1 T1 (fun m => by
      simp only [Py.E.mf, Bool.and_eq_true] at m
      exact S1 m.1) R1
  · cases h
theorem se_or (B : XB k X) (ha : PE X a (tE k C orc ea)) (hb : PE X (.BoolOp .Or (b :: rest) pos) (tE k C orc eb)) : PE X (.BoolOp .Or (a :: b :: rest) pos) (tE k C orc (.or ea eb)) := by
  refine pe_imp (pe_orT ha hb) fun σ H Q ⟨F, G, fp, G', d, b, E, h, q⟩ => ?_
  rw [ev] at h
  obtain ⟨G1, x, h1, h⟩ := R.bind_inv h
  refine ⟨F, G, fp, G1, x.1, x.2, E, h1, fun H1 fp1 v1 E1 T1 S1 R1 => ?_⟩
  split at h
  · rename_i ht
    refine ⟨false, tru_all B.K R1 ht, ?_⟩
    simp only [Bool.false_eq_true, if_false]
    exact ⟨F, G1, fp1, G', d, b, E1, h, fun H2 fp2 v2 E2 T2 S2 R2 => q H2 fp2 v2 E2 (T1.trans T2) (fun m => by
      simp only [Py.E.mf, Bool.and_eq_true] at m
      exact same_trans (S1 m.1) (S2 m.2)) R2⟩
  · rename_i ht
    refine ⟨true, tru_all B.K R1 ht, ?_⟩
    simp only [if_true]
    cases h
    exact q H1 fp1 v1 E1 T1 (fun m => by
      simp only [Py.E.mf, Bool.and_eq_true] at m
      exact S1 m.1) R1
  · cases h
theorem tT_mono {e : E} {σ : St} {H : Hp} {Q Q' : Bool → Hp → Prop} (h : tT k C orc e σ H Q) (i : ∀ v H', Q v H' → Q' v H') : tT k C orc e σ H Q' := by
  obtain ⟨F, G, fp, G', b, E, h, q⟩ := h
  exact ⟨F, G, fp, G', b, E, h, fun H' fp' E' T S => i b H' (q H' fp' E' T S)⟩
theorem evT_val0 {e : E} {G G' : Py.Env} {t : Bool} (hn : match e with | .and _ _ => False | .or _ _ => False | .not _ => False | _ => True) (h : evT C orc e G = .ok G' t) : ∃ x, ev C orc e G = .ok G' x ∧ truth x.1 = some t := by
  rw [evT_ev hn] at h
  obtain ⟨G1, x, h1, h⟩ := R.bind_inv h
  obtain ⟨h3, rfl⟩ := R.ofO_inv h
  exact ⟨x, h1, h3⟩
/-- a test that comes to an end is the value's truth -/
theorem evT_val : ∀ (e : E) {G G' : Py.Env} {t : Bool}, evT C orc e G = .ok G' t → ∃ x, ev C orc e G = .ok G' x ∧ truth x.1 = some t
  | .and a b, G, G', t, h => by
    rw [evT] at h
    obtain ⟨G1, x, h1, h⟩ := R.bind_inv h
    obtain ⟨y, h2, h3⟩ := evT_val a h1
    rw [ev, h2, R.bind_ok, h3]
    cases x with
    | true => simp only [if_true] at h ⊢; exact evT_val b h
    | false => simp only [Bool.false_eq_true, if_false] at h ⊢; cases h; exact ⟨y, rfl, h3⟩
  | .or a b, G, G', t, h => by
    rw [evT] at h
    obtain ⟨G1, x, h1, h⟩ := R.bind_inv h
    obtain ⟨y, h2, h3⟩ := evT_val a h1
    rw [ev, h2, R.bind_ok, h3]
    cases x with
    | false => simp only [Bool.false_eq_true, if_false] at h ⊢; exact evT_val b h
    | true => simp only [if_true] at h ⊢; cases h; exact ⟨y, rfl, h3⟩
  | .not a, G, G', t, h => by
    rw [evT] at h
    obtain ⟨G1, x, h1, h⟩ := R.bind_inv h
    cases h
    rw [ev, h1, R.bind_ok]
    exact ⟨_, rfl, rfl⟩
  | .var _, G, G', t, h => evT_val0 trivial h
  | .pth _ _, G, G', t, h => evT_val0 trivial h
  | .con _, G, G', t, h => evT_val0 trivial h
  | .bin _ _ _, G, G', t, h => evT_val0 trivial h
  | .un _ _, G, G', t, h => evT_val0 trivial h
  | .cmp _ _ _, G, G', t, h => evT_val0 trivial h
  | .chain _ _ _ _ _, G, G', t, h => evT_val0 trivial h
  | .ife _ _ _, G, G', t, h => evT_val0 trivial h
  | .tup _, G, G', t, h => evT_val0 trivial h
  | .lst _, G, G', t, h => evT_val0 trivial h
  | .dic0, G, G', t, h => evT_val0 trivial h
  | .idx _ _, G, G', t, h => evT_val0 trivial h
  | .sli _ _ _, G, G', t, h => evT_val0 trivial h
  | .att _ _, G, G', t, h => evT_val0 trivial h
  | .call _ _ _, G, G', t, h => evT_val0 trivial h
  | .callO _ _ _, G, G', t, h => evT_val0 trivial h
  | .blt _ _, G, G', t, h => evT_val0 trivial h
  | .sets _, G, G', t, h => evT_val0 trivial h
  | .isi _ _, G, G', t, h => evT_val0 trivial h
  | .met _ _ _, G, G', t, h => evT_val0 trivial h
  | .mth _ _ _, G, G', t, h => evT_val0 trivial h
  | .mut _ _ _ _, G, G', t, h => evT_val0 trivial h
  | .new _ _, G, G', t, h => evT_val0 trivial h
  | .lc _ _ _ _ _, G, G', t, h => evT_val0 trivial h
  | .lc2 _ _ _ _ _ _ _ _, G, G', t, h => evT_val0 trivial h
  | .lrng _, G, G', t, h => evT_val0 trivial h
  | .callT _ _ _, G, G', t, h => evT_val0 trivial h
  | .maxD _ _ _, G, G', t, h => evT_val0 trivial h
  | .skeys _, G, G', t, h => evT_val0 trivial h
/-- not as a value -/
theorem se_not (B : XB k X) (ha : PE X a (tE k C orc ea)) : PE X (.UnaryOp .Not a pos) (tE k C orc (.not ea)) := by
  refine pe_imp (pe_notT ha) fun σ H Q ⟨F, G, fp, G', d, b, E0, h, q⟩ => ?_
  rw [ev] at h
  obtain ⟨G1, x, h1, h⟩ := R.bind_inv h
  cases h
  obtain ⟨y, h2, h3⟩ := evT_val _ h1
  exact ⟨F, G, fp, _, y.1, y.2, E0, h2, fun H1 fp1 v1 E1 T1 S1 R1 => ⟨x, tru_all B.K R1 h3, q H1 fp1 _ E1 T1 (fun m => by simp only [Py.E.mf] at m; exact S1 m) (RepX.bl _)⟩⟩
theorem se_ife {c : Expr} (hc : PT X c (tT k C orc ec)) (ha : PE X a (tE k C orc ea)) (hb : PE X b (tE k C orc eb)) : PE X (.IfExp c a b pos) (tE k C orc (.ife ec ea eb)) := by
  refine pe_imp (pe_ifExp hc ha hb) fun σ H Q ⟨F, G, fp, G', d, b, E, h, q⟩ => ?_
  rw [ev] at h
  obtain ⟨G1, x, h1, h⟩ := R.bind_inv h
  refine ⟨F, G, fp, G1, x, E, h1, fun H1 fp1 E1 T1 S1 => ?_⟩
  cases x with
  | true =>
    simp only [if_true] at h ⊢
    exact ⟨F, G1, fp1, G', d, b, E1, h, fun H2 fp2 v2 E2 T2 S2 R2 => q H2 fp2 v2 E2 (T1.trans T2) (fun m => by
      simp only [Py.E.mf, Bool.and_eq_true] at m
      exact same_trans (S1 m.1) (S2 m.2.1)) R2⟩
  | false =>
    simp only [Bool.false_eq_true, if_false] at h ⊢
    exact ⟨F, G1, fp1, G', d, b, E1, h, fun H2 fp2 v2 E2 T2 S2 R2 => q H2 fp2 v2 E2 (T1.trans T2) (fun m => by
      simp only [Py.E.mf, Bool.and_eq_true] at m
      exact same_trans (S1 m.1) (S2 m.2.2)) R2⟩
end
end Py
end
section
set_option Elab.async false
set_option linter.all false
set_option maxRecDepth 100000
set_option maxHeartbeats 4000000
namespace Py
open PySem PySem.Spec PyProof.Rows L2
/-! ### lists of expressions -/
def noStar : Expr → Bool
  | .Starred _ _ => false
  | _ => true
theorem star_cons {e : Expr} (h : noStar e = true) (es : List Expr) (env : PySem.Env) : starEach (e :: es) env = (false, eval e env) :: starEach es env := by
  cases e <;> first | rfl | cases h
theorem star_any {es : List Expr} (h : es.all noStar = true) (env : PySem.Env) (pos : Pos) : (backTo pos (starEach es env)).any (·.1) = false := by
  induction es with
  | nil => rfl
  | cons e es ih =>
    rw [List.all_cons, Bool.and_eq_true] at h
    rw [star_cons h.1]
    exact ih h.2
section
variable {k : Ki} {C : Ctx} {orc : Orc} {X : Cx} {F : Addr → Prop} {σ : St} {H H' : Hp} {G : Py.Env} {fp fp' : Fp}
/-- a list of values, by a flag -/
def VReps (k : Ki) (F : Addr → Prop) (fp : Fp) (H : Hp) (vs : List V) (ds : List D) (b : Bool) : Prop := RepL k (if b = true then F else Own F fp) H vs ds
theorem VReps.weak (E : EnvOk k F σ H G fp) {vs : List V} {ds : List D} {b c : Bool} (h : VReps k F fp H vs ds b) (hb : b = true → c = true) : VReps k F fp H vs ds c := by
  cases b with
  | true => rw [hb rfl]; exact h
  | false =>
    cases c with
    | false => exact h
    | true => exact RepL.sub (P := Own F fp) (fun a q => .inl q) E.pm h
theorem VReps.tr (E : EnvOk k F σ H G fp) (t : Tr fp H fp' H') {vs : List V} {ds : List D} {b : Bool} (h : VReps k F fp H vs ds b) (hb : b = true → Same H H') : VReps k F fp' H' vs ds b := by
  cases b with
  | true => exact RepL.mono (P := F) (same_ext (hb rfl)) (E.pm.sub fun a q => .inl q) (fun a q => .inl q) h
  | false => exact t.repL E.pm h
theorem ses_nil : PA X [] (tEs k C orc []) := pa_imp pa_nil fun σ H Q ⟨F, G, fp, G', ds, b, E0, h, q⟩ => by
  rw [evs] at h
  cases h
  exact q H fp [] E0 (.refl _ _) (fun _ => ssame) .nil
theorem ses_cons {e : Expr} {es : List Expr} {ie : E} {ies : List E} (hs : noStar e = true) (he : PE X e (tE k C orc ie)) (hes : PA X es (tEs k C orc ies)) : PA X (e :: es) (tEs k C orc (ie :: ies)) := by
  refine pa_imp (pa_cons he hes (star_cons hs es _)) fun σ H Q ⟨F, G, fp, G', ds, b, E0, h, q⟩ => ?_
  rw [evs] at h
  obtain ⟨G1, x, h1, h⟩ := R.bind_inv h
  obtain ⟨hb1, h⟩ := ite_bad h
  obtain ⟨G2, r, h2, h⟩ := R.bind_inv h
  cases h
  refine ⟨F, G, fp, G1, x.1, x.2, E0, h1, fun H1 fp1 v1 E1 T1 S1 R1 => ⟨F, G1, fp1, _, r.1, r.2, E1, h2, fun H2 fp2 vs E2 T2 S2 R2 => ?_⟩⟩
  have R1' := (R1.tr E1 T2 fun z => S2 (bor hb1 z)).or1 E2 (c := r.2)
  have R2' : VReps k F fp2 H2 vs r.1 (x.2 || r.2) := VReps.weak E2 (show VReps k F fp2 H2 vs r.1 r.2 from R2) fun e => by rw [e, Bool.or_true]
  exact q H2 fp2 _ E2 (T1.trans T2) (fun m => by
    simp only [Py.E.mfL, Bool.and_eq_true] at m
    exact same_trans (S1 m.1) (S2 m.2)) (.cons R1' R2')
variable {es : List Expr} {ies : List E} {pos : Pos}
theorem evs_len : ∀ {ies : List E} {G G' : Py.Env} {ds : List D} {b : Bool}, evs C orc ies G = .ok G' (ds, b) → ds.length = ies.length
  | [], G, G', ds, b, h => by rw [evs] at h; cases h; rfl
  | ie :: ies, G, G', ds, b, h => by
    rw [evs] at h
    obtain ⟨G1, x, h1, h⟩ := R.bind_inv h
    obtain ⟨hb1, h⟩ := ite_bad h
    obtain ⟨G2, r, h2, h⟩ := R.bind_inv h
    cases h
    show (x.1 :: r.1).length = _
    rw [List.length_cons, List.length_cons, evs_len (ds := r.1) (b := r.2) h2]
theorem se_tup {j : Nat} (hl : ies.length ≤ 10000) (h : PA X es (tEs k C orc ies)) : PE X (.Tuple es j pos) (tE k C orc (.tup ies)) := by
  refine pe_imp (pe_tup h) fun σ H Q ⟨F, G, fp, G', d, b, E0, h, q⟩ => ?_
  rw [ev] at h
  obtain ⟨G1, r, h1, h⟩ := R.bind_inv h
  obtain ⟨hb1, h⟩ := ite_bad h
  cases h
  refine ⟨F, G, fp, _, r.1, r.2, E0, h1, fun H1 fp1 vs E1 T1 S1 R1 => ⟨?_, fun p hp => ?_⟩⟩
  · rw [R1.length, evs_len (ds := r.1) (b := r.2) h1, sizeLine_eq]; omega
  · rw [hb1] at R1
    have s : Same H1 (upd H1 p (.tup vs)) := same_new hp
    exact q _ fp1 _ (E1.same s) (T1.trans (same_tr s)) (fun m => by simp only [Py.E.mf] at m; exact same_trans (S1 m) s)
      (.tup (.inl (.inl upd_same)) (R1.mono (same_ext s) E1.pm fun a z => .inl z))
theorem se_lst (hl : ies.length ≤ 10000) (h : PA X es (tEs k C orc ies)) : PE X (.List es pos) (tE k C orc (.lst ies)) := by
  refine pe_imp (pe_lst h) fun σ H Q ⟨F, G, fp, G', d, b, E0, h, q⟩ => ?_
  rw [ev] at h
  obtain ⟨G1, r, h1, h⟩ := R.bind_inv h
  obtain ⟨hb1, h⟩ := ite_bad h
  cases h
  refine ⟨F, G, fp, _, r.1, r.2, E0, h1, fun H1 fp1 vs E1 T1 S1 R1 => ⟨?_, fun p hp => ?_⟩⟩
  · rw [R1.length, evs_len (ds := r.1) (b := r.2) h1, sizeLine_eq]; omega
  · rw [hb1] at R1
    have s : Same H1 (upd H1 p (.lst vs)) := same_new hp
    exact q _ fp1 _ (E1.same s) (T1.trans (same_tr s)) (fun m => by simp only [Py.E.mf] at m; exact same_trans (S1 m) s)
      (.lst ⟨upd_same, pm_free E1.pm hp⟩ (R1.mono (same_ext s) E1.pm fun a z => .inl z))
theorem se_dic0 : PE X (.Dict [] [] pos) (tE k C orc .dic0) := by
  refine pe_imp pe_dnewK fun σ H Q ⟨F, G, fp, G', d, b, E0, h, q⟩ => ?_
  rw [ev] at h
  cases h
  intro p hp
  have s : Same H (upd H p (.dK [])) := same_new hp
  exact q _ fp _ (E0.same s) (same_tr s) (fun m => s) (.dic upd_same (pm_free E0.pm hp) rfl .nil)

/-! ### subscripts and slices -/
def noSl : Expr → Bool
  | .Slice _ _ _ _ => false
  | _ => true
theorem plainIx {b : Expr} (h : noSl b = true) : PlainIx b := fun o i => by
  cases b <;> first | rfl | cases h
variable {a b c : Expr} {ea eb ec : E}
def notPth : E → Bool
  | .pth _ _ => false
  | _ => true
theorem ev_idx {ea : E} (hn : notPth ea = true) (G : Py.Env) : ev C orc (.idx ea eb) G = (ev C orc ea G).bind fun G1 x => if x.2 && !eb.mf then .bad else (ev C orc eb G1).bind fun G2 y => .ofO G2 ((index x.1 y.1).map fun d => fl d x.2) := by
  cases ea <;> first | (cases hn; done) | simp only [ev]
theorem se_idx (B : XB k X) (hn : notPth ea = true) (hb0 : noSl b = true) (ha : PE X a (tE k C orc ea)) (hb : PE X b (tE k C orc eb)) : PE X (.Subscript a b pos) (tE k C orc (.idx ea eb)) := by
  refine pe_imp (pe_ix (ix_all B.K B.units) ha hb (plainIx hb0)) fun σ H Q ⟨F, G, fp, G', d, bb, E0, h, q⟩ => ?_
  rw [ev_idx hn] at h
  obtain ⟨G1, x, h1, h⟩ := R.bind_inv h
  obtain ⟨hb1, h⟩ := ite_bad h
  obtain ⟨G2, y, h2, h⟩ := R.bind_inv h
  obtain ⟨h3, rfl⟩ := R.ofO_inv h
  obtain ⟨d', h3, h4⟩ := Option.map_eq_some_iff.mp h3
  refine ⟨F, G, fp, G1, x.1, x.2, E0, h1, fun H1 fp1 v1 E1 T1 S1 R1 => ⟨F, G1, fp1, G2, y.1, y.2, E1, h2, fun H2 fp2 v2 E2 T2 S2 R2 => ?_⟩⟩
  refine ⟨_, _, x.1, y.1, d', R1.tr E1 T2 fun z => S2 (bor hb1 z), R2, h3, fun v r => ?_⟩
  have r := VRep.fl (b := x.2) r
  rw [h4] at r
  exact q H2 fp2 v E2 (T1.trans T2) (fun m => by
    simp only [Py.E.mf, Bool.and_eq_true] at m
    exact same_trans (S1 m.1) (S2 m.2)) r
theorem so_none : PO X none (tO k C orc (.con .non)) := po_imp po_none fun σ H Q ⟨F, G, fp, G', o, E0, h, q⟩ => by
  rw [evI] at h
  cases h
  exact q H fp E0 (.refl _ _) fun _ => ssame
def notNonE : E → Bool
  | .con .non => false
  | _ => true
theorem evI_ev {e : E} (h : notNonE e = true) (G : Py.Env) : evI C orc e G = (ev C orc e G).bind fun G1 x => .ofO G1 (x.1.asInt.map some) := by
  cases e with
  | con d => cases d <;> first | (cases h; done) | simp only [evI]
  | _ => simp only [evI]
theorem so_some (hn : notNonE ea = true) (ha : PE X a (tE k C orc ea)) : PO X (some a) (tO k C orc ea) := po_imp (po_some ha) fun σ H Q ⟨F, G, fp, G', o, E0, h, q⟩ => by
  rw [evI_ev hn] at h
  obtain ⟨G1, x, h1, h⟩ := R.bind_inv h
  refine ⟨F, G, fp, G1, x.1, x.2, E0, h1, fun H1 fp1 v1 E1 T1 S1 R1 => ?_⟩
  obtain ⟨h3, rfl⟩ := R.ofO_inv h
  obtain ⟨i, h3, rfl⟩ := Option.map_eq_some_iff.mp h3
  obtain ⟨xd, xb⟩ := x
  cases xd with
  | int j =>
    cases h3
    cases (show RepX k _ H1 v1 (.int i) from R1)
    exact ⟨i, rfl, q H1 fp1 E1 T1 S1⟩
  | _ => cases h3
theorem se_sli (B : XB k X) {lo hi : Option Expr} {p2 : Pos} (ha : PE X a (tE k C orc ea)) (hl : PO X lo (tO k C orc eb)) (hh : PO X hi (tO k C orc ec)) : PE X (.Subscript a (.Slice lo hi none p2) pos) (tE k C orc (.sli ea eb ec)) := by
  refine pe_imp (pe_slice (sl_all B.K) ha hl hh) fun σ H Q ⟨F, G, fp, G', d, bb, E0, h, q⟩ => ?_
  rw [ev] at h
  obtain ⟨G1, x, h1, h⟩ := R.bind_inv h
  obtain ⟨hb1, h⟩ := ite_bad h
  obtain ⟨G2, l, h2, h⟩ := R.bind_inv h
  obtain ⟨G3, u, h5, h⟩ := R.bind_inv h
  obtain ⟨h3, rfl⟩ := R.ofO_inv h
  obtain ⟨d', h3, h4⟩ := Option.map_eq_some_iff.mp h3
  refine ⟨F, G, fp, G1, x.1, x.2, E0, h1, fun H1 fp1 v1 E1 T1 S1 R1 => ⟨F, G1, fp1, G2, l, E1, h2, fun H2 fp2 E2 T2 S2 => ⟨F, G2, fp2, G3, u, E2, h5, fun H3 fp3 E3 T3 S3 => ?_⟩⟩⟩
  have bm : x.2 = true → eb.mf = true ∧ ec.mf = true := fun z => by have := bor hb1 z; simpa using this
  have R3 := (R1.tr E1 T2 fun z => S2 (bm z).1).tr E2 T3 fun z => S3 (bm z).2
  refine ⟨_, x.1, d', E3.pmB x.2, R3, h3, fun H4 v s r => ?_⟩
  have r := VRep.fl (b := x.2) r
  rw [h4] at r
  exact q H4 fp3 v (E3.same s) (((T1.trans T2).trans T3).trans (same_tr s)) (fun m => by
    simp only [Py.E.mf, Bool.and_eq_true] at m
    exact same_trans (same_trans (same_trans (S1 m.1) (S2 m.2.1)) (S3 m.2.2)) s) r
end

/-! ### fields -/
/-- a field's name may be read off every instance -/
structure AttOk (k : Ki) (f : Nat) : Prop where
  cls : ∀ c, Cls k.K (k.ca c)
  no : ∀ c, NoAttr k.K (k.ca c) (k.fd f)
def attrOk : Expr → Bool
  | .Call (.Name _ _) [] [] _ => false
  | _ => true
theorem attBase {o : Expr} (h : attrOk o = true) (f : Str) (env : PySem.Env) (wh : Sem Value) : attributeBase o f env wh = wh := by
  cases o with
  | Call g as ks p =>
    cases g with
    | Name x p2 =>
      cases as with
      | nil => cases ks with
        | nil => cases h
        | cons _ _ => rfl
      | cons _ _ => rfl
    | _ => rfl
  | _ => rfl
section
variable {k : Ki} {C : Ctx} {orc : Orc} {X : Cx} {F : Addr → Prop} {P : Addr → Prop} {σ : St} {H H' : Hp} {G : Py.Env} {fp fp' : Fp}
theorem fld_rep {f : Nat} : ∀ {fs : List (Str × V)} {ids : List Nat} {ds : List D} {d : D}, fs.map (·.1) = ids.map k.fd → RepL k P H (fs.map (·.2)) ds → fldGet ids ds f = some d → ∃ v, fs.lookup (k.fd f) = some v ∧ RepX k P H v d
  | [], [], ds, d, _, _, h => by simp [fldGet] at h
  | [], _ :: _, ds, d, e, _, h => by simp at e
  | _ :: _, [], ds, d, e, _, h => by simp at e
  | p :: fs, i :: ids, [], d, e, r, h => by cases r
  | p :: fs, i :: ids, d0 :: ds, d, e, r, h => by
    simp only [List.map_cons, List.cons.injEq] at e
    cases r with
    | cons r1 r2 =>
      simp only [fldGet] at h
      by_cases z : i = f
      · rw [if_pos z] at h
        cases h
        refine ⟨p.2, ?_, r1⟩
        rw [show p = (p.1, p.2) from rfl, List.lookup_cons, e.1, z]
        simp
      · rw [if_neg z] at h
        obtain ⟨v, h1, h2⟩ := fld_rep e.2 r2 h
        refine ⟨v, ?_, h2⟩
        rw [show p = (p.1, p.2) from rfl, List.lookup_cons, e.1]
        rw [show (k.fd f == k.fd i) = false from beq_eq_false_iff_ne.mpr fun q => z (k.inj _ _ q).symm]
        exact h1
theorem fld_repM {f : Nat} : ∀ {fs : List (Str × V)} {ids : List Nat} {ms : List M} {m : M} {as : List Addr}, fs.map (·.1) = ids.map k.fd → RepMs k P H (fs.map (·.2)) ms as → fldGet ids ms f = some m → ∃ v as', fs.lookup (k.fd f) = some v ∧ RepM k P H v m as' ∧ ∀ a ∈ as', a ∈ as
  | [], [], ms, m, as, _, _, h => by simp [fldGet] at h
  | [], _ :: _, ms, m, as, e, _, h => by simp at e
  | _ :: _, [], ms, m, as, e, _, h => by simp at e
  | p :: fs, i :: ids, [], m, as, e, r, h => by cases r
  | p :: fs, i :: ids, m0 :: ms, m, as, e, r, h => by
    simp only [List.map_cons, List.cons.injEq] at e
    cases r with
    | cons r1 r2 =>
      simp only [fldGet] at h
      by_cases z : i = f
      · rw [if_pos z] at h
        cases h
        refine ⟨p.2, _, ?_, r1, fun a q => List.mem_append_left _ q⟩
        rw [show p = (p.1, p.2) from rfl, List.lookup_cons, e.1, z]
        simp
      · rw [if_neg z] at h
        obtain ⟨v, as', h1, h2, h3⟩ := fld_repM e.2 r2 h
        refine ⟨v, as', ?_, h2, fun a q => List.mem_append_right _ (h3 a q)⟩
        rw [show p = (p.1, p.2) from rfl, List.lookup_cons, e.1]
        rw [show (k.fd f == k.fd i) = false from beq_eq_false_iff_ne.mpr fun q => z (k.inj _ _ q).symm]
        exact h1
/-- a walk by fields, in the heap -/
inductive HPath (k : Ki) (H : Hp) : V → List Nat → V → Prop
  | nil {v : V} : HPath k H v [] v
  | cons {a dx : Addr} {c f : Nat} {fs : List (Str × V)} {w u : V} {gs : List Nat} : H a = some (.ins (k.ca c) dx fs) → fs.lookup (k.fd f) = some w → HPath k H w gs u → HPath k H (.ref a) (f :: gs) u
theorem HPath.det : ∀ {v : V} {gs : List Nat} {u u' : V}, HPath k H v gs u → HPath k H v gs u' → u = u'
  | _, _, _, _, .nil, .nil => rfl
  | _, _, _, _, .cons h1 l1 p1, .cons h2 l2 p2 => by
    rw [h1] at h2
    injection h2 with h2
    injection h2 with _ _ h2
    subst h2
    rw [l1] at l2
    cases l2
    exact p1.det p2
theorem HPath.same (s : Same H H') : ∀ {v : V} {gs : List Nat} {u : V}, HPath k H v gs u → HPath k H' v gs u
  | _, _, _, .nil => .nil
  | _, _, _, .cons h1 l1 p1 => .cons (s _ _ h1) l1 (p1.same s)
theorem HPath.snoc : ∀ {v : V} {gs : List Nat} {f : Nat} {u : V}, HPath k H v (gs ++ [f]) u → ∃ (a dx : Addr) (c : Nat) (fs : List (Str × V)), HPath k H v gs (.ref a) ∧ H a = some (.ins (k.ca c) dx fs) ∧ fs.lookup (k.fd f) = some u
  | _, [], _, _, .cons h1 l1 .nil => ⟨_, _, _, _, .nil, h1, l1⟩
  | _, _ :: _, _, _, .cons h1 l1 p1 => by
    obtain ⟨a, dx, c, fs, h2, h3, h4⟩ := p1.snoc
    exact ⟨a, dx, c, fs, .cons h1 l1 h2, h3, h4⟩
theorem path_rep : ∀ {gs : List Nat} {v : V} {d d' : D}, RepX k P H v d → d.path gs = some d' → ∃ u, HPath k H v gs u ∧ RepX k P H u d'
  | [], v, d, d', r, h => by cases h; exact ⟨v, .nil, r⟩
  | g :: gs, v, d, d', r, h => by
    simp only [D.path, Option.bind_eq_some_iff] at h
    obtain ⟨e, h1, h2⟩ := h
    cases r with
    | ins ht hn hk rl =>
      obtain ⟨w, l, rw'⟩ := fld_rep hk rl h1
      obtain ⟨u, hp, ru⟩ := path_rep rw' h2
      exact ⟨u, .cons ht l hp, ru⟩
    | _ => simp [D.fld] at h1
theorem path_repM : ∀ {gs : List Nat} {v : V} {m m' : M} {as : List Addr}, RepM k P H v m as → m.path gs = some m' → ∃ u as', HPath k H v gs u ∧ RepM k P H u m' as' ∧ ∀ a ∈ as', a ∈ as
  | [], v, m, m', as, r, h => by cases h; exact ⟨v, as, .nil, r, fun _ q => q⟩
  | g :: gs, v, m, m', as, r, h => by
    simp only [M.path, Option.bind_eq_some_iff] at h
    obtain ⟨e, h1, h2⟩ := h
    cases r with
    | ins ht hk rl =>
      obtain ⟨w, as1, l, rw', sub⟩ := fld_repM hk rl h1
      obtain ⟨u, as2, hp, ru, sub2⟩ := path_repM rw' h2
      exact ⟨u, as2, .cons ht l hp, ru, fun a q => List.mem_cons_of_mem _ (sub a (sub2 a q))⟩
    | leaf r0 =>
      simp only [M.fld, Option.map_eq_some_iff] at h1
      obtain ⟨d1, h1, rfl⟩ := h1
      cases r0 with
      | ins ht hn hk rl =>
        obtain ⟨w, l, rw'⟩ := fld_rep hk rl h1
        obtain ⟨u, as2, hp, ru, sub2⟩ := path_repM (.leaf rw') h2
        exact ⟨u, as2, .cons ht l hp, ru, fun a q => by have := sub2 a q; cases this⟩
      | _ => simp [D.fld] at h1
    | _ => simp [M.fld] at h1
theorem EnvOk.read (E0 : EnvOk k F σ H G fp) {i : Nat} {gs : List Nat} {m : M} (h : readM G i gs = some m) : ∃ v u as, σ[i]? = some (some v) ∧ HPath k H v gs u ∧ RepM k (Own F fp) H u m as ∧ ∀ a ∈ as, a ∈ fp i := by
  unfold readM at h
  obtain ⟨s, h1, h2⟩ := Option.bind_eq_some_iff.mp h
  cases s with
  | dead => cases h2
  | sh d =>
    obtain ⟨v, e, r⟩ := E0.sh h1
    obtain ⟨d', h3, rfl⟩ := Option.map_eq_some_iff.mp (show (d.path gs).map M.leaf = some m from h2)
    obtain ⟨u, hp, ru⟩ := path_rep r h3
    exact ⟨v, u, [], e, hp, .leaf ru, fun _ q => by cases q⟩
  | ow m0 =>
    obtain ⟨v, e, r⟩ := E0.ow h1
    obtain ⟨u, as, hp, ru, sub⟩ := path_repM r h2
    exact ⟨v, u, as, e, hp, ru, sub⟩
/-- the reading of a place -/
def tP (k : Ki) (i : Nat) (gs : List Nat) : TE := fun σ H Q => ∃ v u, σ[i]? = some (some v) ∧ HPath k H v gs u ∧ Q u H
theorem sp_name {i : Nat} {x : Str} {pos : Pos} (hN : X.N[i]? = some x) (hv : Vis X.env.scope x) (hd : (x == ("__debug__" : Str)) = false) (hcd : (x == ("__classdict__" : Str)) = false) : PE X (.Name x pos) (tP k i []) := by
  refine pe_imp (pe_var hN hv hd hcd) fun σ H Q ⟨v, u, e, p, q⟩ => ?_
  cases p
  exact ⟨v, e, q⟩
theorem sp_att (B : XB k X) {i : Nat} {gs : List Nat} {f : Nat} {o : Expr} {x : Str} {pos : Pos} (A : AttOk k f) (hx : k.fd f = x) (ho : attrOk o = true) (hp : PE X o (tP k i gs)) : PE X (.Attribute o x pos) (tP k i (gs ++ [f])) := by
  subst hx
  refine pe_imp (pe_fld hp (attBase ho _ _ _)) fun σ H Q ⟨v, u, e, p, q⟩ => ?_
  obtain ⟨a, dx, c, fs, h1, h2, h3⟩ := p.snoc
  exact ⟨v, .ref a, e, h1, a, _, dx, fs, u, rfl, h2, by rw [B.K]; exact A.cls c, by rw [B.K]; exact A.no c, h3, q⟩
theorem val_rep (E0 : EnvOk k F σ H G fp) {i : Nat} {v : V} {m : M} {as : List Addr} (r : RepM k (Own F fp) H v m as) (hs : ∀ a ∈ as, a ∈ fp i) : VRep k F fp H v m.val.1 m.val.2 := by
  have fzr : RepX k F H v m.fz := r.fz E0.pm (fun a q => .inl q) fun a q => E0.df i a (hs a q)
  cases r with
  | leaf r => exact r
  | lst h1 h2 => exact fzr
  | dic h1 h2 h3 => exact fzr
  | ins h1 h2 h3 => exact fzr
theorem se_pth {i : Nat} {gs : List Nat} {o : Expr} (ho : PE X o (tP k i gs)) : PE X o (tE k C orc (.pth i gs)) := by
  refine pe_imp ho fun σ H Q ⟨F, G, fp, G', d, b, E0, h, q⟩ => ?_
  rw [ev] at h
  obtain ⟨h1, rfl⟩ := R.ofO_inv h
  unfold readPl at h1
  obtain ⟨m, h1, h2⟩ := Option.map_eq_some_iff.mp h1
  obtain ⟨v, u, as, e, hp, r, sub⟩ := E0.read h1
  have := val_rep E0 r sub
  rw [h2] at this
  exact ⟨v, u, e, hp, q H fp u E0 (.refl _ _) (fun _ => ssame) this⟩
theorem se_att (B : XB k X) {f : Nat} {o : Expr} {x : Str} {pos : Pos} {eo : E} (A : AttOk k f) (hx : k.fd f = x) (ho : attrOk o = true) (hp : PE X o (tE k C orc eo)) : PE X (.Attribute o x pos) (tE k C orc (.att eo f)) := by
  subst hx
  refine pe_imp (pe_fld hp (attBase ho _ _ _)) fun σ H Q ⟨F, G, fp, G', d, b, E0, h, q⟩ => ?_
  rw [ev] at h
  obtain ⟨G1, x, h1, h⟩ := R.bind_inv h
  obtain ⟨h3, rfl⟩ := R.ofO_inv h
  obtain ⟨d', h3, h4⟩ := Option.map_eq_some_iff.mp h3
  refine ⟨F, G, fp, G1, x.1, x.2, E0, h1, fun H1 fp1 v1 E1 T1 S1 R1 => ?_⟩
  obtain ⟨xd, xb⟩ := x
  simp only at h3 h4 R1 h1
  cases xd with
  | ins c ids vs =>
    cases (show RepX k (if xb = true then F else Own F fp1) H1 v1 (.ins c ids vs) from R1) with
    | ins ht hn hk rl =>
      obtain ⟨w, l, rw'⟩ := fld_rep hk rl (show fldGet ids vs f = some d' from h3)
      have r := VRep.fl (b := xb) rw'
      rw [h4] at r
      exact ⟨_, _, _, _, w, rfl, ht, by rw [B.K]; exact A.cls c, by rw [B.K]; exact A.no c, l, q H1 fp1 w E1 T1 (fun m => by simp only [Py.E.mf] at m; exact S1 m) r⟩
  | _ => cases h3
/-! a subscript of a place -/
theorem mget_val {x : D} {key : Key} (hx : keyV x = some key) : ∀ {ks : List D} {ms : List M} {kvs : List (Key × V)} {as : List Addr} {m : M}, ks.map keyV = kvs.map (fun p => some p.1) → RepMs k P H (kvs.map (·.2)) ms as → mIndex.mget ks ms x = some m → ∃ v as', valV kvs key = some v ∧ RepM k P H v m as' ∧ ∀ a ∈ as', a ∈ as
  | [], ms, kvs, as, m, _, _, h => by cases ms <;> simp [mIndex.mget] at h
  | c :: ks, [], kvs, as, m, _, _, h => by simp [mIndex.mget] at h
  | c :: ks, m0 :: ms, [], as, m, e, _, h => by simp at e
  | c :: ks, m0 :: ms, p :: kvs, as, m, e, r, h => by
    simp only [List.map_cons, List.cons.injEq] at e
    cases r with
    | cons r1 r2 =>
      simp only [mIndex.mget] at h
      rw [keyEq_iff e.1 hx] at h
      by_cases z : p.1 = key
      · rw [if_pos (decide_eq_true z)] at h
        cases h
        exact ⟨p.2, _, valV_pos z, r1, fun a q => List.mem_append_left _ q⟩
      · rw [if_neg (by simpa using z)] at h
        obtain ⟨v, as', h1, h2, h3⟩ := mget_val hx e.2 r2 h
        exact ⟨v, as', by rw [valV_neg z]; exact h1, h2, fun a q => List.mem_append_right _ (h3 a q)⟩
theorem RepMs.getM : ∀ {vs : List V} {ms : List M} {as : List Addr} {j : Nat} {m : M}, RepMs k P H vs ms as → ms[j]? = some m → ∃ v as', vs[j]? = some v ∧ RepM k P H v m as' ∧ ∀ a ∈ as', a ∈ as
  | _, _, _, _, _, .nil, e => by simp at e
  | _, _, _, 0, _, .cons h _, e => by simp at e; subst e; exact ⟨_, _, rfl, h, fun a q => List.mem_append_left _ q⟩
  | _, _, _, j + 1, m, .cons _ r, e => by
    obtain ⟨v, as', h1, h2, h3⟩ := r.getM (j := j) (m := m) (by simpa using e)
    exact ⟨v, as', by simpa using h1, h2, fun a q => List.mem_append_right _ (h3 a q)⟩
theorem RepMs.length : ∀ {vs : List V} {ms : List M} {as : List Addr}, RepMs k P H vs ms as → vs.length = ms.length
  | _, _, _, .nil => rfl
  | _, _, _, .cons _ r => congrArg Nat.succ r.length
def rIdM (k : Ki) : R2 := fun x y H Q => ∃ P P2 m d2 m' as, RepM k P H x m as ∧ RepX k P2 H y d2 ∧ mIndex m d2 = some m' ∧ ∀ v as', RepM k P H v m' as' → (∀ a ∈ as', a ∈ as) → Q v H
theorem ix_place (hK : X.K = k.K) (hu : X.A.units + 100 < cLine) : IxR X (rIdM k) := by
  intro value slice pins s σ H x y v u Q I rx ry ⟨P, P2, m, d2, m', as, h1, h2, hm, q⟩ hs
  cases h1 with
  | leaf r =>
    simp only [mIndex, Option.map_eq_some_iff] at hm
    obtain ⟨d, hd, rfl⟩ := hm
    exact ix_all hK hu value slice pins s σ H x y v u Q I rx ry ⟨P, P2, _, d2, d, r, h2, hd, fun v r => q v [] (.leaf r) fun a z => by cases z⟩ hs
  | lst ht r =>
    cases h2 with
    | int i =>
      obtain ⟨j, e1, e2⟩ := Option.bind_eq_some_iff.mp (show (Py.ixN _ i).bind _ = some m' from hm)
      obtain ⟨w, as', e3, r1, sub⟩ := r.getM e2
      refine ix_list value slice pins s σ H _ _ v u Q I rx ry ⟨_, _, i, w, rfl, rfl, .inl (.inl ht), ?_, q w as' r1 fun a z => List.mem_cons_of_mem _ (sub a z)⟩ hs
      unfold L2.atI
      rw [r.length, ← ixN_eq, e1]
      exact e3
    | _ => cases hm
  | dic ht hk r =>
    simp only [mIndex] at hm
    split at hm
    · rename_i z
      obtain ⟨key, ke⟩ := isKey_key z
      cases key_rel ke h2
      obtain ⟨w, as', e1, r1, sub⟩ := mget_val ke hk r hm
      exact ix_dict (by omega) value slice pins s σ H _ _ v u Q I rx ry ⟨_, w, rfl, by rw [← e1]; exact DGet.k ht, q w as' r1 fun a z => List.mem_cons_of_mem _ (sub a z)⟩ hs
    · cases hm
  | ins ht hk r => cases hm
theorem se_idxP (B : XB k X) {i : Nat} {gs : List Nat} {o b : Expr} {eb : E} {pos : Pos} (hb0 : noSl b = true) (ho : PE X o (tP k i gs)) (hb : PE X b (tE k C orc eb)) : PE X (.Subscript o b pos) (tE k C orc (.idx (.pth i gs) eb)) := by
  refine pe_imp (pe_ix (ix_place B.K B.units) ho hb (plainIx hb0)) fun σ H Q ⟨F, G, fp, G', d, bb, E0, h, q⟩ => ?_
  rw [ev] at h
  obtain ⟨hc, h⟩ := ite_ok h
  rw [Bool.and_eq_true] at hc
  obtain ⟨m0, hm0⟩ := Option.isSome_iff_exists.mp hc.2
  obtain ⟨v0, u0, as0, e0, hp0, r0, sub0⟩ := E0.read hm0
  obtain ⟨G1, y, h1, h⟩ := R.bind_inv h
  refine ⟨v0, u0, e0, hp0, F, G, fp, G1, y.1, y.2, E0, h1, fun H1 fp1 v1 E1 T1 S1 R1 => ?_⟩
  split at h
  · rename_i m hm
    have hG : G1 = G' := by injection h
    have hv : m.val = (d, bb) := by injection h
    subst hG
    obtain ⟨m1, h2, h3⟩ := Option.bind_eq_some_iff.mp hm
    obtain ⟨v2, u2, as2, e2, hp2, r2, sub2⟩ := E1.read h2
    have ev : v2 = v0 := by rw [e0] at e2; cases e2; rfl
    subst ev
    have eu : u2 = u0 := by
      rcases Bool.or_eq_true _ _ ▸ hc.1 with z | z
      · have : gs = [] := by simpa using z
        subst this
        cases hp2
        cases hp0
        rfl
      · exact hp2.det (hp0.same (S1 z))
    subst eu
    exact ⟨_, _, m1, y.1, m, as2, r2, R1, h3, fun v as' r sub => q H1 fp1 v E1 T1 (fun mm => S1 (by simp only [Py.E.mf, Bool.and_eq_true] at mm; exact mm.2)) (by have := val_rep E1 r fun a z => sub2 a (sub a z); rw [hv] at this; exact this)⟩
  · cases h
end
end Py
end
section
set_option Elab.async false
set_option linter.all false
set_option maxRecDepth 100000
set_option maxHeartbeats 4000000
namespace Py
open PySem PySem.Spec PyProof.Rows L2 C8
/-! ### calls -/
/-- a new list or dict, that nothing else holds -/
structure Fr (k : Ki) (F : Addr → Prop) (σ : St) (fp0 : Fp) (H0 : Hp) (G : Py.Env) (fp : Fp) (H : Hp) (v : V) (m : M) : Prop where
  ex : ∃ a, v = .ref a ∧ EnvOk k (fun x => F x ∨ x = a) σ H G fp ∧ RepM k (Own (fun x => F x ∨ x = a) fp) H v m [a] ∧ ((∃ j, a ∈ fp0 j) ∨ H0 a = none)
/-- what a def promises, by its oracle -/
def spF (k : Ki) (C : Ctx) (orc : Orc) (f np : Nat) : Sp := fun vs H Q _ => vs.length = np ∧ ∃ F as os d fp, orc f as = .ok os d ∧ EnvOk k F (vs.map some) H as fp ∧
  ∀ H' fp' v, EnvOk k F (vs.map some) H' os fp' → Tr fp H fp' H' → RepX k (Own F fp') H' v d → (C.fr f = true → ∃ m, own1 d = some m ∧ Fr k F (vs.map some) fp H os fp' H' v m) → Q v H'
section
variable {k : Ki} {C : Ctx} {orc : Orc} {X : Cx} {F : Addr → Prop} {σ : St} {H H' : Hp} {G : Py.Env} {fp fp' : Fp}
def fp0 : Fp := fun _ => []
theorem own0 {F : Addr → Prop} : ∀ a, Own F fp0 a → F a := fun a q => by
  rcases q with q | ⟨_, q⟩
  · exact q
  · cases q
theorem env_args {P : Addr → Prop} {vs : List V} {ds : List D} (pm : Pm P H) (r : RepL k P H vs ds) : EnvOk k P (vs.map some) H (ds.map .sh) fp0 where
  len := by rw [List.length_map, List.length_map, r.length]
  slot := fun i => by
    rw [List.getElem?_map, List.getElem?_map]
    cases e : ds[i]? with
    | none => exact rfl
    | some d =>
      obtain ⟨v, e1, r1⟩ := r.get e
      rw [e1]
      exact ⟨⟨v, rfl, r1.sub own0 pm⟩, rfl⟩
  nd := fun _ => List.nodup_nil
  dj := fun i j a h => by cases h
  df := fun i a h => by cases h
  pm := pm.sub own0
theorem tr0_same {fp' : Fp} (t : Tr fp0 H fp' H') : Same H H' := fun a o h => t.keep a o h fun i q => by cases q
theorem RepL.pick {P : Addr → Prop} {vs : List V} {ds : List D} (r : RepL k P H vs ds) : ∀ pm : List Nat, (∀ i ∈ pm, i < ds.length) → RepL k P H (pm.map fun i => vs.getD i .non) (pm.map fun i => ds.getD i .non)
  | [], _ => .nil
  | i :: pm, h => by
    have hl := h i List.mem_cons_self
    have hi : ds[i]? = some ds[i] := List.getElem?_eq_getElem hl
    obtain ⟨v, e1, r1⟩ := r.get hi
    refine .cons ?_ (r.pick pm fun j q => h j (List.mem_cons_of_mem _ q))
    show RepX k P H (vs.getD i .non) (ds.getD i .non)
    rw [List.getD_eq_getElem?_getD, List.getD_eq_getElem?_getD, e1, hi]
    exact r1
/-- a pure call: nothing that stood is changed -/
theorem pure_call {b : Bool} {f np : Nat} {vs : List V} {ds : List D} {os : List Slot} {d : D} {Q : VK} {E : XK} (E1 : EnvOk k F σ H G fp) (R1 : RepL k (if b = true then F else Own F fp) H vs ds) (hl : ds.length = np) (ho : orc f (ds.map .sh) = .ok os d)
    (q : ∀ H' v, Same H H' → VRep k F fp H' v d b → Q v H') : spF k C orc f np vs H Q E := by
  refine ⟨by rw [R1.length]; exact hl, _, _, os, d, fp0, ho, env_args (E1.pmB b) R1, fun H' fp' v E' T R _ => ?_⟩
  exact q H' v (tr0_same T) (RepX.sub (P := Own (if b = true then F else Own F fp) fp') (fun a z => .inl z) E'.pm R)
/-- a new object is nobody's -/
theorem EnvOk.fresh (E1 : EnvOk k F σ H G fp) (s : Same H H') {a : Addr} (hn : H a = none) (hm : Mut (H' a)) : EnvOk k (fun x => F x ∨ x = a) σ H' G fp := by
  have sub : ∀ x, Own (fun x => F x ∨ x = a) fp x → Own F fp x ∨ H x = none := fun x q => by
    rcases q with (q | q) | q
    · exact .inl (.inl q)
    · rw [q]; exact .inr hn
    · exact .inl (.inr q)
  refine ⟨E1.len, fun i => ?_, E1.nd, E1.dj, fun i x h z => ?_, fun x q => ?_⟩
  · have hs := E1.slot i
    cases hg : G[i]? with
    | none => rw [hg] at hs; exact hs
    | some sl =>
      rw [hg] at hs
      cases sl with
      | dead => exact hs
      | sh d => obtain ⟨⟨x, e, r⟩, z⟩ := hs; exact ⟨⟨x, e, r.mono (same_ext s) E1.pm sub⟩, z⟩
      | ow m =>
        obtain ⟨x, e, r⟩ := hs
        refine ⟨x, e, r.mono (same_ext s) E1.pm sub fun b h => ?_⟩
        obtain ⟨o, ho⟩ := r.there b h
        rw [ho, s b o ho]
  · rcases z with z | z
    · exact E1.df i x h z
    · rw [z] at h; exact pm_free E1.pm hn (.inr ⟨i, h⟩)
  · by_cases e : x = a
    · rw [e]; exact hm
    · rcases sub x q with z | z
      · have := E1.pm x z
        cases e : H x with
        | none => rw [e] at this; exact this.elim
        | some o => rw [s x o e]; rw [e] at this; exact this
      · rcases q with (q | q) | ⟨i, q⟩
        · have := E1.pm x (.inl q); rw [z] at this; exact this.elim
        · exact absurd q e
        · have := E1.pm x (.inr ⟨i, q⟩); rw [z] at this; exact this.elim
/-- a pure call that gives a new object -/
theorem pure_callF {f np : Nat} {vs : List V} {ds : List D} {os : List Slot} {d : D} {Q : VK} {E : XK} (E1 : EnvOk k F σ H G fp) (R1 : RepL k (Own F fp) H vs ds) (hl : ds.length = np) (ho : orc f (ds.map .sh) = .ok os d) (hf : C.fr f = true)
    (q : ∀ H' v m, Same H H' → RepX k (Own F fp) H' v d → own1 d = some m → Fr k F σ fp H G fp H' v m → Q v H') : spF k C orc f np vs H Q E := by
  refine ⟨by rw [R1.length]; exact hl, _, _, os, d, fp0, ho, env_args E1.pm R1, fun H' fp' v E' T R fr => ?_⟩
  obtain ⟨m, hm, a, ev, Ea, rm, ha⟩ := fr hf
  have hn : H a = none := by
    rcases ha with ⟨j, z⟩ | z
    · cases z
    · exact z
  have s := tr0_same T
  have mt : Mut (H' a) := rm.mut a (List.mem_singleton.mpr rfl)
  refine q H' v m s (RepX.sub (P := Own (Own F fp) fp') (fun a z => .inl z) E'.pm R) hm ⟨a, ev, E1.fresh s hn mt, ?_, .inr hn⟩
  refine rm.mono Ext.refl Ea.pm (fun x z => .inl ?_) fun _ _ => rfl
  rcases z with (z | z) | z
  · exact .inl (.inl (.inl z))
  · exact .inl (.inr z)
  · exact .inl (.inl (.inr z))
def pmOk (pm : List Nat) (n : Nat) : Bool := pm.all fun i => decide (i < n)
theorem call_red {f : Nat} {ies : List E} {pm : List Nat} (hp : pmOk pm ies.length = true) {σ : St} {H : Hp} {Q : VK} (h : tE k C orc (.call f ies pm) σ H Q) :
    tEs k C orc ies σ H fun vs H1 => vs.length = ies.length ∧ spF k C orc f pm.length (pm.map fun i => vs.getD i .non) H1 Q C8.E0 := by
  obtain ⟨F, G, fp, G', d, b, E1, h, q⟩ := h
  rw [ev] at h
  obtain ⟨G1, r, h1, h⟩ := R.bind_inv h
  refine ⟨F, G, fp, G1, r.1, r.2, E1, h1, fun H1 fp1 vs E1 T1 S1 R1 => ⟨by rw [R1.length]; exact evs_len (ds := r.1) (b := r.2) h1, ?_⟩⟩
  split at h
  · rename_i os d' ho
    have hG : G1 = G' := by injection h
    have hd : fl d' r.2 = (d, b) := by injection h
    subst hG
    have ln : r.1.length = ies.length := evs_len (ds := r.1) (b := r.2) h1
    refine pure_call (b := r.2) E1 (R1.pick pm fun i hi => ?_) (by rw [List.length_map]) (by rw [List.map_map]; exact ho) fun H' v s r' => ?_
    · rw [ln]; exact of_decide_eq_true (List.all_eq_true.mp hp i hi)
    · have := r'.fl
      rw [hd] at this
      exact q H' fp1 v (E1.same s) (T1.trans (same_tr s)) (fun m => by simp only [Py.E.mf] at m; exact same_trans (S1 m) s) this
  · cases h
theorem range_pick {α : Type} (x : α) (vs : List α) : (List.range vs.length).map (fun i => vs.getD i x) = vs := by
  apply List.ext_getElem?
  intro i
  rw [List.getElem?_map]
  by_cases h : i < vs.length
  · rw [List.getElem?_eq_getElem (by simpa using h), List.getElem_range, List.getElem?_eq_getElem h]
    simp [List.getD_eq_getElem?_getD, h]
  · rw [List.getElem?_eq_none (by simpa using h), List.getElem?_eq_none (by simpa using h)]
    rfl
variable {x : Str} {p pos apos : Pos} {e : Expr} {es : List Expr} {ies : List E} {j jj : Nat}
/-- f(e, ..) -/
theorem se_call {f : Nat} {pm : List Nat} (c : Cal X.prog X.w X.K X.mg X.base jj x (spF k C orc f pm.length) []) (hr : Room j X.A) (hk : jj ≤ j) (hg : Gl X x) (hdb : (x == ("__debug__" : Str)) = false) (hs : (e :: es).all noStar = true)
    (hp : pm = List.range ies.length) (ha : PA X (e :: es) (tEs k C orc ies)) : PE X (.Call (.Name x p) (e :: es) [] pos) (tE k C orc (.call f ies pm)) := by
  rw [List.all_cons, Bool.and_eq_true] at hs
  refine pe_imp (pe_c c hr hk hg ha hdb (star_cons hs.1 _ _) (star_any hs.2 _ _)) fun σ H Q h => ?_
  have h := call_red (by rw [hp]; exact List.all_eq_true.mpr fun i hi => decide_eq_true (List.mem_range.mp hi)) h
  obtain ⟨F, G, fp, G', ds, b, E0, h, q⟩ := h
  refine ⟨F, G, fp, G', ds, b, E0, h, fun H' fp' vs E' T S R => ?_⟩
  obtain ⟨hl, q⟩ := q H' fp' vs E' T S R
  rw [hp, ← hl, range_pick] at q
  rw [List.append_nil, hp, ← hl]
  exact q
theorem se_call0 {f : Nat} (c : Cal X.prog X.w X.K X.mg X.base jj x (spF k C orc f 0) []) (hr : Room j X.A) (hk : jj ≤ j) (hg : Gl X x) (hdb : (x == ("__debug__" : Str)) = false) : PE X (.Call (.Name x p) [] [] pos) (tE k C orc (.call f [] [])) := by
  obtain ⟨fa, fd, ps, ds, Fo, hm, kp, b, d⟩ := c.ex
  refine pe_imp (pe_call0 (E := C8.E0) Fo (hr.mono hk) hg hm kp b d C8.pass0 hdb) fun σ H Q h => ?_
  obtain ⟨F, G, fp, G', ds, b, E0, h, q⟩ := call_red rfl h
  rw [evs] at h
  cases h
  exact (q H fp [] E0 (.refl _ _) (fun _ => ssame) .nil).2
/-- f(k = v, ..), all by name -/
structure CalK (P : Program) (w : World) (K : PySem.W.Frag) (mg : Str → Option Value) (base : Heap) (j : Nat) (x : Str) (sp : Sp) (ks : List Str) (pm : List Nat) : Prop where
  ex : ∃ (f : Addr) (fd : FuncData) (ps : List Str) (g : List Value → List Value → List Value), FnOk P w K mg base C8.CX0 j f fd ps sp ∧ mg x = some (.ref f) ∧ PySem.W.keepIn K (.ref f) = true ∧ KBn K fd ps 0 ks g (fun _ zs => pm.map fun i => zs.getD i .non)
def allKw (kws : List Keyword) : Bool := kws.all fun q => q.arg.isSome
def kwNames (kws : List Keyword) : List Str := kws.filterMap (·.arg)
theorem kw_all : ∀ {kws : List Keyword}, allKw kws = true → ∀ (env : PySem.Env) (pos : Pos), (backToKw pos (keywordEach kws env)).all (·.1.isSome) = true ∧ (backToKw pos (keywordEach kws env)).filterMap (·.1) = kwNames kws ∧ (backToKw pos (keywordEach kws env)).any (·.1.isNone) = false
  | [], _, _, _ => ⟨rfl, rfl, rfl⟩
  | ⟨nm, v, q⟩ :: kws, h, env, pos => by
    unfold allKw at h
    rw [List.all_cons, Bool.and_eq_true] at h
    obtain ⟨h1, h2, h3⟩ := kw_all (kws := kws) h.2 env pos
    cases nm with
    | none => exact absurd h.1 (by simp)
    | some n =>
      refine ⟨h1, ?_, h3⟩
      show n :: (backToKw pos (keywordEach kws env)).filterMap (·.1) = n :: kwNames kws
      rw [h2]
theorem sks_nil : PK X [] (tEs k C orc []) := ⟨fun pos pins s σ H Q I q => pk_nil.run pos pins s σ H Q I (by
  obtain ⟨F, G, fp, G', ds, b, E0, h, q⟩ := q
  rw [evs] at h
  cases h
  exact q H fp [] E0 (.refl _ _) (fun _ => ssame) .nil)⟩
theorem sks_cons {nm : Option Str} {kp : Pos} {kws : List Keyword} {ie : E} (he : PE X e (tE k C orc ie)) (hes : PK X kws (tEs k C orc ies)) : PK X (⟨nm, e, kp⟩ :: kws) (tEs k C orc (ie :: ies)) := by
  refine ⟨fun pos pins s σ H Q I q => (pk_cons he hes).run pos pins s σ H Q I ?_⟩
  obtain ⟨F, G, fp, G', ds, b, E0, h, q⟩ := q
  rw [evs] at h
  obtain ⟨G1, x, h1, h⟩ := R.bind_inv h
  obtain ⟨hb1, h⟩ := ite_bad h
  obtain ⟨G2, r, h2, h⟩ := R.bind_inv h
  cases h
  refine ⟨F, G, fp, G1, x.1, x.2, E0, h1, fun H1 fp1 v1 E1 T1 S1 R1 => ⟨F, G1, fp1, _, r.1, r.2, E1, h2, fun H2 fp2 vs E2 T2 S2 R2 => ?_⟩⟩
  have R1' := (R1.tr E1 T2 fun z => S2 (bor hb1 z)).or1 E2 (c := r.2)
  have R2' : VReps k F fp2 H2 vs r.1 (x.2 || r.2) := VReps.weak E2 (show VReps k F fp2 H2 vs r.1 r.2 from R2) fun e => by rw [e, Bool.or_true]
  exact q H2 fp2 _ E2 (T1.trans T2) (fun m => by
    simp only [Py.E.mfL, Bool.and_eq_true] at m
    exact same_trans (S1 m.1) (S2 m.2)) (.cons R1' R2')
theorem se_callK {f : Nat} {pm : List Nat} {kws : List Keyword} (c : CalK X.prog X.w X.K X.mg X.base jj x (spF k C orc f pm.length) (kwNames kws) pm) (hr : Room j X.A) (hk : jj ≤ j) (hg : Gl X x) (hdb : (x == ("__debug__" : Str)) = false) (hs : allKw kws = true)
    (hp : pmOk pm ies.length = true) (hn : (kwNames kws).length = ies.length) (ha : PK X kws (tEs k C orc ies)) : PE X (.Call (.Name x p) [] kws pos) (tE k C orc (.call f ies pm)) := by
  obtain ⟨fa, fd, ps, g, Fo, hm, kp, b⟩ := c.ex
  obtain ⟨k1, k2, k3⟩ := kw_all hs X.env pos
  refine ⟨fun pins s σ H Q I h => ?_⟩
  have h := call_red hp h
  refine wpAny_Call_Name_kw (ld_glob I hg hm ?_ hdb)
  refine PySem.W.callWith_KW0 (h₀ := X.base) I.ok.mod.kin kp k1 (thn (ha.run pos pins s σ H _ I h) fun ws s2 ⟨zs, H2, I2, rz, hl, q2⟩ => ⟨I2.kIn, ?_⟩) (by rw [k3] <;> rfl)
  rw [k2]
  exact run_fnN (vs := []) Fo (hr.mono hk) b C8.pass0 I2 .nil rz rfl (by rw [hl, hn]) q2
def fpOne (y : Addr) : Fp := fun i => if i = 0 then [y] else []
theorem mem_fpOne {y a : Addr} {i : Nat} (h : a ∈ fpOne y i) : i = 0 ∧ a = y := by
  unfold fpOne at h
  split at h
  · exact ⟨by assumption, List.mem_singleton.mp h⟩
  · cases h
/-- C(e, ..) -/
theorem new_red {c f : Nat} (hc : C.init c = some f) {σ : St} {H : Hp} {Q : VK} (h : tE k C orc (.new c ies) σ H Q) :
    tEs k C orc ies σ H fun vs H1 => ∀ x dx, H1 x = none → H1 dx = none → dx ≠ x → spF k C orc f (ies.length + 1) (.ref x :: vs) (upd (upd H1 dx (.own x)) x (.ins (k.ca c) dx [])) (fun v H2 => v = .non ∧ Q (.ref x) H2) C8.E0 := by
  obtain ⟨F, G, fp, G', d, b, E1, h, q⟩ := h
  rw [ev] at h
  obtain ⟨G1, r, h1, h⟩ := R.bind_inv h
  obtain ⟨hb1, h⟩ := ite_bad h
  rw [hc] at h
  refine ⟨F, G, fp, G1, r.1, r.2, E1, h1, fun H1 fp1 vs E1 T1 S1 R1 y dy hy hdy ne => ?_⟩
  rw [hb1] at R1
  have ln : r.1.length = ies.length := evs_len (ds := r.1) (b := r.2) h1
  have s1 : Same H1 (upd (upd H1 dy (.own y)) y (.ins (k.ca c) dy [])) := same_trans (same_new hdy) (same_new (by rw [upd_ne (Ne.symm ne)]; exact hy))
  simp only at h
  split at h
  · rename_i os m tl ho
    have hG : G1 = G' := by injection h
    have hd : (m.fz, false) = (d, b) := by injection h
    subst hG
    cases hd
    refine ⟨by rw [List.length_cons, R1.length, ln], Own F fp1, _, _, _, fpOne y, ho, ?_, fun H' fp' v E' T R _ => ?_⟩
    · have Ea := env_args E1.pm R1
      have ny : ¬ Own F fp1 y := pm_free E1.pm hy
      have sub : ∀ a, Own (Own F fp1) (fpOne y) a → Own F fp1 a ∨ a = y := fun a q => by
        rcases q with q | ⟨i, q⟩
        · exact .inl q
        · exact .inr (mem_fpOne q).2
      constructor
      · rw [List.length_map, List.length_cons, List.length_cons, List.length_map, R1.length]
      · intro i
        cases i with
        | zero => exact ⟨.ref y, rfl, .ins upd_same rfl .nil⟩
        | succ i =>
          show SlotOk k _ _ ((vs.map some)[i]?) _ ((r.1.map Slot.sh)[i]?)
          rw [List.getElem?_map, List.getElem?_map]
          cases e : r.1[i]? with
          | none => exact rfl
          | some d =>
            obtain ⟨v, e1, r1⟩ := R1.get e
            rw [e1]
            exact ⟨⟨v, rfl, r1.mono (same_ext s1) E1.pm fun a z => (sub a z).imp id fun z => by rw [z]; exact hy⟩, rfl⟩
      · intro i; unfold fpOne; split
        · simp
        · simp
      · intro i j' a h1 h2
        rw [(mem_fpOne h1).1, (mem_fpOne h2).1]
      · intro i a h1
        rw [(mem_fpOne h1).2]; exact ny
      · intro a z
        rcases sub a z with z | z
        · have := E1.pm a z
          cases e : H1 a with
          | none => rw [e] at this; exact this.elim
          | some o => rw [s1 a o e]; rw [e] at this; exact this
        · rw [z, upd_same]; trivial
    · cases R
      refine ⟨rfl, ?_⟩
      have s2 : Same H1 H' := fun a o ha => T.keep a o (s1 a o ha) fun i z => by
        rw [(mem_fpOne z).2, hy] at ha; cases ha
      obtain ⟨v0, e0, r0⟩ := E'.ow (i := 0) (m := m) rfl
      have ev0 : v0 = .ref y := by
        have e0 : some (some (V.ref y)) = some (some v0) := e0
        cases e0; rfl
      subst ev0
      have r := r0.fz E'.pm (P' := Own F fp1) (fun a z => .inl z) fun a z => E'.df 0 a z
      exact q H' fp1 _ (E1.same s2) (T1.trans (same_tr s2)) (fun mm => by simp only [Py.E.mf] at mm; exact same_trans (S1 mm) s2) r
  · cases h
theorem se_new {c f : Nat} (hc : C.init c = some f) (cc : Mak X.prog X.w X.K X.mg X.base jj x (k.ca c) (spF k C orc f (ies.length + 1)) []) (hr : Room j X.A) (hk : jj + 1 ≤ j) (hg : Gl X x) (hdb : (x == ("__debug__" : Str)) = false) (hs : (e :: es).all noStar = true)
    (ha : PA X (e :: es) (tEs k C orc ies)) : PE X (.Call (.Name x p) (e :: es) [] pos) (tE k C orc (.new c ies)) := by
  rw [List.all_cons, Bool.and_eq_true] at hs
  refine pe_imp (pe_mk cc hr hk hg ha hdb (star_cons hs.1 _ _) (star_any hs.2 _ _)) fun σ H Q h => ?_
  have h := new_red hc h
  obtain ⟨F, G, fp, G', ds, b, E0, h, q⟩ := h
  refine ⟨F, G, fp, G', ds, b, E0, h, fun H' fp' vs E' T S R y dy h1 h2 h3 => ?_⟩
  rw [List.append_nil]
  exact q H' fp' vs E' T S R y dy h1 h2 h3
/-- o.m(e, ..) -/
theorem pe_ex {ι : Sort _} {e : Expr} {t : ι → TE} (h : ∀ i, PE X e (t i)) : PE X e (fun σ H Q => ∃ i, t i σ H Q) := ⟨fun pins s σ H Q I ⟨i, q⟩ => (h i).run pins s σ H Q I q⟩
theorem lookup_none {f : Str} : ∀ {fs : List (Str × V)} {ids : List Nat}, fs.map (·.1) = ids.map k.fd → (∀ i, k.fd i ≠ f) → fs.lookup f = none
  | [], _, _, _ => rfl
  | p :: fs, [], e, _ => by simp at e
  | p :: fs, i :: ids, e, h => by
    simp only [List.map_cons, List.cons.injEq] at e
    rw [show p = (p.1, p.2) from rfl, List.lookup_cons, e.1]
    rw [show (f == k.fd i) = false from beq_eq_false_iff_ne.mpr fun q => h i q.symm]
    exact lookup_none e.2 h
theorem mth_red {m : Nat} {mn : Str} {eo : E} (hm : ∀ i, k.fd i ≠ mn) {σ : St} {H : Hp} {Q : VK} (h : tE k C orc (.mth eo m ies) σ H Q) :
    ∃ q : Nat × Nat, C.mth q.1 m = some q.2 ∧ tMeth (k.ca q.1) mn (spF k C orc q.2 (ies.length + 1)) [] C8.E0 (tE k C orc eo) (tEs k C orc ies) σ H Q := by
  obtain ⟨F, G, fp, G', d, b, E1, h, q⟩ := h
  rw [ev] at h
  obtain ⟨G1, x, h1, h⟩ := R.bind_inv h
  obtain ⟨hb1, h⟩ := ite_bad h
  obtain ⟨G2, r, h2, h⟩ := R.bind_inv h
  have ln : r.1.length = ies.length := evs_len (ds := r.1) (b := r.2) h2
  split at h
  · rename_i c ids vs hx
    split at h
    · rename_i f hf
      refine ⟨(c, f), hf, F, G, fp, G1, x.1, x.2, E1, h1, fun H1 fp1 v1 E1 T1 S1 R1 => ?_⟩
      rw [hx] at R1
      have R1c := R1
      cases (show RepX k (if x.2 = true then F else Own F fp1) H1 v1 (.ins c ids vs) from R1) with
      | @ins a dx _ fs _ _ ht hn hk rl =>
        refine ⟨a, dx, fs, rfl, ht, lookup_none hk hm, F, G1, fp1, G2, r.1, r.2, E1, h2, fun H2 fp2 vs2 E2 T2 S2 R2 => ?_⟩
        split at h
        · rename_i os d' ho
          have hG : G2 = G' := by injection h
          have hd : fl d' (x.2 || r.2) = (d, b) := by injection h
          subst hG
          have R1' := (VRep.tr E1 T2 (show VRep k F fp1 H1 (.ref a) _ x.2 from R1c) fun z => S2 (bor hb1 z)).or1 E2 (c := r.2)
          have R2' : VReps k F fp2 H2 vs2 r.1 (x.2 || r.2) := VReps.weak E2 (show VReps k F fp2 H2 vs2 r.1 r.2 from R2) fun e => by rw [e, Bool.or_true]
          rw [List.append_nil]
          refine pure_call (b := x.2 || r.2) (ds := .ins c ids vs :: r.1) E2 (.cons R1' R2') (by rw [List.length_cons, ln]) ho fun H' v s r' => ?_
          have := r'.fl
          rw [hd] at this
          exact q H' fp2 v (E2.same s) ((T1.trans T2).trans (same_tr s)) (fun m => by
            simp only [Py.E.mf, Bool.and_eq_true] at m
            exact same_trans (same_trans (S1 m.1) (S2 m.2)) s) this
        · cases h
    · cases h
  · cases h
end
end Py
end
section
set_option Elab.async false
set_option linter.all false
set_option maxRecDepth 100000
set_option maxHeartbeats 4000000
namespace Py
open PySem PySem.Spec PyProof.Rows L2 C8
section
variable {k : Ki} {C : Ctx} {orc : Orc} {X : Cx} {F : Addr → Prop} {σ : St} {H H' : Hp} {G : Py.Env} {fp fp' : Fp}
variable {x : Str} {p pos apos : Pos} {e o : Expr} {es : List Expr} {ies : List E} {j jj : Nat} {ea eb eo : E}
theorem star_all : ∀ {es : List Expr}, es.all noStar = true → ∀ (env : PySem.Env) (pos : Pos), (backTo pos (starEach es env)).all (fun x => !x.1) = true
  | [], _, _, _ => rfl
  | e :: es, h, env, pos => by
    rw [List.all_cons, Bool.and_eq_true] at h
    rw [star_cons h.1]
    exact star_all (es := es) h.2 env pos
theorem form_ok {env : PySem.Env} (hs : es.all noStar = true) (hl : es.length < 29) : methodCallForm (es.length + ([] : List Keyword).length) (backTo pos (starEach es env)) (backToKw pos (keywordEach [] env)) = true := by
  unfold methodCallForm
  rw [star_all hs]
  show (true && true && decide (es.length + 0 + 0 < 30)) = true
  simp; omega
theorem mth_eq {m : Str} {env : PySem.Env} (ho : attrOk o = true) (hs : es.all noStar = true) (hl : es.length < 29) (hline : (apos.endLine == pos.line) = true) :
    eval (.Call (.Attribute o m apos) es [] pos) env = (do
      let ov ← eval o env
      standAt apos.atName
      let (f, first) ← holding [ov] (getMethod ov m (do return (← importBound o env).getD true))
      callWith pos f first (backTo pos (starEach es env)) (backToKw pos (keywordEach [] env))) := by
  rw [arm_eval_Call, attBase ho]
  unfold methodCall calleeOf methodCallPos
  rw [form_ok hs hl]
  simp only [if_true, hline, Bool.not_true, Bool.or_true]
  rfl
/-- o.m(e, ..), o.m() -/
theorem se_mth {m : Nat} {mn : Str} (cs : ∀ c f, C.mth c m = some f → Met X.prog X.w X.K X.mg X.base jj (k.ca c) mn (spF k C orc f (ies.length + 1)) []) (hm : ∀ i, k.fd i ≠ mn) (hr : Room j X.A) (hk : jj ≤ j)
    (ho : attrOk o = true) (hs : es.all noStar = true) (hl : es.length < 29) (hn : es.length = ies.length) (hline : (apos.endLine == pos.line) = true) (hoo : PE X o (tE k C orc eo)) (ha : PA X es (tEs k C orc ies)) : PE X (.Call (.Attribute o mn apos) es [] pos) (tE k C orc (.mth eo m ies)) := by
  refine pe_imp (t := fun σ H Q => ∃ q : { q : Nat × Nat // C.mth q.1 m = some q.2 }, tMeth (k.ca q.1.1) mn (spF k C orc q.1.2 (ies.length + 1)) [] C8.E0 (tE k C orc eo) (tEs k C orc ies) σ H Q) (pe_ex fun q => ?_) fun σ H Q h => ?_
  · cases es with
    | cons e es =>
      have hs' := hs
      rw [List.all_cons, Bool.and_eq_true] at hs'
      exact pe_mt (cs _ _ q.2) hr hk hoo ha (star_cons hs'.1 _ _) (star_any hs'.2 _ _) (mth_eq ho hs hl hline)
    | nil =>
      refine pe_imp (pe_mt0 (cs _ _ q.2) hr hk hoo (mth_eq ho hs hl hline)) fun σ H Q h => ?_
      refine tE_mono h fun v H' ⟨a, dx, fs, e1, e2, e3, h⟩ => ⟨a, dx, fs, e1, e2, e3, ?_⟩
      obtain ⟨F, G, fp, G', ds, b, E1, h, q⟩ := h
      cases ies with
      | nil =>
        rw [evs] at h
        cases h
        exact q H' fp [] E1 (.refl _ _) (fun _ => ssame) .nil
      | cons _ _ => simp at hn
  · obtain ⟨q, h1, h2⟩ := mth_red hm h
    exact ⟨⟨q, h1⟩, h2⟩

/-! ### built-in functions -/
/-- len of an instance, by its own __len__ -/
structure LenOk (k : Ki) (C : Ctx) (orc : Orc) (P : Program) (w : World) (K : PySem.W.Frag) (mg : Str → Option Value) (base : Heap) (j c f : Nat) : Prop where
  ex : ∃ (fa : Addr) (fd : FuncData) (ps : List Str), PySem.W.findIn K (.ref (k.ca c)) "__len__" = some (some (.ref fa)) ∧ PySem.W.isFn K (.ref fa) = true ∧ FnOk P w K mg base C8.CX0 j fa fd ps (spF k C orc f 1) ∧ Binds K fd ps []
theorem len_ins {c f : Nat} (L : LenOk k C orc X.prog X.w X.K X.mg X.base jj c f) (hr : Room (jj + 1) X.A) : CallR X (.builtin "len") (fun vs H Q => ∃ a dx fs, vs = [.ref a] ∧ H a = some (.ins (k.ca c) dx fs) ∧ spF k C orc f 1 [.ref a] H (fun v H' => ∃ n : Int, v = .int n ∧ 0 ≤ n ∧ n < 2 ^ 62 ∧ Q (.int n) H') C8.E0) := by
  intro pins s σ H vs us Q I r z
  obtain ⟨a, dx, fs, rfl, ha, sp⟩ := z
  obtain ⟨fa, fd, ps, h1, h2, Fo, hb⟩ := L.ex
  rw [Vals.ref1 r]
  obtain ⟨mA, O, _⟩ := ins_get I.hok ha
  obtain ⟨od, J, _⟩ := O.look
  obtain ⟨m, Fr⟩ := I.fr
  refine PySem.W.len_K Fr I.ok.mod.kin J h1 h2 ?_
  have hl : ([Value.ref a] ++ []).length = ps.length := by
    have := Fo.len _ _ _ _ sp
    simpa using this
  refine wpAny_call (codeAny_mono (Fo.run X.A.in1 X.stack s H ⟨[.ref a], []⟩ [.ref a] [.ref a] _ C8.E0 hr.in1 I.env0.in1 (by have := hb s [.ref a] I.kIn hl; rwa [List.append_nil] at this) (.cons rfl .nil) sp) fun r s' hq => ?_)
  cases r with
  | error e => exact hq.elim
  | ok fl =>
    cases fl with
    | ret u =>
      obtain ⟨v, H', I', rv, n, rfl, n0, n1, q⟩ := I.after hq
      obtain ⟨t, rfl⟩ := rv
      exact ⟨⟨n0, by omega⟩, ⟨.int n, H', I'.tok _, ⟨_, rfl⟩, q⟩⟩
    | next => exact hq.elim
    | brk => exact hq.elim
    | cont => exact hq.elim
def bName : Bi → Str
  | .len => "len" | .sum => "sum" | .max => "max" | .min => "min" | .abs => "abs" | .int => "int" | .bool => "bool" | .tuple => "tuple" | .list => "list" | .set => "set"
  | .sorted => "sorted" | .all => "all" | .any => "any"
theorem boot_bi : ∀ b : Bi, bootBuiltins (bName b) = some (bVal b) ∧ bName b ≠ "__name__" ∧ (bName b == ("__debug__" : Str)) = false := by
  intro b
  cases b <;> exact ⟨by decide +kernel, by decide +kernel, by decide +kernel⟩
/-- f(e, ..), f a built-in function or type -/
theorem pe_bi {b : Bi} {r : List V → Hp → VK → Prop} {t : TA} (hc : CallR X (bVal b) r) (hg : Gl X (bName b)) (hm : X.mg (bName b) = none) (hs : (e :: es).all noStar = true) (ha : PA X (e :: es) t) : PE X (.Call (.Name (bName b) p) (e :: es) [] pos) (tCB r t) := by
  rw [List.all_cons, Bool.and_eq_true] at hs
  obtain ⟨h1, h2, h3⟩ := boot_bi b
  cases b <;> first
    | exact pe_callB hc hg hm h1 ha h2 h3 (star_cons hs.1 _ _) (star_any hs.2 _ _)
    | exact pe_callTy hc hg hm h1 ha h2 h3 (star_cons hs.1 _ _) (star_any hs.2 _ _)
theorem se_blt (B : XB k X) {b : Bi} (L : ∀ c f, C.lenOf c = some f → LenOk k C orc X.prog X.w X.K X.mg X.base jj c f) (hr : Room j X.A) (hk : jj + 1 ≤ j) (hg : Gl X (bName b)) (hm : X.mg (bName b) = none) (hx : bName b = x) (hs : (e :: es).all noStar = true)
    (ha : PA X (e :: es) (tEs k C orc ies)) : PE X (.Call (.Name x p) (e :: es) [] pos) (tE k C orc (.blt b ies)) := by
  subst hx
  have all : PE X (.Call (.Name (bName b) p) (e :: es) [] pos) (fun σ H Q => tCB (rBlt k b) (tEs k C orc ies) σ H Q ∨ ∃ q : { q : Nat × Nat // C.lenOf q.1 = some q.2 ∧ b = .len }, tCB (fun vs H Q => ∃ a dx fs, vs = [.ref a] ∧ H a = some (.ins (k.ca q.1.1) dx fs) ∧ spF k C orc q.1.2 1 [.ref a] H (fun v H' => ∃ n : Int, v = .int n ∧ 0 ≤ n ∧ n < 2 ^ 62 ∧ Q (.int n) H') C8.E0) (tEs k C orc ies) σ H Q) :=
    pe_or2 (pe_bi (cr_blt B.K B.calm B.P B.w B.units b) hg hm hs ha) (pe_ex fun q => by
      obtain ⟨⟨c, f⟩, h1, rfl⟩ := q
      exact pe_bi (len_ins (L c f h1) (hr.mono hk)) hg hm hs ha)
  refine pe_imp all fun σ H Q ⟨F, G, fp, G', d, bb, E1, h, q⟩ => ?_
  rw [ev] at h
  obtain ⟨G1, r, h1, h⟩ := R.bind_inv h
  obtain ⟨h3, rfl⟩ := R.ofO_inv h
  unfold bltC at h3
  by_cases hi : notIns b r.1 = true
  · left
    rw [if_pos hi] at h3
    obtain ⟨d', h3, h4⟩ := Option.map_eq_some_iff.mp h3
    refine ⟨F, G, fp, G1, r.1, r.2, E1, h1, fun H1 fp1 vs E1 T1 S1 R1 => ⟨_, r.1, d', E1.pmB r.2, R1, h3, fun H2 v s r' => ?_⟩⟩
    have r' := VRep.fl (b := r.2) r'
    rw [h4] at r'
    exact q H2 fp1 v (E1.same s) (T1.trans (same_tr s)) (fun m => by simp only [Py.E.mf] at m; exact same_trans (S1 m) s) r'
  · right
    rw [if_neg hi] at h3
    obtain ⟨d', h9, h4⟩ := Option.map_eq_some_iff.mp h3
    clear h3
    cases h4
    have h3 := h9
    clear h9
    unfold lenI at h3
    split at h3
    · rename_i c ids vs hr1
      have hb : b = .len := by
        cases b <;> first | rfl | exact absurd rfl hi
      subst hb
      obtain ⟨f, hf, h9⟩ := Option.bind_eq_some_iff.mp h3
      clear h3
      have h3 := h9
      clear h9
      refine ⟨⟨(c, f), hf, rfl⟩, F, G, fp, G1, r.1, r.2, E1, h1, fun H1 fp1 ws E1 T1 S1 R1 => ?_⟩
      split at h3
      · rename_i os n ho
        split at h3
        · rename_i hc
          simp only [Bool.and_eq_true, decide_eq_true_eq] at hc
          cases h3
          rw [hr1] at R1
          obtain ⟨v, rfl, rv⟩ := repL1 R1
          have rv0 := rv
          cases rv with
          | ins ht hn hkk rl =>
            refine ⟨_, _, _, rfl, ht, ?_⟩
            refine pure_call (b := r.2) (ds := [.ins c ids vs]) E1 R1 rfl ho fun H' v s r' => ?_
            cases (show RepX k _ H' v (.int n) from r')
            exact ⟨n, rfl, hc.1, (ltp_int hc.2).2, q H' fp1 _ (E1.same s) (T1.trans (same_tr s)) (fun m => by simp only [Py.E.mf] at m; exact same_trans (S1 m) s) (RepX.int n)⟩
        · cases h3
      · cases h3
    · cases h3
theorem boot_set : bootBuiltins ("set" : Str) = some (.type "set") ∧ ("set" : Str) ≠ "__name__" ∧ (("set" : Str) == ("__debug__" : Str)) = false := ⟨by decide +kernel, by decide +kernel, by decide +kernel⟩
theorem one_red {e : Expr} (hs : noStar e = true) (he : PE X e (tE k C orc ea)) : PA X [e] (tCons (tE k C orc ea) tNil) := pa_cons he pa_nil (star_cons hs _ _)
theorem se_sets (B : XB k X) (hg : Gl X "set") (hm : X.mg "set" = none) (hs : noStar e = true) (he : PE X e (tE k C orc ea)) : PE X (.Call (.Name "set" p) [e] [] pos) (tE k C orc (.sets ea)) := by
  refine pe_imp (pe_callTy (set_ofT B.K B.calm B.P B.w B.units) hg hm boot_set.1 (one_red hs he) boot_set.2.1 boot_set.2.2 (star_cons hs _ _) rfl) fun σ H Q ⟨F, G, fp, G', d, bb, E1, h, q⟩ => ?_
  rw [ev] at h
  obtain ⟨G1, y, h1, h⟩ := R.bind_inv h
  refine ⟨F, G, fp, G1, y.1, y.2, E1, h1, fun H1 fp1 v E1 T1 S1 R1 => ?_⟩
  split at h
  · rename_i xs hy
    split at h
    · rename_i rs hrs
      obtain ⟨hc, h⟩ := ite_ok h
      have hG : G1 = G' := by injection h
      have hd : (D.set ((firstMet rs).map rowD), false) = (d, bb) := by injection h
      subst hG
      cases hd
      exact ⟨_, Own F fp1, y.1, xs, rs, E1.pmB y.2, E1.pm, .cons R1 .nil, hy, hrs, of_decide_eq_true hc, fun H2 w s r => q H2 fp1 w (E1.same s) (T1.trans (same_tr s)) (fun m => by simp only [Py.E.mf] at m; exact same_trans (S1 m) s) r⟩
    · cases h
  · cases h

/-! ### isinstance -/
def tyName : Ty → Str
  | .int => "int" | .bool => "bool" | .tuple => "tuple" | .list => "list" | .str => "str" | .dict => "dict" | _ => ""
theorem boot_ty : ∀ t : Ty, t.std = true → bootBuiltins (tyName t) = some (.type t.nm) ∧ tyName t ≠ "__name__" ∧ (tyName t == ("__debug__" : Str)) = false := by
  intro t h
  cases t <;> first | (cases h; done) | exact ⟨by decide +kernel, by decide +kernel, by decide +kernel⟩
theorem boot_isi : bootBuiltins ("isinstance" : Str) = some (.builtin "isinstance") ∧ ("isinstance" : Str) ≠ "__name__" ∧ (("isinstance" : Str) == ("__debug__" : Str)) = false := ⟨by decide +kernel, by decide +kernel, by decide +kernel⟩
theorem pe_ty {t : Ty} (ht : t.std = true) (hg : Gl X (tyName t)) (hm : X.mg (tyName t) = none) : PE X (.Name (tyName t) p) (tC (.ty t.nm)) := by
  obtain ⟨h1, h2, h3⟩ := boot_ty t ht
  exact pe_bltn hg hm h1 rfl h2 h3
theorem isi_red {tys : List Ty} {σ : St} {H : Hp} {Q : VK} (h : tE k C orc (.isi ea tys) σ H Q) : tE k C orc ea σ H fun v H1 => ∃ P d, Pm P H1 ∧ RepX k P H1 v d ∧ d.tyOk = true ∧ ∀ H2, Same H1 H2 → Q (.bl (tys.any d.hasTy)) H2 := by
  obtain ⟨F, G, fp, G', d, bb, E1, h, q⟩ := h
  rw [ev] at h
  obtain ⟨G1, y, h1, h⟩ := R.bind_inv h
  obtain ⟨hc, h⟩ := ite_ok h
  cases h
  exact ⟨F, G, fp, _, y.1, y.2, E1, h1, fun H1 fp1 v E1 T1 S1 R1 => ⟨_, y.1, E1.pmB y.2, R1, hc, fun H2 s => q H2 fp1 _ (E1.same s) (T1.trans (same_tr s)) (fun m => by simp only [Py.E.mf] at m; exact same_trans (S1 m) s) (RepX.bl _)⟩⟩
theorem se_isi1 (B : XB k X) {t : Ty} {p2 : Pos} (ht : t.std = true) (hgt : Gl X (tyName t)) (hmt : X.mg (tyName t) = none) (hg : Gl X "isinstance") (hm : X.mg "isinstance" = none) (hs : noStar e = true) (he : PE X e (tE k C orc ea)) :
    PE X (.Call (.Name "isinstance" p) [e, .Name (tyName t) p2] [] pos) (tE k C orc (.isi ea [t])) := by
  refine pe_imp (pe_callB (isi_one B.K) hg hm boot_isi.1 (pa_cons he (pa_cons (pe_ty ht hgt hmt) pa_nil rfl) (star_cons hs _ _)) boot_isi.2.1 boot_isi.2.2 (star_cons hs _ _) rfl) fun σ H Q h => ?_
  refine tE_mono (isi_red h) fun v H1 ⟨P, d, pm, r, ok, q⟩ => ⟨P, v, d, t, rfl, r, ok, ht, ?_⟩
  have := q H1 ssame
  simpa using this
theorem tys_pa : ∀ {ts : List Ty} {es : List Expr}, ts.all Ty.std = true → (∀ t ∈ ts, Gl X (tyName t) ∧ X.mg (tyName t) = none) → es.length = ts.length → (∀ (i : Nat) t, ts[i]? = some t → ∃ p, es[i]? = some (.Name (tyName t) p)) → PA X es (fun _ H Q => Q (ts.map fun t => .ty t.nm) H)
  | [], [], _, _, _, _ => pa_imp pa_nil fun _ _ _ h => h
  | [], _ :: _, _, _, h, _ => by simp at h
  | _ :: _, [], _, _, h, _ => by simp at h
  | t :: ts, e :: es, h1, h2, h3, h4 => by
    rw [List.all_cons, Bool.and_eq_true] at h1
    obtain ⟨p, hp⟩ := h4 0 t rfl
    simp only [List.getElem?_cons_zero, Option.some.injEq] at hp
    subst hp
    exact pa_imp (pa_cons (pe_ty h1.1 (h2 t List.mem_cons_self).1 (h2 t List.mem_cons_self).2) (tys_pa h1.2 (fun t z => h2 t (List.mem_cons_of_mem _ z)) (by simpa using h3) fun i t hi => by simpa using h4 (i + 1) t (by simpa using hi)) rfl) fun _ _ _ h => h
theorem se_isiT (B : XB k X) {ts : List Ty} {es : List Expr} {j2 : Nat} {p2 : Pos} (h1 : ts.all Ty.std = true) (h2 : ∀ t ∈ ts, Gl X (tyName t) ∧ X.mg (tyName t) = none) (h3 : es.length = ts.length) (h4 : ∀ (i : Nat) t, ts[i]? = some t → ∃ p, es[i]? = some (.Name (tyName t) p)) (h5 : ts.length ≤ 1000)
    (hg : Gl X "isinstance") (hm : X.mg "isinstance" = none) (hs : noStar e = true) (he : PE X e (tE k C orc ea)) : PE X (.Call (.Name "isinstance" p) [e, .Tuple es j2 p2] [] pos) (tE k C orc (.isi ea ts)) := by
  refine pe_imp (pe_callB (isi_tup B.K) hg hm boot_isi.1 (pa_cons he (pa_cons (pe_tup (tys_pa h1 h2 h3 h4)) pa_nil rfl) (star_cons hs _ _)) boot_isi.2.1 boot_isi.2.2 (star_cons hs _ _) rfl) fun σ H Q h => ?_
  refine tE_mono (isi_red h) fun v H1 ⟨P, d, pm, r, ok, q⟩ => ⟨by rw [List.length_map, sizeLine_eq]; omega, fun tp hp => ?_⟩
  have s : Same H1 (upd H1 tp (.tup (ts.map fun t => V.ty t.nm))) := same_new hp
  exact ⟨P, v, d, ts, tp, rfl, upd_same, r.mono (same_ext s) pm fun a z => .inl z, ok, h1, q _ s⟩

/-! ### methods of built-in types -/
theorem idx_at {x : D} : ∀ {xs : List D} {n : Nat}, idxOf x xs = some n → (∃ z, xs[n]? = some z ∧ D.eqv z x = true) ∧ ∀ m z, m < n → xs[m]? = some z → D.eqv z x = false
  | [], n, h => by cases h
  | y :: ys, n, h => by
    unfold idxOf at h
    split at h
    · rename_i hy
      cases h
      exact ⟨⟨y, rfl, hy⟩, fun m z hm => absurd hm (Nat.not_lt_zero _)⟩
    · rename_i hy
      obtain ⟨n', h', rfl⟩ := Option.map_eq_some_iff.mp h
      obtain ⟨⟨z, h1, h2⟩, h3⟩ := idx_at h'
      refine ⟨⟨z, by simpa using h1, h2⟩, fun m z hm hz => ?_⟩
      cases m with
      | zero => simp at hz; subst hz; simpa using hy
      | succ m => exact h3 m z (by omega) (by simpa using hz)
end
end Py
end
section
set_option Elab.async false
set_option linter.all false
set_option maxRecDepth 100000
set_option maxHeartbeats 4000000
namespace Py
open PySem PySem.Spec PyProof.Rows L2 C8
section
variable {k : Ki} {C : Ctx} {orc : Orc} {X : Cx} {F : Addr → Prop} {P : Addr → Prop} {σ : St} {H H' : Hp} {G : Py.Env} {fp fp' : Fp}
variable {x : Str} {p pos apos : Pos} {e o : Expr} {es : List Expr} {ies : List E} {j jj : Nat} {ea eb eo : E}
theorem few_ok {env : PySem.Env} (hs : es.all noStar = true) (hl : es.length < 29) : ((backTo pos (starEach es env)).all (fun x => !x.1) && (backToKw pos (keywordEach [] env)).all (fun x => x.1.isSome)
      && decide (es.length + ([] : List Keyword).length + (if ([] : List Keyword).isEmpty then 0 else 1) < 30)) = true := by
  rw [star_all hs]
  show (true && true && decide (es.length + 0 + 0 < 30)) = true
  simp; omega
theorem pyL_get : ∀ (xs : List D) (j : Nat), (D.pyL xs)[j]? = (xs[j]?).map D.py
  | [], j => by simp [D.pyL]
  | x :: xs, 0 => by simp [D.pyL]
  | x :: xs, j + 1 => by simp only [D.pyL, List.getElem?_cons_succ]; exact pyL_get xs j
theorem eqOkL_get : ∀ {n : Nat} {xs : List D} {j : Nat} {z : D}, D.eqOkL n xs = true → xs[j]? = some z → D.eqOk n z = true
  | n, [], j, z, _, h => by simp at h
  | n, x :: xs, 0, z, e, h => by
    simp only [D.eqOkL, Bool.and_eq_true] at e
    simp at h; subst h; exact e.1
  | n, x :: xs, j + 1, z, e, h => by
    simp only [D.eqOkL, Bool.and_eq_true] at e
    exact eqOkL_get e.2 (by simpa using h)
theorem se_index (B : XB k X) (ho : attrOk o = true) (hs : noStar e = true) (hline : (apos.endLine == pos.line) = true) (hoo : PE X o (tE k C orc eo)) (he : PE X e (tE k C orc ea)) :
    PE X (.Call (.Attribute o "index" apos) [e] [] pos) (tE k C orc (.met .index eo [ea])) := by
  have hs' : [e].all noStar = true := by rw [List.all_cons, hs]; rfl
  refine pe_imp (pe_bm PySem.F.plainAttrs_list PySem.F.slot_list_index PySem.F.type_list_index (mt_indexD (by have := B.units; omega)) hoo (ses_cons hs he ses_nil) (attBase ho _ _ _) (few_ok hs' (by show 1 < 29; decide)) hline (star_cons hs _ _) rfl) fun σ H Q ⟨F, G, fp, G', d, bb, E1, h, q⟩ => ?_
  rw [ev] at h
  obtain ⟨G1, y, h1, h⟩ := R.bind_inv h
  obtain ⟨hb1, h⟩ := ite_bad h
  obtain ⟨G2, r, h2, h⟩ := R.bind_inv h
  obtain ⟨h3, rfl⟩ := R.ofO_inv h
  obtain ⟨d', h4, h5⟩ := Option.map_eq_some_iff.mp h3
  unfold meth at h4
  split at h4
  · rename_i xs z _ hy hr
    split at h4
    · rename_i hm
      obtain ⟨n, h6, rfl⟩ := Option.map_eq_some_iff.mp h4
      unfold memOk at hm
      rw [Bool.and_eq_true] at hm
      refine ⟨F, G, fp, G1, y.1, y.2, E1, h1, fun H1 fp1 v E1 T1 S1 R1 => ?_⟩
      rw [hy] at R1
      have R1c := R1
      cases (show RepX k _ H1 v (.lst xs) from R1) with
      | @lst a vs _ ht rl =>
        refine ⟨.inl ⟨rfl, vs, ht.sq⟩, F, G1, fp1, G2, r.1, r.2, E1, h2, fun H2 fp2 ws E2 T2 S2 R2 => ?_⟩
        rw [hr] at R2
        obtain ⟨w, rfl, rw'⟩ := repL1 R2
        have R1' := VRep.tr E1 T2 (show VRep k F fp1 H1 (.ref a) (.lst xs) y.2 from R1c) fun q => S2 (bor hb1 q)
        obtain ⟨⟨z', e1, e2⟩, e3⟩ := idx_at h6
        have ok0 : D.eqOk 64 (.lst xs) = true := hm.2
        refine ⟨a, w, z.py, D.pyL xs, n, z'.py, rfl, rfl, by rw [B.K]; exact eqOk_dp R1' ok0, by rw [B.K]; exact eqOk_dp rw' hm.1, shaped_of ok0, shaped_of hm.1, ?_, ?_, ?_, ?_⟩
        · rw [pyL_get, e1]; rfl
        · rw [eqv_py _ _ (eqOkL_get hm.2 e1) hm.1]; exact e2
        · intro m zz hmn hz
          rw [pyL_get] at hz
          obtain ⟨z0, e4, rfl⟩ := Option.map_eq_some_iff.mp hz
          rw [eqv_py _ _ (eqOkL_get hm.2 e4) hm.1]
          exact e3 m z0 hmn e4
        · have rr : VRep k F fp2 H2 (.int (n : Int)) (.int (n : Int)) (y.2 || r.2) := RepX.int _
          have rr := rr.fl
          rw [h5] at rr
          exact q H2 fp2 _ E2 (T1.trans T2) (fun m => by
            simp only [Py.E.mf, Bool.and_eq_true] at m
            exact same_trans (S1 m.1) (S2 m.2)) rr
    · cases h4
  · rename_i hme _ _; cases hme
  · rename_i hme _ _; cases hme
  · cases h4

/-! ### an owned object is written -/
theorem EnvOk.write (Ee : EnvOk k F σ H G fp) {i : Nat} {a : Addr} {o' : HO} {m' : M} (hg : i < G.length) (ha : a ∈ fp i) (hm : Mut (some o')) (hv : ∃ x, σ[i]? = some (some x) ∧ RepM k (Own F fp) (upd H a o') x m' (fp i)) : EnvOk k F σ (upd H a o') (G.set i (.ow m')) fp where
  len := by rw [List.length_set]; exact Ee.len
  slot := fun jx => by
    by_cases e : jx = i
    · subst e
      rw [List.getElem?_set_self hg]
      exact hv
    · rw [List.getElem?_set_ne (Ne.symm e)]
      have ext : Ext (Own F fp) H (upd H a o') := fun b u h n => by
        rw [upd_ne (fun z => n (.inr ⟨i, by rw [z]; exact ha⟩))]; exact h
      have hs := Ee.slot jx
      cases hgj : G[jx]? with
      | none => rw [hgj] at hs; exact hs
      | some sl =>
        rw [hgj] at hs
        cases sl with
        | dead => exact hs
        | sh d => obtain ⟨⟨x, e1, r⟩, z⟩ := hs; exact ⟨⟨x, e1, r.mono ext Ee.pm fun _ q => .inl q⟩, z⟩
        | ow m =>
          obtain ⟨x, e1, r⟩ := hs
          exact ⟨x, e1, r.mono ext Ee.pm (fun _ q => .inl q) fun b hb => upd_ne fun z => e (Ee.dj jx i b hb (by rw [z]; exact ha))⟩
  nd := Ee.nd
  dj := Ee.dj
  df := Ee.df
  pm := fun b q => by
    by_cases e : b = a
    · rw [e, upd_same]; exact hm
    · rw [upd_ne e]; exact Ee.pm b q
theorem tr_write {i : Nat} {a : Addr} {o' : HO} (ha : a ∈ fp i) : Tr fp H fp (upd H a o') := ⟨fun b u h n => by rw [upd_ne (fun z => n i (by rw [z]; exact ha))]; exact h, fun jx b h => .inl ⟨jx, h⟩, fun b h => by
  by_cases e : b = a
  · rw [e, upd_same] at h; cases h
  · rwa [upd_ne e] at h⟩
theorem RepMs.snoc : ∀ {vs : List V} {ms : List M} {as : List Addr} {v : V} {d : D}, RepMs k P H vs ms as → RepX k P H v d → RepMs k P H (vs ++ [v]) (ms ++ [.leaf d]) as
  | _, _, _, v, d, .nil, r => .cons (as := []) (.leaf r) .nil
  | _, _, _, v, d, .cons (bs := bs) h t, r => .cons h (t.snoc r)
theorem RepMs.last : ∀ {vs : List V} {ms : List M} {as : List Addr} {d : D}, RepMs k P H vs ms as → ms.getLast? = some (.leaf d) → ∃ y, vs[vs.length - 1]? = some y ∧ RepX k P H y d ∧ RepMs k P H vs.dropLast ms.dropLast as
  | _, _, _, d, .nil, h => by cases h
  | _, _, _, d, .cons h .nil, e => by
    simp only [List.getLast?_singleton, Option.some.injEq] at e
    subst e
    cases h with
    | leaf r => exact ⟨_, rfl, r, .nil⟩
  | _, _, _, d, .cons (as := as) h (.cons h2 t), e => by
    rw [List.getLast?_cons_cons] at e
    obtain ⟨y, e1, r, s⟩ := (RepMs.cons h2 t).last e
    refine ⟨y, ?_, r, ?_⟩
    · simp only [List.length_cons, Nat.add_sub_cancel] at e1 ⊢
      simpa using e1
    · rw [List.dropLast_cons₂, List.dropLast_cons₂]
      exact .cons h s
theorem read_lst {i : Nat} (h : isLst (readM G i []) = true) : ∃ ms, G[i]? = some (.ow (.lst ms)) := by
  unfold readM at h
  cases hg : G[i]? with
  | none => rw [hg] at h; cases h
  | some s =>
    rw [hg] at h
    cases s with
    | dead => cases h
    | sh d => cases h
    | ow m =>
      cases m with
      | lst ms => exact ⟨ms, rfl⟩
      | _ => cases h
theorem updPl_inv {β : Type} {G G' : Py.Env} {i : Nat} {f : M → Option (M × β)} {b : β} (h : updPl G i [] f = .ok G' b) : ∃ m m', G[i]? = some (.ow m) ∧ f m = some (m', b) ∧ G' = G.set i (.ow m') := by
  unfold updPl at h
  split at h
  · rename_i m hg
    split at h
    · rename_i r hr
      cases h
      exact ⟨m, r.1, hg, hr, rfl⟩
    · cases h
  · cases h
theorem szLine_le {n : Nat} (h : decide (n < szLine) = true) : n < sizeLine := by rw [← szLine_eq]; exact of_decide_eq_true h
theorem se_append (B : XB k X) {i : Nat} (ho : attrOk o = true) (hs : noStar e = true) (hline : (apos.endLine == pos.line) = true) (hoo : PE X o (tP k i [])) (he : PE X e (tE k C orc ea)) :
    PE X (.Call (.Attribute o "append" apos) [e] [] pos) (tE k C orc (.mut .append i [] [ea])) := by
  have hs' : [e].all noStar = true := by rw [List.all_cons, hs]; rfl
  refine pe_imp (pe_bm PySem.F.plainAttrs_list PySem.F.slot_list_append PySem.F.type_list_append mt_append hoo (ses_cons hs he ses_nil) (attBase ho _ _ _) (few_ok hs' (by show 1 < 29; decide)) hline (star_cons hs _ _) rfl) fun σ H Q ⟨F, G, fp, G', d, bb, Ee, h, q⟩ => ?_
  rw [ev] at h
  obtain ⟨hc, h⟩ := ite_ok h
  rw [Bool.and_eq_true] at hc
  obtain ⟨ms0, hg0⟩ := read_lst hc.1
  obtain ⟨v, e0, r0⟩ := Ee.ow hg0
  obtain ⟨G1, r, h1, h⟩ := R.bind_inv h
  obtain ⟨hb1, h⟩ := ite_bad h
  obtain ⟨G2, y, h2, h⟩ := R.bind_inv h
  cases h
  obtain ⟨m, m', hg, hf, rfl⟩ := updPl_inv h2
  refine ⟨v, v, e0, .nil, ?_, F, G, fp, G1, r.1, r.2, Ee, h1, fun H1 fp1 vs E1 T1 S1 R1 => ?_⟩
  · generalize fp i = as0 at r0
    cases r0 with
    | lst ha _ => exact .inl ⟨rfl, _, .inl (.inl ha)⟩
  unfold mutM at hf
  split at hf
  · rename_i d1 xs hr
    split at hf
    · rename_i hz
      cases hf
      rw [hb1] at R1
      rw [hr] at R1
      obtain ⟨w, rfl, rw'⟩ := repL1 R1
      obtain ⟨v1, e1, r1⟩ := E1.ow hg
      rw [e0] at e1
      cases e1
      have nd := E1.nd i
      generalize hfp : fp1 i = as at r1 nd
      cases r1 with
      | @lst a vs _ as' ha rs =>
        have hai : a ∈ fp1 i := by rw [hfp]; exact List.mem_cons_self
        have ext : Ext (Own F fp1) H1 (upd H1 a (.lst (vs ++ [w]))) := fun b u h n => by
          rw [upd_ne (fun z => n (.inr ⟨i, by rw [z]; exact hai⟩))]; exact h
        refine ⟨a, vs, w, rfl, rfl, ha, ?_, ?_⟩
        · rw [rs.length]; exact szLine_le hz
        · refine q _ fp1 .non (E1.write (List.getElem?_eq_some_iff.mp hg).1 hai trivial ⟨.ref a, e0, ?_⟩) (T1.trans (tr_write hai)) (fun m => by simp [Py.E.mf] at m) .non
          rw [hfp]
          exact .lst upd_same ((rs.mono ext E1.pm (fun _ q => .inl q) fun b hb => upd_ne fun z => (List.nodup_cons.mp nd).1 (by rw [← z]; exact hb)).snoc (rw'.mono ext E1.pm fun _ q => .inl q))
    · cases hf
  · rename_i hme _; cases hme
  · rename_i hme _; cases hme
  · cases hf
theorem se_pop (B : XB k X) {i : Nat} (ho : attrOk o = true) (hline : (apos.endLine == pos.line) = true) (hoo : PE X o (tP k i [])) : PE X (.Call (.Attribute o "pop" apos) [] [] pos) (tE k C orc (.mut .pop i [] [])) := by
  refine pe_imp (pe_bm0 PySem.F.plainAttrs_list PySem.F.slot_list_pop PySem.F.type_list_pop mt_pop hoo (attBase ho _ _ _) hline) fun σ H Q ⟨F, G, fp, G', d, bb, Ee, h, q⟩ => ?_
  rw [ev] at h
  obtain ⟨hc, h⟩ := ite_ok h
  obtain ⟨G1, r, h1, h⟩ := R.bind_inv h
  rw [evs] at h1
  cases h1
  obtain ⟨hb1, h⟩ := ite_bad h
  obtain ⟨G2, y, h2, h⟩ := R.bind_inv h
  cases h
  obtain ⟨m, m', hg, hf, rfl⟩ := updPl_inv h2
  obtain ⟨v, e0, r0⟩ := Ee.ow hg
  unfold mutM at hf
  split at hf
  · rename_i hr _; cases hr
  · rename_i xs _
    split at hf
    · rename_i dv hl
      cases hf
      have nd := Ee.nd i
      generalize hfp : fp i = as at r0 nd
      cases r0 with
      | @lst a vs _ as' ha rs =>
        have hai : a ∈ fp i := by rw [hfp]; exact List.mem_cons_self
        obtain ⟨w, e1, rw', rs'⟩ := rs.last hl
        have ext : Ext (Own F fp) H (upd H a (.lst vs.dropLast)) := fun b u h n => by
          rw [upd_ne (fun z => n (.inr ⟨i, by rw [z]; exact hai⟩))]; exact h
        refine ⟨.ref a, .ref a, e0, .nil, .inl ⟨rfl, vs, .inl (.inl ha)⟩, a, vs, w, rfl, rfl, ha, e1, ?_⟩
        refine q _ fp w (Ee.write (List.getElem?_eq_some_iff.mp hg).1 hai trivial ⟨.ref a, e0, ?_⟩) (tr_write hai) (fun m => by simp [Py.E.mf] at m) (rw'.mono ext Ee.pm fun _ q => .inl q)
        rw [hfp]
        exact .lst upd_same (rs'.mono ext Ee.pm (fun _ q => .inl q) fun b hb => upd_ne fun z => (List.nodup_cons.mp nd).1 (by rw [← z]; exact hb))
    · cases hf
  · rename_i hme _; cases hme
  · cases hf
end
end Py
end
section
set_option Elab.async false
set_option linter.all false
set_option maxRecDepth 100000
set_option maxHeartbeats 4000000
namespace Py
open PySem PySem.Spec PyProof.Rows L2 C8
abbrev AR := D ⊕ (Nat × List Nat)
/-- the argument behind a place -/
def ioIx : List AR → Nat → Option Nat
  | [], _ => none
  | .inl _ :: rs, i => (ioIx rs i).map (· + 1)
  | .inr p :: rs, i => if p.1 = i then some 0 else (ioIx rs i).map (· + 1)
inductive ARs (k : Ki) (P : Addr → Prop) (H : Hp) (σ : St) : List V → List AR → Prop
  | nil : ARs k P H σ [] []
  | e {v : V} {d : D} {vs : List V} {rs : List AR} : RepX k P H v d → ARs k P H σ vs rs → ARs k P H σ (v :: vs) (.inl d :: rs)
  | io {v : V} {i : Nat} {vs : List V} {rs : List AR} : σ[i]? = some (some v) → ARs k P H σ vs rs → ARs k P H σ (v :: vs) (.inr (i, []) :: rs)
/-- the slots that are handed over -/
inductive OutR (G : Py.Env) : List AR → List Slot → Prop
  | nil : OutR G [] []
  | e {d : D} {rs : List AR} {ss : List Slot} : OutR G rs ss → OutR G (.inl d :: rs) (.sh d :: ss)
  | io {i : Nat} {m : M} {rs : List AR} {ss : List Slot} : G[i]? = some (.ow m) → ioIx rs i = none → OutR G rs ss → OutR G (.inr (i, []) :: rs) (.ow m :: ss)
theorem any_ix {i : Nat} : ∀ {rs : List AR}, (rs.any fun a => match a with | .inr q => q.1 == i | _ => false) = false → ioIx rs i = none
  | [], _ => rfl
  | .inl d :: rs, h => by
    simp only [List.any_cons, Bool.or_eq_false_iff] at h
    show (ioIx rs i).map _ = none
    rw [any_ix h.2]; rfl
  | .inr p :: rs, h => by
    simp only [List.any_cons, Bool.or_eq_false_iff] at h
    show (if p.1 = i then some 0 else (ioIx rs i).map (· + 1)) = none
    rw [if_neg (by simpa using h.1), any_ix h.2]; rfl
theorem outR_of {G : Py.Env} : ∀ {rs : List AR} {ss : List Slot}, outsA rs G = some ss → OutR G rs ss
  | [], ss, h => by simp [outsA] at h; subst h; exact .nil
  | .inl d :: rs, ss, h => by
    simp only [outsA, Option.map_eq_some_iff] at h
    obtain ⟨s, h1, rfl⟩ := h
    exact .e (outR_of h1)
  | .inr (i, fs) :: rs, ss, h => by
    simp only [outsA] at h
    split at h
    · cases h
    · rename_i hn
      split at h
      · rename_i m hg
        split at h
        · obtain ⟨s, h1, rfl⟩ := Option.map_eq_some_iff.mp h
          exact .io hg (any_ix (Bool.eq_false_iff.mpr hn)) (outR_of h1)
        · cases h
      · cases h
theorem back_spec : ∀ {rs : List AR} {os ss : List Slot} {G0 G G2 : Py.Env}, OutR G0 rs ss → backA rs os G = some G2 → (∀ i, ioIx rs i ≠ none → i < G.length) →
    G2.length = G.length ∧ ∀ i, (∀ j, ioIx rs i = some j → ∃ m, os[j]? = some (.ow m) ∧ G2[i]? = some (.ow m)) ∧ (ioIx rs i = none → G2[i]? = G[i]?)
  | [], os, ss, G0, G, G2, _, h, _ => by
    simp [backA] at h; subst h
    exact ⟨rfl, fun i => ⟨fun j hj => (by cases hj), fun _ => rfl⟩⟩
  | .inl d :: rs, os, ss, G0, G, G2, o, h, hl => by
   cases o with
   | e o =>
    cases os with
    | nil => simp [backA] at h
    | cons s os =>
      have h : backA rs os G = some G2 := h
      obtain ⟨h1, h2⟩ := back_spec o h fun i hi => hl i (by show (ioIx rs i).map _ ≠ none; cases e : ioIx rs i with
        | none => exact absurd e hi
        | some j => simp)
      refine ⟨h1, fun i => ⟨fun j hj => ?_, fun hn => ?_⟩⟩
      · obtain ⟨j', e, rfl⟩ := Option.map_eq_some_iff.mp (show (ioIx rs i).map (· + 1) = some j from hj)
        obtain ⟨m, e1, e2⟩ := (h2 i).1 j' e
        exact ⟨m, by simpa using e1, e2⟩
      · exact (h2 i).2 (by have : (ioIx rs i).map (· + 1) = none := hn; simpa using this)
  | .inr p :: rs, os, ss, G0, G, G2, o, h, hl => by
    cases o with
    | @io i0 m0 _ ss' hg hn o =>
      cases os with
      | nil => simp [backA] at h
      | cons s os =>
        cases s with
        | ow m =>
          have h : backA rs os (G.set i0 (.ow m)) = some G2 := h
          have l0 : i0 < G.length := hl i0 (by show (if i0 = i0 then some 0 else _) ≠ none; rw [if_pos rfl]; simp)
          obtain ⟨h1, h2⟩ := back_spec o h fun i hi => by
            rw [List.length_set]
            refine hl i ?_
            show (if i0 = i then some 0 else (ioIx rs i).map (· + 1)) ≠ none
            split
            · simp
            · cases e : ioIx rs i with
              | none => exact absurd e hi
              | some j => simp
          refine ⟨by rw [h1, List.length_set], fun i => ⟨fun j hj => ?_, fun hn2 => ?_⟩⟩
          · have hj : (if i0 = i then some 0 else (ioIx rs i).map (· + 1)) = some j := hj
            split at hj
            · rename_i e
              cases hj
              subst e
              refine ⟨m, rfl, ?_⟩
              rw [(h2 i0).2 hn, List.getElem?_set_self l0]
            · obtain ⟨j', e, rfl⟩ := Option.map_eq_some_iff.mp hj
              obtain ⟨m', e1, e2⟩ := (h2 i).1 j' e
              exact ⟨m', by simpa using e1, e2⟩
          · have hn2 : (if i0 = i then some 0 else (ioIx rs i).map (· + 1)) = none := hn2
            split at hn2
            · cases hn2
            · rename_i e
              rw [(h2 i).2 (by simpa using hn2), List.getElem?_set_ne e]
        | _ => simp [backA] at h
section
variable {k : Ki} {C : Ctx} {orc : Orc} {X : Cx} {F : Addr → Prop} {P : Addr → Prop} {σ : St} {H H' : Hp} {G : Py.Env} {fp fp' : Fp}
theorem ARs.length : ∀ {vs : List V} {rs : List AR}, ARs k P H σ vs rs → vs.length = rs.length
  | _, _, .nil => rfl
  | _, _, .e _ r => congrArg Nat.succ r.length
  | _, _, .io _ r => congrArg Nat.succ r.length
theorem ARs.tr (E1 : EnvOk k F σ H G fp) (t : Tr fp H fp' H') : ∀ {vs : List V} {rs : List AR}, ARs k (Own F fp) H σ vs rs → ARs k (Own F fp') H' σ vs rs
  | _, _, .nil => .nil
  | _, _, .e h r => .e (t.rep E1.pm h) (r.tr E1 t)
  | _, _, .io h r => .io h (r.tr E1 t)
/-- an argument at its place -/
def ARAt (k : Ki) (P : Addr → Prop) (H : Hp) (σ : St) (v : V) : AR → Prop
  | .inl d => RepX k P H v d
  | .inr p => p.2 = [] ∧ σ[p.1]? = some (some v)
theorem ARs.get : ∀ {vs : List V} {rs : List AR} {j : Nat} {r : AR}, ARs k P H σ vs rs → rs[j]? = some r → ∃ v, vs[j]? = some v ∧ ARAt k P H σ v r
  | _, _, _, _, .nil, h => by simp at h
  | _, _, 0, _, .e h t, q => by simp at q; subst q; exact ⟨_, rfl, h⟩
  | _, _, 0, _, .io h t, q => by simp at q; subst q; exact ⟨_, rfl, rfl, h⟩
  | _, _, j + 1, r, .e h t, q => by
    obtain ⟨v, h1, h2⟩ := t.get (j := j) (r := r) (by simpa using q)
    exact ⟨v, by simpa using h1, h2⟩
  | _, _, j + 1, r, .io h t, q => by
    obtain ⟨v, h1, h2⟩ := t.get (j := j) (r := r) (by simpa using q)
    exact ⟨v, by simpa using h1, h2⟩
theorem ARs.pick {vs : List V} {rs : List AR} (h : ARs k P H σ vs rs) : ∀ pm : List Nat, (∀ i ∈ pm, i < rs.length) → ARs k P H σ (pm.map fun i => vs.getD i .non) (pm.map fun i => rs.getD i (.inl .non))
  | [], _ => .nil
  | i :: pm, hp => by
    have hl := hp i List.mem_cons_self
    have hi : rs[i]? = some rs[i] := List.getElem?_eq_getElem hl
    obtain ⟨v, e1, r1⟩ := h.get hi
    have t := h.pick pm fun j q => hp j (List.mem_cons_of_mem _ q)
    show ARs k P H σ (vs.getD i .non :: _) (rs.getD i (.inl .non) :: _)
    rw [List.getD_eq_getElem?_getD, List.getD_eq_getElem?_getD, e1, hi]
    show ARs k P H σ (v :: _) (rs[i] :: _)
    generalize rs[i] = r at r1
    cases r with
    | inl d => exact .e r1 t
    | inr p =>
      obtain ⟨pi, pf⟩ := p
      obtain ⟨e2, e3⟩ := r1
      simp only at e2
      subst e2
      exact .io e3 t
theorem ioIx_get : ∀ {rs : List AR} {ss : List Slot} {i j : Nat}, OutR G rs ss → (ioIx rs i = some j ↔ rs[j]? = some (.inr (i, [])))
  | _, _, i, j, .nil => by simp [ioIx]
  | _, _, i, 0, .e o => by simp [ioIx]
  | _, _, i, j + 1, .e (rs := rs) o => by
    show (ioIx rs i).map (· + 1) = some (j + 1) ↔ _
    rw [List.getElem?_cons_succ, ← ioIx_get o (i := i) (j := j)]
    constructor
    · intro h; obtain ⟨j', e, h⟩ := Option.map_eq_some_iff.mp h; cases h; exact e
    · intro h; rw [h]; rfl
  | _, _, i, 0, .io (i := i0) (rs := rs) hg hn o => by
    show (if i0 = i then some 0 else (ioIx rs i).map (· + 1)) = some 0 ↔ _
    by_cases e : i0 = i
    · rw [if_pos e, e]; simp
    · rw [if_neg e]
      constructor
      · intro h; obtain ⟨j', _, h⟩ := Option.map_eq_some_iff.mp h; cases h
      · intro h; simp at h; exact absurd h e
  | _, _, i, j + 1, .io (i := i0) (rs := rs) hg hn o => by
    show (if i0 = i then some 0 else (ioIx rs i).map (· + 1)) = some (j + 1) ↔ _
    rw [List.getElem?_cons_succ, ← ioIx_get o (i := i) (j := j)]
    by_cases e : i0 = i
    · rw [if_pos e, ← e, hn]
      constructor
      · intro h; cases h
      · intro h; cases h
    · rw [if_neg e]
      constructor
      · intro h; obtain ⟨j', e, h⟩ := Option.map_eq_some_iff.mp h; cases h; exact e
      · intro h; rw [h]; rfl
theorem OutR.length : ∀ {rs : List AR} {ss : List Slot}, OutR G rs ss → ss.length = rs.length
  | _, _, .nil => rfl
  | _, _, .e o => congrArg Nat.succ o.length
  | _, _, .io _ _ o => congrArg Nat.succ o.length
def SlOf (G : Py.Env) (r : AR) (s : Slot) : Prop := match r with
  | .inl d => s = .sh d
  | .inr p => p.2 = [] ∧ ∃ m, s = .ow m ∧ G[p.1]? = some (.ow m)
theorem OutR.get : ∀ {rs : List AR} {ss : List Slot} {j : Nat} {r : AR}, OutR G rs ss → rs[j]? = some r → ∃ s, ss[j]? = some s ∧ SlOf G r s
  | _, _, _, _, .nil, h => by simp at h
  | _, _, 0, _, .e t, q => by simp at q; subst q; exact ⟨_, rfl, rfl⟩
  | _, _, 0, _, .io h _ t, q => by simp at q; subst q; exact ⟨_, rfl, rfl, _, rfl, h⟩
  | _, _, j + 1, r, .e t, q => by
    obtain ⟨v, h1, h2⟩ := t.get (j := j) (r := r) (by simpa using q)
    exact ⟨v, by simpa using h1, h2⟩
  | _, _, j + 1, r, .io h _ t, q => by
    obtain ⟨v, h1, h2⟩ := t.get (j := j) (r := r) (by simpa using q)
    exact ⟨v, by simpa using h1, h2⟩
/-- what the callee owns -/
def fpIn (fp : Fp) (rs : List AR) : Fp := fun j => match rs[j]? with
  | some (.inr p) => fp p.1
  | _ => []
theorem mem_fpIn {rs : List AR} {j : Nat} {a : Addr} (h : a ∈ fpIn fp rs j) : ∃ p, rs[j]? = some (.inr p) ∧ a ∈ fp p.1 := by
  unfold fpIn at h
  split at h
  · rename_i p e; exact ⟨p, e, h⟩
  · cases h
def fpBack (fp fpc : Fp) (rs : List AR) : Fp := fun i => match ioIx rs i with
  | some j => fpc j
  | none => fp i
theorem io_call (E1 : EnvOk k F σ H G fp) {vs : List V} {rs : List AR} {ss os : List Slot} {d : D} {G2 : Py.Env} {f np : Nat} {Q : VK} {E : XK} (ha : ARs k (Own F fp) H σ vs rs) (hl : vs.length = np) (hs : OutR G rs ss) (ho : orc f ss = .ok os d) (hb : backA rs os G = some G2)
    (q : ∀ H' fp' v, EnvOk k F σ H' G2 fp' → Tr fp H fp' H' → RepX k (Own F fp') H' v d → Q v H') : spF k C orc f np vs H Q E := by
  -- the places are apart
  have inrNil : ∀ {j : Nat} {p : Nat × List Nat}, rs[j]? = some (.inr p) → p = (p.1, []) := fun {j p} e => by
    obtain ⟨s, _, h2, _⟩ := hs.get e
    rw [← h2]
  have apart : ∀ {j j' : Nat} {p p' : Nat × List Nat}, rs[j]? = some (.inr p) → rs[j']? = some (.inr p') → p.1 = p'.1 → j = j' := fun {j j' p p'} e e' h => by
    rw [inrNil e] at e
    rw [inrNil e', ← h] at e'
    have h1 := (ioIx_get hs).mpr e
    have h2 := (ioIx_get hs).mpr e'
    rw [h1] at h2
    exact Option.some.inj h2
  let Fc : Addr → Prop := fun a => Own F fp a ∧ ∀ j, a ∉ fpIn fp rs j
  have sub1 : ∀ a, Own Fc (fpIn fp rs) a → Own F fp a := fun a z => by
    rcases z with z | ⟨j, z⟩
    · exact z.1
    · obtain ⟨p, _, h⟩ := mem_fpIn z
      exact .inr ⟨p.1, h⟩
  refine ⟨hl, Fc, ss, os, d, fpIn fp rs, ho, ?_, fun H' fpc v E' T' R' _ => ?_⟩
  · refine ⟨by rw [List.length_map, hs.length, ha.length], fun j => ?_, fun j => ?_, fun j j' a h1 h2 => ?_, fun j a h1 h2 => h2.2 j h1, E1.pm.sub sub1⟩
    · cases e : rs[j]? with
      | none =>
        have : ss[j]? = none := List.getElem?_eq_none (by rw [hs.length]; exact List.getElem?_eq_none_iff.mp e)
        rw [this]
        show fpIn fp rs j = []
        unfold fpIn; rw [e]
      | some r =>
        obtain ⟨v, e1, r1⟩ := ha.get e
        obtain ⟨s, e2, r2⟩ := hs.get e
        rw [List.getElem?_map, e1, e2]
        cases r with
        | inl d =>
          have r2 : s = .sh d := r2
          subst r2
          exact ⟨⟨v, rfl, (show RepX k (Own F fp) H v d from r1).sub sub1 E1.pm⟩, by unfold fpIn; rw [e]⟩
        | inr p =>
          obtain ⟨_, m, rfl, hg⟩ := r2
          obtain ⟨_, e3⟩ := r1
          obtain ⟨v', e4, rm⟩ := E1.ow hg
          rw [e3] at e4
          cases e4
          refine ⟨v, rfl, ?_⟩
          show RepM k _ H v m (fpIn fp rs j)
          rw [show fpIn fp rs j = fp p.1 from by unfold fpIn; rw [e]]
          exact rm.mono Ext.refl E1.pm (fun a z => .inl (sub1 a z)) fun _ _ => rfl
    · unfold fpIn
      split
      · exact E1.nd _
      · exact List.nodup_nil
    · obtain ⟨p, e, h1⟩ := mem_fpIn h1
      obtain ⟨p', e', h2⟩ := mem_fpIn h2
      exact apart e e' (E1.dj _ _ a h1 h2)
  · have lG : ∀ i, ioIx rs i ≠ none → i < G.length := fun i hi => by
      cases e : ioIx rs i with
      | none => exact absurd e hi
      | some j =>
        obtain ⟨s, _, _, m, _, hg⟩ := hs.get ((ioIx_get hs).mp e)
        exact (List.getElem?_eq_some_iff.mp hg).1
    obtain ⟨b1, b2⟩ := back_spec hs hb lG
    -- what is not handed over is the callee's frame
    have inF : ∀ i a, ioIx rs i = none → a ∈ fp i → Fc a := fun i a hi h => ⟨.inr ⟨i, h⟩, fun j z => by
      obtain ⟨p, e, h2⟩ := mem_fpIn z
      have : i = p.1 := E1.dj _ _ a h h2
      rw [inrNil e, ← this] at e
      rw [(ioIx_get hs).mpr e] at hi
      cases hi⟩
    have FF : ∀ a, F a → Fc a := fun a h => ⟨.inl h, fun j z => by
      obtain ⟨p, e, h2⟩ := mem_fpIn z
      exact E1.df _ a h2 h⟩
    have sub2 : ∀ a, Own F (fpBack fp fpc rs) a → Own Fc fpc a := fun a z => by
      rcases z with z | ⟨i, z⟩
      · exact .inl (FF a z)
      · unfold fpBack at z
        split at z
        · rename_i j e; exact .inr ⟨j, z⟩
        · rename_i e; exact .inl (inF i a e z)
    have new2 : ∀ i a, a ∈ fpBack fp fpc rs i → (∃ j, a ∈ fp j) ∨ H a = none := fun i a z => by
      unfold fpBack at z
      split at z
      · rename_i j e
        rcases T'.new j a z with ⟨j', z⟩ | z
        · obtain ⟨p, _, h⟩ := mem_fpIn z
          exact .inl ⟨p.1, h⟩
        · exact .inr z
      · exact .inl ⟨i, z⟩
    have T2 : Tr fp H (fpBack fp fpc rs) H' := ⟨fun a o h n => T'.keep a o h fun j z => by
      obtain ⟨p, _, h⟩ := mem_fpIn z
      exact n p.1 h, new2, fun a h => T'.stay a h⟩
    refine q H' (fpBack fp fpc rs) v ⟨by rw [b1]; exact E1.len, fun i => ?_, fun i => ?_, fun i i' a h1 h2 => ?_, fun i a h1 h2 => ?_, E'.pm.sub sub2⟩ T2 (R'.sub sub2 E'.pm)
    · cases e : ioIx rs i with
      | some j =>
        obtain ⟨m, e1, e2⟩ := (b2 i).1 j e
        obtain ⟨v', e3, rm⟩ := E'.ow e1
        obtain ⟨v2, e4, _, e5⟩ := ha.get ((ioIx_get hs).mp e)
        rw [List.getElem?_map, e4] at e3
        have e6 : v2 = v' := by simpa using e3
        rw [← e6] at rm
        rw [e2, e5]
        refine ⟨v2, rfl, ?_⟩
        show RepM k _ H' v2 m (fpBack fp fpc rs i)
        rw [show fpBack fp fpc rs i = fpc j from by unfold fpBack; rw [e]]
        exact rm.mono Ext.refl E'.pm (fun a z => .inl (sub2 a z)) fun _ _ => rfl
      | none =>
        rw [(b2 i).2 e]
        have hfp : fpBack fp fpc rs i = fp i := by unfold fpBack; rw [e]
        have hs1 := E1.slot i
        rw [hfp]
        cases hg : G[i]? with
        | none => rw [hg] at hs1; exact hs1
        | some sl =>
          rw [hg] at hs1
          cases sl with
          | dead => exact hs1
          | sh d => obtain ⟨⟨x, e1, r⟩, z⟩ := hs1; exact ⟨⟨x, e1, T2.rep E1.pm r⟩, z⟩
          | ow m =>
            obtain ⟨x, e1, r⟩ := hs1
            refine ⟨x, e1, r.mono T2.ext E1.pm T2.sub fun a h => ?_⟩
            obtain ⟨o, ho⟩ := r.there a h
            rw [ho]
            exact T'.keep a o ho (inF i a e h).2
    · unfold fpBack
      split
      · exact E'.nd _
      · exact E1.nd _
    · unfold fpBack at h1 h2
      split at h1
      · rename_i j e
        split at h2
        · rename_i j' e'
          have := E'.dj _ _ a h1 h2
          subst this
          have h3 := (ioIx_get hs).mp e
          rw [(ioIx_get hs).mp e'] at h3
          cases h3; rfl
        · rename_i e'
          exact absurd (inF i' a e' h2) (E'.df _ a h1)
      · rename_i e
        split at h2
        · rename_i j' e'
          exact absurd (inF i a e h1) (E'.df _ a h2)
        · exact E1.dj _ _ a h1 h2
    · unfold fpBack at h1
      split at h1
      · exact E'.df _ a h1 (FF a h2)
      · exact E1.df _ a h1 h2
def tA (k : Ki) (C : Ctx) (orc : Orc) (as : List Arg) : TA := fun σ H Q => ∃ F G fp G' rs, EnvOk k F σ H G fp ∧ evA C orc as G = .ok G' rs ∧ ∀ H' fp' vs, EnvOk k F σ H' G' fp' → Tr fp H fp' H' → ARs k (Own F fp') H' σ vs rs → Q vs H'
theorem sa_nil : PA X [] (tA k C orc []) := pa_imp pa_nil fun σ H Q ⟨F, G, fp, G', rs, Ee, h, q⟩ => by
  rw [evA] at h
  cases h
  exact q H fp [] Ee (.refl _ _) .nil
theorem sa_e {e : Expr} {es : List Expr} {ie : E} {as : List Arg} (hs : noStar e = true) (he : PE X e (tE k C orc ie)) (hes : PA X es (tA k C orc as)) : PA X (e :: es) (tA k C orc (.e ie :: as)) := by
  refine pa_imp (pa_cons he hes (star_cons hs es _)) fun σ H Q ⟨F, G, fp, G', rs, Ee, h, q⟩ => ?_
  rw [evA] at h
  obtain ⟨G1, x, h1, h⟩ := R.bind_inv h
  obtain ⟨hb1, h⟩ := ite_bad h
  obtain ⟨G2, r, h2, h⟩ := R.bind_inv h
  cases h
  refine ⟨F, G, fp, G1, x.1, x.2, Ee, h1, fun H1 fp1 v1 E1 T1 S1 R1 => ⟨F, G1, fp1, _, r, E1, h2, fun H2 fp2 vs E2 T2 R2 => ?_⟩⟩
  rw [hb1] at R1
  exact q H2 fp2 _ E2 (T1.trans T2) (.e (T2.rep E1.pm R1) R2)
theorem sa_io {e : Expr} {es : List Expr} {i : Nat} {as : List Arg} (hs : noStar e = true) (he : PE X e (tP k i [])) (hes : PA X es (tA k C orc as)) : PA X (e :: es) (tA k C orc (.io i [] :: as)) := by
  refine pa_imp (pa_cons he hes (star_cons hs es _)) fun σ H Q ⟨F, G, fp, G', rs, Ee, h, q⟩ => ?_
  rw [evA] at h
  obtain ⟨hc, h⟩ := ite_ok h
  obtain ⟨G2, r, h2, h⟩ := R.bind_inv h
  cases h
  rw [Bool.and_eq_true] at hc
  have : ∃ m, G[i]? = some (.ow m) := by
    have h0 := hc.1
    rw [List.getD_eq_getElem?_getD] at h0
    cases hg : G[i]? with
    | none => rw [hg] at h0; cases h0
    | some s =>
      rw [hg] at h0
      cases s with
      | ow m => exact ⟨m, rfl⟩
      | _ => cases h0
  obtain ⟨m, hg⟩ := this
  obtain ⟨v, e0, _⟩ := Ee.ow hg
  exact ⟨v, v, e0, .nil, F, G, fp, _, r, Ee, h2, fun H2 fp2 vs E2 T2 R2 => q H2 fp2 _ E2 T2 (.io e0 R2)⟩
theorem evA_len : ∀ {as : List Arg} {G G' : Py.Env} {rs : List AR}, evA C orc as G = .ok G' rs → rs.length = as.length
  | [], G, G', rs, h => by rw [evA] at h; cases h; rfl
  | .e x :: as, G, G', rs, h => by
    rw [evA] at h
    obtain ⟨G1, x, h1, h⟩ := R.bind_inv h
    obtain ⟨hb1, h⟩ := ite_bad h
    obtain ⟨G2, r, h2, h⟩ := R.bind_inv h
    cases h
    rw [List.length_cons, List.length_cons, evA_len h2]
  | .io i fs :: as, G, G', rs, h => by
    rw [evA] at h
    obtain ⟨hc, h⟩ := ite_ok h
    obtain ⟨G2, r, h2, h⟩ := R.bind_inv h
    cases h
    rw [List.length_cons, List.length_cons, evA_len h2]
theorem callO_red {f : Nat} {as : List Arg} {pm : List Nat} (hp : pmOk pm as.length = true) {σ : St} {H : Hp} {Q : VK} (h : tE k C orc (.callO f as pm) σ H Q) :
    tA k C orc as σ H fun vs H1 => vs.length = as.length ∧ spF k C orc f pm.length (pm.map fun i => vs.getD i .non) H1 Q C8.E0 := by
  obtain ⟨F, G, fp, G', d, b, Ee, h, q⟩ := h
  rw [ev] at h
  obtain ⟨G1, r, h1, h⟩ := R.bind_inv h
  have ln := evA_len h1
  refine ⟨F, G, fp, G1, r, Ee, h1, fun H1 fp1 vs E1 T1 R1 => ⟨by rw [R1.length, ln], ?_⟩⟩
  unfold callOw at h
  split at h
  · rename_i ss hss
    split at h
    · rename_i os d' ho
      split at h
      · rename_i G2 hb
        cases h
        refine io_call E1 (R1.pick pm fun i hi => ?_) (by rw [List.length_map]) (outR_of hss) ho hb fun H' fp' v E' T' R' => q H' fp' v E' (T1.trans T') (fun m => by simp [Py.E.mf] at m) R'
        rw [ln]; exact of_decide_eq_true (List.all_eq_true.mp hp i hi)
      · cases h
    · cases h
  · cases h
variable {x : Str} {p pos : Pos} {e : Expr} {es : List Expr} {as : List Arg} {j jj : Nat}
theorem se_callO {f : Nat} {pm : List Nat} (c : Cal X.prog X.w X.K X.mg X.base jj x (spF k C orc f pm.length) []) (hr : Room j X.A) (hk : jj ≤ j) (hg : Gl X x) (hdb : (x == ("__debug__" : Str)) = false) (hs : (e :: es).all noStar = true)
    (hp : pm = List.range as.length) (ha : PA X (e :: es) (tA k C orc as)) : PE X (.Call (.Name x p) (e :: es) [] pos) (tE k C orc (.callO f as pm)) := by
  rw [List.all_cons, Bool.and_eq_true] at hs
  refine pe_imp (pe_c c hr hk hg ha hdb (star_cons hs.1 _ _) (star_any hs.2 _ _)) fun σ H Q h => ?_
  have h := callO_red (by rw [hp]; exact List.all_eq_true.mpr fun i hi => decide_eq_true (List.mem_range.mp hi)) h
  obtain ⟨F, G, fp, G', rs, Ee, h, q⟩ := h
  refine ⟨F, G, fp, G', rs, Ee, h, fun H' fp' vs E' T R => ?_⟩
  obtain ⟨hl, q⟩ := q H' fp' vs E' T R
  rw [hp, ← hl, range_pick] at q
  rw [List.append_nil, hp, ← hl]
  exact q
end
end Py
end
section
set_option Elab.async false
set_option linter.all false
set_option maxRecDepth 100000
set_option maxHeartbeats 4000000
namespace Py
open PySem PySem.Spec PyProof.Rows L2 C8
/-! ### lists and tuples, walked alike -/
def SqK (K : PySem.W.Frag) (q : Bool) (H : Hp) (a : Addr) (xs : List V) : Prop := match q with
  | true => SqL K H a xs
  | false => SqT K H a xs
def ItSt (q : Bool) (h : Heap) (it a : Addr) (i : Nat) : Prop := match q with
  | true => h.IsListIter it a i
  | false => h.IsTupleIter it a i
def SeqIs (q : Bool) (h : Heap) (a : Addr) (its : Array Value) : Prop := match q with
  | true => h.IsList a its
  | false => h.IsTuple a its
def itOb (q : Bool) (a : Addr) : Obj := match q with
  | true => { cls := .type "list_iterator", data := .fields #[.ref a, .int 0 0] }
  | false => { cls := .type "tuple_iterator", data := .fields #[.ref a, .int 0 0] }
theorem begins_k (q : Bool) (a : Addr) (its : Array Value) : Begins (.ref a) (itOb q a) (fun h => SeqIs q h a its) := by
  cases q
  · exact begins_tuple a its
  · exact begins_list a its
theorem draws_k {prog : Program} {w : World} {A : Around} (q : Bool) (hh : A.handled = none) (it a : Addr) (hne : a ≠ it) (its : Array Value) :
    Draws prog w A it [it, a] its.size (fun i v => its[i]? = some v) (fun i h => ItSt q h it a i ∧ SeqIs q h a its) := by
  cases q
  · exact Draws.tuple hh it a hne its
  · exact Draws.list hh it a hne its
theorem ItSt.obj {q : Bool} {h : Heap} {it a : Addr} {i : Nat} (s : ItSt q h it a i) : ∃ o, h.get? it = some o ∧ ∀ v, o.data ≠ .cell v := by
  cases q <;> (obtain ⟨o, e, _, d⟩ := s; exact ⟨o, e, fun v z => by rw [d] at z; cases z⟩)
theorem ItSt.keep {q : Bool} {h h' : Heap} {it a : Addr} {i : Nat} (s : ItSt q h it a i) (k : ∀ o, h.get? it = some o → h'.get? it = some o) : ItSt q h' it a i := by
  cases q <;> (obtain ⟨o, e, c, d⟩ := s; exact ⟨o, k o e, c, d⟩)
theorem itOb_st {q : Bool} {h : Heap} {it a : Addr} (e : h.get? it = some (itOb q a)) : ItSt q h it a 0 := by
  cases q <;> exact ⟨_, e, rfl, rfl⟩
section
variable {X : Cx} {pins : List (Addr × Obj)} {σ : St} {H : Hp} {s : Shared} {q : Bool} {a : Addr} {xs ys : List V}
theorem inv_seq (I : Inv X pins σ H s) (h : SqK X.K q H a xs) : ∃ its : List Value, Vals xs its ∧ SeqIs q s.heap a its.toArray := by
  cases q
  · obtain ⟨its, r, t, _⟩ := I.tuple h; exact ⟨its, r, t⟩
  · obtain ⟨its, r, t, _⟩ := I.list h; exact ⟨its, r, t.isList⟩
theorem inv_inj (I : Inv X pins σ H s) (h : SqK X.K q H a xs) (h' : SqK X.K q H a ys) : xs = ys := by
  cases q
  · exact I.tuple_inj h h'
  · exact I.list_inj h h'
theorem SeqIs.lt {q : Bool} {h : Heap} {a : Addr} {its : Array Value} (s : SeqIs q h a its) : a < h.objs.size := by
  cases q
  · obtain ⟨o, e, _⟩ := s; exact Heap.lt_size e
  · obtain ⟨o, e, _⟩ := s; exact Heap.lt_size e
theorem ItSt.lt {q : Bool} {h : Heap} {it a : Addr} {i : Nat} (s : ItSt q h it a i) : it < h.objs.size := by
  obtain ⟨o, e, _⟩ := s.obj; exact Heap.lt_size e
end
/-! ### zip of three -/
def Itz3 (K : PySem.W.Frag) (q1 q2 q3 : Bool) (a b c : Addr) (n : Nat) : L2.It :=
  ⟨fun i H => i < n ∧ ∃ xs ys zs, SqK K q1 H a xs ∧ SqK K q2 H b ys ∧ SqK K q3 H c zs ∧ n = min (min xs.length ys.length) zs.length,
   fun i H v H' => ∃ T x y z, v = .ref T ∧ H T = none ∧ H' = upd H T (.tup [x, y, z]) ∧ (∀ xs, SqK K q1 H a xs → xs[i]? = some x) ∧ (∀ xs, SqK K q2 H b xs → xs[i]? = some y) ∧ (∀ xs, SqK K q3 H c xs → xs[i]? = some z),
   fun i H => i = n ∧ ∃ xs ys zs, SqK K q1 H a xs ∧ SqK K q2 H b ys ∧ SqK K q3 H c zs ∧ n = min (min xs.length ys.length) zs.length⟩
structure Ap3 (z TI TO i1 i2 i3 a b c : Addr) : Prop where
  S : ZipSep3 z TI TO i1 i2 i3 [i1, a] [i2, b] [i3, c]
  n1 : a ≠ i1
  n2 : b ≠ i2
  n3 : c ≠ i3
theorem turn_zip3 {P : Program} {w : World} {K : PySem.W.Frag} {elts : List Expr} {kk : Nat} {tpos : Pos} {q1 q2 q3 : Bool} {a b c z TI TO i1 i2 i3 : Addr} {n : Nat} (D : Ap3 z TI TO i1 i2 i3 a b c) :
    Turn P w K (.Tuple elts kk tpos) (Itz3 K q1 q2 q3 a b c n) [z, TI, TO, i1, i2, i3] z (fun i h => IsZip h z TI TO .none ∧ IsTupOf3 h TI (.ref i1) (.ref i2) (.ref i3) ∧ (∃ a1 a2 a3, IsTupOf3 h TO a1 a2 a3) ∧ ItSt q1 h i1 a i ∧ ItSt q2 h i2 b i ∧ ItSt q3 h i3 c i) where
  mem := by simp
  obj := fun i h st x hx => by
    obtain ⟨hz, hTI, ⟨x1, y1, z1, hTO⟩, s1, s2, s3⟩ := st
    have e' : x = z ∨ x = TI ∨ x = TO ∨ x = i1 ∨ x = i2 ∨ x = i3 := by simpa using hx
    rcases e' with e | e | e | e | e | e <;> rw [e]
    · exact ⟨_, hz, fun v q => nomatch q⟩
    · exact ⟨_, hTI, fun v q => nomatch q⟩
    · exact ⟨_, hTO, fun v q => nomatch q⟩
    · exact s1.obj
    · exact s2.obj
    · exact s3.obj
  keep := fun i h h' st k => by
    obtain ⟨hz, hTI, ⟨x1, y1, z1, hTO⟩, s1, s2, s3⟩ := st
    exact ⟨k z (by simp) _ hz, k TI (by simp) _ hTI, ⟨x1, y1, z1, k TO (by simp) _ hTO⟩, s1.keep fun o e => k i1 (by simp) o e, s2.keep fun o e => k i2 (by simp) o e, s3.keep fun o e => k i3 (by simp) o e⟩
  item := by
    intro X hP hw hK hc i pins s σ H E I hf st hg
    subst hP hw hK
    obtain ⟨hz, hTI, ⟨x0, y0, z0, hTO⟩, s1, s2, s3⟩ := st
    obtain ⟨hi, xs, ys, zs, hx, hy, hzz, hn⟩ := hg
    obtain ⟨its1, r1, p1⟩ := inv_seq I hx
    obtain ⟨its2, r2, p2⟩ := inv_seq I hy
    obtain ⟨its3, r3, p3⟩ := inv_seq I hzz
    have l1 := r1.length
    have l2 := r2.length
    have l3 := r3.length
    have hzl : z < s.heap.objs.size := Heap.lt_size hz
    have hh : X.A.in1.handled = none := I.ok.hd hc
    refine wpAny_pyNext_zipD3_item D.S (draws_k q1 hh i1 a D.n1 its1.toArray) (draws_k q2 hh i2 b D.n2 its2.toArray) (draws_k q3 hh i3 c D.n3 its3.toArray) hz hTI hTO ⟨s1, p1⟩ ⟨s2, p2⟩ ⟨s3, p3⟩ (by simp; omega) (by simp; omega) (by simp; omega) fun u1 u2 u3 h' tk e1 e2 e3 z' TO' t1 t2 t3 hT hsz hk => ?_
    refine ⟨_, rfl, wpAny_letOwnedTupleGo_zip (s := { s with heap := h', toks := tk }) z' fun h'' z'' sb => ?_⟩
    have hT2 : h''.get? s.heap.objs.size = some { cls := .type "tuple", data := .seq #[u1, u2, u3] } := (sb.2 _ (Nat.ne_of_gt hzl)).trans hT
    obtain ⟨v1, e4, rv1⟩ : ∃ v, xs[i]? = some v ∧ RelV v u1 := by
      have h0 : its1[i]? = some u1 := by simpa using e1
      have hl : i < xs.length := by omega
      obtain ⟨u, e5, r5⟩ := r1.get (List.getElem?_eq_getElem hl)
      rw [h0] at e5; cases e5
      exact ⟨_, List.getElem?_eq_getElem hl, r5⟩
    obtain ⟨v2, e5, rv2⟩ : ∃ v, ys[i]? = some v ∧ RelV v u2 := by
      have h0 : its2[i]? = some u2 := by simpa using e2
      have hl : i < ys.length := by omega
      obtain ⟨u, e5, r5⟩ := r2.get (List.getElem?_eq_getElem hl)
      rw [h0] at e5; cases e5
      exact ⟨_, List.getElem?_eq_getElem hl, r5⟩
    obtain ⟨v3, e6, rv3⟩ : ∃ v, zs[i]? = some v ∧ RelV v u3 := by
      have h0 : its3[i]? = some u3 := by simpa using e3
      have hl : i < zs.length := by omega
      obtain ⟨u, e5, r5⟩ := r3.get (List.getElem?_eq_getElem hl)
      rw [h0] at e5; cases e5
      exact ⟨_, List.getElem?_eq_getElem hl, r5⟩
    have new : ObjOk X.prog X.w (upd H s.heap.objs.size (.tup [v1, v2, v3])) h'' s.heap.objs.size (.tup [v1, v2, v3]) :=
      ⟨by show 3 ≤ sizeLine; decide, [u1, u2, u3], .cons rv1 (.cons rv2 (.cons rv3 .nil)), ⟨_, hT2, rfl, _, rfl⟩⟩
    have I1 : Inv X pins σ (upd H s.heap.objs.size (.tup [v1, v2, v3])) { s with heap := h'', toks := tk } :=
      I.turnedNew (ch := [z, TI, TO, i1, i2, i3]) (fun x o hb e => (sb.2 x (fun q' => hb (by simp [q']))).trans (hk x o (fun q' => hb (by simp [q'])) (fun q' => hb (by simp [q'])) (fun q' => hb (by simp [q'])) (fun q' => hb (by simp [q'])) (fun q' => hb (by simp [q'])) e)) hf (Nat.le_refl _) new
    have nz : ∀ {x : Addr} {o : Obj}, x ≠ z → h'.get? x = some o → h''.get? x = some o := fun {x o} e h => (sb.2 x e).trans h
    refine ⟨.ref s.heap.objs.size, _, I1, rfl, ⟨_, v1, v2, v3, rfl, I.hok.fresh (Nat.le_refl _), rfl, fun l hl => by rw [inv_inj I hl hx]; exact e4, fun l hl => by rw [inv_inj I hl hy]; exact e5, fun l hl => by rw [inv_inj I hl hzz]; exact e6⟩,
      ⟨z'', ?_, ⟨u1, u2, u3, nz D.S.TOz TO'⟩, t1.1.keep fun o e => nz (Ne.symm D.S.zi1) e, t2.1.keep fun o e => nz (Ne.symm D.S.zi2) e, t3.1.keep fun o e => nz (Ne.symm D.S.zi3) e⟩, fun x hx => ?_⟩
    · exact nz D.S.TIz (hk _ _ D.S.TIz D.S.TITO D.S.TIi1 D.S.TIi2 D.S.TIi3 hTI)
    · have hlt : x < s.heap.objs.size := by
        have e' : x = z ∨ x = TI ∨ x = TO ∨ x = i1 ∨ x = i2 ∨ x = i3 := by simpa using hx
        rcases e' with e | e | e | e | e | e <;> rw [e]
        · exact hzl
        · exact Heap.lt_size hTI
        · exact Heap.lt_size hTO
        · exact s1.lt
        · exact s2.lt
        · exact s3.lt
      rw [upd_ne (Nat.ne_of_lt hlt)]
      exact (hf x hx).1
  done := by
    intro X hP hw hK hc i pins s σ H E I hf st hg
    subst hP hw hK
    obtain ⟨hz, hTI, ⟨x0, y0, z0, hTO⟩, s1, s2, s3⟩ := st
    obtain ⟨hi, xs, ys, zs, hx, hy, hzz, hn⟩ := hg
    obtain ⟨its1, r1, p1⟩ := inv_seq I hx
    obtain ⟨its2, r2, p2⟩ := inv_seq I hy
    obtain ⟨its3, r3, p3⟩ := inv_seq I hzz
    have l1 := r1.length
    have l2 := r2.length
    have l3 := r3.length
    have hh : X.A.in1.handled = none := I.ok.hd hc
    exact wpAny_pyNext_zipD3_end D.S (draws_k q1 hh i1 a D.n1 its1.toArray) (draws_k q2 hh i2 b D.n2 its2.toArray) (draws_k q3 hh i3 c D.n3 its3.toArray) hz hTI hTO ⟨s1, p1⟩ ⟨s2, p2⟩ ⟨s3, p3⟩ (by simp; omega) (by simp; omega) (by simp; omega) (by simp; omega) fun h' tk hk =>
      ⟨rfl, I.turnedL (ch := [z, TI, TO, i1, i2, i3]) (fun x o hb e => hk x o (fun q' => hb (by simp [q'])) (fun q' => hb (by simp [q'])) (fun q' => hb (by simp [q'])) (fun q' => hb (by simp [q'])) (fun q' => hb (by simp [q'])) e) hf⟩
  self := fun A i s Q E st h => wpAny_pyIter_zip st.1 h
def iZip3 (K : PySem.W.Frag) (ta : TA) : TI := fun σ H R => ta σ H fun vs H1 => ∃ q1 q2 q3 a b c xs ys zs, vs = [.ref a, .ref b, .ref c] ∧ SqK K q1 H1 a xs ∧ SqK K q2 H1 b ys ∧ SqK K q3 H1 c zs ∧ R (Itz3 K q1 q2 q3 a b c (min (min xs.length ys.length) zs.length)) H1
theorem pi_zip3 {X : Cx} {e e2 e3 : Expr} {ta : TA} {p pos tpos : Pos} {elts : List Expr} {kk : Nat} (hg : Gl X "zip") (hm : X.mg "zip" = none) (ha : PA X [e, e2, e3] ta)
    (hs : starEach [e, e2, e3] X.env = (false, eval e X.env) :: starEach [e2, e3] X.env) (hpl : (backTo pos (starEach [e2, e3] X.env)).any (·.1) = false) :
    PI X (.Tuple elts kk tpos) (.Call (.Name "zip" p) [e, e2, e3] [] pos) (iZip3 X.K ta) := by
  refine ⟨fun pins s σ H R I h => ?_⟩
  refine Call_ (ld_blt I hg hm PyProof.Rows.boot_zip (PyProof.Rows.callWith_type1 (thn (ha.run pos pins s σ H _ I h) fun us s1 ⟨vs, H1, I1, r1, q1⟩ => ?_) hs hpl))
  obtain ⟨q1, q2, q3, a, b, c, xs, ys, zs, ex, hx, hy, hz, q⟩ := q1
  subst ex
  cases r1 with
  | cons r rr =>
    cases rr with
    | cons r' rr =>
      cases rr with
      | cons r'' rr =>
        cases rr
        cases r
        cases r'
        cases r''
        obtain ⟨its1, rv1, p1⟩ := inv_seq I1 hx
        obtain ⟨its2, rv2, p2⟩ := inv_seq I1 hy
        obtain ⟨its3, rv3, p3⟩ := inv_seq I1 hz
        refine zip_begins3 (begins_k q1 a its1.toArray) (begins_k q2 b its2.toArray) (begins_k q3 c its3.toArray) p1 p2 p3 fun h' hz' hTI hTO g1 g2 g3 hsz hk => wpAny_pyIter_zip hz' ?_
        have I2 : Inv X pins σ H1 { s1 with heap := h' } := I1.kept (t' := s1.toks) hk
        have la := p1.lt
        have lb := p2.lt
        have lc := p3.lt
        have S : ZipSep3 (s1.heap.objs.size + 5) (s1.heap.objs.size + 3) (s1.heap.objs.size + 4) s1.heap.objs.size (s1.heap.objs.size + 1) (s1.heap.objs.size + 2) [s1.heap.objs.size, a] [s1.heap.objs.size + 1, b] [s1.heap.objs.size + 2, c] :=
          zip_sep3 (fun x hx => by rw [List.mem_singleton.mp hx]; exact la) (fun x hx => by rw [List.mem_singleton.mp hx]; exact lb) (fun x hx => by rw [List.mem_singleton.mp hx]; exact lc)
        refine ⟨s1.heap.objs.size + 5, [s1.heap.objs.size + 5, s1.heap.objs.size + 3, s1.heap.objs.size + 4, s1.heap.objs.size, s1.heap.objs.size + 1, s1.heap.objs.size + 2], _, _, H1, rfl, I2,
          turn_zip3 ⟨S, Nat.ne_of_lt la, Nat.ne_of_lt (Nat.lt_succ_of_lt lb), Nat.ne_of_lt (Nat.lt_succ_of_lt (Nat.lt_succ_of_lt lc))⟩, ⟨hz', hTI, ⟨_, _, _, hTO⟩, itOb_st g1, itOb_st g2, itOb_st g3⟩, fun x hx => ?_, q⟩
        have hle : s1.heap.objs.size ≤ x := by
          have e' : x = s1.heap.objs.size + 5 ∨ x = s1.heap.objs.size + 3 ∨ x = s1.heap.objs.size + 4 ∨ x = s1.heap.objs.size ∨ x = s1.heap.objs.size + 1 ∨ x = s1.heap.objs.size + 2 := by simpa using hx
          rcases e' with e | e | e | e | e | e <;> rw [e] <;> first | exact Nat.le_add_right _ _ | exact Nat.le_refl _
        exact I1.fpOk hle (I1.hok.fresh hle)
/-! ### zip of two -/
def Itz2 (K : PySem.W.Frag) (q1 q2 : Bool) (a b : Addr) (n : Nat) : L2.It :=
  ⟨fun i H => i < n ∧ ∃ xs ys, SqK K q1 H a xs ∧ SqK K q2 H b ys ∧ n = min xs.length ys.length,
   fun i H v H' => ∃ T x y, v = .ref T ∧ H T = none ∧ H' = upd H T (.tup [x, y]) ∧ (∀ xs, SqK K q1 H a xs → xs[i]? = some x) ∧ (∀ xs, SqK K q2 H b xs → xs[i]? = some y),
   fun i H => i = n ∧ ∃ xs ys, SqK K q1 H a xs ∧ SqK K q2 H b ys ∧ n = min xs.length ys.length⟩
structure Ap2 (z TI TO i1 i2 a b : Addr) : Prop where
  S : ZipSep2 z TI TO i1 i2 [i1, a] [i2, b]
  n1 : a ≠ i1
  n2 : b ≠ i2
theorem turn_zip2 {P : Program} {w : World} {K : PySem.W.Frag} {elts : List Expr} {kk : Nat} {tpos : Pos} {q1 q2 : Bool} {a b z TI TO i1 i2 : Addr} {n : Nat} (D : Ap2 z TI TO i1 i2 a b) :
    Turn P w K (.Tuple elts kk tpos) (Itz2 K q1 q2 a b n) [z, TI, TO, i1, i2] z (fun i h => IsZip h z TI TO .none ∧ IsTupOf2 h TI (.ref i1) (.ref i2) ∧ (∃ a1 a2, IsTupOf2 h TO a1 a2) ∧ ItSt q1 h i1 a i ∧ ItSt q2 h i2 b i) where
  mem := by simp
  obj := fun i h st x hx => by
    obtain ⟨hz, hTI, ⟨x1, y1, hTO⟩, s1, s2⟩ := st
    have e' : x = z ∨ x = TI ∨ x = TO ∨ x = i1 ∨ x = i2 := by simpa using hx
    rcases e' with e | e | e | e | e <;> rw [e]
    · exact ⟨_, hz, fun v q => nomatch q⟩
    · exact ⟨_, hTI, fun v q => nomatch q⟩
    · exact ⟨_, hTO, fun v q => nomatch q⟩
    · exact s1.obj
    · exact s2.obj
  keep := fun i h h' st k => by
    obtain ⟨hz, hTI, ⟨x1, y1, hTO⟩, s1, s2⟩ := st
    exact ⟨k z (by simp) _ hz, k TI (by simp) _ hTI, ⟨x1, y1, k TO (by simp) _ hTO⟩, s1.keep fun o e => k i1 (by simp) o e, s2.keep fun o e => k i2 (by simp) o e⟩
  item := by
    intro X hP hw hK hc i pins s σ H E I hf st hg
    subst hP hw hK
    obtain ⟨hz, hTI, ⟨x0, y0, hTO⟩, s1, s2⟩ := st
    obtain ⟨hi, xs, ys, hx, hy, hn⟩ := hg
    obtain ⟨its1, r1, p1⟩ := inv_seq I hx
    obtain ⟨its2, r2, p2⟩ := inv_seq I hy
    have l1 := r1.length
    have l2 := r2.length
    have hzl : z < s.heap.objs.size := Heap.lt_size hz
    have hh : X.A.in1.handled = none := I.ok.hd hc
    refine wpAny_pyNext_zipD2_item D.S (draws_k q1 hh i1 a D.n1 its1.toArray) (draws_k q2 hh i2 b D.n2 its2.toArray) hz hTI hTO ⟨s1, p1⟩ ⟨s2, p2⟩ (by simp; omega) (by simp; omega) fun u1 u2 h' tk e1 e2 z' TO' t1 t2 hT hsz hk => ?_
    refine ⟨_, rfl, wpAny_letOwnedTupleGo_zip (s := { s with heap := h', toks := tk }) z' fun h'' z'' sb => ?_⟩
    have hT2 : h''.get? s.heap.objs.size = some { cls := .type "tuple", data := .seq #[u1, u2] } := (sb.2 _ (Nat.ne_of_gt hzl)).trans hT
    obtain ⟨v1, e4, rv1⟩ : ∃ v, xs[i]? = some v ∧ RelV v u1 := by
      have h0 : its1[i]? = some u1 := by simpa using e1
      have hl : i < xs.length := by omega
      obtain ⟨u, e5, r5⟩ := r1.get (List.getElem?_eq_getElem hl)
      rw [h0] at e5; cases e5
      exact ⟨_, List.getElem?_eq_getElem hl, r5⟩
    obtain ⟨v2, e5, rv2⟩ : ∃ v, ys[i]? = some v ∧ RelV v u2 := by
      have h0 : its2[i]? = some u2 := by simpa using e2
      have hl : i < ys.length := by omega
      obtain ⟨u, e5, r5⟩ := r2.get (List.getElem?_eq_getElem hl)
      rw [h0] at e5; cases e5
      exact ⟨_, List.getElem?_eq_getElem hl, r5⟩
    have new : ObjOk X.prog X.w (upd H s.heap.objs.size (.tup [v1, v2])) h'' s.heap.objs.size (.tup [v1, v2]) :=
      ⟨by show 2 ≤ sizeLine; decide, [u1, u2], .cons rv1 (.cons rv2 .nil), ⟨_, hT2, rfl, _, rfl⟩⟩
    have I1 : Inv X pins σ (upd H s.heap.objs.size (.tup [v1, v2])) { s with heap := h'', toks := tk } :=
      I.turnedNew (ch := [z, TI, TO, i1, i2]) (fun x o hb e => (sb.2 x (fun q' => hb (by simp [q']))).trans (hk x o (fun q' => hb (by simp [q'])) (fun q' => hb (by simp [q'])) (fun q' => hb (by simp [q'])) (fun q' => hb (by simp [q'])) e)) hf (Nat.le_refl _) new
    have nz : ∀ {x : Addr} {o : Obj}, x ≠ z → h'.get? x = some o → h''.get? x = some o := fun {x o} e h => (sb.2 x e).trans h
    refine ⟨.ref s.heap.objs.size, _, I1, rfl, ⟨_, v1, v2, rfl, I.hok.fresh (Nat.le_refl _), rfl, fun l hl => by rw [inv_inj I hl hx]; exact e4, fun l hl => by rw [inv_inj I hl hy]; exact e5⟩,
      ⟨z'', ?_, ⟨u1, u2, nz D.S.TOz TO'⟩, t1.1.keep fun o e => nz (Ne.symm D.S.zi1) e, t2.1.keep fun o e => nz (Ne.symm D.S.zi2) e⟩, fun x hx => ?_⟩
    · exact nz D.S.TIz (hk _ _ D.S.TIz D.S.TITO D.S.TIi1 D.S.TIi2 hTI)
    · have hlt : x < s.heap.objs.size := by
        have e' : x = z ∨ x = TI ∨ x = TO ∨ x = i1 ∨ x = i2 := by simpa using hx
        rcases e' with e | e | e | e | e <;> rw [e]
        · exact hzl
        · exact Heap.lt_size hTI
        · exact Heap.lt_size hTO
        · exact s1.lt
        · exact s2.lt
      rw [upd_ne (Nat.ne_of_lt hlt)]
      exact (hf x hx).1
  done := by
    intro X hP hw hK hc i pins s σ H E I hf st hg
    subst hP hw hK
    obtain ⟨hz, hTI, ⟨x0, y0, hTO⟩, s1, s2⟩ := st
    obtain ⟨hi, xs, ys, hx, hy, hn⟩ := hg
    obtain ⟨its1, r1, p1⟩ := inv_seq I hx
    obtain ⟨its2, r2, p2⟩ := inv_seq I hy
    have l1 := r1.length
    have l2 := r2.length
    have hh : X.A.in1.handled = none := I.ok.hd hc
    exact wpAny_pyNext_zipD2_end D.S (draws_k q1 hh i1 a D.n1 its1.toArray) (draws_k q2 hh i2 b D.n2 its2.toArray) hz hTI hTO ⟨s1, p1⟩ ⟨s2, p2⟩ (by simp; omega) (by simp; omega) (by simp; omega) fun h' tk hk =>
      ⟨rfl, I.turnedL (ch := [z, TI, TO, i1, i2]) (fun x o hb e => hk x o (fun q' => hb (by simp [q'])) (fun q' => hb (by simp [q'])) (fun q' => hb (by simp [q'])) (fun q' => hb (by simp [q'])) e) hf⟩
  self := fun A i s Q E st h => wpAny_pyIter_zip st.1 h
def iZip2 (K : PySem.W.Frag) (ta : TA) : TI := fun σ H R => ta σ H fun vs H1 => ∃ q1 q2 a b xs ys, vs = [.ref a, .ref b] ∧ SqK K q1 H1 a xs ∧ SqK K q2 H1 b ys ∧ R (Itz2 K q1 q2 a b (min xs.length ys.length)) H1
theorem pi_zip2 {X : Cx} {e e2 : Expr} {ta : TA} {p pos tpos : Pos} {elts : List Expr} {kk : Nat} (hg : Gl X "zip") (hm : X.mg "zip" = none) (ha : PA X [e, e2] ta)
    (hs : starEach [e, e2] X.env = (false, eval e X.env) :: starEach [e2] X.env) (hpl : (backTo pos (starEach [e2] X.env)).any (·.1) = false) :
    PI X (.Tuple elts kk tpos) (.Call (.Name "zip" p) [e, e2] [] pos) (iZip2 X.K ta) := by
  refine ⟨fun pins s σ H R I h => ?_⟩
  refine Call_ (ld_blt I hg hm PyProof.Rows.boot_zip (PyProof.Rows.callWith_type1 (thn (ha.run pos pins s σ H _ I h) fun us s1 ⟨vs, H1, I1, r1, q1⟩ => ?_) hs hpl))
  obtain ⟨q1, q2, a, b, xs, ys, ex, hx, hy, q⟩ := q1
  subst ex
  cases r1 with
  | cons r rr =>
    cases rr with
    | cons r' rr =>
        cases rr
        cases r
        cases r'
        obtain ⟨its1, rv1, p1⟩ := inv_seq I1 hx
        obtain ⟨its2, rv2, p2⟩ := inv_seq I1 hy
        refine zip_begins2 (begins_k q1 a its1.toArray) (begins_k q2 b its2.toArray) p1 p2 fun h' hz' hTI hTO g1 g2 hsz hk => wpAny_pyIter_zip hz' ?_
        have I2 : Inv X pins σ H1 { s1 with heap := h' } := I1.kept (t' := s1.toks) hk
        have la := p1.lt
        have lb := p2.lt
        have S : ZipSep2 (s1.heap.objs.size + 4) (s1.heap.objs.size + 2) (s1.heap.objs.size + 3) s1.heap.objs.size (s1.heap.objs.size + 1) [s1.heap.objs.size, a] [s1.heap.objs.size + 1, b] :=
          zip_sep2 (fun x hx => by rw [List.mem_singleton.mp hx]; exact la) (fun x hx => by rw [List.mem_singleton.mp hx]; exact lb)
        refine ⟨s1.heap.objs.size + 4, [s1.heap.objs.size + 4, s1.heap.objs.size + 2, s1.heap.objs.size + 3, s1.heap.objs.size, s1.heap.objs.size + 1], _, _, H1, rfl, I2,
          turn_zip2 ⟨S, Nat.ne_of_lt la, Nat.ne_of_lt (Nat.lt_succ_of_lt lb)⟩, ⟨hz', hTI, ⟨_, _, hTO⟩, itOb_st g1, itOb_st g2⟩, fun x hx => ?_, q⟩
        have hle : s1.heap.objs.size ≤ x := by
          have e' : x = s1.heap.objs.size + 4 ∨ x = s1.heap.objs.size + 2 ∨ x = s1.heap.objs.size + 3 ∨ x = s1.heap.objs.size ∨ x = s1.heap.objs.size + 1 := by simpa using hx
          rcases e' with e | e | e | e | e <;> rw [e] <;> first | exact Nat.le_add_right _ _ | exact Nat.le_refl _
        exact I1.fpOk hle (I1.hok.fresh hle)
end Py
end
section
set_option Elab.async false
set_option linter.all false
set_option maxRecDepth 100000
set_option maxHeartbeats 4000000
namespace Py
open PySem PySem.Spec PyProof.Rows L2 C8
/-- a walk yields the items -/
def Wk (k : Ki) (F : Addr → Prop) (fp : Fp) (H : Hp) (J : L2.It) (ds : List D) (b : Bool) : Prop :=
  ∀ H2 fp2 F2, (∀ a, F2 a → F a ∨ H a = none) → Pm (Own F2 fp2) H2 → Tr fp H fp2 H2 → (b = true → Same H H2) →
    J.stop ds.length H2 ∧ ∀ (i : Nat) d, ds[i]? = some d → J.go i H2 ∧ ∀ x H3, J.yld i H2 x H3 → Same H2 H3 ∧ RepX k (Own F2 fp2) H3 x d
def tI (k : Ki) (C : Ctx) (orc : Orc) (it : Py.It) : TI := fun σ H R => ∃ F G fp G' ds b, EnvOk k F σ H G fp ∧ evIt C orc it G = .ok G' (ds, b) ∧ ∀ J H' fp', EnvOk k F σ H' G' fp' → Tr fp H fp' H' → (it.mf = true → Same H H') → Wk k F fp' H' J ds b → R J H'
/-- a list or a tuple to be walked -/
def SqRep (k : Ki) (F : Addr → Prop) (fp : Fp) (H : Hp) (v : V) (ds : List D) (b : Bool) : Prop :=
  ∃ q a vs, v = .ref a ∧ SqK k.K q H a vs ∧ RepL k (Own F fp) H vs ds ∧ ∀ H2 fp2 F2, (∀ a, F2 a → F a ∨ H a = none) → Pm (Own F2 fp2) H2 → Tr fp H fp2 H2 → (b = true → Same H H2) → SqK k.K q H2 a vs ∧ RepL k (Own F2 fp2) H2 vs ds
def tSq (k : Ki) (C : Ctx) (orc : Orc) (e : E) : TE := fun σ H Q => ∃ F G fp G' ds b, EnvOk k F σ H G fp ∧ evSq C orc e G = .ok G' (ds, b) ∧ ∀ H' fp' v, EnvOk k F σ H' G' fp' → Tr fp H fp' H' → (e.mf = true → Same H H') → SqRep k F fp' H' v ds b → Q v H'
section
variable {k : Ki} {C : Ctx} {orc : Orc} {X : Cx} {F : Addr → Prop} {P : Addr → Prop} {σ : St} {H H' : Hp} {G : Py.Env} {fp fp' : Fp}
theorem own_later (t : Tr fp H fp' H') {F2 : Addr → Prop} (hF : ∀ a, F2 a → F a ∨ H a = none) : ∀ a, Own F2 fp' a → Own F fp a ∨ H a = none := fun a q => by
  rcases q with q | ⟨i, q⟩
  · exact (hF a q).imp (fun z => .inl z) id
  · exact (t.new i a q).imp (fun z => .inr z) id
theorem repL_later (pm : Pm (Own F fp) H) (t : Tr fp H fp' H') {F2 : Addr → Prop} (hF : ∀ a, F2 a → F a ∨ H a = none) {vs : List V} {ds : List D} (r : RepL k (Own F fp) H vs ds) : RepL k (Own F2 fp') H' vs ds := r.mono t.ext pm (own_later t hF)
theorem RepMs.leavesR : ∀ {vs : List V} {ms : List M} {as : List Addr} {ds : List D}, RepMs k P H vs ms as → M.leaves ms = some ds → RepL k P H vs ds ∧ as = []
  | _, _, _, _, .nil, h => by cases h; exact ⟨.nil, rfl⟩
  | _, _, _, ds, .cons (m := m) h t, e => by
    cases m with
    | leaf d =>
      obtain ⟨ds', e1, rfl⟩ := Option.map_eq_some_iff.mp (show (M.leaves _).map (d :: ·) = some ds from e)
      obtain ⟨r, ea⟩ := t.leavesR e1
      cases h with
      | leaf h => exact ⟨.cons h r, by rw [ea]; rfl⟩
    | _ => cases e
/-- a clean list or tuple -/
theorem items_sq (pm : Pm (Own F fp) H) {v : V} {d : D} {ds : List D} (r : RepX k (Own F fp) H v d) (h : items d = some ds) : SqRep k F fp H v ds false := by
  cases r with
  | @tup a vs _ ht rl =>
    cases h
    refine ⟨false, a, vs, rfl, ht, rl, fun H2 fp2 F2 hF pm2 t _ => ⟨sqt_mono t.ext pm ht, repL_later pm t hF rl⟩⟩
  | @fro a vs _ ht rl =>
    cases h
    refine ⟨true, a, vs, rfl, ht.sq, rl, fun H2 fp2 F2 hF pm2 t _ => ⟨(fro_mono t.ext pm ht).sq, repL_later pm t hF rl⟩⟩
  | @lst a vs _ ht rl =>
    cases h
    refine ⟨true, a, vs, rfl, .inl (.inl ht.1), rl, fun H2 fp2 F2 hF pm2 t _ => ⟨.inl (.inl (t.ext a _ ht.1 ht.2)), repL_later pm t hF rl⟩⟩
  | _ => cases h
/-- a borrowed one whose items are immutable -/
theorem items_sqB (pm : Pm F H) (pmO : Pm (Own F fp) H) {v : V} {d : D} {ds : List D} (r : RepX k F H v d) (h : items d = some ds) (hi : D.immL ds = true) : SqRep k F fp H v ds true := by
  cases r with
  | @tup a vs _ ht rl =>
    cases h
    exact ⟨false, a, vs, rfl, ht, RepL.imm rl hi, fun H2 fp2 F2 hF pm2 t s => ⟨sqt_mono (P := F) (same_ext (s rfl)) pm ht, repL_later pmO t hF (RepL.imm rl hi)⟩⟩
  | @fro a vs _ ht rl =>
    cases h
    exact ⟨true, a, vs, rfl, ht.sq, RepL.imm rl hi, fun H2 fp2 F2 hF pm2 t s => ⟨(fro_mono (P := F) (same_ext (s rfl)) pm ht).sq, repL_later pmO t hF (RepL.imm rl hi)⟩⟩
  | @lst a vs _ ht rl =>
    cases h
    exact ⟨true, a, vs, rfl, .inl (.inl ht.1), RepL.imm rl hi, fun H2 fp2 F2 hF pm2 t s => ⟨.inl (.inl (s rfl _ _ ht.1)), repL_later pmO t hF (RepL.imm rl hi)⟩⟩
  | _ => cases h
theorem seq_sq (pm : Pm (Own F fp) H) {v : V} {m : M} {ds : List D} {b : Bool} {as : List Addr} (r : RepM k (Own F fp) H v m as) (h : m.seq = some (ds, b)) : SqRep k F fp H v ds b := by
  cases r with
  | leaf r =>
    obtain ⟨ds', h1, h2⟩ := Option.map_eq_some_iff.mp (show (items _).map (fun ds => (ds, false)) = some (ds, b) from h)
    cases h2
    exact items_sq pm r h1
  | @lst a vs ms _ ha rs =>
    obtain ⟨ds', h1, h2⟩ := Option.map_eq_some_iff.mp (show (M.leaves ms).map (fun ds => (ds, true)) = some (ds, b) from h)
    cases h2
    have rl := (rs.leavesR h1).1
    exact ⟨true, a, vs, rfl, .inl (.inl ha), rl, fun H2 fp2 F2 hF pm2 t s => ⟨.inl (.inl (s rfl _ _ ha)), repL_later pm t hF rl⟩⟩
  | _ => cases h
theorem evSq_ev {e : E} (hn : notPth e = true) (G : Py.Env) : evSq C orc e G = (ev C orc e G).bind fun G1 v => .ofO G1 ((items v.1).bind fun ds => if v.2 && !D.immL ds then none else some (ds, v.2)) := by
  cases e <;> first | (cases hn; done) | simp only [evSq]
theorem sq_e {e : E} {o : Expr} (hn : notPth e = true) (he : PE X o (tE k C orc e)) : PE X o (tSq k C orc e) := by
  refine pe_imp he fun σ H Q ⟨F, G, fp, G', ds, b, Ee, h, q⟩ => ?_
  rw [evSq_ev hn] at h
  obtain ⟨G1, x, h1, h⟩ := R.bind_inv h
  obtain ⟨h3, rfl⟩ := R.ofO_inv h
  obtain ⟨ds', h4, h5⟩ := Option.bind_eq_some_iff.mp h3
  refine ⟨F, G, fp, G1, x.1, x.2, Ee, h1, fun H1 fp1 v E1 T1 S1 R1 => q H1 fp1 v E1 T1 S1 ?_⟩
  split at h5
  · cases h5
  · rename_i hc
    cases h5
    obtain ⟨xd, xb⟩ := x
    cases xb with
    | false => exact items_sq E1.pm R1 h4
    | true => exact items_sqB (E1.pmB true) E1.pm R1 h4 (by simpa using hc)
theorem sq_p {i : Nat} {gs : List Nat} {o : Expr} (ho : PE X o (tP k i gs)) : PE X o (tSq k C orc (.pth i gs)) := by
  refine pe_imp ho fun σ H Q ⟨F, G, fp, G', ds, b, Ee, h, q⟩ => ?_
  rw [evSq] at h
  obtain ⟨h3, rfl⟩ := R.ofO_inv h
  obtain ⟨m, h4, h5⟩ := Option.bind_eq_some_iff.mp h3
  obtain ⟨v, u, as, e, hp, r, sub⟩ := Ee.read h4
  exact ⟨v, u, e, hp, q H fp u Ee (.refl _ _) (fun _ => ssame) (seq_sq Ee.pm r h5)⟩
theorem SqRep.tr (E1 : EnvOk k F σ H G fp) (t : Tr fp H fp' H') (pm' : Pm (Own F fp') H') {v : V} {ds : List D} {b : Bool} (r : SqRep k F fp H v ds b) (s : b = true → Same H H') : SqRep k F fp' H' v ds b := by
  obtain ⟨q, a, vs, e, _, _, l⟩ := r
  obtain ⟨l1, l2⟩ := l H' fp' F (fun a z => .inl z) pm' t s
  exact ⟨q, a, vs, e, l1, l2, fun H2 fp2 F2 hF pm2 t2 s2 => l H2 fp2 F2 (fun a z => (hF a z).imp id fun z => t.stay a z) pm2 (t.trans t2) fun hb => same_trans (s hb) (s2 hb)⟩
end
end Py
end
section
set_option Elab.async false
set_option linter.all false
set_option maxRecDepth 100000
set_option maxHeartbeats 4000000
namespace Py
open PySem PySem.Spec PyProof.Rows L2 C8
def Itk (K : PySem.W.Frag) (q : Bool) (a : Addr) : L2.It := match q with
  | true => Itl K a
  | false => Itt K a
def iSeq (K : PySem.W.Frag) (tl : TE) : TI := fun σ H R => tl σ H fun x H1 => ∃ q a xs, x = .ref a ∧ SqK K q H1 a xs ∧ R (Itk K q a) H1
theorem pi_seq {X : Cx} {tg l : Expr} {tl : TE} (hl : PE X l tl) : PI X tg l (iSeq X.K tl) := by
  refine ⟨fun pins s σ H R I h => ?_⟩
  refine thn (hl.run pins s σ H _ I h) fun v s1 ⟨x, H1, I1, r1, q, a, xs, e, hq, qq⟩ => ?_
  subst e
  cases r1
  have fresh : FpOk X pins H1 s1.heap.objs.size := I1.fpOk (Nat.le_refl _) (I1.hok.fresh (Nat.le_refl _))
  cases q with
  | true =>
    obtain ⟨its, rv, p, hz⟩ := I1.list hq
    refine wpAny_pyIter_list p.isList ?_
    exact ⟨_, [s1.heap.objs.size], _, _, H1, rfl, I1.kept (t' := s1.toks) fun b o e => Heap.get?_push_of_some _ e, turn_list a _, ⟨_, Heap.get?_push_size _ rfl, rfl, rfl⟩, fun b hb => by rw [List.mem_singleton.mp hb]; exact fresh, qq⟩
  | false =>
    obtain ⟨its, rv, p, hz⟩ := I1.tuple hq
    refine wpAny_pyIter_tuple (show s1.heap.IsTuple a its.toArray from p) ?_
    exact ⟨_, [s1.heap.objs.size], _, _, H1, rfl, I1.kept (t' := s1.toks) fun b o e => Heap.get?_push_of_some _ e, turn_tuple a _, ⟨_, Heap.get?_push_size _ rfl, rfl, rfl⟩, fun b hb => by rw [List.mem_singleton.mp hb]; exact fresh, qq⟩
section
variable {k : Ki} {C : Ctx} {orc : Orc} {X : Cx} {F : Addr → Prop} {P : Addr → Prop} {σ : St} {H H' : Hp} {G : Py.Env} {fp fp' : Fp}
theorem wk_seq {a : Addr} {q : Bool} {vs : List V} {ds : List D} {b : Bool} (l : ∀ H2 fp2 F2, (∀ a, F2 a → F a ∨ H a = none) → Pm (Own F2 fp2) H2 → Tr fp H fp2 H2 → (b = true → Same H H2) → SqK k.K q H2 a vs ∧ RepL k (Own F2 fp2) H2 vs ds) : Wk k F fp H (Itk k.K q a) ds b := by
  intro H2 fp2 F2 hF pm2 t s
  obtain ⟨l1, l2⟩ := l H2 fp2 F2 hF pm2 t s
  cases q with
  | true =>
    refine ⟨⟨vs, l1, by rw [l2.length]; exact Nat.le_refl _⟩, fun i d hd => ?_⟩
    obtain ⟨v, e, r⟩ := l2.get hd
    exact ⟨⟨vs, v, l1, e⟩, fun x H3 y => ⟨by rw [y.1]; exact ssame, by
      have := y.2 vs l1
      rw [e] at this; cases this
      rw [y.1]; exact r⟩⟩
  | false =>
    refine ⟨⟨vs, l1, by rw [l2.length]; exact Nat.le_refl _⟩, fun i d hd => ?_⟩
    obtain ⟨v, e, r⟩ := l2.get hd
    exact ⟨⟨vs, v, l1, e⟩, fun x H3 y => ⟨by rw [y.1]; exact ssame, by
      have := y.2 vs l1
      rw [e] at this; cases this
      rw [y.1]; exact r⟩⟩
theorem si_e (B : XB k X) {tg l : Expr} {e : E} (hl : PE X l (tSq k C orc e)) : PI X tg l (tI k C orc (.e e)) := by
  refine pi_imp (pi_seq hl) fun σ H RR ⟨F, G, fp, G', ds, b, Ee, h, q⟩ => ?_
  rw [evIt] at h
  refine ⟨F, G, fp, G', ds, b, Ee, h, fun H1 fp1 v E1 T1 S1 r => ?_⟩
  obtain ⟨qq, a, vs, e, l1, _, l⟩ := r
  exact ⟨qq, a, vs, e, by rw [B.K]; exact l1, by rw [B.K]; exact q _ H1 fp1 E1 T1 S1 (wk_seq l)⟩
theorem rng_get {lo hi : Int} {i : Nat} {d : D} (h : (rangeD lo hi)[i]? = some d) : i < (hi - lo).toNat ∧ d = .int (lo + i) := by
  unfold rangeD at h
  rw [List.getElem?_map] at h
  obtain ⟨j, h1, rfl⟩ := Option.map_eq_some_iff.mp h
  obtain ⟨h2, h3⟩ := List.getElem?_eq_some_iff.mp h1
  rw [List.length_range] at h2
  rw [List.getElem_range] at h3
  exact ⟨h2, by rw [h3]⟩
theorem rng_len (lo hi : Int) : (rangeD lo hi).length = (hi - lo).toNat := by unfold rangeD; rw [List.length_map, List.length_range]
theorem wk_rng {lo hi : Int} {b : Bool} : Wk k F fp H (Itr lo (hi - lo).toNat) (rangeD lo hi) b := fun H2 fp2 F2 hF pm2 t s =>
  ⟨by rw [rng_len]; exact Nat.le_refl _, fun i d hd => by
    obtain ⟨h1, rfl⟩ := rng_get hd
    exact ⟨h1, fun x H3 y => ⟨by rw [y.1]; exact ssame, by rw [y.2]; exact .int _⟩⟩⟩
theorem rngOk_bd {i : Int} (h : rngOk i = true) : -(2 ^ 62) ≤ i ∧ i < 2 ^ 62 := by
  unfold rngOk at h
  have := ltp_int h
  omega
variable {tg a b c : Expr} {ea eb ec : E} {p pos p2 pos2 : Pos}
theorem star1 {a : Expr} (h : noStar a = true) (env : PySem.Env) : starEach [a] env = [(false, eval a env)] := star_cons h [] env
theorem asInt_some {d : D} {i : Int} (h : d.asInt = some i) : d = .int i := by
  cases d <;> simp [D.asInt] at h
  rw [h]
theorem si_rng1 (hg : Gl X "range") (hm : X.mg "range" = none) (hs : noStar a = true) (ha : PE X a (tE k C orc ea)) : PI X tg (.Call (.Name "range" p) [a] [] pos) (tI k C orc (.rng1 ea)) := by
  refine pi_imp (pi_range1 hg hm (one_red hs ha) (star1 hs _)) fun σ H RR ⟨F, G, fp, G', ds, b, Ee, h, q⟩ => ?_
  rw [evIt] at h
  obtain ⟨G1, x, h1, h⟩ := R.bind_inv h
  obtain ⟨h3, rfl⟩ := R.ofO_inv h
  obtain ⟨i, h4, h5⟩ := Option.bind_eq_some_iff.mp h3
  split at h5
  · rename_i hb
    cases h5
    obtain ⟨b1, b2⟩ := rngOk_bd hb
    refine ⟨F, G, fp, G1, x.1, x.2, Ee, h1, fun H1 fp1 v E1 T1 S1 R1 => ⟨i, ?_, b1, b2, ?_⟩⟩
    · rw [asInt_some h4] at R1
      rw [(show RepX k _ H1 v (.int i) from R1).int_inv]
    · have := q (Itr 0 (i - 0).toNat) H1 fp1 E1 T1 (fun m => S1 (by simpa [Py.It.mf] using m)) wk_rng
      simpa using this
  · cases h5
theorem si_rng2 (hg : Gl X "range") (hm : X.mg "range" = none) (hs : noStar a = true) (hs2 : noStar b = true) (ha : PE X a (tE k C orc ea)) (hb : PE X b (tE k C orc eb)) : PI X tg (.Call (.Name "range" p) [a, b] [] pos) (tI k C orc (.rng2 ea eb)) := by
  refine pi_imp (pi_range2 hg hm (pa_cons ha (one_red hs2 hb) (star_cons hs _ _)) (by rw [star_cons hs, star1 hs2]) (star1 hs2 _)) fun σ H RR ⟨F, G, fp, G', ds, bb, Ee, h, q⟩ => ?_
  rw [evIt] at h
  obtain ⟨G1, x, h1, h⟩ := R.bind_inv h
  obtain ⟨G2, y, h2, h⟩ := R.bind_inv h
  obtain ⟨h3, rfl⟩ := R.ofO_inv h
  obtain ⟨i, h4, h5⟩ := Option.bind_eq_some_iff.mp h3
  obtain ⟨j, h6, h7⟩ := Option.bind_eq_some_iff.mp h5
  split at h7
  · rename_i hb
    cases h7
    rw [Bool.and_eq_true] at hb
    obtain ⟨b1, b2⟩ := rngOk_bd hb.1
    obtain ⟨b3, b4⟩ := rngOk_bd hb.2
    refine ⟨F, G, fp, G1, x.1, x.2, Ee, h1, fun H1 fp1 v E1 T1 S1 R1 => ⟨F, G1, fp1, G2, y.1, y.2, E1, h2, fun H2 fp2 w E2 T2 S2 R2 => ⟨i, j, ?_, ⟨b1, b2, b3, b4⟩, ?_⟩⟩⟩
    · rw [asInt_some h4] at R1
      rw [asInt_some h6] at R2
      rw [(show RepX k _ H1 v (.int i) from R1).int_inv, (show RepX k _ H2 w (.int j) from R2).int_inv]
    · exact q _ H2 fp2 E2 (T1.trans T2) (fun m => by
        simp only [Py.It.mf, Bool.and_eq_true] at m
        exact same_trans (S1 m.1) (S2 m.2)) wk_rng
  · cases h7
/-! zip -/
theorem zipD_get : ∀ {xs ys : List D} {i : Nat} {d : D}, (zipD xs ys)[i]? = some d → ∃ x y, xs[i]? = some x ∧ ys[i]? = some y ∧ d = .tup [x, y]
  | [], ys, i, d, h => by simp [zipD] at h
  | x :: xs, [], i, d, h => by simp [zipD] at h
  | x :: xs, y :: ys, 0, d, h => by simp [zipD] at h; exact ⟨x, y, rfl, rfl, h.symm⟩
  | x :: xs, y :: ys, i + 1, d, h => by
    obtain ⟨x', y', h1, h2, h3⟩ := zipD_get (xs := xs) (ys := ys) (i := i) (d := d) (by simpa [zipD] using h)
    exact ⟨x', y', by simpa using h1, by simpa using h2, h3⟩
theorem zipD_len : ∀ (xs ys : List D), (zipD xs ys).length = min xs.length ys.length
  | [], ys => by simp [zipD]
  | x :: xs, [] => by simp [zipD]
  | x :: xs, y :: ys => by simp only [zipD, List.length_cons, zipD_len xs ys]; omega
theorem zipD3_get : ∀ {xs ys zs : List D} {i : Nat} {d : D}, (zipD3 xs ys zs)[i]? = some d → ∃ x y z, xs[i]? = some x ∧ ys[i]? = some y ∧ zs[i]? = some z ∧ d = .tup [x, y, z]
  | [], ys, zs, i, d, h => by simp [zipD3] at h
  | x :: xs, [], zs, i, d, h => by simp [zipD3] at h
  | x :: xs, y :: ys, [], i, d, h => by simp [zipD3] at h
  | x :: xs, y :: ys, z :: zs, 0, d, h => by simp [zipD3] at h; exact ⟨x, y, z, rfl, rfl, rfl, h.symm⟩
  | x :: xs, y :: ys, z :: zs, i + 1, d, h => by
    obtain ⟨x', y', z', h1, h2, h3, h4⟩ := zipD3_get (xs := xs) (ys := ys) (zs := zs) (i := i) (d := d) (by simpa [zipD3] using h)
    exact ⟨x', y', z', by simpa using h1, by simpa using h2, by simpa using h3, h4⟩
theorem zipD3_len : ∀ (xs ys zs : List D), (zipD3 xs ys zs).length = min (min xs.length ys.length) zs.length
  | [], ys, zs => by simp [zipD3]
  | x :: xs, [], zs => by simp [zipD3]
  | x :: xs, y :: ys, [] => by simp [zipD3]
  | x :: xs, y :: ys, z :: zs => by simp only [zipD3, List.length_cons, zipD3_len xs ys zs]; omega
theorem SqRep.get {v : V} {ds : List D} {b : Bool} (r : SqRep k F fp H v ds b) : ∃ q a vs, v = .ref a ∧ SqK k.K q H a vs ∧ vs.length = ds.length ∧ ∀ H2 fp2 F2, (∀ a, F2 a → F a ∨ H a = none) → Pm (Own F2 fp2) H2 → Tr fp H fp2 H2 → (b = true → Same H H2) → SqK k.K q H2 a vs ∧ RepL k (Own F2 fp2) H2 vs ds := by
  obtain ⟨q, a, vs, e, l1, l2, l⟩ := r
  exact ⟨q, a, vs, e, l1, l2.length, l⟩
theorem pm_none {P : Addr → Prop} (pm : Pm P H) {T : Addr} (h : H T = none) : ¬ P T := pm_free pm h
theorem si_zip (B : XB k X) {elts : List Expr} {kk : Nat} {tpos : Pos} (hg : Gl X "zip") (hm : X.mg "zip" = none) (hs : noStar a = true) (hs2 : noStar b = true) (ha : PE X a (tSq k C orc ea)) (hb : PE X b (tSq k C orc eb)) :
    PI X (.Tuple elts kk tpos) (.Call (.Name "zip" p) [a, b] [] pos) (tI k C orc (.zip ea eb)) := by
  have hpa : PA X [a, b] (tCons (tSq k C orc ea) (tCons (tSq k C orc eb) tNil)) := pa_cons ha (pa_cons hb pa_nil (star_cons hs2 _ _)) (star_cons hs _ _)
  refine pi_imp (pi_zip2 hg hm hpa (star_cons hs _ _) (by rw [star1 hs2]; rfl)) fun σ H RR ⟨F, G, fp, G', ds, bb, Ee, h, q⟩ => ?_
  rw [evIt] at h
  obtain ⟨G1, x, h1, h⟩ := R.bind_inv h
  obtain ⟨hb1, h⟩ := ite_bad h
  obtain ⟨G2, y, h2, h⟩ := R.bind_inv h
  cases h
  refine ⟨F, G, fp, G1, x.1, x.2, Ee, h1, fun H1 fp1 v E1 T1 S1 R1 => ⟨F, G1, fp1, _, y.1, y.2, E1, h2, fun H2 fp2 w E2 T2 S2 R2 => ?_⟩⟩
  obtain ⟨q1, a1, vs, e1, l1, n1, L1⟩ := (R1.tr E1 T2 E2.pm fun z => S2 (bor hb1 z)).get
  obtain ⟨q2, a2, ws, e2, l2, n2, L2⟩ := R2.get
  subst e1
  subst e2
  refine ⟨q1, q2, a1, a2, vs, ws, rfl, by rw [B.K]; exact l1, by rw [B.K]; exact l2, ?_⟩
  refine q _ H2 fp2 E2 (T1.trans T2) (fun m => by
    simp only [Py.It.mf, Bool.and_eq_true] at m
    exact same_trans (S1 m.1) (S2 m.2)) fun H3 fp3 F3 hF pm3 t s => ?_
  obtain ⟨m1, r1⟩ := L1 H3 fp3 F3 hF pm3 t fun z => s (by rw [z]; rfl)
  obtain ⟨m2, r2⟩ := L2 H3 fp3 F3 hF pm3 t fun z => s (by rw [z, Bool.or_true])
  rw [B.K, zipD_len, ← n1, ← n2]
  refine ⟨⟨rfl, vs, ws, m1, m2, rfl⟩, fun i d hd => ?_⟩
  obtain ⟨d1, d2, g1, g2, rfl⟩ := zipD_get hd
  obtain ⟨v1, g3, rv1⟩ := r1.get g1
  obtain ⟨v2, g4, rv2⟩ := r2.get g2
  have i1 := (List.getElem?_eq_some_iff.mp g3).1
  have i2 := (List.getElem?_eq_some_iff.mp g4).1
  refine ⟨⟨by omega, vs, ws, m1, m2, rfl⟩, fun u H4 ⟨T, x', y', e5, hT, e6, f1, f2⟩ => ?_⟩
  have f1 := f1 vs m1
  have f2 := f2 ws m2
  rw [g3] at f1; cases f1
  rw [g4] at f2; cases f2
  subst e5
  subst e6
  have sm : Same H3 (upd H3 T (.tup [v1, v2])) := same_new hT
  exact ⟨sm, .tup (.inl (.inl upd_same)) (.cons (rv1.mono (same_ext sm) pm3 fun a z => .inl z) (.cons (rv2.mono (same_ext sm) pm3 fun a z => .inl z) .nil))⟩
theorem si_zip3 (B : XB k X) {elts : List Expr} {kk : Nat} {tpos : Pos} (hg : Gl X "zip") (hm : X.mg "zip" = none) (hs : noStar a = true) (hs2 : noStar b = true) (hs3 : noStar c = true) (ha : PE X a (tSq k C orc ea)) (hb : PE X b (tSq k C orc eb)) (hc : PE X c (tSq k C orc ec)) :
    PI X (.Tuple elts kk tpos) (.Call (.Name "zip" p) [a, b, c] [] pos) (tI k C orc (.zip3 ea eb ec)) := by
  have hpa : PA X [a, b, c] (tCons (tSq k C orc ea) (tCons (tSq k C orc eb) (tCons (tSq k C orc ec) tNil))) := pa_cons ha (pa_cons hb (pa_cons hc pa_nil (star_cons hs3 _ _)) (star_cons hs2 _ _)) (star_cons hs _ _)
  refine pi_imp (pi_zip3 hg hm hpa (star_cons hs _ _) (by rw [star_cons hs2, star1 hs3]; rfl)) fun σ H RR ⟨F, G, fp, G', ds, bb, Ee, h, q⟩ => ?_
  rw [evIt] at h
  obtain ⟨G1, x, h1, h⟩ := R.bind_inv h
  obtain ⟨hb1, h⟩ := ite_bad h
  obtain ⟨G2, y, h2, h⟩ := R.bind_inv h
  obtain ⟨hb2, h⟩ := ite_bad h
  obtain ⟨G3, z, h3, h⟩ := R.bind_inv h
  cases h
  refine ⟨F, G, fp, G1, x.1, x.2, Ee, h1, fun H1 fp1 v E1 T1 S1 R1 => ⟨F, G1, fp1, G2, y.1, y.2, E1, h2, fun H2 fp2 w E2 T2 S2 R2 => ⟨F, G2, fp2, _, z.1, z.2, E2, h3, fun H2' fp2' w' E2' T2' S2' R3 => ?_⟩⟩⟩
  have bm : x.2 = true → eb.mf = true ∧ ec.mf = true := fun z => by have := bor hb1 z; simpa using this
  obtain ⟨q1, a1, vs, e1, l1, n1, L1⟩ := ((R1.tr E1 T2 E2.pm fun z => S2 (bm z).1).tr E2 T2' E2'.pm fun z => S2' (bm z).2).get
  obtain ⟨q2, a2, ws, e2, l2, n2, L2⟩ := (R2.tr E2 T2' E2'.pm fun z => S2' (bor hb2 z)).get
  obtain ⟨q3, a3, us, e3, l3, n3, L3⟩ := R3.get
  subst e1
  subst e2
  subst e3
  refine ⟨q1, q2, q3, a1, a2, a3, vs, ws, us, rfl, by rw [B.K]; exact l1, by rw [B.K]; exact l2, by rw [B.K]; exact l3, ?_⟩
  refine q _ H2' fp2' E2' ((T1.trans T2).trans T2') (fun m => by
    simp only [Py.It.mf, Bool.and_eq_true] at m
    exact same_trans (same_trans (S1 m.1) (S2 m.2.1)) (S2' m.2.2)) fun H3 fp3 F3 hF pm3 t s => ?_
  obtain ⟨m1, r1⟩ := L1 H3 fp3 F3 hF pm3 t fun z => s (by rw [z]; rfl)
  obtain ⟨m2, r2⟩ := L2 H3 fp3 F3 hF pm3 t fun z => s (by rw [z]; simp)
  obtain ⟨m3, r3⟩ := L3 H3 fp3 F3 hF pm3 t fun z => s (by rw [z]; simp)
  rw [B.K, zipD3_len, ← n1, ← n2, ← n3]
  refine ⟨⟨rfl, vs, ws, us, m1, m2, m3, rfl⟩, fun i d hd => ?_⟩
  obtain ⟨d1, d2, d3, g1, g2, g0, rfl⟩ := zipD3_get hd
  obtain ⟨v1, g3, rv1⟩ := r1.get g1
  obtain ⟨v2, g4, rv2⟩ := r2.get g2
  obtain ⟨v3, g5, rv3⟩ := r3.get g0
  have i1 := (List.getElem?_eq_some_iff.mp g3).1
  have i2 := (List.getElem?_eq_some_iff.mp g4).1
  have i3 := (List.getElem?_eq_some_iff.mp g5).1
  refine ⟨⟨by omega, vs, ws, us, m1, m2, m3, rfl⟩, fun u H4 ⟨T, x', y', z', e5, hT, e6, f1, f2, f3⟩ => ?_⟩
  have f1 := f1 vs m1
  have f2 := f2 ws m2
  have f3 := f3 us m3
  rw [g3] at f1; cases f1
  rw [g4] at f2; cases f2
  rw [g5] at f3; cases f3
  subst e5
  subst e6
  have sm : Same H3 (upd H3 T (.tup [v1, v2, v3])) := same_new hT
  exact ⟨sm, .tup (.inl (.inl upd_same)) (.cons (rv1.mono (same_ext sm) pm3 fun a z => .inl z) (.cons (rv2.mono (same_ext sm) pm3 fun a z => .inl z) (.cons (rv3.mono (same_ext sm) pm3 fun a z => .inl z) .nil)))⟩
end
end Py
end
section
set_option Elab.async false
set_option linter.all false
set_option maxRecDepth 100000
set_option maxHeartbeats 4000000
namespace Py
open PySem PySem.Spec PyProof.Rows L2 C8
mutual
def tgs : Tg → List Nat
  | .n i => [i]
  | .t ts => tgsL ts
  | .skip => []
def tgsL : List Tg → List Nat
  | [] => []
  | t :: ts => tgs t ++ tgsL ts
end
theorem wipe_get (G : Py.Env) (i : Nat) : ∀ vs : List Nat, (Py.wipe G vs)[i]? = if i ∈ vs ∧ i < G.length then some .dead else G[i]?
  | [] => by simp [Py.wipe]
  | v :: vs => by
    have hl : ∀ vs : List Nat, (Py.wipe G vs).length = G.length := by
      intro vs
      induction vs with
      | nil => rfl
      | cons v vs ih => show ((Py.wipe G vs).set v .dead).length = _; rw [List.length_set, ih]
    show ((Py.wipe G vs).set v .dead)[i]? = _
    by_cases e : v = i
    · subst e
      by_cases h : v < G.length
      · rw [List.getElem?_set_self (by rw [hl]; exact h)]
        simp [h]
      · rw [List.getElem?_eq_none (by rw [List.length_set, hl]; omega)]
        simp [h, List.getElem?_eq_none (Nat.le_of_not_lt h)]
    · rw [List.getElem?_set_ne e, wipe_get G i vs]
      have : i ≠ v := fun z => e z.symm
      simp [this]
theorem wipe_len (G : Py.Env) : ∀ vs : List Nat, (Py.wipe G vs).length = G.length
  | [] => rfl
  | v :: vs => by show ((Py.wipe G vs).set v .dead).length = _; rw [List.length_set, wipe_len G vs]
theorem wipeS_get (σ : St) (i : Nat) : ∀ vs : List Nat, (L2.wipe σ vs)[i]? = if i ∈ vs ∧ i < σ.length then some none else σ[i]?
  | [] => by simp [L2.wipe]
  | v :: vs => by
    show ((L2.wipe σ vs).set v none)[i]? = _
    by_cases e : v = i
    · subst e
      by_cases h : v < σ.length
      · rw [List.getElem?_set_self (by rw [wipe_length]; exact h)]
        simp [h]
      · rw [List.getElem?_eq_none (by rw [List.length_set, wipe_length]; omega)]
        simp [h, List.getElem?_eq_none (Nat.le_of_not_lt h)]
    · rw [List.getElem?_set_ne e, wipeS_get σ i vs]
      have : i ≠ v := fun z => e z.symm
      simp [this]
theorem unwipe_len (G0 G : Py.Env) : ∀ vs : List Nat, (unwipe G0 G vs).length = G.length
  | [] => rfl
  | v :: vs => by show ((unwipe G0 G vs).set v _).length = _; rw [List.length_set, unwipe_len G0 G vs]
theorem unwipe_get (G0 G : Py.Env) (i : Nat) : ∀ vs : List Nat, (unwipe G0 G vs)[i]? = if i ∈ vs ∧ i < G.length then some (G0.getD i .dead) else G[i]?
  | [] => by simp [unwipe]
  | v :: vs => by
    show ((unwipe G0 G vs).set v (G0.getD v .dead))[i]? = _
    by_cases e : v = i
    · subst e
      by_cases h : v < G.length
      · rw [List.getElem?_set_self (by rw [unwipe_len]; exact h)]
        simp [h]
      · rw [List.getElem?_eq_none (by rw [List.length_set, unwipe_len]; omega)]
        simp [h, List.getElem?_eq_none (Nat.le_of_not_lt h)]
    · rw [List.getElem?_set_ne e, unwipe_get G0 G i vs]
      have : i ≠ v := fun z => e z.symm
      simp [this]
theorem wipe_eq {σ σ' : St} {vs : List Nat} (hl : σ'.length = σ.length) (h : ∀ i, i ∉ vs → σ'[i]? = σ[i]?) : L2.wipe σ' vs = L2.wipe σ vs := by
  apply List.ext_getElem?
  intro i
  rw [wipeS_get, wipeS_get, hl]
  by_cases hi : i ∈ vs
  · by_cases hl2 : i < σ.length
    · rw [if_pos ⟨hi, hl2⟩, if_pos ⟨hi, hl2⟩]
    · rw [if_neg (fun z => hl2 z.2), if_neg (fun z => hl2 z.2), List.getElem?_eq_none (by omega), List.getElem?_eq_none (by omega)]
  · rw [if_neg (fun z => hi z.1), if_neg (fun z => hi z.1), h i hi]
section
variable {k : Ki} {C : Ctx} {orc : Orc} {X : Cx} {F : Addr → Prop} {P : Addr → Prop} {σ : St} {H H' : Hp} {G : Py.Env} {fp fp' : Fp}
def tG (k : Ki) (tg : Tg) : TG := fun v σ H Q => ∃ F G fp d G', EnvOk k F σ H G fp ∧ RepX k (Own F fp) H v d ∧ asgT tg d G = .ok G' () ∧ ∀ σ' fp', EnvOk k F σ' H G' fp' → Tr fp H fp' H → (∀ i, i ∉ tgs tg → σ'[i]? = σ[i]?) → Q σ' H
def tGs (k : Ki) (ts : List Tg) : TGs := fun vs σ H Q => ∃ F G fp ds G', EnvOk k F σ H G fp ∧ RepL k (Own F fp) H vs ds ∧ asgL ts ds G = .ok G' () ∧ ∀ σ' fp', EnvOk k F σ' H G' fp' → Tr fp H fp' H → (∀ i, i ∉ tgsL ts → σ'[i]? = σ[i]?) → Q σ' H
theorem pg_imp {tg : Expr} {t t' : TG} (h : PG X tg t) (i : ∀ v σ H Q, t' v σ H Q → t v σ H Q) : PG X tg t' := ⟨fun pins s σ H v u Q I r q => h.run pins s σ H v u Q I r (i v σ H Q q)⟩
theorem pgs_imp {ts : List Expr} {t t' : TGs} (h : PGs X ts t) (i : ∀ v σ H Q, t' v σ H Q → t v σ H Q) : PGs X ts t' := ⟨fun pins s σ H v u Q I r q => h.run pins s σ H v u Q I r (i v σ H Q q)⟩
theorem sg_n {i : Nat} {x : Str} {pos : Pos} (hN : X.N.Nodup) (hi : X.N[i]? = some x) (hx : Loc X.env.scope x) (hf : X.fn x = true ∨ X.env.scope.names.lookup x = some .local) : PG X (.Name x pos) (tG k (.n i)) := by
  refine pg_imp (pg_name hN hi hx hf) fun v σ H Q ⟨F, G, fp, d, G', E1, r, h, q⟩ => ?_
  simp only [asgT] at h
  split at h
  · rename_i hl
    cases h
    refine q _ _ (E1.store (v := some v) (of_decide_eq_true hl) ⟨⟨v, rfl, r.sub own_less E1.pm⟩, rfl⟩ fun m z => by cases z) tr_less fun j hj => ?_
    rw [List.getElem?_set_ne]
    intro e
    exact hj (by rw [← e]; exact List.mem_singleton.mpr rfl)
  · cases h
theorem sgs_nil : PGs X [] (tGs k []) := pgs_imp pgs_nil fun vs σ H Q ⟨F, G, fp, ds, G', E1, r, h, q⟩ => by
  cases r with
  | nil =>
    simp only [asgL] at h
    cases h
    exact ⟨rfl, q σ fp E1 (.refl _ _) fun _ _ => rfl⟩
  | cons _ _ => simp [asgL] at h
theorem asg_star {e : Expr} (h : noStar e = true) (es : List Expr) (env : PySem.Env) : assignEach (e :: es) env = (false, assign e env) :: assignEach es env := by
  cases e <;> first | rfl | cases h
theorem sgs_cons {e : Expr} {es : List Expr} {t : Tg} {ts : List Tg} (hs : noStar e = true) (h1 : PG X e (tG k t)) (h2 : PGs X es (tGs k ts)) : PGs X (e :: es) (tGs k (t :: ts)) := by
  refine pgs_imp (pgs_cons h1 h2 (by rw [asg_star hs]; rfl)) fun vs σ H Q ⟨F, G, fp, ds, G', E1, r, h, q⟩ => ?_
  cases r with
  | nil => simp [asgL] at h
  | @cons v d vs ds rv rvs =>
    simp only [asgL] at h
    obtain ⟨G1, u, h1, h2⟩ := R.bind_inv h
    refine ⟨v, vs, rfl, F, G, fp, d, G1, E1, rv, h1, fun σ1 fp1 E2 T1 s1 => ⟨F, G1, fp1, ds, G', E2, T1.repL E1.pm rvs, h2, fun σ2 fp2 E3 T2 s2 => q σ2 fp2 E3 (T1.trans T2) fun i hi => ?_⟩⟩
    have hi' : i ∉ tgs t ∧ i ∉ tgsL ts := by
      have : i ∉ tgs t ++ tgsL ts := hi
      simpa using this
    rw [s2 i hi'.2, s1 i hi'.1]
theorem asgL_len : ∀ {ts : List Tg} {ds : List D} {G G' : Py.Env}, asgL ts ds G = .ok G' () → ds.length = ts.length
  | [], [], _, _, _ => rfl
  | [], _ :: _, _, _, h => by simp [asgL] at h
  | _ :: _, [], _, _, h => by simp [asgL] at h
  | t :: ts, d :: ds, G, G', h => by
    simp only [asgL] at h
    obtain ⟨G1, u, h1, h2⟩ := R.bind_inv h
    rw [List.length_cons, List.length_cons, asgL_len h2]
theorem asg_len : ∀ {es : List Expr}, es.all noStar = true → ∀ env : PySem.Env, (assignEach es env).length = es.length ∧ (assignEach es env).findIdx? (·.1) = none
  | [], _, _ => ⟨rfl, rfl⟩
  | e :: es, h, env => by
    rw [List.all_cons, Bool.and_eq_true] at h
    obtain ⟨h1, h2⟩ := asg_len (es := es) h.2 env
    rw [asg_star h.1]
    refine ⟨by rw [List.length_cons, List.length_cons, h1], ?_⟩
    rw [List.findIdx?_cons]
    simp [h2]
theorem sg_t (B : XB k X) {es : List Expr} {ts : List Tg} {j : Nat} {pos : Pos} (hs : es.all noStar = true) (hl : es.length = ts.length) (h : PGs X es (tGs k ts)) : PG X (.Tuple es j pos) (tG k (.t ts)) := by
  obtain ⟨a1, a2⟩ := asg_len hs X.env
  have both : PG X (.Tuple es j pos) (fun v σ H Q => gTup X.K ts.length (tGs k ts) v σ H Q ∨ gUnl X.K ts.length (tGs k ts) v σ H Q) :=
    ⟨fun pins s σ H v u Q I r q => q.elim (fun q => (pg_tup B.calm h (a1.trans hl) a2).run pins s σ H v u Q I r q) fun q => (pg_unl B.calm h (a1.trans hl) a2).run pins s σ H v u Q I r q⟩
  refine pg_imp both fun v σ H Q ⟨F, G, fp, d, G', E1, r, h, q⟩ => ?_
  cases r with
  | @tup a vs ds ht rl =>
    have h : asgL ts ds G = .ok G' () := by simpa [asgT] using h
    exact .inl ⟨a, vs, rfl, by rw [B.K]; exact ht, by rw [rl.length]; exact asgL_len h, F, G, fp, ds, G', E1, rl, h, fun σ' fp' E2 T s => q σ' fp' E2 T fun i hi => s i hi⟩
  | @lst a vs ds ht rl =>
    have h : asgL ts ds G = .ok G' () := by simpa [asgT] using h
    exact .inr ⟨a, vs, rfl, by rw [B.K]; exact ht.sq, by rw [rl.length]; exact asgL_len h, F, G, fp, ds, G', E1, rl, h, fun σ' fp' E2 T s => q σ' fp' E2 T fun i hi => s i hi⟩
  | _ => simp [asgT] at h
/-! tests of a comprehension -/
def tF (k : Ki) (C : Ctx) (orc : Orc) (es : List E) : TT := fun σ H Q => ∃ F G fp G' b, EnvOk k F σ H G fp ∧ evIfs C orc es G = .ok G' b ∧ ∀ H' fp', EnvOk k F σ H' G' fp' → Tr fp H fp' H' → (E.mfL es = true → Same H H') → Q b H'
theorem pts_imp {es : List Expr} {t t' : TT} (h : PTs X es t) (i : ∀ σ H Q, t' σ H Q → t σ H Q) : PTs X es t' := ⟨fun pins s σ H Q I q => h.run pins s σ H Q I (i σ H Q q)⟩
theorem sf_nil : PTs X [] (tF k C orc []) := pts_imp pts_nil fun σ H Q ⟨F, G, fp, G', b, Ee, h, q⟩ => by
  rw [evIfs] at h
  cases h
  exact q H fp Ee (.refl _ _) fun _ => ssame
theorem sf_one {c : Expr} {e : E} (h : PT X c (tT k C orc e)) : PTs X [c] (tF k C orc [e]) := pts_imp (pts_one h) fun σ H Q ⟨F, G, fp, G', b, Ee, h, q⟩ => by
  rw [evIfs] at h
  obtain ⟨G1, x, h1, h⟩ := R.bind_inv h
  refine ⟨F, G, fp, G1, x, Ee, h1, fun H1 fp1 E1 T1 S1 => ?_⟩
  cases x with
  | true =>
    simp only [if_true] at h
    rw [evIfs] at h
    cases h
    exact q H1 fp1 E1 T1 fun m => by simp only [Py.E.mfL, Bool.and_eq_true] at m; exact S1 m.1
  | false =>
    simp only [Bool.false_eq_true, if_false] at h
    cases h
    exact q H1 fp1 E1 T1 fun m => by simp only [Py.E.mfL, Bool.and_eq_true] at m; exact S1 m.1
/-! ### the environment of a comprehension -/
def fpWipe (fp : Fp) (vs : List Nat) : Fp := fun i => if i ∈ vs then [] else fp i
theorem fpWipe_sub {vs : List Nat} {i : Nat} {a : Addr} (h : a ∈ fpWipe fp vs i) : a ∈ fp i := by
  unfold fpWipe at h
  split at h
  · cases h
  · exact h
theorem ownWipe {vs : List Nat} : ∀ a, Own F (fpWipe fp vs) a → Own F fp a := fun a q => q.imp id fun ⟨i, h⟩ => ⟨i, fpWipe_sub h⟩
theorem EnvOk.wipe (E1 : EnvOk k F σ H G fp) (vs : List Nat) : EnvOk k F (L2.wipe σ vs) H (Py.wipe G vs) (fpWipe fp vs) where
  len := by rw [wipe_length, wipe_len]; exact E1.len
  slot := fun i => by
    rw [wipe_get, wipeS_get, E1.len]
    by_cases hi : i ∈ vs
    · have hf : fpWipe fp vs i = [] := by unfold fpWipe; rw [if_pos hi]
      rw [hf]
      by_cases hl : i < G.length
      · rw [if_pos ⟨hi, hl⟩, if_pos ⟨hi, hl⟩]; exact rfl
      · rw [if_neg (fun z => hl z.2), if_neg (fun z => hl z.2), List.getElem?_eq_none (Nat.le_of_not_lt hl)]; exact rfl
    · rw [if_neg (fun z => hi z.1), if_neg (fun z => hi z.1)]
      have hf : fpWipe fp vs i = fp i := by unfold fpWipe; rw [if_neg hi]
      rw [hf]
      have hs := E1.slot i
      cases hg : G[i]? with
      | none => rw [hg] at hs; exact hs
      | some sl =>
        rw [hg] at hs
        cases sl with
        | dead => exact hs
        | sh d => obtain ⟨⟨x, e, r⟩, z⟩ := hs; exact ⟨⟨x, e, r.sub ownWipe E1.pm⟩, z⟩
        | ow m => obtain ⟨x, e, r⟩ := hs; exact ⟨x, e, r.mono Ext.refl E1.pm (fun a q => .inl (ownWipe a q)) fun _ _ => rfl⟩
  nd := fun i => by
    unfold fpWipe
    split
    · exact List.nodup_nil
    · exact E1.nd i
  dj := fun i j a h1 h2 => E1.dj i j a (fpWipe_sub h1) (fpWipe_sub h2)
  df := fun i a h => E1.df i a (fpWipe_sub h)
  pm := E1.pm.sub ownWipe
theorem tr_wipe {vs : List Nat} : Tr fp H (fpWipe fp vs) H := ⟨fun _ _ h _ => h, fun i a h => .inl ⟨i, fpWipe_sub h⟩, fun _ h => h⟩
/-- the slots' heap changed where nobody looks -/
theorem EnvOk.chg (E1 : EnvOk k F σ H G fp) {F' : Addr → Prop} {D : Addr} {o : HO} (hF : ∀ a, F' a ↔ F a ∨ a = D) (hD : F D ∨ H D = none) (hm : Mut (some o)) : EnvOk k F' σ (upd H D o) G fp := by
  have nD : ∀ i, D ∉ fp i := fun i q => by
    rcases hD with z | z
    · exact E1.df i D q z
    · exact pm_free E1.pm z (.inr ⟨i, q⟩)
  have sub : ∀ a, Own F' fp a → Own F fp a ∨ H a = none := fun a q => by
    rcases q with q | q
    · rcases (hF a).mp q with z | z
      · exact .inl (.inl z)
      · rw [z]; exact hD.imp (fun z => .inl z) id
    · exact .inl (.inr q)
  have ext : Ext (Own F fp) H (upd H D o) := fun b u h n => by
    by_cases e : b = D
    · rw [e] at h n
      rcases hD with z | z
      · exact absurd (.inl z) n
      · rw [z] at h; cases h
    · rw [upd_ne e]; exact h
  refine ⟨E1.len, fun i => ?_, E1.nd, E1.dj, fun i a h z => ?_, fun a q => ?_⟩
  · have hs := E1.slot i
    cases hg : G[i]? with
    | none => rw [hg] at hs; exact hs
    | some sl =>
      rw [hg] at hs
      cases sl with
      | dead => exact hs
      | sh d => obtain ⟨⟨x, e, r⟩, z⟩ := hs; exact ⟨⟨x, e, r.mono ext E1.pm sub⟩, z⟩
      | ow m => obtain ⟨x, e, r⟩ := hs; exact ⟨x, e, r.mono ext E1.pm sub fun a h => upd_ne fun z => nD i (by rw [← z]; exact h)⟩
  · rcases (hF a).mp z with z | z
    · exact E1.df i a h z
    · exact nD i (by rw [← z]; exact h)
  · by_cases e : a = D
    · rw [e, upd_same]; exact hm
    · rw [upd_ne e]
      rcases sub a q with z | z
      · exact E1.pm a z
      · rcases q with q | ⟨i, q⟩
        · rcases (hF a).mp q with y | y
          · exact E1.pm a (.inl y)
          · exact absurd y e
        · exact E1.pm a (.inr ⟨i, q⟩)
/-- the frame forgotten in part -/
theorem own_frame {F' : Addr → Prop} (h : ∀ a, F a → F' a) : ∀ a, Own F fp a → Own F' fp a := fun a q => q.imp (h a) id
/-- back in the def -/
theorem EnvOk.unwipe {F' F1 : Addr → Prop} {G1 : Py.Env} {fp1 : Fp} {H1 : Hp} {vs : List Nat} (E1 : EnvOk k F1 σ H1 G1 fp1) (E2 : EnvOk k F' (L2.wipe σ vs) H G fp) (hF : ∀ a, F a → F' a) (hF1 : ∀ a, F a → F1 a ∨ H1 a = none) (T : Tr fp1 H1 fp H) (ha : anyOw G1 vs = false)
    (hd : ∀ v ∈ vs, ∀ s, G[v]? = some s → s = .dead) : EnvOk k F σ H (Py.unwipe G1 G vs) fp where
  len := by rw [unwipe_len, ← E2.len, wipe_length]
  slot := fun i => by
    rw [unwipe_get]
    have lG : G.length = σ.length := by rw [← E2.len, wipe_length]
    have lG1 : σ.length = G1.length := E1.len
    by_cases hi : i ∈ vs
    · have hf : fp i = [] := by
        have := E2.slot i
        cases hg : G[i]? with
        | none => rw [hg] at this; exact this
        | some s => rw [hg, hd i hi s hg] at this; exact this
      by_cases hl : i < G.length
      · rw [if_pos ⟨hi, hl⟩, hf]
        have hs := E1.slot i
        have g1 : G1[i]? = some G1[i] := List.getElem?_eq_getElem (by omega)
        rw [List.getD_eq_getElem?_getD, g1]
        rw [g1] at hs
        have no : (G1.getD i .dead).isOw = false := by
          unfold anyOw at ha
          exact (by simpa using (List.any_eq_false.mp ha) i hi)
        rw [List.getD_eq_getElem?_getD, g1] at no
        show SlotOk k _ H σ[i]? [] (some G1[i])
        have no : (G1[i]).isOw = false := no
        generalize G1[i] = s at hs no
        cases s with
        | dead => exact rfl
        | sh d =>
          obtain ⟨⟨x, e, r⟩, z⟩ := hs
          exact ⟨⟨x, e, r.mono T.ext E1.pm fun a q => q.elim (fun q => (hF1 a q).imp (fun z => .inl z) id) fun ⟨i, q⟩ => (T.new i a q).imp (fun z => .inr z) id⟩, rfl⟩
        | ow m => cases no
      · rw [if_neg (fun z => hl z.2), List.getElem?_eq_none (Nat.le_of_not_lt hl), hf]; exact rfl
    · rw [if_neg (fun z => hi z.1)]
      have hs := E2.slot i
      rw [wipeS_get, if_neg (fun z => hi z.1)] at hs
      cases hg : G[i]? with
      | none => rw [hg] at hs; exact hs
      | some sl =>
        rw [hg] at hs
        cases sl with
        | dead => exact hs
        | sh d => obtain ⟨⟨x, e, r⟩, z⟩ := hs; exact ⟨⟨x, e, r.sub (own_frame hF) E2.pm⟩, z⟩
        | ow m => obtain ⟨x, e, r⟩ := hs; exact ⟨x, e, r.mono Ext.refl E2.pm (fun a q => .inl (own_frame hF a q)) fun _ _ => rfl⟩
  nd := E2.nd
  dj := E2.dj
  df := fun i a h z => E2.df i a h (hF a z)
  pm := E2.pm.sub (own_frame hF)
end
end Py
end
section
set_option Elab.async false
set_option linter.all false
set_option maxRecDepth 100000
set_option maxHeartbeats 4000000
namespace Py
open PySem PySem.Spec PyProof.Rows L2 C8
/-! ### enumerate -/
theorem meets_enum_B {v : Value} {o : Obj} {H : Heap → Prop} (B : Begins v o H) :
    Meets (Builtin.«enumerate.__new__» ⟨[.type "enumerate", v], []⟩) (fun _ R s => H s.heap ∧
      R (.ok (.ret (.ref (s.heap.push o).objs.size))) { s with heap := (s.heap.push o).push { cls := .type "enumerate", data := .fields #[.none, .bool false, .ref s.heap.objs.size, rawInt 0, .none, .none] } }) :=
  .of_wp fun prog w A R s h => by
    obtain ⟨hp, g, d, tk, os⟩ := s; obtain ⟨h1, h⟩ := h
    have hsub := sub_enumerate
    have q1 : ∀ {A' : Around} {E : Value → Shared → Prop} {Q : Value → Shared → Prop}, Q (.ref hp.objs.size) ⟨hp.push o, g, d, tk, os⟩ → wpAny (model prog w) A' (pyIter v) Q E ⟨hp, g, d, tk, os⟩ :=
      fun q => B.iter prog w _ _ ⟨hp, g, d, tk, os⟩ _ h1 q
    wp_walk using q1
    refine wpAny_stack_any fun st => wpAny_pure ?_
    split
    · rename_i c _ _ _ _ _
      cases (c == Value.type "enumerate")
      · wp_walk using q1
        exact ⟨_, rfl, h⟩
      · wp_walk using q1
        exact ⟨_, rfl, h⟩
    · wp_walk using q1
      exact ⟨_, rfl, h⟩
theorem enum_begins1 {prog : Program} {w : World} {A : Around} {E : Value → Shared → Prop} {s : Shared} {v : Value} {o : Obj} {H : Heap → Prop} {Q : Value → Shared → Prop} (B : Begins v o H) (h1 : H s.heap)
    (h : ∀ h', IsEnum h' (s.heap.objs.size + 1) s.heap.objs.size 0 .none → h'.get? s.heap.objs.size = some o → h'.objs.size = s.heap.objs.size + 2 →
      (∀ b o, s.heap.get? b = some o → h'.get? b = some o) → Q (.ref (s.heap.objs.size + 1)) { s with heap := h' }) :
    wpAny (model prog w) A (call (.type "enumerate") [v]) Q E s := by
  refine callType_new F.called_enumerate (by decide) (F.typeCall_enumerate_1 _) (F.newCall_enumerate_1 _) (fun obj => F.args_object_init_2 obj _) F.entry_enumerate_new
    (meets_enum_B B) ⟨h1, ?_⟩
  have hz : (s.heap.push o).objs.size = s.heap.objs.size + 1 := Heap.size_push ..
  show _ ∧ _
  rw [hz]
  have he : IsEnum ((s.heap.push o).push { cls := .type "enumerate", data := .fields #[.none, .bool false, .ref s.heap.objs.size, rawInt 0, .none, .none] }) (s.heap.objs.size + 1) s.heap.objs.size 0 .none := by
    have := Heap.get?_push_size (s.heap.push o) (o := { cls := .type "enumerate", data := .fields #[.none, .bool false, .ref s.heap.objs.size, rawInt 0, .none, .none] }) rfl
    rw [hz] at this; exact this
  refine ⟨⟨_, he, rfl⟩, h _ he (Heap.get?_push_of_some _ (Heap.get?_push_size _ B.free)) (by rw [Heap.size_push, hz]) fun b o x => Heap.get?_push_of_some _ (Heap.get?_push_of_some _ x)⟩
def Ite2 (K : PySem.W.Frag) (q : Bool) (a : Addr) (n : Nat) : L2.It :=
  ⟨fun i H => i < n ∧ ∃ xs, SqK K q H a xs ∧ n = xs.length,
   fun i H v H' => ∃ T x, v = .ref T ∧ H T = none ∧ H' = upd H T (.tup [.int (i : Nat), x]) ∧ ∀ xs, SqK K q H a xs → xs[i]? = some x,
   fun i H => i = n ∧ ∃ xs, SqK K q H a xs ∧ n = xs.length⟩
theorem turn_enum2 {P : Program} {w : World} {K : PySem.W.Frag} {elts : List Expr} {kk : Nat} {tpos : Pos} {q : Bool} {a e it : Addr} {n : Nat} (hne : e ≠ it) (hai : a ≠ it) (hae : a ≠ e) :
    Turn P w K (.Tuple elts kk tpos) (Ite2 K q a n) [e, it] e (fun i h => (∃ old, IsEnum h e it ((i : Nat) : Int) old) ∧ ItSt q h it a i) where
  mem := by simp
  obj := fun i h st b hb => by
    obtain ⟨⟨old, he⟩, s1⟩ := st
    have e' : b = e ∨ b = it := by simpa using hb
    rcases e' with z | z
    · rw [z]; exact ⟨_, he, fun v q => nomatch q⟩
    · rw [z]; exact s1.obj
  keep := fun i h h' st k => let ⟨⟨old, he⟩, s1⟩ := st; ⟨⟨old, k e (by simp) _ he⟩, s1.keep fun o q => k it (by simp) o q⟩
  item := by
    intro X hP hw hK hc i pins s σ H E I hf st hg
    subst hP hw hK
    obtain ⟨⟨old, he⟩, s1⟩ := st
    obtain ⟨hi, xs, hx, hn⟩ := hg
    obtain ⟨its, r1, p1⟩ := inv_seq I hx
    have l1 := r1.length
    have hel : e < s.heap.objs.size := Heap.lt_size he
    have hh : X.A.in1.handled = none := I.ok.hd hc
    refine wpAny_pyNext_enum_itemD (draws_k q hh it a hai its.toArray) he ⟨s1, p1⟩ (by simp; omega) hne (by simp [hne, Ne.symm hae]) fun u h' tk e1 ho t1 hT hsz hk => ?_
    refine ⟨_, rfl, wpAny_letOwnedTupleGo_enum (s := { s with heap := h', toks := tk + 1 }) ho fun h'' he' sb => ?_⟩
    have hT2 : h''.get? s.heap.objs.size = some { cls := .type "tuple", data := .seq #[.int i tk, u] } := (sb.2 _ (Nat.ne_of_gt hel)).trans hT
    obtain ⟨v1, e4, rv1⟩ : ∃ v, xs[i]? = some v ∧ RelV v u := by
      have h0 : its[i]? = some u := by simpa using e1
      have hl : i < xs.length := by omega
      obtain ⟨u', e5, r5⟩ := r1.get (List.getElem?_eq_getElem hl)
      rw [h0] at e5; cases e5
      exact ⟨_, List.getElem?_eq_getElem hl, r5⟩
    have new : ObjOk X.prog X.w (upd H s.heap.objs.size (.tup [.int (i : Nat), v1])) h'' s.heap.objs.size (.tup [.int (i : Nat), v1]) :=
      ⟨by show 2 ≤ sizeLine; decide, [.int i tk, u], .cons ⟨_, rfl⟩ (.cons rv1 .nil), ⟨_, hT2, rfl, _, rfl⟩⟩
    have I1 : Inv X pins σ (upd H s.heap.objs.size (.tup [.int (i : Nat), v1])) { s with heap := h'', toks := tk + 1 } :=
      I.turnedNew (ch := [e, it]) (fun b ob hb q => (sb.2 b (fun z => hb (by simp [z]))).trans (hk b ob (fun z => hb (by simp [z])) (fun z => hb (by simp [z])) q)) hf (Nat.le_refl _) new
    refine ⟨.ref s.heap.objs.size, _, I1, rfl, ⟨_, v1, rfl, I.hok.fresh (Nat.le_refl _), rfl, fun ys hy => by rw [inv_inj I hy hx]; exact e4⟩, ⟨⟨u, ?_⟩, t1.1.keep fun o z => (sb.2 it (Ne.symm hne)).trans z⟩, fun b hb => ?_⟩
    · have e1 : ((i + 1 : Nat) : Int) = (i : Int) + 1 := by omega
      rw [e1]; exact he'
    · have hb' : b < s.heap.objs.size := by
        have e' : b = e ∨ b = it := by simpa using hb
        rcases e' with z | z
        · rw [z]; exact hel
        · rw [z]; exact s1.lt
      rw [upd_ne (Nat.ne_of_lt hb')]
      exact (hf b hb).1
  done := by
    intro X hP hw hK hc i pins s σ H E I hf st hg
    subst hP hw hK
    obtain ⟨⟨old, he⟩, s1⟩ := st
    obtain ⟨hi, xs, hx, hn⟩ := hg
    obtain ⟨its, r1, p1⟩ := inv_seq I hx
    have l1 := r1.length
    have hh : X.A.in1.handled = none := I.ok.hd hc
    obtain ⟨f0, f1, f2, f3, f4, f5⟩ := hf it (by simp)
    have es : its.toArray.size = i := by simp; omega
    refine wpAny_pyNext_enum_endD (draws_k q hh it a hai its.toArray) he (by rw [es]; exact ⟨s1, p1⟩) fun h' eb => ⟨rfl, I.turned (t' := s.toks) (fun b o hb q => eb b o hb q) f0 f1 f3 f4 f5⟩
  self := fun A i s Q E st h => let ⟨⟨_, he⟩, _⟩ := st; wpAny_pyIter_enum he h
def iEnum2 (K : PySem.W.Frag) (ta : TA) : TI := fun σ H R => ta σ H fun vs H1 => ∃ q a xs, vs = [.ref a] ∧ SqK K q H1 a xs ∧ R (Ite2 K q a xs.length) H1
theorem pi_enum2 {X : Cx} {e : Expr} {ta : TA} {p pos tpos : Pos} {elts : List Expr} {kk : Nat} (hg : Gl X "enumerate") (hm : X.mg "enumerate" = none) (ha : PA X [e] ta) (hs : starEach [e] X.env = [(false, eval e X.env)]) :
    PI X (.Tuple elts kk tpos) (.Call (.Name "enumerate" p) [e] [] pos) (iEnum2 X.K ta) := by
  refine ⟨fun pins s σ H R I h => ?_⟩
  refine Call_ (ld_blt I hg hm boot_enumerate (PyProof.Rows.callWith_type1 (thn (ha.run pos pins s σ H _ I h) fun us s1 ⟨vs, H1, I1, r1, q1⟩ => ?_) hs rfl))
  obtain ⟨q, a, xs, ex, hx, qq⟩ := q1
  subst ex
  cases r1 with
  | cons r rr =>
    cases rr
    cases r
    obtain ⟨its1, rv1, p1⟩ := inv_seq I1 hx
    refine enum_begins1 (begins_k q a its1.toArray) p1 fun h' he g1 hsz hk => wpAny_pyIter_enum he ?_
    have I2 : Inv X pins σ H1 { s1 with heap := h' } := I1.kept (t' := s1.toks) hk
    have la := p1.lt
    refine ⟨s1.heap.objs.size + 1, [s1.heap.objs.size + 1, s1.heap.objs.size], _, _, H1, rfl, I2, turn_enum2 (Nat.succ_ne_self _) (Nat.ne_of_lt la) (Nat.ne_of_lt (Nat.lt_succ_of_lt la)), ⟨⟨.none, he⟩, itOb_st g1⟩, fun b hb => ?_, qq⟩
    have e' : b = s1.heap.objs.size + 1 ∨ b = s1.heap.objs.size := by simpa using hb
    have hle : s1.heap.objs.size ≤ b := by
      rcases e' with z | z
      · rw [z]; exact Nat.le_add_right _ _
      · rw [z]; exact Nat.le_refl _
    exact I1.fpOk hle (I1.hok.fresh hle)
theorem enumD_get : ∀ {xs : List D} {n i : Nat} {d : D}, (enumD n xs)[i]? = some d → ∃ x, xs[i]? = some x ∧ d = .tup [.int ((n + i : Nat) : Int), x]
  | [], n, i, d, h => by simp [enumD] at h
  | x :: xs, n, 0, d, h => by simp [enumD] at h; exact ⟨x, rfl, by rw [← h]; rfl⟩
  | x :: xs, n, i + 1, d, h => by
    obtain ⟨x', h1, h3⟩ := enumD_get (xs := xs) (n := n + 1) (i := i) (d := d) (by simpa [enumD] using h)
    exact ⟨x', by simpa using h1, by rw [h3, show n + 1 + i = n + (i + 1) by omega]⟩
theorem enumD_len : ∀ (xs : List D) (n : Nat), (enumD n xs).length = xs.length
  | [], _ => rfl
  | x :: xs, n => by rw [enumD, List.length_cons, enumD_len xs]; rfl
section
variable {k : Ki} {C : Ctx} {orc : Orc} {X : Cx} {F : Addr → Prop} {P : Addr → Prop} {σ : St} {H H' : Hp} {G : Py.Env} {fp fp' : Fp}
variable {a : Expr} {ea : E} {p pos : Pos}
theorem si_enum (B : XB k X) {elts : List Expr} {kk : Nat} {tpos : Pos} (hg : Gl X "enumerate") (hm : X.mg "enumerate" = none) (hs : noStar a = true) (ha : PE X a (tSq k C orc ea)) :
    PI X (.Tuple elts kk tpos) (.Call (.Name "enumerate" p) [a] [] pos) (tI k C orc (.enum ea)) := by
  have hpa : PA X [a] (tCons (tSq k C orc ea) tNil) := pa_cons ha pa_nil (star_cons hs _ _)
  refine pi_imp (pi_enum2 hg hm hpa (star1 hs _)) fun σ H RR ⟨F, G, fp, G', ds, bb, Ee, h, q⟩ => ?_
  rw [evIt] at h
  obtain ⟨G1, x, h1, h⟩ := R.bind_inv h
  cases h
  refine ⟨F, G, fp, _, x.1, x.2, Ee, h1, fun H1 fp1 v E1 T1 S1 R1 => ?_⟩
  obtain ⟨q1, a1, vs, e1, l1, n1, L1⟩ := R1.get
  subst e1
  refine ⟨q1, a1, vs, rfl, by rw [B.K]; exact l1, ?_⟩
  refine q _ H1 fp1 E1 T1 (fun m => S1 (by simpa only [Py.It.mf] using m)) fun H3 fp3 F3 hF pm3 t s => ?_
  obtain ⟨m1, r1⟩ := L1 H3 fp3 F3 hF pm3 t s
  rw [B.K, enumD_len, ← n1]
  refine ⟨⟨rfl, vs, m1, rfl⟩, fun i d hd => ?_⟩
  obtain ⟨d1, g1, rfl⟩ := enumD_get hd
  obtain ⟨v1, g3, rv1⟩ := r1.get g1
  have i1 := (List.getElem?_eq_some_iff.mp g3).1
  refine ⟨⟨by omega, vs, m1, rfl⟩, fun u H4 ⟨T, x', e5, hT, e6, f1⟩ => ?_⟩
  have f1 := f1 vs m1
  rw [g3] at f1; cases f1
  subst e5
  subst e6
  have sm : Same H3 (upd H3 T (.tup [.int (i : Nat), v1])) := same_new hT
  exact ⟨sm, .tup (.inl (.inl upd_same)) (.cons (by rw [Nat.zero_add]; exact .int _) (.cons (rv1.mono (same_ext sm) pm3 fun a z => .inl z) .nil))⟩
end
end Py
end
section
set_option Elab.async false
set_option linter.all false
set_option maxRecDepth 100000
set_option maxHeartbeats 4000000
namespace Py
open PySem PySem.Spec PyProof.Rows L2 C8
section
variable {k : Ki} {C : Ctx} {orc : Orc} {X : Cx} {F : Addr → Prop} {P : Addr → Prop} {σ : St} {H H' : Hp} {G : Py.Env} {fp fp' : Fp}
/-- the reading of an expression that gives a new list or dict -/
def tEf (k : Ki) (C : Ctx) (orc : Orc) (e : E) : TE := fun σ H Q => ∃ F G fp G' d, EnvOk k F σ H G fp ∧ ev C orc e G = .ok G' (d, false) ∧ ∀ H' fp' v m, EnvOk k F σ H' G' fp' → Tr fp H fp' H' → (e.mf = true → Same H H') → RepX k (Own F fp') H' v d → own1 d = some m → Fr k F σ fp H G' fp' H' v m → Q v H'
theorem tEf_of {e : E} (hb : ∀ G G' d b, ev C orc e G = .ok G' (d, b) → b = false) {σ : St} {H : Hp} {Q : VK} (h : tE k C orc e σ H Q) : tEf k C orc e σ H Q := by
  obtain ⟨F, G, fp, G', d, b, Ee, h, q⟩ := h
  have := hb _ _ _ _ h
  subst this
  exact ⟨F, G, fp, G', d, Ee, h, fun H' fp' v m E' T S R _ _ => q H' fp' v E' T S R⟩
theorem pe_ef {e : Expr} {ie : E} (hb : ∀ G G' d b, ev C orc ie G = .ok G' (d, b) → b = false) (h : PE X e (tEf k C orc ie)) : PE X e (tE k C orc ie) := pe_imp h fun _ _ _ h => tEf_of hb h
theorem leaves_rep {vs : List V} {ds : List D} (r : RepL k P H vs ds) : RepMs k P H vs (ds.map .leaf) [] := RepMs.leaves r
/-- a new list just laid -/
theorem fr_new {a : Addr} {vs : List V} {ds : List D} {o : HO} (E1 : EnvOk k F σ H G fp) (hn : H a = none) (ho : o = .lst vs) (r : RepL k (Own F fp) H vs ds) : Fr k F σ fp H G fp (upd H a o) (.ref a) (.lst (ds.map .leaf)) := by
  subst ho
  have s : Same H (upd H a (.lst vs)) := same_new hn
  refine ⟨a, rfl, E1.fresh s hn (by rw [upd_same]; trivial), .lst upd_same (leaves_rep (r.mono (same_ext s) E1.pm fun x q => ?_)), .inr hn⟩
  rcases q with (q | q) | q
  · exact .inl (.inl q)
  · rw [q]; exact .inr hn
  · exact .inl (.inr q)
theorem Fr.tr {fp0 : Fp} {H0 : Hp} {G' : Py.Env} {v : V} {m : M} (t : Tr fp0 H0 fp H) (f : Fr k F σ fp H G' fp' H' v m) : Fr k F σ fp0 H0 G' fp' H' v m := by
  obtain ⟨a, e, Ea, r, h⟩ := f
  refine ⟨a, e, Ea, r, ?_⟩
  rcases h with ⟨j, h⟩ | h
  · exact t.new j a h
  · exact .inr (t.stay a h)
theorem sef_lst {es : List Expr} {ies : List E} {pos : Pos} (hl : ies.length ≤ 10000) (h : PA X es (tEs k C orc ies)) : PE X (.List es pos) (tEf k C orc (.lst ies)) := by
  refine pe_imp (pe_lst h) fun σ H Q ⟨F, G, fp, G', d, Ee, h, q⟩ => ?_
  rw [ev] at h
  obtain ⟨G1, r, h1, h⟩ := R.bind_inv h
  obtain ⟨hb1, h⟩ := ite_bad h
  cases h
  refine ⟨F, G, fp, _, r.1, r.2, Ee, h1, fun H1 fp1 vs E1 T1 S1 R1 => ⟨?_, fun p hp => ?_⟩⟩
  · rw [R1.length, evs_len (ds := r.1) (b := r.2) h1, sizeLine_eq]; omega
  · rw [hb1] at R1
    have s : Same H1 (upd H1 p (.lst vs)) := same_new hp
    exact q _ fp1 _ _ (E1.same s) (T1.trans (same_tr s)) (fun m => by simp only [Py.E.mf] at m; exact same_trans (S1 m) s)
      (.lst ⟨upd_same, pm_free E1.pm hp⟩ (RepL.mono (same_ext s) E1.pm (fun a z => .inl z) R1)) rfl ((fr_new E1 hp rfl R1).tr T1)
theorem sef_dic0 {pos : Pos} : PE X (.Dict [] [] pos) (tEf k C orc .dic0) := by
  refine pe_imp pe_dnewK fun σ H Q ⟨F, G, fp, G', d, Ee, h, q⟩ => ?_
  rw [ev] at h
  cases h
  intro p hp
  have s : Same H (upd H p (.dK [])) := same_new hp
  exact q _ fp _ _ (Ee.same s) (same_tr s) (fun m => s) (.dic upd_same (pm_free Ee.pm hp) rfl .nil) rfl ⟨p, rfl, Ee.fresh s hp (by rw [upd_same]; trivial), .dic upd_same rfl .nil, .inr hp⟩
/-- a turn of a comprehension, on data -/
def lcTurn (C : Ctx) (orc : Orc) (own : List Nat) (tg : Tg) (ifs : List E) (elt : E) (d : D) (G2 : Py.Env) : R (List D) :=
  (asgT tg d G2).bind fun G3 _ => (evIfs C orc ifs G3).bind fun G4 k => if k then (ev C orc elt G4).bind fun G5 x => if x.2 then .bad else .ok (Py.wipe G5 own) [x.1] else .ok (Py.wipe G4 own) []
theorem ev_lc (own : List Nat) (tg : Tg) (it : Py.It) (ifs : List E) (elt : E) (G : Py.Env) : ev C orc (.lc own tg it ifs elt) G = (evIt C orc it G).bind fun G1 r => if r.2 && !(E.mfL ifs && elt.mf) || anyOw G1 own then .bad else
      (compLoop (lcTurn C orc own tg ifs elt) r.1 (Py.wipe G1 own)).bind fun G2 ds => if lenOk ds.length then .ok (Py.unwipe G1 G2 own) (.lst ds, false) else .bad := by
  rw [ev]; rfl
theorem comp_cons {f : D → Py.Env → R (List D)} {d : D} {ds : List D} {G G2 : Py.Env} {r : List D} (h : compLoop f (d :: ds) G = .ok G2 r) : ∃ G1 o r', f d G = .ok G1 o ∧ compLoop f ds G1 = .ok G2 r' ∧ r = o ++ r' := by
  unfold compLoop at h
  obtain ⟨G1, o, h1, h⟩ := R.bind_inv h
  obtain ⟨G3, r', h2, h⟩ := R.bind_inv h
  cases h
  exact ⟨G1, o, r', h1, h2, rfl⟩
/-- what a turn has done -/
structure LcIn (k : Ki) (C : Ctx) (orc : Orc) (own : List Nat) (tg : Tg) (ifs : List E) (elt : E) (F : Addr → Prop) (σ : St) (fp1 : Fp) (H1 : Hp) (mf : Bool) (G2 : Py.Env) (items ds : List D) (D : Addr) (i : Nat) (H : Hp) : Prop where
  ex : ∃ G fp acc dacc rest, EnvOk k (fun a => F a ∨ a = D) (L2.wipe σ own) H G fp ∧ Tr fp1 H1 fp H ∧ (mf = true → Same H1 H) ∧ H D = some (.lst acc) ∧ RepL k (Own (fun a => F a ∨ a = D) fp) H acc dacc ∧
    compLoop (lcTurn C orc own tg ifs elt) (items.drop i) G = .ok G2 rest ∧ dacc ++ rest = ds ∧ ∀ v ∈ own, ∀ s, G[v]? = some s → s = .dead
theorem wipe_dead {own : List Nat} : ∀ v ∈ own, ∀ s, (Py.wipe G own)[v]? = some s → s = .dead := fun v hv s h => by
  rw [wipe_get] at h
  split at h
  · cases h; rfl
  · rename_i hn
    have : ¬ v < G.length := fun z => hn ⟨hv, z⟩
    rw [List.getElem?_eq_none (Nat.le_of_not_lt this)] at h
    cases h
/-- the new list is changed: what stood ahead of it stands -/
theorem tr_acc {fp1 fp : Fp} {H1 : Hp} {D : Addr} {o : HO} (t : Tr fp1 H1 fp H) (hD : H1 D = none) : Tr fp1 H1 fp (upd H D o) where
  keep := fun a u h n => by
    rw [upd_ne (fun z => by rw [z, hD] at h; cases h)]
    exact t.keep a u h n
  new := t.new
  stay := fun a h => by
    by_cases e : a = D
    · rw [e]; exact hD
    · rw [upd_ne e] at h; exact t.stay a h
theorem same_acc {H1 : Hp} {D : Addr} {o : HO} (s : Same H1 H) (hD : H1 D = none) : Same H1 (upd H D o) := fun a u h => by
  rw [upd_ne (fun z => by rw [z, hD] at h; cases h)]
  exact s a u h
mutual
theorem asgT_len : ∀ {t : Tg} {d : D} {G G' : Py.Env}, asgT t d G = .ok G' () → G'.length = G.length
  | .n i, d, G, G', h => by
    simp only [asgT] at h
    split at h
    · cases h; rw [List.length_set]
    · cases h
  | .skip, d, G, G', h => by simp [asgT] at h
  | .t ts, d, G, G', h => by
    cases d with
    | tup xs => exact asgLs_len (by simpa [asgT] using h)
    | lst xs => exact asgLs_len (by simpa [asgT] using h)
    | _ => simp [asgT] at h
theorem asgLs_len : ∀ {ts : List Tg} {ds : List D} {G G' : Py.Env}, asgL ts ds G = .ok G' () → G'.length = G.length
  | [], [], _, _, h => by simp [asgL] at h; rw [h]
  | [], _ :: _, _, _, h => by simp [asgL] at h
  | _ :: _, [], _, _, h => by simp [asgL] at h
  | t :: ts, d :: ds, G, G', h => by
    simp only [asgL] at h
    obtain ⟨G1, u, h1, h2⟩ := R.bind_inv h
    rw [asgLs_len h2, asgT_len h1]
end
theorem lc_red {own : List Nat} {tg : Tg} {it : Py.It} {ifs : List E} {elt : E} (htg : ∀ i ∈ tgs tg, i ∈ own) (hK : X.K = k.K) {σ : St} {H : Hp} {Q : VK} (h : tEf k C orc (.lc own tg it ifs elt) σ H Q) :
    tLc (tI k C orc it) (tG k tg) (tF k C orc ifs) (tE k C orc elt) own σ H Q := by
  obtain ⟨F, G, fp, G', d, Ee, h, q⟩ := h
  rw [ev_lc] at h
  obtain ⟨G1, r, h1, h⟩ := R.bind_inv h
  obtain ⟨hc, h⟩ := ite_bad h
  obtain ⟨G2, ds, h2, h⟩ := R.bind_inv h
  obtain ⟨hl, h⟩ := ite_ok h
  cases h
  rw [Bool.or_eq_false_iff] at hc
  have hz : ds.length ≤ sizeLine := lenOk_le hl
  have hmf : r.2 = true → (E.mfL ifs && elt.mf) = true := fun e => bor hc.1 e
  refine ⟨F, G, fp, G1, r.1, r.2, Ee, h1, fun J H1 fp1 E1 T1 S1 wk D hD => ?_⟩
  have nFD : ¬ F D := fun z => by have := E1.pm D (.inl z); rw [hD] at this; exact this
  refine ⟨fun i m Hx => m = r.1.length - i ∧ i ≤ r.1.length ∧ LcIn k C orc own tg ifs elt F σ fp1 H1 (E.mfL ifs && elt.mf) G2 r.1 ds D i Hx, ⟨r.1.length, rfl, Nat.zero_le _, ⟨Py.wipe G1 own, fpWipe fp1 own, [], [], ds, ?_⟩⟩, ?_⟩
  · refine ⟨(E1.wipe own).chg (fun a => Iff.rfl) (.inr hD) trivial, tr_acc tr_wipe hD, fun _ => same_acc ssame hD, upd_same, .nil, h2, rfl, wipe_dead⟩
  · rintro i m Hx ⟨rfl, hi, ⟨Gx, fpx, acc, dacc, rest, Ex, Tx, Sx, hDx, rl, hcl, hds, hdead⟩⟩
    obtain ⟨wst, wgo⟩ := wk Hx fpx (fun a => F a ∨ a = D) (fun a z => z.imp id fun z => by rw [z]; exact hD) Ex.pm Tx fun e => Sx (hmf e)
    by_cases hlt : i < r.1.length
    · right
      have hd : r.1[i]? = some r.1[i] := List.getElem?_eq_getElem hlt
      obtain ⟨jgo, jy⟩ := wgo i _ hd
      generalize hdi : r.1[i] = di at hd jy
      have hdr : r.1.drop i = di :: r.1.drop (i + 1) := by rw [List.drop_eq_getElem_cons hlt, hdi]
      rw [hdr] at hcl
      obtain ⟨Gy, o, rest', t1, t2, rfl⟩ := comp_cons hcl
      unfold lcTurn at t1
      obtain ⟨G3, u3, t3, t1⟩ := R.bind_inv t1
      obtain ⟨G4, kb, t4, t1⟩ := R.bind_inv t1
      refine ⟨jgo, fun Hy => LcIn k C orc own tg ifs elt F σ fp1 H1 (E.mfL ifs && elt.mf) G2 r.1 ds D (i + 1) Hy, fun Hy hy => ⟨r.1.length - (i + 1), by omega, rfl, hlt, hy⟩, fun x Hy y => ?_⟩
      obtain ⟨sy, ry⟩ := jy x Hy y
      have Ey := Ex.same sy
      refine ⟨_, Gx, fpx, di, G3, Ey, ry, t3, fun σ2 fp2 E2 T2 s2 => ⟨?_, ?_⟩⟩
      · have hl2 : σ2.length = σ.length := by
          have : G3.length = Gx.length := asgT_len t3
          rw [E2.len, this, ← Ex.len, wipe_length]
        have : L2.wipe σ2 own = L2.wipe (L2.wipe σ own) own := wipe_eq (by rw [wipe_length]; exact hl2) fun j hj => s2 j fun z => hj (htg j z)
        rw [this]
        exact wipe_eq (wipe_length _ _) fun j hj => by rw [wipeS_get, if_neg (fun z => hj z.1)]
      · have wq : L2.wipe σ2 own = L2.wipe σ own := by
          have hl2 : σ2.length = σ.length := by
            rw [E2.len, asgT_len t3, ← Ex.len, wipe_length]
          have : L2.wipe σ2 own = L2.wipe (L2.wipe σ own) own := wipe_eq (by rw [wipe_length]; exact hl2) fun j hj => s2 j fun z => hj (htg j z)
          rw [this]
          exact wipe_eq (wipe_length _ _) fun j hj => by rw [wipeS_get, if_neg (fun z => hj z.1)]
        refine ⟨_, G3, fp2, G4, kb, E2, t4, fun H4 fp4 E4 T4 S4 => ?_⟩
        have smf : (E.mfL ifs && elt.mf) = true → Same H1 H4 := fun z => by
          rw [Bool.and_eq_true] at z
          exact same_trans (same_trans (Sx (by rw [z.1, z.2]; rfl)) sy) (S4 z.1)
        have T14 : Tr fp1 H1 fp4 H4 := ((Tx.trans (same_tr sy)).trans T2).trans T4
        have keepD : ∀ {fpa fpb : Fp} {Ha Hb : Hp} {Ga : Py.Env}, EnvOk k (fun a => F a ∨ a = D) σ2 Ha Ga fpa → Tr fpa Ha fpb Hb → ∀ {o : HO}, Ha D = some o → Hb D = some o := fun {fpa fpb Ha Hb Ga} Ea Ta {o} hh => Ta.keep D _ hh fun j z => Ea.df j D z (.inr rfl)
        have hD4 : H4 D = some (.lst acc) := keepD E2 T4 (sy D _ hDx)
        have rl4 : RepL k (Own (fun a => F a ∨ a = D) fp4) H4 acc dacc := T4.repL E2.pm (T2.repL Ey.pm (rl.mono (same_ext sy) Ex.pm fun a z => .inl z))
        cases kb with
        | false =>
          simp only [Bool.false_eq_true, if_false] at t1 ⊢
          cases t1
          have E5 := E4.wipe own
          rw [wq] at E5
          exact ⟨_, _, acc, dacc, rest', E5, T14.trans tr_wipe, smf, hD4, tr_wipe.repL E4.pm rl4, t2, hds, wipe_dead⟩
        | true =>
          simp only [if_true] at t1 ⊢
          obtain ⟨G5, xv, t5, t1⟩ := R.bind_inv t1
          obtain ⟨hxb, t1⟩ := ite_bad t1
          cases t1
          refine ⟨_, G4, fp4, G5, xv.1, xv.2, E4, t5, fun H5 fp5 yv E5 T5 S5 R5 => ⟨acc, keepD E4 T5 hD4, ?_, ?_⟩⟩
          · have : dacc.length < ds.length := by rw [← hds]; simp
            rw [rl.length]; omega
          · rw [hxb] at R5
            have E6 := (E5.wipe own).chg (F' := fun a => F a ∨ a = D) (D := D) (o := .lst (acc ++ [yv])) (fun a => ⟨fun z => .inl z, fun z => z.elim id fun z => .inr z⟩) (.inl (.inr rfl)) trivial
            rw [wq] at E6
            have ext : Ext (Own (fun a => F a ∨ a = D) (fpWipe fp5 own)) H5 (upd H5 D (.lst (acc ++ [yv]))) := fun b u hb n => by
              rw [upd_ne (fun z => n (.inl (.inr z)))]; exact hb
            have pm5 := (E5.wipe own).pm
            have up : ∀ {vs ds}, RepL k (Own (fun a => F a ∨ a = D) fp5) H5 vs ds → RepL k (Own (fun a => F a ∨ a = D) (fpWipe fp5 own)) (upd H5 D (.lst (acc ++ [yv]))) vs ds := fun {vs ds} r => (tr_wipe.repL E5.pm r).mono ext pm5 fun a z => .inl z
            refine ⟨_, _, acc ++ [yv], dacc ++ [xv.1], rest', E6, tr_acc ((T14.trans T5).trans tr_wipe) hD, fun z => same_acc (same_trans (smf z) (S5 (by rw [Bool.and_eq_true] at z; exact z.2))) hD, upd_same, ?_, t2, ?_, wipe_dead⟩
            · exact (up (T5.repL E4.pm rl4)).append (up (.cons R5 .nil))
            · rw [← hds, List.append_assoc]
    · left
      have e : i = r.1.length := by omega
      subst e
      rw [List.drop_length] at hcl
      cases hcl
      rw [List.append_nil] at hds
      subst hds
      have nO : ¬ Own F fpx D := fun z => by
        rcases z with z | ⟨j, z⟩
        · exact nFD z
        · exact Ex.df j D z (.inr rfl)
      refine ⟨wst, q Hx fpx (.ref D) (.lst (dacc.map .leaf)) (E1.unwipe Ex (fun a z => .inl z) (fun a z => .inl z) Tx hc.2 hdead) (T1.trans Tx) (fun mm => ?_) (RepX.lst ⟨hDx, nO⟩ (rl.sub (own_frame fun a z => .inl z) Ex.pm)) rfl ?_⟩
      · simp only [Py.E.mf, Bool.and_eq_true] at mm
        exact same_trans (S1 mm.1) (Sx (by rw [mm.2.1, mm.2.2]; rfl))
      · exact ⟨D, rfl, E1.unwipe Ex (fun a z => z) (fun a z => z.imp id fun z => by rw [z]; exact hD) Tx hc.2 hdead, .lst hDx (leaves_rep rl), .inr (T1.stay D hD)⟩
end
end Py
namespace Py
open PySem PySem.Spec PyProof.Rows L2 C8
section
variable {k : Ki} {C : Ctx} {orc : Orc} {X : Cx}
def notSet : Expr → Bool
  | .Set _ _ _ => false
  | _ => true
theorem folded {e : Expr} (h : notSet e = true) (env : PySem.Env) (x : Value) : foldedSetIterable e env x = pure x := by
  cases e <;> first | rfl | cases h
/-- [elt for tg in it if ..] -/
theorem lc_clean {own : List Nat} {tg : Tg} {it : Py.It} {ifs : List E} {elt : E} (G G' : Py.Env) (d : D) (b : Bool) (h : ev C orc (.lc own tg it ifs elt) G = .ok G' (d, b)) : b = false := by
  rw [ev_lc] at h
  obtain ⟨G1, r, h1, h⟩ := R.bind_inv h
  obtain ⟨hc, h⟩ := ite_bad h
  obtain ⟨G2, ds, h2, h⟩ := R.bind_inv h
  obtain ⟨hl, h⟩ := ite_ok h
  cases h; rfl
theorem lst_clean {es : List E} (G G' : Py.Env) (d : D) (b : Bool) (h : ev C orc (.lst es) G = .ok G' (d, b)) : b = false := by
  rw [ev] at h
  obtain ⟨G1, r, h1, h⟩ := R.bind_inv h
  obtain ⟨hb1, h⟩ := ite_bad h
  cases h; rfl
theorem sef_lc (B : XB k X) {elt tg iter : Expr} {ifs : List Expr} {scope : Scope} {own : List (Str × Nat)} {pos : Pos} {tgi : Tg} {iti : Py.It} {ifsi : List E} {elti : E} (hi : PI X tg iter (tI k C orc iti)) (ok : BlkOk X.N X.env.scope scope own)
    (hg : ∀ (s : Shared) (H : Hp) (C : Addr) (cl : List (Str × Addr)) (fp : List Addr), PG (X.blk s H scope (compEnvC scope cl C X.env) fp) tg (tG k tgi)) (ht : ∀ (s : Shared) (H : Hp) (A : Addr) (cl : List (Str × Addr)) (fp : List Addr), PTs (X.blk s H scope (compEnvC scope cl A X.env) fp) ifs (tF k C orc ifsi))
    (he : ∀ (s : Shared) (H : Hp) (A : Addr) (cl : List (Str × Addr)) (fp : List Addr), PE (X.blk s H scope (compEnvC scope cl A X.env) fp) elt (tE k C orc elti)) (hs : notSet iter = true) (htg : ∀ i ∈ tgs tgi, i ∈ own.map (·.2)) :
    PE X (.ListComp elt [⟨tg, iter, ifs, 0⟩] scope pos) (tEf k C orc (.lc (own.map (·.2)) tgi iti ifsi elti)) :=
  pe_imp (pe_lc B.calm B.nd hi ok hg ht he (folded hs _)) fun _ _ _ h => lc_red htg B.K h
end
end Py
end
section
set_option Elab.async false
set_option linter.all false
set_option maxRecDepth 100000
set_option maxHeartbeats 4000000
namespace Py
open PySem PySem.Spec PyProof.Rows L2 C8
section
variable {k : Ki} {C : Ctx} {orc : Orc} {X : Cx} {F : Addr → Prop} {P : Addr → Prop} {σ : St} {H H' : Hp} {G : Py.Env} {fp fp' : Fp}
variable {x : Str} {p pos apos : Pos} {e : Expr} {es : List Expr} {ies : List E} {j jj : Nat}
theorem imm_own {d : D} {m : M} (h : own1 d = some m) : d.imm = false := by
  cases d <;> simp [own1] at h <;> rfl
theorem sef_call {f : Nat} {pm : List Nat} (hf : C.fr f = true) (c : Cal X.prog X.w X.K X.mg X.base jj x (spF k C orc f pm.length) []) (hr : Room j X.A) (hk : jj ≤ j) (hg : Gl X x) (hdb : (x == ("__debug__" : Str)) = false) (hs : (e :: es).all noStar = true)
    (hp : pm = List.range ies.length) (ha : PA X (e :: es) (tEs k C orc ies)) : PE X (.Call (.Name x p) (e :: es) [] pos) (tEf k C orc (.call f ies pm)) := by
  rw [List.all_cons, Bool.and_eq_true] at hs
  refine pe_imp (pe_c c hr hk hg ha hdb (star_cons hs.1 _ _) (star_any hs.2 _ _)) fun σ H Q ⟨F, G, fp, G', d, Ee, h, q⟩ => ?_
  rw [ev] at h
  obtain ⟨G1, r, h1, h⟩ := R.bind_inv h
  have ln : r.1.length = ies.length := evs_len (ds := r.1) (b := r.2) h1
  refine ⟨F, G, fp, G1, r.1, r.2, Ee, h1, fun H1 fp1 vs E1 T1 S1 R1 => ?_⟩
  split at h
  · rename_i os d' ho
    have hG : G1 = G' := by injection h
    have hd : fl d' r.2 = (d, false) := by injection h
    subst hG
    have e1 : d' = d := congrArg Prod.fst hd
    subst e1
    rw [List.append_nil]
    have hl : vs.length = ies.length := by rw [R1.length, ln]
    have ho' : orc f (r.1.map .sh) = .ok os d' := by
      rw [hp, ← ln] at ho
      have : (List.range r.1.length).map (fun k => Slot.sh (r.1.getD k .non)) = r.1.map .sh := by
        have h0 := congrArg (List.map Slot.sh) (range_pick D.non r.1)
        rw [List.map_map] at h0
        exact h0
      rw [this] at ho
      exact ho
    by_cases hb : r.2 = false
    · rw [hb] at R1
      refine pure_callF E1 R1 (by rw [ln, hp, List.length_range]) ho' hf fun H' v m s r' hm fr => ?_
      exact q H' fp1 v m (E1.same s) (T1.trans (same_tr s)) (fun mm => by simp only [Py.E.mf] at mm; exact same_trans (S1 mm) s) r' hm (fr.tr T1)
    · -- borrowed: no new object comes
      have hb : r.2 = true := by simpa using hb
      have him : d'.imm = true := by
        have := congrArg Prod.snd hd
        unfold fl at this
        rw [hb] at this
        simpa using this
      refine ⟨by rw [hl, hp, List.length_range], _, _, os, d', fp0, ho', env_args (E1.pmB r.2) R1, fun H' fp' v E' T R fr => ?_⟩
      obtain ⟨m, hm, _⟩ := fr hf
      rw [imm_own hm] at him
      cases him
  · cases h
end
end Py
end
section
set_option Elab.async false
set_option linter.all false
set_option maxRecDepth 100000
set_option maxHeartbeats 4000000
namespace Py
open PySem PySem.Spec PyProof.Rows L2 C8
/-- what is wanted behind a statement, by its outcome -/
def OutQ (k : Ki) (fr : Bool) (F : Addr → Prop) (σ' : St) (fp0 : Fp) (H0 : Hp) (G' : Py.Env) (fp' : Fp) (H' : Hp) (D : Ends) (o : Out) : Prop := match o with
  | .next => D.nx σ' H'
  | .brk => D.bk σ' H'
  | .cont => D.ct σ' H'
  | .ret d => ∀ v, RepX k (Own F fp') H' v d → (fr = true → ∃ m, own1 d = some m ∧ Fr k F σ' fp0 H0 G' fp' H' v m) → D.rt v H'
def tS (k : Ki) (C : Ctx) (orc : Orc) (fr : Bool) (fx : List Nat) (st : S) : TS := fun D σ H => ∃ F G fp G' o, EnvOk k F σ H G fp ∧ evS C orc st G = .ok G' o ∧
  ∀ σ' H' fp', EnvOk k F σ' H' G' fp' → Tr fp H fp' H' → (∀ i ∈ fx, σ'[i]? = σ[i]?) → OutQ k fr F σ' fp H G' fp' H' D o
def tSs (k : Ki) (C : Ctx) (orc : Orc) (fr : Bool) (fx : List Nat) (sts : List S) : TS := fun D σ H => ∃ F G fp G' o, EnvOk k F σ H G fp ∧ evSs C orc sts G = .ok G' o ∧
  ∀ σ' H' fp', EnvOk k F σ' H' G' fp' → Tr fp H fp' H' → (∀ i ∈ fx, σ'[i]? = σ[i]?) → OutQ k fr F σ' fp H G' fp' H' D o
section
variable {k : Ki} {C : Ctx} {orc : Orc} {X : Cx} {F : Addr → Prop} {P : Addr → Prop} {σ σ' : St} {H H' : Hp} {G G' : Py.Env} {fp fp' : Fp} {fr : Bool} {fx : List Nat}
/-- an outcome seen from further back -/
theorem OutQ.back {fp0 : Fp} {H0 : Hp} {D : Ends} {o : Out} (t : Tr fp0 H0 fp H) (q : OutQ k fr F σ' fp0 H0 G' fp' H' D o) : OutQ k fr F σ' fp H G' fp' H' D o := by
  cases o with
  | ret d => exact fun v r f => q v r fun e => let ⟨m, hm, f⟩ := f e; ⟨m, hm, f.tr t⟩
  | _ => exact q
theorem sss_nil : PSs X [] (tSs k C orc fr fx []) := pss_imp pss_nil fun D σ H ⟨F, G, fp, G', o, Ee, h, q⟩ => by
  rw [evSs] at h
  cases h
  exact q σ H fp Ee (.refl _ _) fun _ _ => rfl
theorem sss_cons {s : Stmt} {rest : List Stmt} {st : S} {sts : List S} (h1 : PS X s (tS k C orc fr fx st)) (h2 : PSs X rest (tSs k C orc fr fx sts)) : PSs X (s :: rest) (tSs k C orc fr fx (st :: sts)) := by
  refine pss_imp (pss_cons h1 h2) fun D σ H ⟨F, G, fp, G', o, Ee, h, q⟩ => ?_
  rw [evSs] at h
  obtain ⟨G1, o1, e1, h⟩ := R.bind_inv h
  cases o1 with
  | next =>
    exact ⟨F, G, fp, G1, .next, Ee, e1, fun σ1 H1 fp1 E1 T1 f1 => ⟨F, G1, fp1, G', o, E1, h, fun σ2 H2 fp2 E2 T2 f2 => (q σ2 H2 fp2 E2 (T1.trans T2) fun i hi => by rw [f2 i hi, f1 i hi]).back T1⟩⟩
  | ret d => cases h; exact ⟨F, G, fp, _, .ret d, Ee, e1, fun σ1 H1 fp1 E1 T1 f1 => q σ1 H1 fp1 E1 T1 f1⟩
  | brk => cases h; exact ⟨F, G, fp, _, .brk, Ee, e1, fun σ1 H1 fp1 E1 T1 f1 => q σ1 H1 fp1 E1 T1 f1⟩
  | cont => cases h; exact ⟨F, G, fp, _, .cont, Ee, e1, fun σ1 H1 fp1 E1 T1 f1 => q σ1 H1 fp1 E1 T1 f1⟩
/-! assignments -/
def notComp : Expr → Bool
  | .ListComp _ _ _ _ => false | .SetComp _ _ _ _ => false | .DictComp _ _ _ _ _ => false | _ => true
theorem sw_no {e : Expr} (h : notComp e = true) (tg : Option Expr) (l : Nat) (env : PySem.Env) : swapsWith e tg l env = pure false := by
  cases e <;> first | rfl | cases h
theorem sw_cell {e : Expr} {y : Str} {py : Pos} {env : PySem.Env} (h : (env.scope.names.lookup y == some .local) = false) (l : Nat) : swapsWith e (some (.Name y py)) l env = pure false := by
  cases e <;> first
    | rfl
    | (unfold swapsWith
       have : (env.kindOf y == some .local) = false := h
       simp only [this, Bool.and_false, Bool.false_and])
def notName : Expr → Bool
  | .Name _ _ => false | _ => true
theorem sw_tg {t : Expr} (h : notName t = true) (e : Expr) (l : Nat) (env : PySem.Env) : swapsWith e (some t) l env = pure false := by
  cases t <;> first | (cases h; done) | (cases e <;> rfl)
def notTup : Expr → Bool
  | .Tuple _ _ _ => false | _ => true
theorem sw_st {t e : Expr} (h : notTup e = true) (env : PySem.Env) : swappedStores [t] e env = pure none := by
  cases e <;> first | (cases h; done) | (cases t <;> rfl)
def plainTg : Expr → Bool
  | .Tuple _ _ _ => false | .List _ _ => false | _ => true
theorem sw_st2 {t e : Expr} (h : plainTg t = true) (env : PySem.Env) : swappedStores [t] e env = pure none := by
  cases t <;> first | (cases h; done) | rfl
theorem asg_map {t : Expr} (h : noStar t = true) (env : PySem.Env) : (assignEach [t] env).map (·.2) = [assign t env] := by rw [asg_star h]; rfl
variable {tg e : Expr} {pos : Pos} {ie : E} {tgi : Tg}
theorem asg_red (hfx : ∀ i ∈ fx, i ∉ tgs tgi) {D : Ends} {σ : St} {H : Hp} (h : tS k C orc fr fx (.asg tgi ie) D σ H) : tAsg (tE k C orc ie) (tG k tgi) D σ H := by
  obtain ⟨F, G, fp, G', o, Ee, h, q⟩ := h
  rw [evS] at h
  obtain ⟨G1, x, h1, h⟩ := R.bind_inv h
  obtain ⟨hb, h⟩ := ite_bad h
  obtain ⟨G2, u, h2, h⟩ := R.bind_inv h
  cases h
  refine ⟨F, G, fp, G1, x.1, x.2, Ee, h1, fun H1 fp1 v E1 T1 S1 R1 => ?_⟩
  rw [hb] at R1
  exact ⟨F, G1, fp1, x.1, _, E1, R1, h2, fun σ' fp' E2 T2 s => q σ' H1 fp' E2 (T1.trans T2) fun i hi => s i (hfx i hi)⟩
/-- target = e, e no comprehension (or the target no name) -/
theorem ss_asg (hs : ∀ l, swapsWith e (some tg) l X.env = pure false) (hw : notTup e = true ∨ plainTg tg = true) (hst : noStar tg = true) (hfx : ∀ i ∈ fx, i ∉ tgs tgi) (he : PE X e (tE k C orc ie)) (hg : PG X tg (tG k tgi)) :
    PS X (.Assign [tg] e pos) (tS k C orc fr fx (.asg tgi ie)) :=
  ps_imp (ps_asg he hg (by show swapsWith e (some tg) _ _ = _; exact hs _) (hw.elim (fun h => sw_st h _) fun h => sw_st2 h _) (asg_map hst _)) fun D σ H h => asg_red hfx h
/-- an owned object in a slot -/
theorem EnvOk.takes {a : Addr} {m : M} {fp0 : Fp} {H0 : Hp} {i : Nat} (E1 : EnvOk k F σ H G fp) (Ea : EnvOk k (fun x => F x ∨ x = a) σ H G fp) (rm : RepM k (Own (fun x => F x ∨ x = a) fp) H (.ref a) m [a]) (nO : ¬ Own F fp a) (hi : i < G.length) (T : Tr fp0 H0 fp H) (ha : (∃ j, a ∈ fp0 j) ∨ H0 a = none) :
    EnvOk k F (σ.set i (some (.ref a))) H (G.set i (.ow m)) (fpSet fp i [a]) ∧ Tr fp0 H0 (fpSet fp i [a]) H := by
  have sub : ∀ x, Own F (fpSet fp i [a]) x → Own (fun x => F x ∨ x = a) fp x := fun x q => by
    rcases q with q | ⟨j, q⟩
    · exact .inl (.inl q)
    · by_cases e : j = i
      · rw [e, fpSet_same] at q; exact .inl (.inr (List.mem_singleton.mp q))
      · rw [fpSet_ne e] at q; exact .inr ⟨j, q⟩
  refine ⟨⟨by rw [List.length_set, List.length_set]; exact E1.len, fun j => ?_, fun j => ?_, fun j l x h1 h2 => ?_, fun j x h1 h2 => ?_, Ea.pm.sub sub⟩, ⟨T.keep, fun j x q => ?_, T.stay⟩⟩
  · by_cases e : j = i
    · subst e
      rw [fpSet_same, List.getElem?_set_self (by rw [E1.len]; exact hi), List.getElem?_set_self hi]
      exact ⟨_, rfl, rm.mono Ext.refl Ea.pm (fun x q => .inl (sub x q)) fun _ _ => rfl⟩
    · rw [List.getElem?_set_ne (Ne.symm e), List.getElem?_set_ne (Ne.symm e), fpSet_ne e]
      have hs := Ea.slot j
      cases hg : G[j]? with
      | none => rw [hg] at hs; exact hs
      | some sl =>
        rw [hg] at hs
        cases sl with
        | dead => exact hs
        | sh d => obtain ⟨⟨x, e, r⟩, z⟩ := hs; exact ⟨⟨x, e, r.sub sub Ea.pm⟩, z⟩
        | ow m => obtain ⟨x, e, r⟩ := hs; exact ⟨x, e, r.mono Ext.refl Ea.pm (fun a q => .inl (sub a q)) fun _ _ => rfl⟩
  · by_cases e : j = i
    · rw [e, fpSet_same]; simp
    · rw [fpSet_ne e]; exact E1.nd j
  · by_cases e : j = i
    · by_cases e2 : l = i
      · rw [e, e2]
      · rw [e, fpSet_same] at h1; rw [fpSet_ne e2] at h2
        rw [List.mem_singleton.mp h1] at h2
        exact absurd (.inr ⟨l, h2⟩) nO
    · by_cases e2 : l = i
      · rw [e2, fpSet_same] at h2; rw [fpSet_ne e] at h1
        rw [List.mem_singleton.mp h2] at h1
        exact absurd (.inr ⟨j, h1⟩) nO
      · rw [fpSet_ne e] at h1; rw [fpSet_ne e2] at h2; exact E1.dj j l x h1 h2
  · by_cases e : j = i
    · rw [e, fpSet_same] at h1; rw [List.mem_singleton.mp h1] at h2; exact nO (.inl h2)
    · rw [fpSet_ne e] at h1; exact E1.df j x h1 h2
  · by_cases e : j = i
    · rw [e, fpSet_same] at q; rw [List.mem_singleton.mp q]; exact ha
    · rw [fpSet_ne e] at q; exact T.new j x q
theorem own_free {v : V} {d : D} {m : M} (r : RepX k P H v d) (h : own1 d = some m) : ∀ a, v = .ref a → ¬ P a := fun a e => by
  subst e
  cases r with
  | lst ht _ => exact ht.2
  | dic _ hn _ _ => exact hn
  | _ => simp [own1] at h
theorem asgO_red {i : Nat} (hfx : i ∉ fx) {D : Ends} {σ : St} {H : Hp} (h : tS k C orc fr fx (.asgO i ie) D σ H) : tAsg (tEf k C orc ie) (gName i) D σ H := by
  obtain ⟨F, G, fp, G', o, Ee, h, q⟩ := h
  rw [evS] at h
  obtain ⟨G1, x, h1, h⟩ := R.bind_inv h
  obtain ⟨hb, h⟩ := ite_bad h
  split at h
  · rename_i m hm
    obtain ⟨hl, h⟩ := ite_ok h
    cases h
    obtain ⟨xd, xb⟩ := x
    simp only at hb hm
    subst hb
    refine ⟨F, G, fp, G1, xd, Ee, h1, fun H1 fp1 v m' E1 T1 S1 R1 hm' f => ?_⟩
    rw [hm] at hm'
    cases hm'
    obtain ⟨a, rfl, Ea, rm, ha⟩ := f
    obtain ⟨E2, T2⟩ := E1.takes Ea rm (own_free R1 hm a rfl) (of_decide_eq_true hl) T1 ha
    exact q _ H1 _ E2 T2 fun j hj => List.getElem?_set_ne fun e => hfx (by rw [e]; exact hj)
  · cases h
variable {x : Str} {p : Pos} {i : Nat}
theorem ss_asgO (hN : X.N.Nodup) (hi : X.N[i]? = some x) (hx : Loc X.env.scope x) (hf : X.fn x = true ∨ X.env.scope.names.lookup x = some .local) (hs : ∀ l, swapsWith e (some (.Name x p)) l X.env = pure false) (hfx : i ∉ fx) (he : PE X e (tEf k C orc ie)) : PS X (.Assign [.Name x p] e pos) (tS k C orc fr fx (.asgO i ie)) :=
  ps_imp (ps_set hN hi hx he (hs _) hf) fun D σ H h => asgO_red hfx h
/-- the state, a name stored -/
theorem gName_of {D : Ends} {te : TE} {σ : St} {H : Hp} (h : tAsg te (tG k (.n i)) D σ H) (hm : ∀ σ H Q Q', (∀ v H', Q v H' → Q' v H') → te σ H Q → te σ H Q') : tAsg te (gName i) D σ H := hm σ H _ _ (fun v H1 ⟨F, G, fp, d, G', E1, r, h, q⟩ => by
  simp only [asgT] at h
  split at h
  · rename_i hl
    cases h
    refine q _ _ (E1.store (v := some v) (of_decide_eq_true hl) ⟨⟨v, rfl, r.sub own_less E1.pm⟩, rfl⟩ fun m z => by cases z) tr_less fun j hj => ?_
    rw [List.getElem?_set_ne]
    intro e
    exact hj (by rw [← e]; exact List.mem_singleton.mpr rfl)
  · cases h) h
end
end Py
end
section
set_option Elab.async false
set_option linter.all false
set_option maxRecDepth 100000
set_option maxHeartbeats 4000000
namespace Py
open PySem PySem.Spec PyProof.Rows L2 C8
section
variable {k : Ki} {C : Ctx} {orc : Orc} {X : Cx} {F : Addr → Prop} {P : Addr → Prop} {σ σ' : St} {H H' : Hp} {G G' : Py.Env} {fp fp' : Fp} {fr : Bool} {fx : List Nat}
variable {tg e : Expr} {pos p : Pos} {ie : E} {tgi : Tg} {x : Str} {i : Nat}
/-! name = [.. for ..] on one line -/
theorem ss_asgLc (B : XB k X) {y : Str} {py : Pos} {elt tg iter : Expr} {ifs : List Expr} {scope : Scope} {own : List (Str × Nat)} {pos spos : Pos} {tgi : Tg} {iti : Py.It} {ifsi : List E} {elti : E} (hk : X.env.scope.kind = .function) (hy : X.N[i]? = some y) (hyl : X.env.scope.names.lookup y = some .local)
    (hl : (py.line == pos.line) = true) (ha : (scope.names.any fun (n, k) => n == y && (k == .local || k == .cell)) = false) (hfx : i ∉ fx)
    (hi : PI X tg iter (tI k C orc iti)) (ok : BlkOk X.N X.env.scope scope own)
    (hg : ∀ (s : Shared) (H : Hp) (C : Addr) (cl : List (Str × Addr)) (fp : List Addr), PG (X.blk s H scope (compEnvC scope cl C X.env) fp) tg (tG k tgi)) (ht : ∀ (s : Shared) (H : Hp) (A : Addr) (cl : List (Str × Addr)) (fp : List Addr), PTs (X.blk s H scope (compEnvC scope cl A X.env) fp) ifs (tF k C orc ifsi))
    (he : ∀ (s : Shared) (H : Hp) (A : Addr) (cl : List (Str × Addr)) (fp : List Addr), PE (X.blk s H scope (compEnvC scope cl A X.env) fp) elt (tE k C orc elti)) (hs : notSet iter = true) (htg : ∀ i ∈ tgs tgi, i ∈ own.map (·.2)) (ow : Bool) :
    PS X (.Assign [.Name y py] (.ListComp elt [⟨tg, iter, ifs, 0⟩] scope pos) spos) (tS k C orc fr fx (if ow = true then .asgO i (.lc (own.map (·.2)) tgi iti ifsi elti) else .asg (.n i) (.lc (own.map (·.2)) tgi iti ifsi elti))) := by
  refine ps_imp (ps_setLc B.calm B.nd hy hyl (sw_true hk hyl hl ha) hi ok hg ht he (folded hs _)) fun D σ H h => ?_
  cases ow with
  | true =>
    have h1 : tEf k C orc (.lc (own.map (·.2)) tgi iti ifsi elti) σ H fun x H1 => gName i x σ H1 D.nx := asgO_red hfx h
    exact lc_red htg B.K h1
  | false =>
    have h1 := gName_of (te := tE k C orc (.lc (own.map (·.2)) tgi iti ifsi elti)) (asg_red (tgi := .n i) (fun j hj e => by
      have : j = i := by simpa [tgs] using e
      exact hfx (by rw [← this]; exact hj)) h) fun σ H Q Q' a b => tE_mono b a
    have h2 : tE k C orc (.lc (own.map (·.2)) tgi iti ifsi elti) σ H fun x H1 => gName i x σ H1 D.nx := h1
    exact lc_red htg B.K (tEf_of (fun _ _ _ _ => lc_clean _ _ _ _) h2)
/-! o[i] = e -/
theorem allLeaf_nil : ∀ {vs : List V} {ms : List M} {as : List Addr}, RepMs k P H vs ms as → allLeaf ms = true → as = []
  | _, _, _, .nil, _ => rfl
  | _, _, _, .cons (m := m) h t, e => by
    cases m with
    | leaf d => cases h with
      | leaf r => rw [allLeaf_nil t e]; rfl
    | _ => cases e
theorem rep_set : ∀ {vs : List V} {ms : List M} {j : Nat} {v : V} {d : D}, RepMs k P H vs ms [] → allLeaf ms = true → RepX k P H v d → RepMs k P H (vs.set j v) (ms.set j (.leaf d)) []
  | [], _, j, v, d, .nil, _, _ => .nil
  | v0 :: vs, m0 :: ms, j, v, d, hh, e, r => by
    generalize hz : ([] : List Addr) = z at hh
    cases hh with
    | @cons _ _ _ _ as bs h t =>
      cases m0 with
      | leaf d0 =>
        cases h with
        | leaf h =>
          have hb : bs = [] := by simpa using hz.symm
          subst hb
          cases j with
          | zero => exact .cons (as := []) (.leaf r) t
          | succ j => exact .cons (as := []) (.leaf h) (rep_set t e r)
      | _ => cases e
theorem put_rep {f : Nat} {v : V} {d : D} (r : RepX k P H v d) : ∀ {fs : List (Str × V)} {ids : List Nat} {ms : List M}, fs.map (·.1) = ids.map k.fd → RepMs k P H (fs.map (·.2)) ms [] → allLeaf ms = true →
    (∀ ms', fldSet ids ms f (.leaf d) = some ms' → (putF (k.fd f) v fs).map (·.1) = ids.map k.fd ∧ RepMs k P H ((putF (k.fd f) v fs).map (·.2)) ms' []) ∧
    (fldSet ids ms f (.leaf d) = none → (putF (k.fd f) v fs).map (·.1) = (ids ++ [f]).map k.fd ∧ RepMs k P H ((putF (k.fd f) v fs).map (·.2)) (ms ++ [.leaf d]) [])
  | [], [], ms, _, h, _ => by
    cases h
    refine ⟨fun ms' e => by simp [fldSet] at e, fun _ => ⟨rfl, .cons (as := []) (.leaf r) .nil⟩⟩
  | [], _ :: _, ms, e, _, _ => by simp at e
  | _ :: _, [], ms, e, _, _ => by simp at e
  | q :: fs, i :: ids, [], e, h, _ => by cases h
  | (q1, q2) :: fs, i :: ids, m0 :: ms, e, h, hl => by
    simp only [List.map_cons, List.cons.injEq] at e
    generalize hz : ([] : List Addr) = z at h
    cases h with
    | @cons _ _ _ _ as bs h t =>
      cases m0 with
      | leaf d0 =>
        cases h with
        | leaf h =>
          have hb : bs = [] := by simpa using hz.symm
          subst hb
          have hput : putF (k.fd f) v ((q1, q2) :: fs) = if q1 = k.fd f then (q1, v) :: fs else (q1, q2) :: putF (k.fd f) v fs := rfl
          by_cases hif : i = f
          · have hq : q1 = k.fd f := by rw [e.1, hif]
            rw [hput, if_pos hq]
            simp only [fldSet, if_pos hif]
            refine ⟨fun ms' e2 => ?_, fun e2 => by cases e2⟩
            cases e2
            exact ⟨by rw [List.map_cons, List.map_cons, e.1, e.2], .cons (as := []) (.leaf r) t⟩
          · have hq : ¬ q1 = k.fd f := fun z => hif (k.inj _ _ (by rw [← e.1, z]))
            rw [hput, if_neg hq]
            simp only [fldSet, if_neg hif]
            obtain ⟨p1, p2⟩ := put_rep r (f := f) e.2 t hl
            refine ⟨fun ms' e2 => ?_, fun e2 => ?_⟩
            · obtain ⟨ms2, e3, rfl⟩ := Option.map_eq_some_iff.mp e2
              obtain ⟨a1, a2⟩ := p1 ms2 e3
              exact ⟨by rw [List.map_cons, List.map_cons, a1, e.1], .cons (as := []) (.leaf h) a2⟩
            · obtain ⟨a1, a2⟩ := p2 (by simpa using e2)
              refine ⟨?_, .cons (as := []) (.leaf h) a2⟩
              rw [List.map_cons, a1, List.cons_append, List.map_cons, e.1]; rfl
      | _ => cases hl
theorem ps_or2 {s : Stmt} {t t' : TS} (h : PS X s t) (h' : PS X s t') : PS X s (fun D σ H => t D σ H ∨ t' D σ H) := ⟨fun pins s σ H D I q => q.elim (h.run pins s σ H D I) (h'.run pins s σ H D I)⟩
variable {o kx : Expr} {ik : E}
theorem asg_sub {i : Expr} (h : noSl i = true) (o : Expr) (pos : Pos) (env : PySem.Env) (v : Value) : assign (.Subscript o i pos) env v = (do
      let ov ← holding [v] (eval o env)
      let iv ← holding [v, ov] (eval i env)
      standAt pos
      holding [v, ov, iv] (setItem ov iv v)
      release [v, ov, iv] []) := by
  cases i <;> first | rfl | cases h
theorem any_key {y : D} {key : Key} (hy : keyV y = some key) : ∀ {ks : List D} {kvs : List (Key × V)}, ks.map keyV = kvs.map (fun p => some p.1) → ks.any (keyEq · y) = kvs.any fun kv => decide (kv.1 = key)
  | [], [], _ => rfl
  | [], _ :: _, h => by simp at h
  | _ :: _, [], h => by simp at h
  | c :: ks, q :: kvs, h => by
    simp only [List.map_cons, List.cons.injEq] at h
    rw [List.any_cons, List.any_cons, keyEq_iff h.1 hy, any_key hy h.2]
theorem zip_rep {y : D} {key : Key} (hy : keyV y = some key) {v : V} {d : D} (r : RepX k P H v d) : ∀ {ks : List D} {kvs : List (Key × V)} {ms : List M}, ks.map keyV = kvs.map (fun p => some p.1) → RepMs k P H (kvs.map (·.2)) ms [] → allLeaf ms = true →
    RepMs k P H ((kvs.map fun kv => if kv.1 = key then (kv.1, v) else kv).map (·.2)) (List.zipWith (fun k' v' => if keyEq k' y then M.leaf d else v') ks ms) []
  | [], [], _, _, .nil, _ => .nil
  | [], _ :: _, _, h, _, _ => by simp at h
  | _ :: _, [], _, h, _, _ => by simp at h
  | c :: ks, q :: kvs, [], h, hm, _ => by cases hm
  | c :: ks, (q1, q2) :: kvs, m0 :: ms, h, hm, hl => by
    simp only [List.map_cons, List.cons.injEq] at h
    generalize hz : ([] : List Addr) = z at hm
    cases hm with
    | @cons _ _ _ _ as bs h0 t =>
      cases m0 with
      | leaf d0 =>
        cases h0 with
        | leaf h0 =>
          have hb : bs = [] := by simpa using hz.symm
          subst hb
          have ih := zip_rep hy r h.2 t hl
          rw [List.map_cons, List.map_cons, List.zipWith_cons_cons]
          refine .cons (as := []) ?_ ih
          rw [keyEq_iff h.1 hy]
          by_cases e : q1 = key
          · rw [if_pos e, if_pos (decide_eq_true e)]; exact .leaf r
          · rw [if_neg e, if_neg (by simpa using e)]; exact .leaf h0
      | _ => cases hl
/-- o[k] = e, o an owned list or dict -/
theorem ss_set (B : XB k X) {pos' : Pos} (hst : noSl kx = true) (he : PE X e (tE k C orc ie)) (ho : PE X o (tP k i [])) (hk : PE X kx (tE k C orc ik)) : PS X (.Assign [.Subscript o kx pos'] e pos) (tS k C orc fr fx (.set i [] ik ie)) := by
  refine ps_imp (ps_or2 (ps_asg he (pg_sub ho hk set_list (asg_sub hst _ _ _)) (show swapsWith e (some (.Subscript o kx pos')) pos.line X.env = pure false from sw_tg rfl _ _ _) (sw_st2 rfl _) (asg_map rfl _)) (ps_dput (by have := B.units; omega) ho hk he (sw_tg rfl _ _ _))) fun D σ H ⟨F, G, fp, G', oo, Ee, h, q⟩ => ?_
  rw [evS] at h
  obtain ⟨G1, x, h1, h⟩ := R.bind_inv h
  obtain ⟨hb, h⟩ := ite_bad h
  rw [Bool.or_eq_false_iff, Bool.or_eq_false_iff] at hb
  obtain ⟨⟨hxb, hkm⟩, hrd⟩ := hb
  have hkm : ik.mf = true := by simpa using hkm
  obtain ⟨G2, y, h2, h⟩ := R.bind_inv h
  obtain ⟨G3, u, h3, h⟩ := R.bind_inv h
  cases h
  obtain ⟨m, m', hg, hf, rfl⟩ := updPl_inv h3
  have rd : ∀ {H1 fp1} (E1 : EnvOk k F σ H1 G1 fp1), ∃ w, σ[i]? = some (some w) := fun {H1 fp1} E1 => by
    have : ∃ m0, readM G1 i [] = some m0 := by
      cases hr : readM G1 i [] with
      | none => rw [hr] at hrd; cases hrd
      | some m0 => exact ⟨m0, rfl⟩
    obtain ⟨m0, hm0⟩ := this
    obtain ⟨w, _, _, e, _⟩ := E1.read hm0
    exact ⟨w, e⟩
  -- where the object and the key have come
  have main : ∀ {H1 fp1 v H2 fp2 w}, EnvOk k F σ H1 G1 fp1 → Tr fp H fp1 H1 → RepX k (Own F fp1) H1 v x.1 → EnvOk k F σ H2 G2 fp2 → Tr fp1 H1 fp2 H2 → (∃ P2, RepX k P2 H2 w y.1) →
      ∃ a, σ[i]? = some (some (.ref a)) ∧ ((∃ vs j, H2 a = some (.lst vs) ∧ (∃ kk, w = .int kk ∧ L2.ixN vs.length kk = some j) ∧ D.nx σ (upd H2 a (.lst (vs.set j v)))) ∨ ∃ kvs key, H2 a = some (.dK kvs) ∧ w = kV key ∧ kvs.length < sizeLine ∧ D.nx σ (upd H2 a (.dK (putK kvs key v)))) := by
    intro H1 fp1 v H2 fp2 w E1 T1 R1 E2 T2 ⟨P2, R2⟩
    obtain ⟨v0, e0, r0⟩ := E2.ow hg
    have R1' := T2.rep E1.pm R1
    have nd := E2.nd i
    have T12 := T1.trans T2
    unfold setM at hf
    split at hf
    · rename_i xs
      split at hf
      · rename_i kk hyk
        rw [hyk] at R2
        split at hf
        · rename_i hal
          obtain ⟨j, hj, hm⟩ := Option.map_eq_some_iff.mp hf
          cases hm
          generalize hfp : fp2 i = as at r0 nd
          cases r0 with
          | @lst a vs _ as' ha rs =>
            have hai : a ∈ fp2 i := by rw [hfp]; exact List.mem_cons_self
            have has : as' = [] := allLeaf_nil rs hal
            subst has
            have ext : Ext (Own F fp2) H2 (upd H2 a (.lst (vs.set j v))) := fun b u h n => by
              rw [upd_ne (fun z => n (.inr ⟨i, by rw [z]; exact hai⟩))]; exact h
            refine ⟨a, e0, .inl ⟨vs, j, ha, ⟨kk, R2.int_inv, by rw [rs.length, ← ixN_eq]; exact hj⟩, ?_⟩⟩
            refine q σ _ fp2 (E2.write (List.getElem?_eq_some_iff.mp hg).1 hai trivial ⟨.ref a, e0, ?_⟩) (T12.trans (tr_write hai)) fun _ _ => rfl
            rw [hfp]
            exact .lst upd_same (rep_set (rs.mono ext E2.pm (fun _ q => .inl q) fun b hb => by cases hb) hal (R1'.mono ext E2.pm fun _ q => .inl q))
        · cases hf
      · cases hf
    · rename_i ks ms
      split at hf
      · rename_i hc
        rw [Bool.and_eq_true, Bool.and_eq_true] at hc
        obtain ⟨hkey, hal, hz⟩ := hc
        cases hf
        obtain ⟨key, ke⟩ := isKey_key hkey
        generalize hfp : fp2 i = as at r0 nd
        cases r0 with
        | @dic a kvs _ _ as' ha hks rs =>
          have hai : a ∈ fp2 i := by rw [hfp]; exact List.mem_cons_self
          have has : as' = [] := allLeaf_nil rs hal
          subst has
          have ext : Ext (Own F fp2) H2 (upd H2 a (.dK (putK kvs key v))) := fun b u h n => by
            rw [upd_ne (fun z => n (.inr ⟨i, by rw [z]; exact hai⟩))]; exact h
          have hlen : kvs.length < sizeLine := by
            have := congrArg List.length hks
            simp only [List.length_map] at this
            rw [← this]; exact szLine_le hz
          refine ⟨a, e0, .inr ⟨kvs, key, ha, key_rel ke R2, hlen, ?_⟩⟩
          refine q σ _ fp2 (E2.write (List.getElem?_eq_some_iff.mp hg).1 hai trivial ⟨.ref a, e0, ?_⟩) (T12.trans (tr_write hai)) fun _ _ => rfl
          rw [hfp]
          have rs' := rs.mono (P' := Own F fp2) ext E2.pm (fun _ q => .inl q) fun b hb => by cases hb
          have R1'' := R1'.mono ext E2.pm (P' := Own F fp2) fun _ q => .inl q
          unfold mPut
          rw [any_key ke hks]
          by_cases hh : (kvs.any fun kv => decide (kv.1 = key)) = true
          · have hp : putK kvs key v = kvs.map (fun kv => if kv.1 = key then (kv.1, v) else kv) := if_pos hh
            rw [if_pos hh]
            refine .dic (by rw [upd_same, hp]) ?_ (zip_rep ke R1'' hks rs' hal)
            rw [hks, List.map_map]
            apply List.map_congr_left
            intro p _
            show some p.1 = some (if p.1 = key then (p.1, v) else p).1
            split <;> rfl
          · have hp : putK kvs key v = kvs ++ [(key, v)] := if_neg hh
            rw [if_neg hh]
            refine .dic (by rw [upd_same, hp]) ?_ ?_
            · rw [List.map_append, List.map_append, hks]; show _ ++ [keyV y.1] = _ ++ [some key]; rw [ke]
            · rw [List.map_append]; exact rs'.snoc R1''
      · cases hf
    · cases hf
  -- which of the two
  have which : (∃ xs, m = .lst xs) ∨ ∃ ks ms, m = .dic ks ms := by
    cases m with
    | lst xs => exact .inl ⟨xs, rfl⟩
    | dic ks ms => exact .inr ⟨ks, ms, rfl⟩
    | _ => simp [setM] at hf
  rcases which with ⟨xs, hm⟩ | ⟨ks, ms, hm⟩
  · left
    refine ⟨F, G, fp, G1, x.1, x.2, Ee, h1, fun H1 fp1 v E1 T1 S1 R1 => ?_⟩
    rw [hxb] at R1
    obtain ⟨w0, ew⟩ := rd E1
    refine ⟨w0, w0, ew, .nil, F, G1, fp1, G2, y.1, y.2, E1, h2, fun H2 fp2 w E2 T2 S2 R2 => ?_⟩
    obtain ⟨a, e0, hcase⟩ := main E1 T1 R1 E2 T2 ⟨_, R2⟩
    rw [ew] at e0
    cases e0
    rcases hcase with ⟨vs, j, ha, ⟨kk, e1, e2⟩, qq⟩ | ⟨kvs, key, ha, _⟩
    · exact ⟨a, vs, kk, j, rfl, e1, ha, e2, qq⟩
    · obtain ⟨v0, e3, r0⟩ := E2.ow hg
      rw [ew] at e3
      cases e3
      rw [hm] at r0
      generalize fp2 i = as at r0
      cases r0 with
      | lst hh _ => rw [ha] at hh; cases hh
  · right
    refine ⟨F, G, fp, G1, x.1, x.2, Ee, h1, fun H1 fp1 v E1 T1 S1 R1 => ?_⟩
    rw [hxb] at R1
    obtain ⟨w0, ew⟩ := rd E1
    refine ⟨w0, w0, ew, .nil, F, G1, fp1, G2, y.1, y.2, E1, h2, fun H2 fp2 w E2 T2 S2 R2 => ?_⟩
    obtain ⟨a, e0, hcase⟩ := main E1 T1 R1 E2 T2 ⟨_, R2⟩
    rw [ew] at e0
    cases e0
    rcases hcase with ⟨vs, j, ha, _⟩ | ⟨kvs, key, ha, e1, hlen, qq⟩
    · obtain ⟨v0, e3, r0⟩ := E2.ow hg
      rw [ew] at e3
      cases e3
      rw [hm] at r0
      generalize fp2 i = as at r0
      cases r0 with
      | dic hh _ _ => rw [ha] at hh; cases hh
    · subst e1
      exact ⟨a, _, rfl, DPut.k ha hlen, qq⟩
end
end Py
end
section
set_option Elab.async false
set_option linter.all false
set_option maxRecDepth 100000
set_option maxHeartbeats 4000000
namespace Py
open PySem PySem.Spec PyProof.Rows L2 C8
section
variable {k : Ki} {C : Ctx} {orc : Orc} {X : Cx} {F : Addr → Prop} {P : Addr → Prop} {σ σ' : St} {H H' : Hp} {G G' : Py.Env} {fp fp' : Fp} {fr : Bool} {fx : List Nat}
variable {o e : Expr} {pos p : Pos} {ie : E} {x : Str} {i : Nat}
/-- o.f = e, o an owned instance -/
theorem ss_fset (B : XB k X) {f : Nat} {pos' : Pos} (A : AttOk k f) (hx : k.fd f = x) (hs : notComp e = true) (he : PE X e (tE k C orc ie)) (ho : PE X o (tP k i [])) : PS X (.Assign [.Attribute o x pos'] e pos) (tS k C orc fr fx (.fset i [] f ie)) := by
  subst hx
  refine ps_imp (ps_fld ho he (sw_no hs _ _ _)) fun D σ H ⟨F, G, fp, G', oo, Ee, h, q⟩ => ?_
  rw [evS] at h
  obtain ⟨G1, x, h1, h⟩ := R.bind_inv h
  obtain ⟨hxb, h⟩ := ite_bad h
  obtain ⟨G3, u, h3, h⟩ := R.bind_inv h
  cases h
  obtain ⟨m, m', hg, hf, rfl⟩ := updPl_inv h3
  refine ⟨F, G, fp, G1, x.1, x.2, Ee, h1, fun H1 fp1 v E1 T1 S1 R1 => ?_⟩
  rw [hxb] at R1
  obtain ⟨v0, e0, r0⟩ := E1.ow hg
  refine ⟨v0, v0, e0, .nil, ?_⟩
  unfold fsetM at hf
  split at hf
  · rename_i c ids ms
    split at hf
    · rename_i hc
      rw [Bool.and_eq_true] at hc
      have nd := E1.nd i
      generalize hfp : fp1 i = as at r0 nd
      cases r0 with
      | @ins a dx _ fs _ _ as' ha hks rs =>
        have hai : a ∈ fp1 i := by rw [hfp]; exact List.mem_cons_self
        have has : as' = [] := allLeaf_nil rs hc.1
        subst has
        have ext : Ext (Own F fp1) H1 (upd H1 a (.ins (k.ca c) dx (putF (k.fd f) v fs))) := fun b u h n => by
          rw [upd_ne (fun z => n (.inr ⟨i, by rw [z]; exact hai⟩))]; exact h
        have hlen : fs.length < 1000 := by
          have := congrArg List.length hks
          simp only [List.length_map] at this
          rw [this]; exact of_decide_eq_true hc.2
        refine ⟨a, _, dx, fs, rfl, ha, by rw [B.K]; exact A.cls c, by rw [B.K]; exact A.no c, hlen, ?_⟩
        obtain ⟨p1, p2⟩ := put_rep (R1.mono (P' := Own F fp1) ext E1.pm fun _ q => .inl q) (f := f) hks (rs.mono (P' := Own F fp1) ext E1.pm (fun _ q => .inl q) fun b hb => by cases hb) hc.1
        have fin : ∀ {ids' ms'}, (putF (k.fd f) v fs).map (·.1) = ids'.map k.fd → RepMs k (Own F fp1) (upd H1 a (.ins (k.ca c) dx (putF (k.fd f) v fs))) ((putF (k.fd f) v fs).map (·.2)) ms' [] → m' = .ins c ids' ms' → D.nx σ (upd H1 a (.ins (k.ca c) dx (putF (k.fd f) v fs))) := fun {ids' ms'} a1 a2 em => by
          subst em
          refine q σ _ fp1 (E1.write (List.getElem?_eq_some_iff.mp hg).1 hai trivial ⟨.ref a, e0, ?_⟩) (T1.trans (tr_write hai)) fun _ _ => rfl
          rw [hfp]
          exact .ins upd_same a1 a2
        cases hfs : fldSet ids ms f (.leaf x.1) with
        | some ms' =>
          rw [hfs] at hf
          obtain ⟨a1, a2⟩ := p1 ms' hfs
          exact fin a1 a2 (by simpa using (Option.some.inj hf).symm)
        | none =>
          rw [hfs] at hf
          obtain ⟨a1, a2⟩ := p2 hfs
          exact fin a1 a2 (by simpa using (Option.some.inj hf).symm)
    · cases hf
  · cases hf
/-! name op= e -/
def augOk : BinO → Bool
  | .pow => false | .mul => false | .fdiv => false | _ => true
theorem ip_bin (o : BinO) (ho : augOk o = true) : PIp X (opOf o) (fun x y H Q => ∃ i j r, x = .int i ∧ y = .int j ∧ binop o (.int i) (.int j) = some (.int r) ∧ Q (.int r) H) := by
  intro pins s σ H x y v u Q I rx ry ⟨i, j, r, e1, e2, h, q⟩
  subst e1 e2
  cases o with
  | pow => cases ho
  | mul => cases ho
  | fdiv => cases ho
  | add => cases h; exact iop_add pins s σ H _ _ v u Q I rx ry ⟨_, _, rfl, rfl, q⟩
  | sub => cases h; exact iop_sub pins s σ H _ _ v u Q I rx ry ⟨_, _, rfl, rfl, q⟩
  | band => cases h; exact iop_and pins s σ H _ _ v u Q I rx ry ⟨_, _, rfl, rfl, q⟩
  | bor => cases h; exact iop_or pins s σ H _ _ v u Q I rx ry ⟨_, _, rfl, rfl, q⟩
  | bxor => cases h; exact iop_xor pins s σ H _ _ v u Q I rx ry ⟨_, _, rfl, rfl, q⟩
  | mod =>
    simp only [binop] at h
    split at h
    · rename_i hz
      cases h
      exact iop_mod pins s σ H _ _ v u Q I rx ry ⟨_, _, rfl, rfl, of_decide_eq_true hz, q⟩
    · cases h
  | shl =>
    simp only [binop] at h
    split at h
    · rename_i hz
      simp only [Bool.and_eq_true, decide_eq_true_eq] at hz
      cases h
      exact iop_shl pins s σ H _ _ v u Q I rx ry ⟨_, _, rfl, rfl, cpow_ok hz, q⟩
    · cases h
  | shr =>
    simp only [binop] at h
    split at h
    · rename_i hz
      cases h
      exact iop_shr pins s σ H _ _ v u Q I rx ry ⟨_, _, rfl, rfl, of_decide_eq_true hz, q⟩
    · cases h
theorem bin_int {o : BinO} {i : Int} {y d : D} (ho : augOk o = true) (h : binop o (.int i) y = some d) : ∃ j r, y = .int j ∧ d = .int r := by
  cases o <;> first | (cases ho; done) | skip
  all_goals
    cases y <;> simp [binop] at h <;> first
      | exact ⟨_, _, rfl, h.symm⟩
      | exact ⟨_, _, rfl, h.2.symm⟩
theorem ss_aug {op : BinO} {opx : Operator} (ho : augOk op = true) (hop : opOf op = opx) (hN : X.N.Nodup) (hi : X.N[i]? = some x) (hx : Loc X.env.scope x) (hf : X.fn x = true ∨ X.env.scope.names.lookup x = some .local) (hfx : i ∉ fx) (he : PE X e (tE k C orc ie)) : PS X (.AugAssign (.Name x p) opx e pos) (tS k C orc fr fx (.aug i op ie)) := by
  subst hop
  refine ps_imp (ps_aug hN hi hx he (ip_bin op ho) hf) fun D σ H ⟨F, G, fp, G', oo, Ee, h, q⟩ => ?_
  rw [evS] at h
  split at h
  · rename_i d0 hg
    obtain ⟨G1, y, h1, h⟩ := R.bind_inv h
    split at h
    · rename_i i0 d hd hbin
      cases h
      obtain ⟨v, e0, r0⟩ := Ee.sh hg
      rw [r0.int_inv] at e0
      obtain ⟨j, r, e1, e2⟩ := bin_int ho hbin
      subst e2
      refine ⟨_, e0, F, G, fp, G1, y.1, y.2, Ee, h1, fun H1 fp1 w E1 T1 S1 R1 => ?_⟩
      rw [e1] at R1 hbin
      rw [(show RepX k _ H1 w (.int j) from R1).int_inv]
      refine ⟨i0, j, r, rfl, rfl, hbin, ?_⟩
      have hl : i < G1.length := by
        rw [← E1.len, Ee.len]; exact (List.getElem?_eq_some_iff.mp hg).1
      refine q _ H1 _ (E1.store (v := some (.int r)) hl ⟨⟨_, rfl, .int r⟩, rfl⟩ fun m z => by cases z) (T1.trans tr_less) fun l hl2 => ?_
      exact List.getElem?_set_ne fun e => hfx (by rw [e]; exact hl2)
    · cases h
  · cases h
/-! the small statements -/
theorem ss_expr (hs : notComp e = true) (he : PE X e (tE k C orc ie)) : PS X (.Expr e pos) (tS k C orc fr fx (.expr ie)) := ps_imp (ps_expr he (sw_no hs _ _ _)) fun D σ H ⟨F, G, fp, G', oo, Ee, h, q⟩ => by
  rw [evS] at h
  obtain ⟨G1, x, h1, h⟩ := R.bind_inv h
  cases h
  exact ⟨F, G, fp, _, x.1, x.2, Ee, h1, fun H1 fp1 v E1 T1 S1 R1 => q σ H1 fp1 E1 T1 fun _ _ => rfl⟩
theorem ss_doc {t : Str} {j : Nat} {pos' : Pos} : PS X (.Expr (.Constant (.str t) j pos') pos) (tS k C orc fr fx .pass) := ps_imp ps_doc fun D σ H ⟨F, G, fp, G', oo, Ee, h, q⟩ => by
  rw [evS] at h
  cases h
  exact q σ H fp Ee (.refl _ _) fun _ _ => rfl
theorem ss_pass : PS X (.Pass pos) (tS k C orc fr fx .pass) := ps_imp ps_pass fun D σ H ⟨F, G, fp, G', oo, Ee, h, q⟩ => by
  rw [evS] at h
  cases h
  exact q σ H fp Ee (.refl _ _) fun _ _ => rfl
theorem ss_brk : PS X (.Break pos) (tS k C orc fr fx .brk) := ps_imp ps_break fun D σ H ⟨F, G, fp, G', oo, Ee, h, q⟩ => by
  rw [evS] at h
  cases h
  exact q σ H fp Ee (.refl _ _) fun _ _ => rfl
theorem ss_cont : PS X (.Continue pos) (tS k C orc fr fx .cont) := ps_imp ps_continue fun D σ H ⟨F, G, fp, G', oo, Ee, h, q⟩ => by
  rw [evS] at h
  cases h
  exact q σ H fp Ee (.refl _ _) fun _ _ => rfl
theorem ss_raise {st : Stmt} : PS X st (tS k C orc fr fx .raise) := ⟨fun pins s σ H D I ⟨F, G, fp, G', oo, Ee, h, q⟩ => by rw [evS] at h; cases h⟩
theorem ss_ret (hf : fr = false) (he : PE X e (tE k C orc ie)) : PS X (.Return (some e) pos) (tS k C orc fr fx (.ret ie)) := ps_imp (ps_ret he) fun D σ H ⟨F, G, fp, G', oo, Ee, h, q⟩ => by
  rw [evS] at h
  obtain ⟨G1, x, h1, h⟩ := R.bind_inv h
  obtain ⟨hb, h⟩ := ite_bad h
  cases h
  refine ⟨F, G, fp, _, x.1, x.2, Ee, h1, fun H1 fp1 v E1 T1 S1 R1 => ?_⟩
  rw [hb] at R1
  exact q σ H1 fp1 E1 T1 (fun _ _ => rfl) v R1 fun z => by rw [hf] at z; cases z
theorem ss_retF (he : PE X e (tEf k C orc ie)) : PS X (.Return (some e) pos) (tS k C orc fr fx (.ret ie)) := ps_imp (ps_ret he) fun D σ H ⟨F, G, fp, G', oo, Ee, h, q⟩ => by
  rw [evS] at h
  obtain ⟨G1, x, h1, h⟩ := R.bind_inv h
  obtain ⟨hb, h⟩ := ite_bad h
  cases h
  obtain ⟨xd, xb⟩ := x
  simp only at hb
  subst hb
  exact ⟨F, G, fp, _, xd, Ee, h1, fun H1 fp1 v m E1 T1 S1 R1 hm f => q σ H1 fp1 E1 T1 (fun _ _ => rfl) v R1 fun _ => ⟨m, hm, f⟩⟩
theorem ss_retN (hf : fr = false) : PS X (.Return none pos) (tS k C orc fr fx .retN) := ps_imp ps_retN fun D σ H ⟨F, G, fp, G', oo, Ee, h, q⟩ => by
  rw [evS] at h
  cases h
  exact q σ H fp Ee (.refl _ _) (fun _ _ => rfl) .non .non fun z => by rw [hf] at z; cases z
theorem allLeaf_own : ∀ {ms : List M}, allLeaf ms = true → ∃ ds : List D, ms = ds.map .leaf ∧ M.fzL ms = ds
  | [], _ => ⟨[], rfl, rfl⟩
  | .leaf d :: ms, h => by
    obtain ⟨ds, e1, e2⟩ := allLeaf_own (ms := ms) h
    exact ⟨d :: ds, by rw [e1]; rfl, by show d :: M.fzL ms = d :: ds; rw [e2]⟩
  | .lst _ :: _, h => by cases h
  | .dic _ _ :: _, h => by cases h
  | .ins _ _ _ :: _, h => by cases h
theorem ss_retO (hi : X.N[i]? = some x) (hv : Vis X.env.scope x) (hd : (x == ("__debug__" : Str)) = false) (hcd : (x == ("__classdict__" : Str)) = false) : PS X (.Return (some (.Name x p)) pos) (tS k C orc fr fx (.retO i)) := ps_imp (ps_ret (pe_var hi hv hd hcd)) fun D σ H ⟨F, G, fp, G', oo, Ee, h, q⟩ => by
  rw [evS] at h
  split at h
  · rename_i m hg
    obtain ⟨hfl, h⟩ := ite_ok h
    cases h
    obtain ⟨v, e0, _, r1⟩ := Ee.freeze hg
    have E1 : EnvOk k F σ H (G.set i .dead) (fpSet fp i []) := by
      have := Ee.store (v := some v) (s := .dead) (List.getElem?_eq_some_iff.mp hg).1 rfl (fun _ z => by cases z)
      rwa [set_get e0] at this
    refine ⟨v, e0, q σ H _ E1 tr_less (fun _ _ => rfl) v r1 fun _ => ?_⟩
    obtain ⟨v', e1, rm⟩ := Ee.ow hg
    rw [e0] at e1
    cases e1
    have root : ∃ a, v = .ref a ∧ fp i = [a] ∧ own1 m.fz = some m := by
      generalize hfp : fp i = as at rm
      cases rm with
      | lst ha rs =>
        have := allLeaf_nil rs hfl
        subst this
        obtain ⟨ds, e2, e3⟩ := allLeaf_own hfl
        exact ⟨_, rfl, rfl, by show some (M.lst ((M.fzL _).map .leaf)) = _; rw [e3, ← e2]⟩
      | dic ha hk rs =>
        have := allLeaf_nil rs hfl
        subst this
        obtain ⟨ds, e2, e3⟩ := allLeaf_own hfl
        exact ⟨_, rfl, rfl, by show some (M.dic _ ((M.fzL _).map .leaf)) = _; rw [e3, ← e2]⟩
      | leaf _ => cases hfl
      | ins _ _ _ => cases hfl
    obtain ⟨a, rfl, hfp, ho⟩ := root
    have sub : ∀ y, Own (fun x => F x ∨ x = a) (fpSet fp i []) y → Own F fp y := fun y z => by
      rcases z with (z | z) | ⟨j, z⟩
      · exact .inl z
      · exact .inr ⟨i, by rw [hfp, z]; simp⟩
      · by_cases e : j = i
        · rw [e, fpSet_same] at z; cases z
        · rw [fpSet_ne e] at z; exact .inr ⟨j, z⟩
    refine ⟨m, ho, a, rfl, ?_, ?_, .inl ⟨i, by rw [hfp]; simp⟩⟩
    · refine ⟨E1.len, fun j => ?_, E1.nd, E1.dj, fun j y h1 h2 => ?_, Ee.pm.sub sub⟩
      · by_cases e : j = i
        · subst e
          rw [fpSet_same, List.getElem?_set_self (List.getElem?_eq_some_iff.mp hg).1]
          exact rfl
        · rw [List.getElem?_set_ne (Ne.symm e), fpSet_ne e]
          have hs := Ee.slot j
          cases hgj : G[j]? with
          | none => rw [hgj] at hs; exact hs
          | some sl =>
            rw [hgj] at hs
            cases sl with
            | dead => exact hs
            | sh d => obtain ⟨⟨x, e, r⟩, z⟩ := hs; exact ⟨⟨x, e, r.sub sub Ee.pm⟩, z⟩
            | ow m => obtain ⟨x, e, r⟩ := hs; exact ⟨x, e, r.mono Ext.refl Ee.pm (fun a q => .inl (sub a q)) fun _ _ => rfl⟩
      · rcases h2 with h2 | h2
        · exact E1.df j y h1 h2
        · by_cases e : j = i
          · rw [e, fpSet_same] at h1; cases h1
          · rw [fpSet_ne e] at h1
            exact e (Ee.dj j i y h1 (by rw [hfp, h2]; simp))
    · rw [← hfp]
      exact rm.mono Ext.refl Ee.pm (fun y z => .inl (sub y z)) fun _ _ => rfl
  · cases h
end
end Py
end
section
set_option Elab.async false
set_option linter.all false
set_option maxRecDepth 100000
set_option maxHeartbeats 4000000
namespace Py
open PySem PySem.Spec PyProof.Rows L2 C8
section
variable {k : Ki} {C : Ctx} {orc : Orc} {X : Cx} {F : Addr → Prop} {P : Addr → Prop} {σ σ' : St} {H H' : Hp} {G G' : Py.Env} {fp fp' : Fp} {fr : Bool} {fx : List Nat}
variable {o e : Expr} {pos p : Pos} {ie : E} {x : Str} {i : Nat}
theorem ss_ite {c : Expr} {a b : List Stmt} {ic : E} {ia ib : List S} (hc : PT X c (tT k C orc ic)) (ha : PSs X a (tSs k C orc fr fx ia)) (hb : PSs X b (tSs k C orc fr fx ib)) : PS X (.If c a b pos) (tS k C orc fr fx (.ite ic ia ib)) := by
  refine ps_imp (ps_if hc ha hb) fun D σ H ⟨F, G, fp, G', oo, Ee, h, q⟩ => ?_
  rw [evS] at h
  obtain ⟨G1, kb, h1, h⟩ := R.bind_inv h
  refine ⟨F, G, fp, G1, kb, Ee, h1, fun H1 fp1 E1 T1 S1 => ?_⟩
  cases kb with
  | true =>
    simp only [if_true] at h ⊢
    exact ⟨F, G1, fp1, G', oo, E1, h, fun σ2 H2 fp2 E2 T2 f2 => (q σ2 H2 fp2 E2 (T1.trans T2) f2).back T1⟩
  | false =>
    simp only [Bool.false_eq_true, if_false] at h ⊢
    exact ⟨F, G1, fp1, G', oo, E1, h, fun σ2 H2 fp2 E2 T2 f2 => (q σ2 H2 fp2 E2 (T1.trans T2) f2).back T1⟩
theorem ss_for (B : XB k X) (hxe : X.xe = fun _ _ => False) {tg iter : Expr} {body : List Stmt} {tgi : Tg} {iti : Py.It} {ib : List S} (hs : notSet iter = true) (hfx : ∀ j ∈ fx, j ∉ tgs tgi) (hi : PI X tg iter (tI k C orc iti)) (hg : PG X tg (tG k tgi)) (hb : PSs X body (tSs k C orc fr fx ib)) :
    PS X (.For tg iter body [] pos) (tS k C orc fr fx (.for_ tgi iti ib)) := by
  have hp : PassesOwn (model X.prog X.w) X.A X.env X.xe := by rw [hxe]; exact .never
  refine ps_imp (ps_for hp B.calm hi hg hb (folded hs _)) fun D σ H ⟨F, G, fp, G', oo, Ee, h, q⟩ => ?_
  rw [evS] at h
  obtain ⟨G1, r, h1, h⟩ := R.bind_inv h
  obtain ⟨hr, h⟩ := ite_bad h
  refine ⟨F, G, fp, G1, r.1, r.2, Ee, h1, fun J H1 fp1 E1 T1 S1 wk => ?_⟩
  refine ⟨fun i m σx Hx => m = r.1.length - i ∧ i ≤ r.1.length ∧ ∃ Gx fpx, EnvOk k F σx Hx Gx fpx ∧ Tr fp1 H1 fpx Hx ∧ (∀ j ∈ fx, σx[j]? = σ[j]?) ∧ forLoop (asgT tgi) (evSs C orc ib) (r.1.drop i) Gx = .ok G' oo, ⟨r.1.length, rfl, Nat.zero_le _, G1, fp1, E1, .refl _ _, fun _ _ => rfl, h⟩, ?_⟩
  rintro i m σx Hx ⟨rfl, hi, Gx, fpx, Ex, Tx, hfix, hl⟩
  obtain ⟨wst, wgo⟩ := wk Hx fpx F (fun a z => .inl z) Ex.pm Tx fun z => by rw [hr] at z; cases z
  by_cases hlt : i < r.1.length
  · right
    have hd : r.1[i]? = some r.1[i] := List.getElem?_eq_getElem hlt
    obtain ⟨jgo, jy⟩ := wgo i _ hd
    generalize hdi : r.1[i] = di at hd jy
    have hdr : r.1.drop i = di :: r.1.drop (i + 1) := by rw [List.drop_eq_getElem_cons hlt, hdi]
    rw [hdr] at hl
    unfold forLoop at hl
    obtain ⟨G3, u, t1, hl⟩ := R.bind_inv hl
    obtain ⟨Gb, ob, t2, hl⟩ := R.bind_inv hl
    refine ⟨jgo, fun σy Hy => ∃ Gy fpy, EnvOk k F σy Hy Gy fpy ∧ Tr fp1 H1 fpy Hy ∧ (∀ j ∈ fx, σy[j]? = σ[j]?) ∧ forLoop (asgT tgi) (evSs C orc ib) (r.1.drop (i + 1)) Gy = .ok G' oo, fun σy Hy hy => ⟨r.1.length - (i + 1), by omega, rfl, hlt, hy⟩, fun x Hy y => ?_⟩
    obtain ⟨sy, ry⟩ := jy x Hy y
    have Ey := Ex.same sy
    have Ty := Tx.trans (same_tr (fp := fpx) sy)
    refine ⟨F, Gx, fpx, di, G3, Ey, ry, t1, fun σ2 fp2 E2 T2 s2 => ⟨F, G3, fp2, Gb, ob, E2, t2, fun σ3 H3 fp3 E3 T3 f3 => ?_⟩⟩
    have T123 := (Ty.trans T2).trans T3
    have fix3 : ∀ j ∈ fx, σ3[j]? = σ[j]? := fun j hj => by rw [f3 j hj, s2 j (hfx j hj), hfix j hj]
    cases ob with
    | next => exact ⟨Gb, fp3, E3, T123, fix3, hl⟩
    | cont => exact ⟨Gb, fp3, E3, T123, fix3, hl⟩
    | brk => cases hl; exact q σ3 H3 fp3 E3 (T1.trans T123) fix3
    | ret d => cases hl; exact (q σ3 H3 fp3 E3 (T1.trans T123) fix3).back ((T1.trans Ty).trans T2)
  · left
    have e : i = r.1.length := by omega
    subst e
    rw [List.drop_length] at hl
    unfold forLoop at hl
    cases hl
    exact ⟨wst, q σx Hx fpx Ex (T1.trans Tx) hfix⟩
theorem ss_while (hxe : X.xe = fun _ _ => False) {c : Expr} {body : List Stmt} {ic : E} {ib : List S} (hc : PT X c (tT k C orc ic)) (hb : PSs X body (tSs k C orc fr fx ib)) : PS X (.While c body [] pos) (tS k C orc fr fx (.while_ ic ib)) := by
  have hp : PassesOwn (model X.prog X.w) X.A X.env X.xe := by rw [hxe]; exact .never
  refine ps_imp (ps_while hp hc hb) fun D σ H ⟨F, G, fp, G', oo, Ee, h, q⟩ => ?_
  rw [evS] at h
  refine ⟨fun m σx Hx => ∃ Gx fpx, EnvOk k F σx Hx Gx fpx ∧ Tr fp H fpx Hx ∧ (∀ j ∈ fx, σx[j]? = σ[j]?) ∧ whileLoop (evT C orc ic) (evSs C orc ib) m Gx = .ok G' oo, ⟨C.wh, G, fp, Ee, .refl _ _, fun _ _ => rfl, h⟩, ?_⟩
  rintro m σx Hx ⟨Gx, fpx, Ex, Tx, hfix, hl⟩
  cases m with
  | zero => simp [whileLoop] at hl
  | succ m =>
    unfold whileLoop at hl
    obtain ⟨G1, kb, t1, hl⟩ := R.bind_inv hl
    refine ⟨F, Gx, fpx, G1, kb, Ex, t1, fun H1 fp1 E1 T1 S1 => ?_⟩
    cases kb with
    | false =>
      simp only [Bool.false_eq_true, if_false] at hl ⊢
      cases hl
      exact q σx H1 fp1 E1 (Tx.trans T1) hfix
    | true =>
      simp only [if_true] at hl ⊢
      obtain ⟨Gb, ob, t2, hl⟩ := R.bind_inv hl
      refine ⟨fun σy Hy => ∃ Gy fpy, EnvOk k F σy Hy Gy fpy ∧ Tr fp H fpy Hy ∧ (∀ j ∈ fx, σy[j]? = σ[j]?) ∧ whileLoop (evT C orc ic) (evSs C orc ib) m Gy = .ok G' oo, fun σy Hy hy => ⟨m, Nat.lt_succ_self _, hy⟩, F, G1, fp1, Gb, ob, E1, t2, fun σ3 H3 fp3 E3 T3 f3 => ?_⟩
      have T3' := (Tx.trans T1).trans T3
      have fix3 : ∀ j ∈ fx, σ3[j]? = σ[j]? := fun j hj => by rw [f3 j hj, hfix j hj]
      cases ob with
      | next => exact ⟨Gb, fp3, E3, T3', fix3, hl⟩
      | cont => exact ⟨Gb, fp3, E3, T3', fix3, hl⟩
      | brk => cases hl; exact q σ3 H3 fp3 E3 T3' fix3
      | ret d => cases hl; exact (q σ3 H3 fp3 E3 T3' fix3).back (Tx.trans T1)
theorem ss_try (hxe : X.xe = fun _ _ => False) {body : List Stmt} {h0 : ExceptHandler} {hs : List ExceptHandler} {ib : List S} (hb : PSs X body (tSs k C orc fr fx ib)) : PS X (.Try body (h0 :: hs) [] [] pos) (tS k C orc fr fx (.try_ ib)) := by
  refine ps_imp (ps_try_never (fun e s z => by rw [hxe] at z; exact z) hb pss_nil) fun D σ H ⟨F, G, fp, G', oo, Ee, h, q⟩ => ?_
  rw [evS] at h
  exact ⟨F, G, fp, G', oo, Ee, h, q⟩

/-! ### a def -/
theorem start_get (N : List Str) (vs : List V) (i : Nat) : (L2.start N vs)[i]? = if i < vs.length then (vs.map some)[i]? else if i < N.length then some none else none := by
  unfold L2.start
  by_cases h : i < vs.length
  · rw [if_pos h, List.getElem?_append_left (by rw [List.length_map]; exact h)]
  · rw [if_neg h, List.getElem?_append_right (by rw [List.length_map]; omega), List.length_map, List.getElem?_replicate]
    by_cases h2 : i < N.length
    · rw [if_pos h2, if_pos (by omega)]
    · rw [if_neg h2, if_neg (by omega)]
theorem enter_env {N : List Str} {vs : List V} {as : List Slot} (E1 : EnvOk k F (vs.map some) H as fp) (hl : as.length ≤ N.length) : EnvOk k F (L2.start N vs) H (enter N.length as) fp := by
  have hlen : vs.length = as.length := by have := E1.len; rw [List.length_map] at this; exact this
  refine ⟨?_, fun i => ?_, E1.nd, E1.dj, E1.df, E1.pm⟩
  · unfold L2.start enter
    rw [List.length_append, List.length_append, List.length_map, List.length_replicate, List.length_replicate, hlen]
  · have hs := E1.slot i
    rw [start_get]
    unfold enter
    by_cases h : i < as.length
    · rw [if_pos (by omega), List.getElem?_append_left h]; exact hs
    · rw [List.getElem?_append_right (by omega)]
      have hf : fp i = [] := by
        rw [List.getElem?_eq_none (Nat.le_of_not_lt h)] at hs; exact hs
      rw [hf, List.getElem?_replicate]
      repeat (first | exact rfl | split)
/-- the owned parameters, where they are -/
def ioFrom : List Bool → Nat → List Nat
  | [], _ => []
  | true :: bs, n => n :: ioFrom bs (n + 1)
  | false :: bs, n => ioFrom bs (n + 1)
theorem leave_get : ∀ {bs : List Bool} {G : Py.Env} {os : List Slot}, leave bs G = some os → os.length = bs.length ∧ ∀ i : Nat, os[i]? = none ∨ os[i]? = some Slot.dead ∨ ∃ m, os[i]? = some (Slot.ow m) ∧ G[i]? = some (Slot.ow m) ∧ bs[i]? = some true
  | [], G, os, h => by
    simp [leave] at h; subst h; exact ⟨rfl, fun i => .inl (by simp)⟩
  | true :: bs, [], os, h => by simp [leave] at h
  | true :: bs, .ow m :: G, os, h => by
    simp only [leave] at h
    obtain ⟨os', h1, rfl⟩ := Option.map_eq_some_iff.mp h
    obtain ⟨l, g⟩ := leave_get h1
    refine ⟨by simp [l], fun i => ?_⟩
    cases i with
    | zero => exact .inr (.inr ⟨m, rfl, rfl, rfl⟩)
    | succ i => simpa using g i
  | true :: bs, .sh d :: G, os, h => by simp [leave] at h
  | true :: bs, .dead :: G, os, h => by simp [leave] at h
  | false :: bs, [], os, h => by simp [leave] at h
  | false :: bs, s :: G, os, h => by
    simp only [leave] at h
    obtain ⟨os', h1, rfl⟩ := Option.map_eq_some_iff.mp h
    obtain ⟨l, g⟩ := leave_get h1
    refine ⟨by simp [l], fun i => ?_⟩
    cases i with
    | zero => exact .inr (.inl rfl)
    | succ i => simpa using g i
theorem io_mem : ∀ {bs : List Bool} {n i : Nat}, bs[i]? = some true → n + i ∈ ioFrom bs n
  | [], n, i, h => by simp at h
  | true :: bs, n, 0, _ => by simp [ioFrom]
  | false :: bs, n, 0, h => by simp at h
  | true :: bs, n, i + 1, h => by
    have := io_mem (n := n + 1) (i := i) (bs := bs) (by simpa using h)
    simp only [ioFrom, List.mem_cons]
    right
    rwa [show n + (i + 1) = n + 1 + i from by omega]
  | false :: bs, n, i + 1, h => by
    have := io_mem (n := n + 1) (i := i) (bs := bs) (by simpa using h)
    simp only [ioFrom]
    rwa [show n + (i + 1) = n + 1 + i from by omega]
def fpLeave (fp : Fp) (os : List Slot) : Fp := fun i => match os[i]? with
  | some (.ow _) => fp i
  | _ => []
theorem fpLeave_sub {os : List Slot} {i : Nat} {a : Addr} (h : a ∈ fpLeave fp os i) : a ∈ fp i := by
  unfold fpLeave at h
  split at h
  · exact h
  · cases h
theorem leave_env {bs : List Bool} {vs : List V} {os : List Slot} (E1 : EnvOk k F σ H G fp) (h : leave bs G = some os) (hl : vs.length = bs.length) (hfix : ∀ i ∈ ioFrom bs 0, σ[i]? = (vs.map some)[i]?) : EnvOk k F (vs.map some) H os (fpLeave fp os) := by
  obtain ⟨lo, g⟩ := leave_get h
  have sub : ∀ a, Own F (fpLeave fp os) a → Own F fp a := fun a q => q.imp id fun ⟨i, z⟩ => ⟨i, fpLeave_sub z⟩
  refine ⟨by rw [List.length_map, lo, hl], fun i => ?_, fun i => ?_, fun i j a h1 h2 => E1.dj i j a (fpLeave_sub h1) (fpLeave_sub h2), fun i a h1 => E1.df i a (fpLeave_sub h1), E1.pm.sub sub⟩
  · rcases g i with e | e | ⟨m, e, e2, e3⟩
    · rw [e]; show fpLeave fp os i = []; unfold fpLeave; rw [e]
    · rw [e]; show fpLeave fp os i = []; unfold fpLeave; rw [e]
    · rw [e]
      obtain ⟨x, ex, r⟩ := E1.ow e2
      have hf : fpLeave fp os i = fp i := by unfold fpLeave; rw [e]
      have hi := hfix i (by have := io_mem (n := 0) e3; simpa using this)
      refine ⟨x, by rw [← hi]; exact ex, ?_⟩
      rw [hf]
      exact r.mono Ext.refl E1.pm (fun a q => .inl (sub a q)) fun _ _ => rfl
  · unfold fpLeave
    split
    · exact E1.nd i
    · exact List.nodup_nil
theorem tr_leave {os : List Slot} : Tr fp H (fpLeave fp os) H := ⟨fun _ _ h _ => h, fun i a h => .inl ⟨i, fpLeave_sub h⟩, fun _ h => h⟩
/-- what a def's body reaches is what the def promises -/
theorem fn_red {C : Ctx} {orc : Orc} {Fn0 : Fn} {N : List Str} {f : Nat} {vs : List V} {H : Hp} {Q : VK} {E : XK} {orc' : Orc} (hN : Fn0.n = N.length) (hfr : C.fr f = Fn0.fr) (ho : ∀ as, orc' f as = runFn C orc Fn0 as) (h : spF k C orc' f Fn0.io.length vs H Q E) :
    tSs k C orc Fn0.fr (ioFrom Fn0.io 0) Fn0.body { nx := fun _ H' => Q .non H', rt := Q } (L2.start N vs) H := by
  obtain ⟨hlen, F, as, os, d, fp, hrun, E1, q⟩ := h
  rw [ho] at hrun
  unfold runFn at hrun
  split at hrun
  · rename_i hc
    rw [Bool.and_eq_true, decide_eq_true_eq] at hc
    have hal : as.length ≤ N.length := by rw [← hN]; exact hc.2
    have Es := enter_env E1 hal
    rw [hN] at hrun
    split at hrun
    · rename_i G o hev
      refine ⟨F, _, fp, G, o, Es, hev, fun σ' H' fp' E' T fix => ?_⟩
      split at hrun
      · rename_i os' hlv
        have hlb : vs.length = Fn0.io.length := hlen
        have fixv : ∀ i ∈ ioFrom Fn0.io 0, σ'[i]? = (vs.map some)[i]? := fun i hi => by
          rw [fix i hi, start_get]
          have : ∀ {bs : List Bool} {n i : Nat}, i ∈ ioFrom bs n → i < n + bs.length := by
            intro bs
            induction bs with
            | nil => intro n i h; cases h
            | cons b bs ih =>
              intro n i h
              cases b with
              | true =>
                simp only [ioFrom, List.mem_cons] at h
                rcases h with h | h
                · rw [h, List.length_cons]; omega
                · have := ih h; rw [List.length_cons]; omega
              | false => have := ih (show i ∈ ioFrom bs (n + 1) from h); rw [List.length_cons]; omega
          have := this hi
          rw [if_pos (by omega)]
        have E2 := leave_env (vs := vs) E' hlv hlb fixv
        split at hrun
        · rename_i d'
          have e1 : os' = os := by injection hrun
          have e2 : d' = d := by injection hrun
          subst e1 e2
          intro v R fr
          refine q H' _ v E2 (T.trans tr_leave) (R.sub (fun a z => z.imp id fun ⟨i, y⟩ => ⟨i, fpLeave_sub y⟩) E'.pm) fun hf => ?_
          rw [hfr] at hf
          obtain ⟨m, hm, a, ev, Ea, rm, ha⟩ := fr hf
          refine ⟨m, hm, a, ev, leave_env Ea hlv hlb fixv, ?_, ha⟩
          exact rm.mono Ext.refl Ea.pm (fun y z => .inl (z.imp id fun ⟨i, y⟩ => ⟨i, fpLeave_sub y⟩)) fun _ _ => rfl
        · split at hrun
          · cases hrun
          · rename_i hnf
            have e1 : os' = os := by injection hrun
            have e2 : D.non = d := by injection hrun
            subst e1 e2
            exact q H' _ .non E2 (T.trans tr_leave) .non fun hf => by rw [hfr] at hf; exact absurd hf hnf
        · cases hrun
      · cases hrun
    · cases hrun
  · cases hrun
end
end Py
end
section
set_option Elab.async false
set_option linter.all false
set_option maxRecDepth 100000
set_option maxHeartbeats 4000000
namespace Py
open PySem PySem.Spec PyProof.Rows L2 C8
section
variable {k : Ki} {C : Ctx} {orc : Orc} {X : Cx} {F : Addr → Prop} {P : Addr → Prop} {σ : St} {H H' : Hp} {G : Py.Env} {fp fp' : Fp}
variable {x : Str} {p pos apos p2 pos2 : Pos} {a e o : Expr} {es : List Expr} {ea : E} {ies : List E} {j jj : Nat}
/-! ### list(range(n)) -/
theorem rg_rep : ∀ (n : Nat) (a b : Int), (b - a).toNat = n → RepL k P H (rgV a b) (rangeD a b) := by
  intro n a b _
  unfold rgV rangeD
  induction List.range (b - a).toNat with
  | nil => exact .nil
  | cons i l ih => exact .cons (.int _) ih
theorem sef_lrng (B : XB k X) (hg : Gl X "list") (hm : X.mg "list" = none) (hg2 : Gl X "range") (hm2 : X.mg "range" = none) (hs2 : noStar a = true) (ha : PE X a (tE k C orc ea)) :
    PE X (.Call (.Name "list" p) [.Call (.Name "range" p2) [a] [] pos2] [] pos) (tEf k C orc (.lrng ea)) := by
  refine pe_imp (pe_listRg B.calm hg hm (prg_1 hg2 hm2 ha (star_cons hs2 _ _)) (star_cons rfl _ _)) fun σ H Q ⟨F, G, fp, G', d, Ee, h, q⟩ => ?_
  rw [ev] at h
  obtain ⟨G1, x, h1, h⟩ := R.bind_inv h
  obtain ⟨h3, rfl⟩ := R.ofO_inv h
  obtain ⟨i, h4, h5⟩ := Option.bind_eq_some_iff.mp h3
  split at h5
  · rename_i hb
    cases h5
    refine ⟨F, G, fp, G1, x.1, x.2, Ee, h1, fun H1 fp1 v E1 T1 S1 R1 => ⟨i, ?_, ?_, fun y hy => ?_⟩⟩
    · rw [asInt_some h4] at R1
      rw [(show RepX k _ H1 v (.int i) from R1).int_inv]
    · have := ltp_int hb
      have e24 : (2 : Int) ^ 24 = 16777216 := by decide
      have e62 : (2 : Int) ^ 62 = 4611686018427387904 := by decide
      refine ⟨by omega, by omega, by omega, by omega, ?_⟩
      have : (2 : Nat) ^ 24 = 16777216 := by decide
      omega
    · have s : Same H1 (upd H1 y (.lst (rgV 0 i))) := same_new hy
      have rl : RepL k (Own F fp1) H1 (rgV 0 i) (rangeD 0 i) := rg_rep _ 0 i rfl
      exact q _ fp1 _ _ (E1.same s) (T1.trans (same_tr s)) (fun m => by simp only [Py.E.mf] at m; exact same_trans (S1 m) s)
        (.lst ⟨upd_same, pm_free E1.pm hy⟩ (RepL.mono (same_ext s) E1.pm (fun a z => .inl z) rl)) rfl ((fr_new E1 hy rfl rl).tr T1)
  · cases h5
theorem lrng_clean : ∀ G G' d b, ev C orc (.lrng ea) G = .ok G' (d, b) → b = false := by
  intro G G' d b h
  rw [ev] at h
  obtain ⟨G1, x, h1, h⟩ := R.bind_inv h
  obtain ⟨h3, rfl⟩ := R.ofO_inv h
  obtain ⟨i, h4, h5⟩ := Option.bind_eq_some_iff.mp h3
  split at h5
  · cases h5; rfl
  · cases h5
/-! ### f(fresh, e, ..) -/
theorem callT_red {f : Nat} {σ : St} {H : Hp} {Q : VK} (h : tE k C orc (.callT f ea ies) σ H Q) :
    tCons (tEf k C orc ea) (tEs k C orc ies) σ H fun vs H1 => spF k C orc f (ies.length + 1) vs H1 Q C8.E0 := by
  obtain ⟨F, G, fp, G', d, b, E0, h, q⟩ := h
  rw [ev] at h
  obtain ⟨G1, x, h1, h⟩ := R.bind_inv h
  obtain ⟨hb1, h⟩ := ite_bad h
  have hx : x = (x.1, false) := by rw [← hb1]
  rw [hx] at h1
  refine ⟨F, G, fp, G1, x.1, E0, h1, fun H1 fp1 v m E1 T1 S1 R1 hm fr => ?_⟩
  rw [hm] at h
  obtain ⟨G2, r, h2, h⟩ := R.bind_inv h
  obtain ⟨hb2, h⟩ := ite_bad h
  have ln : r.1.length = ies.length := evs_len (ds := r.1) (b := r.2) h2
  obtain ⟨a, rfl, Ea, rm, hn⟩ := fr
  refine ⟨_, G1, fp1, G2, r.1, r.2, Ea, h2, fun H2 fp2 vs E2 T2 S2 R2 => ?_⟩
  rw [hb2] at R2
  have R2 : RepL k (Own (fun y => F y ∨ y = a) fp2) H2 vs r.1 := R2
  split at h
  · rename_i _ mo os d' ho
    have hG : G2 = G' := by injection h
    have hd : (d', false) = (d, b) := by injection h
    subst hG
    cases hd
    -- a is no slot's and not the frame's
    have na : ∀ i, a ∉ fp2 i := fun i z => E2.df i a z (.inr rfl)
    have na1 : ∀ i, a ∉ fp1 i := fun i z => Ea.df i a z (.inr rfl)
    have nF : ¬ F a := by
      rcases hn with ⟨i, z⟩ | z
      · exact E0.df i a z
      · exact fun y => pm_free E0.pm z (.inl y)
    have nO : ¬ Own F fp2 a := fun z => by
      rcases z with z | ⟨i, z⟩
      · exact nF z
      · exact na i z
    have sub : ∀ y, Own (Own F fp2) (fpOne a) y → Own (fun y => F y ∨ y = a) fp2 y := fun y z => by
      rcases z with (z | ⟨i, z⟩) | ⟨i, z⟩
      · exact .inl (.inl z)
      · exact .inr ⟨i, z⟩
      · exact .inl (.inr (mem_fpOne z).2)
    have sub2 : ∀ y, Own F fp2 y → Own (fun y => F y ∨ y = a) fp2 y := fun y z => by
      rcases z with z | z
      · exact .inl (.inl z)
      · exact .inr z
    have rm2 : RepM k (Own (Own F fp2) (fpOne a)) H2 (.ref a) m [a] := by
      refine (rm.mono T2.ext Ea.pm (fun y z => T2.sub y (sub y z)) fun y hy => ?_)
      obtain ⟨o, ho⟩ := rm.there y hy
      rw [ho]
      rw [List.mem_singleton.mp hy] at ho ⊢
      exact T2.keep a o ho na1
    refine ⟨by rw [List.length_cons, R2.length, ln], Own F fp2, _, _, _, fpOne a, ho, ?_, fun H' fpc w E' T' R' _ => ?_⟩
    · refine ⟨by rw [List.length_map, List.length_cons, List.length_cons, List.length_map, R2.length], fun i => ?_, fun i => ?_, fun i i' y z1 z2 => by rw [(mem_fpOne z1).1, (mem_fpOne z2).1], fun i y z => by rw [(mem_fpOne z).2]; exact nO, E2.pm.sub sub⟩
      · cases i with
        | zero => exact ⟨.ref a, rfl, rm2⟩
        | succ i =>
          show SlotOk k _ _ ((vs.map some)[i]?) _ ((r.1.map Slot.sh)[i]?)
          rw [List.getElem?_map, List.getElem?_map]
          cases e : r.1[i]? with
          | none => exact rfl
          | some d =>
            obtain ⟨v, e1, r1⟩ := R2.get e
            rw [e1]
            exact ⟨⟨v, rfl, r1.sub sub E2.pm⟩, rfl⟩
      · unfold fpOne; split
        · simp
        · simp
    · -- back: what the slots own stays as it was
      have keep2 : ∀ y o, H2 y = some o → y ≠ a → H' y = some o := fun y o h n => T'.keep y o h fun i z => n (mem_fpOne z).2
      have pm' : Pm (Own F fp2) H' := E'.pm.sub fun y z => .inl z
      have ext : Ext (Own (fun y => F y ∨ y = a) fp2) H2 H' := fun y o h n => keep2 y o h fun z => n (.inl (.inr z))
      have rep : ∀ {v : V} {d : D}, RepX k (Own (fun y => F y ∨ y = a) fp2) H2 v d → RepX k (Own F fp2) H' v d := fun r => r.mono ext E2.pm fun y z => .inl (sub2 y z)
      have T12 := T1.trans T2
      have hab : ∀ o, H a = some o → ∃ i, a ∈ fp i := fun o h => by
        rcases hn with z | z
        · exact z
        · rw [z] at h; cases h
      have E3 : EnvOk k F σ H' G2 fp2 := by
        refine ⟨E2.len, fun i => ?_, E2.nd, E2.dj, fun i y z w => E2.df i y z (.inl w), pm'⟩
        have hs := E2.slot i
        cases hg : G2[i]? with
        | none => rw [hg] at hs; exact hs
        | some sl =>
          rw [hg] at hs
          cases sl with
          | dead => exact hs
          | sh d => obtain ⟨⟨x, e, r⟩, z⟩ := hs; exact ⟨⟨x, e, rep r⟩, z⟩
          | ow m =>
            obtain ⟨x, e, r⟩ := hs
            refine ⟨x, e, r.mono ext E2.pm (fun y z => .inl (sub2 y z)) fun y hy => ?_⟩
            obtain ⟨o, ho⟩ := r.there y hy
            rw [ho]
            exact keep2 y o ho fun z => na i (z ▸ hy)
      refine q H' fp2 w E3 ⟨fun y o h n => ?_, T12.new, fun y h => T12.stay y (T'.stay y h)⟩ (fun m => by simp [Py.E.mf] at m) (R'.sub (fun y z => .inl z) E'.pm)
      exact keep2 y o (T12.keep y o h n) fun z => by
        subst z
        obtain ⟨i, z⟩ := hab o h
        exact n i z
  · cases h
theorem se_callT {f : Nat} (c : Cal X.prog X.w X.K X.mg X.base jj x (spF k C orc f (ies.length + 1)) []) (hr : Room j X.A) (hk : jj ≤ j) (hg : Gl X x) (hdb : (x == ("__debug__" : Str)) = false) (hs : (e :: es).all noStar = true)
    (he : PE X e (tEf k C orc ea)) (hes : PA X es (tEs k C orc ies)) : PE X (.Call (.Name x p) (e :: es) [] pos) (tE k C orc (.callT f ea ies)) := by
  rw [List.all_cons, Bool.and_eq_true] at hs
  refine pe_imp (pe_c c hr hk hg (pa_cons he hes (star_cons hs.1 _ _)) hdb (star_cons hs.1 _ _) (star_any hs.2 _ _)) fun σ H Q h => ?_
  have h := callT_red h
  obtain ⟨F, G, fp, G', d, E0, h, q⟩ := h
  refine ⟨F, G, fp, G', d, E0, h, fun H1 fp1 v m E1 T1 S1 R1 hm fr => ?_⟩
  obtain ⟨F2, G2, fp2, G3, ds, b, E2, h2, q2⟩ := q H1 fp1 v m E1 T1 S1 R1 hm fr
  refine ⟨F2, G2, fp2, G3, ds, b, E2, h2, fun H3 fp3 vs E3 T3 S3 R3 => ?_⟩
  show spF k C orc f (ies.length + 1) ((v :: vs) ++ []) H3 Q C8.E0
  rw [List.append_nil]
  exact q2 H3 fp3 vs E3 T3 S3 R3
/-! ### l.pop(i) -/
theorem RepMs.erase : ∀ {vs : List V} {ms : List M} {as : List Addr} {d : D} {j : Nat}, RepMs k P H vs ms as → ms[j]? = some (.leaf d) → ∃ y, vs[j]? = some y ∧ RepX k P H y d ∧ RepMs k P H (vs.eraseIdx j) (ms.eraseIdx j) as
  | _, _, _, d, j, .nil, h => by cases j <;> cases h
  | _, _, _, d, 0, .cons h t, e => by
    simp only [List.getElem?_cons_zero, Option.some.injEq] at e
    subst e
    cases h with
    | leaf r => exact ⟨_, rfl, r, t⟩
  | _, _, _, d, j + 1, .cons h t, e => by
    obtain ⟨y, e1, r, s⟩ := RepMs.erase (j := j) t (by simpa using e)
    exact ⟨y, by simpa using e1, r, .cons h s⟩
theorem seqIx {n : Nat} {i : Int} {j : Nat} (h : ixN n i = some j) : seqIndex? i n = some j := by
  unfold ixN at h
  unfold seqIndex?
  split at h
  · rename_i h0
    split at h
    · rename_i h1
      cases h
      have : ¬ i < 0 := by omega
      simp [this, h0, h1]
    · cases h
  · rename_i h0
    split at h
    · rename_i h1
      cases h
      have : i < 0 := by omega
      have h3 : 0 ≤ i + (n : Int) := by omega
      have h4 : i + (n : Int) < n := by omega
      simp [this, h3, h4]
    · cases h
theorem ixN_lt {n : Nat} {i : Int} {j : Nat} (h : ixN n i = some j) : -(n : Int) ≤ i ∧ i < n := by
  unfold ixN at h
  split at h
  · split at h
    · omega
    · cases h
  · split at h
    · omega
    · cases h
theorem se_popAt (B : XB k X) {i : Nat} (ho : attrOk o = true) (hs : noStar e = true) (hline : (apos.endLine == pos.line) = true) (hoo : PE X o (tP k i [])) (he : PE X e (tE k C orc ea)) :
    PE X (.Call (.Attribute o "pop" apos) [e] [] pos) (tE k C orc (.mut .popAt i [] [ea])) := by
  have hs' : [e].all noStar = true := by rw [List.all_cons, hs]; rfl
  refine pe_imp (pe_bm PySem.F.plainAttrs_list PySem.F.slot_list_pop PySem.F.type_list_pop mt_popAt hoo (ses_cons hs he ses_nil) (attBase ho _ _ _) (few_ok hs' (by show 1 < 29; decide)) hline (star_cons hs _ _) rfl) fun σ H Q ⟨F, G, fp, G', d, bb, Ee, h, q⟩ => ?_
  rw [ev] at h
  obtain ⟨hc, h⟩ := ite_ok h
  rw [Bool.and_eq_true] at hc
  obtain ⟨ms0, hg0⟩ := read_lst hc.1
  obtain ⟨v, e0, r0⟩ := Ee.ow hg0
  obtain ⟨G1, r, h1, h⟩ := R.bind_inv h
  obtain ⟨hb1, h⟩ := ite_bad h
  obtain ⟨G2, y, h2, h⟩ := R.bind_inv h
  cases h
  obtain ⟨m, m', hg, hf, rfl⟩ := updPl_inv h2
  refine ⟨v, v, e0, .nil, ?_, F, G, fp, G1, r.1, r.2, Ee, h1, fun H1 fp1 vs E1 T1 S1 R1 => ?_⟩
  · generalize fp i = as0 at r0
    cases r0 with
    | lst ha _ => exact .inl ⟨rfl, _, .inl (.inl ha)⟩
  unfold mutM at hf
  split at hf
  · rename_i hme _; cases hme
  · rename_i hme _; cases hme
  · rename_i iz xs _ hr
    obtain ⟨jx, hj, hf⟩ := Option.bind_eq_some_iff.mp hf
    split at hf
    · rename_i dv hl
      split at hf
      · rename_i hz
        cases hf
        rw [hb1] at R1
        rw [hr] at R1
        obtain ⟨w, rfl, rw'⟩ := repL1 R1
        rw [(show RepX k _ H1 w (.int iz) from rw').int_inv]
        obtain ⟨v1, e1, r1⟩ := E1.ow hg
        rw [e0] at e1
        cases e1
        have nd := E1.nd i
        generalize hfp : fp1 i = as at r1 nd
        cases r1 with
        | @lst a vs _ as' ha rs =>
          have hai : a ∈ fp1 i := by rw [hfp]; exact List.mem_cons_self
          obtain ⟨w2, e2, rw2, rs'⟩ := rs.erase hl
          have ext : Ext (Own F fp1) H1 (upd H1 a (.lst (vs.eraseIdx jx))) := fun b u h n => by
            rw [upd_ne (fun z => n (.inr ⟨i, by rw [z]; exact hai⟩))]; exact h
          have bd := ixN_lt hj
          have hz2 := ltp_lt hz
          have e30 : (2 : Nat) ^ 30 = 1073741824 := by decide
          have e63 : (2 : Int) ^ 63 = 9223372036854775808 := by decide
          refine ⟨a, vs, iz, jx, w2, rfl, rfl, ha, by omega, by omega, by rw [rs.length]; exact seqIx hj, e2, ?_⟩
          refine q _ fp1 w2 (E1.write (List.getElem?_eq_some_iff.mp hg).1 hai trivial ⟨.ref a, e0, ?_⟩) (T1.trans (tr_write hai)) (fun m => by simp [Py.E.mf] at m) (rw2.mono ext E1.pm fun _ q => .inl q)
          rw [hfp]
          exact .lst upd_same (rs'.mono ext E1.pm (fun _ q => .inl q) fun b hb => upd_ne fun z => (List.nodup_cons.mp nd).1 (by rw [← z]; exact hb))
      · cases hf
    · cases hf
  · cases hf
/-! ### reversed(range(n)) -/
variable {tg : Expr}
theorem rrev_get {j : Int} {i : Nat} {d : D} (h : ((rangeD 0 j).reverse)[i]? = some d) : i < j.toNat ∧ d = .int (0 + ((j - 0).toNat : Int) - 1 + (i : Nat) * (-1)) := by
  have hl : i < (rangeD 0 j).reverse.length := by
    by_cases hi : i < (rangeD 0 j).reverse.length
    · exact hi
    · rw [List.getElem?_eq_none (by omega)] at h; cases h
  rw [List.length_reverse, rng_len] at hl
  rw [List.getElem?_reverse (by rw [rng_len]; exact hl), rng_len] at h
  obtain ⟨h1, rfl⟩ := rng_get h
  refine ⟨by omega, ?_⟩
  congr 1
  omega
theorem wk_rrng {j : Int} {b : Bool} : Wk k F fp H (Itc (0 + (((j - 0).toNat : Nat) : Int) - 1) (-1) (j - 0).toNat) (rangeD 0 j).reverse b := fun H2 fp2 F2 hF pm2 t s =>
  ⟨by rw [List.length_reverse, rng_len]; exact Nat.le_refl _, fun i d hd => by
    obtain ⟨h1, rfl⟩ := rrev_get hd
    exact ⟨by show i < _; omega, fun x H3 y => ⟨by rw [y.1]; exact ssame, by rw [y.2]; exact .int _⟩⟩⟩
theorem si_rrng1 (hg : Gl X "reversed") (hm : X.mg "reversed" = none) (hg2 : Gl X "range") (hm2 : X.mg "range" = none) (hs2 : noStar a = true) (ha : PE X a (tE k C orc ea)) :
    PI X tg (.Call (.Name "reversed" p) [.Call (.Name "range" p2) [a] [] pos2] [] pos) (tI k C orc (.rrng1 ea)) := by
  refine pi_imp (pi_revR hg hm (prg_1 hg2 hm2 ha (star_cons hs2 _ _)) (star_cons rfl _ _)) fun σ H RR ⟨F, G, fp, G', ds, b, Ee, h, q⟩ => ?_
  rw [evIt] at h
  obtain ⟨G1, x, h1, h⟩ := R.bind_inv h
  obtain ⟨h3, rfl⟩ := R.ofO_inv h
  obtain ⟨i, h4, h5⟩ := Option.bind_eq_some_iff.mp h3
  split at h5
  · rename_i hb
    cases h5
    obtain ⟨b1, b2⟩ := rngOk_bd hb
    refine ⟨F, G, fp, G1, x.1, x.2, Ee, h1, fun H1 fp1 v E1 T1 S1 R1 => ⟨i, ?_, ?_⟩⟩
    · rw [asInt_some h4] at R1
      rw [(show RepX k _ H1 v (.int i) from R1).int_inv]
    · refine ⟨by decide, by decide, b1, b2, ?_⟩
      exact q _ H1 fp1 E1 T1 (fun m => S1 (by simpa [Py.It.mf] using m)) wk_rrng
  · cases h5
end
end Py
end
section
set_option Elab.async false
set_option linter.all false
set_option maxRecDepth 100000
set_option maxHeartbeats 4000000
namespace Py
open PySem PySem.Spec PyProof.Rows PySem.W
/-! ### sorted(d.keys()), the keys whole numbers -/
section
variable {prog : Program} {w : World} {A : Around} {E : Value → Shared → Prop} {s : Shared} {T : String} {r d : Addr} {n : Nat} {P : Nat → Value → Prop} {OK : Heap → Prop}
theorem sk_collect {R : List Value → Shared → Prop} (K : KdlSrc prog w T r d n P OK) (hh : A.handled = none) (hok : OK s.heap) (hn : n ≤ sizeLine)
    (h : ∀ (h' : Heap) (tk : Nat) (vs : List Value), (∀ b o, s.heap.get? b = some o → h'.get? b = some o) → s.heap.objs.size < h'.objs.size → vs.length = n → (∀ (j : Nat) (v : Value), vs[j]? = some v → P j v) → R vs { s with heap := h', toks := tk }) :
    wpAny (model prog w) A (collect (.ref r)) R E s := by
  have hlt := K.there _ hok
  unfold collect
  refine wpAny_bind (wpAny_runValue (codeAny_builtin entry_proto_collect' ?_))
  rw [Around.under_plainId PySem.F.plain_proto_collect _]
  show wpAny _ A.in1 (newList [] >>= fun l => again (.builtin "list.__iadd__" ⟨[l, .ref r], []⟩)) _ _ s
  refine wpAny_bind (wpAny_newObj_type ?_)
  refine wpAny_pure ⟨plainId_quiet PySem.F.plain_list_iadd _, codeAny_builtin entry_list_iadd' ?_⟩
  rw [Around.under_plainId PySem.F.plain_list_iadd _]
  have hS₁ : (s.heap.push { cls := .type "list", data := .seq ([] : List Value).toArray }).get? s.heap.objs.size = some { cls := .type "list", data := .seq #[] } := Heap.get?_push_size _ rfl
  show wpAny _ A.in1 (Builtin.List.listExtendWith (.ref s.heap.objs.size) (.ref r) (.ref s.heap.objs.size)) _ _ _
  have key := kdl_extend (prog := prog) (w := w) (A := A) (s := { s with heap := s.heap.push { cls := .type "list", data := .seq ([] : List Value).toArray } }) 
    (R := fun (q : Result) (s' : Shared) => ∃ (h' : Heap) (tk : Nat) (acc' : Array Value) (c' : Nat), q = .ok (.ret (.ref s.heap.objs.size)) ∧ s' = { s with heap := h', toks := tk } ∧
      (∀ b o, s.heap.get? b = some o → h'.get? b = some o) ∧ h'.get? s.heap.objs.size = some { cls := .type "list", dict := none, data := .seq acc' c', slots := #[] } ∧ ItemsOf P acc' n)
    K hh (K.keep _ _ hok fun b _ o e => Heap.get?_push_of_some _ e) s.heap.objs.size (Nat.ne_of_gt hlt.1) (Nat.ne_of_gt hlt.2) (.ref s.heap.objs.size) 0 hS₁
    (fun h' tk acc' c' hk hS' hacc => ⟨h', tk, acc', c', rfl, rfl, fun b o e => hk b o (Nat.ne_of_lt (Heap.lt_size e)) (Heap.get?_push_of_some _ e), hS', hacc⟩) hn
  refine wpAny_mono key (fun fin s' x => ?_) fun e s' x => ?_
  · cases fin with
    | done f =>
      obtain ⟨h', tk, acc', c', e, rfl, hk, hS', hacc⟩ := x
      cases e
      show wpAny _ A (load s.heap.objs.size >>= _) _ _ _
      refine wpAny_bind (wpAny_load hS' ?_)
      refine wpAny_pure ?_
      show R acc'.toList _
      exact h h' tk acc'.toList hk (Heap.lt_size hS') (by rw [Array.length_toList]; exact hacc.1) fun j v q => hacc.2 j v (by rw [← Array.getElem?_toList]; exact q)
    | again c₁ =>
      refine ⟨x.1, codeAny_mono x.2 fun q s₂ y => ?_⟩
      obtain ⟨h', tk, acc', c', rfl, rfl, hk, hS', hacc⟩ := y
      show wpAny _ A (load s.heap.objs.size >>= _) _ _ _
      refine wpAny_bind (wpAny_load hS' ?_)
      refine wpAny_pure ?_
      show R acc'.toList _
      exact h h' tk acc'.toList hk (Heap.lt_size hS') (by rw [Array.length_toList]; exact hacc.1) fun j v q => hacc.2 j v (by rw [← Array.getElem?_toList]; exact q)
  · obtain ⟨_, _, _, _, e', _⟩ := x
    cases e'
end
open L2
def keysO (p d : Addr) : HO := .ext fun h => KdlKeysView h p d
theorem keysO_ok {P : Program} {w : World} {H : Hp} {h : Heap} {p d : Addr} (e : h.get? p = some { cls := .type "dict_keys", data := .fields #[.ref d] }) : ObjOk P w H h p (keysO p d) :=
  ⟨⟨_, e, rfl, rfl⟩, ⟨_, e⟩, fun h1 h2 x k => let ⟨o, ho, r⟩ := x; ⟨o, k o ho, r⟩⟩
section
variable {X : Cx}
def rKeysK : V → List V → Hp → VK → Prop := fun x xs H Q => ∃ (a : Addr) (kvs : List (L2.Key × V)), x = .ref a ∧ xs = [] ∧ H a = some (.dK kvs) ∧ ∀ p, H p = none → Q (.ref p) (upd H p (keysO p a))
theorem mt_keysK : MtR X "dict.keys" rKeysK := by
  intro pins s σ H x xs v us Q I rx rxs h
  obtain ⟨a, kvs, rfl, rfl, ha, q⟩ := h
  cases rx
  cases rxs
  obtain ⟨z, hd, vs, rel, dd⟩ := dk_of I.hok ha
  refine call_meetsIn PySem.F.slot_dict_keys dd.typeIs PySem.F.entry_dict_keys (PySem.F.args_dict_keys_1 _) (kdl_meets_keys (mixKind X.prog X.w) a hd) ⟨⟨vs, dd⟩, ?_⟩
  have hf : H s.heap.objs.size = none := I.hok.fresh (Nat.le_refl _)
  exact ⟨.ref s.heap.objs.size, upd H s.heap.objs.size (keysO s.heap.objs.size a), I.laid (t' := s.toks) (fun b u e => Heap.get?_push_of_some _ e) (Nat.le_refl _) (keysO_ok (Heap.get?_push_size _ rfl)), rfl, q _ hf⟩
def rSortKeys : List V → Hp → VK → Prop := fun vs H Q => ∃ (p a : Addr) (kvs : List (L2.Key × V)) (ns : List Int), vs = [.ref p] ∧ H p = some (keysO p a) ∧ H a = some (.dK kvs) ∧ kvs.map (·.1) = ns.map Sum.inl ∧
  ∀ l, H l = none → Q (.ref l) (upd H l (.lst ((sortInts ns).map V.int)))
theorem cr_sortKeys (hc : X.calm = true) : CallR X (.builtin "sorted") rSortKeys := by
  intro pins s σ H vs us Q I r h
  obtain ⟨p, a, kvs, ns, rfl, hp, ha, hk, q⟩ := h
  obtain rfl := Vals.ref1 r
  have view : KdlKeysView s.heap p a := (show ObjOk X.prog X.w H s.heap p (keysO p a) from I.hok p _ hp).1
  obtain ⟨z, hd, vs, rel, dd⟩ := dk_of I.hok ha
  obtain ⟨ep, hat⟩ := dd.dictAt
  have hl : kvs.length = vs.length := Paired.length rel
  have hlk : kvs.length = ns.length := by have := congrArg List.length hk; simpa using this
  refine PySem.Calls.call_function_entry kind_sorted plain_sorted entry_sorted (args_sorted1 _) ?_
  unfold Builtin.«sorted»
  refine wpAny_bind (m := checkCount "sorted" 1 1 _) (wpAny_pure ?_)
  refine wpAny_bind (sk_collect (A := X.A.in1) (kdl_keys (knd := mixKind X.prog X.w) (r := p) (kvs := vs) (ep := ep)) (I.ok.hd hc) ⟨view, hat⟩ (by rw [← hl]; exact z) fun h' tk ws hkeep hlt hlen hP => ?_)
  refine wpAny_bind (wpAny_newList ?_ (by rw [hlen, ← hl]; exact z))
  have hi : IntsAre ws ns := by
    refine (vals_of_at (xs := ns.map V.int) (by rw [List.length_map, hlen, ← hl, hlk]) fun j x u h1 h2 => ?_).ints
    obtain ⟨k, y, hky, hik⟩ := hP j u h2
    have e1 : (kvs.map (·.1))[j]? = some k := by
      rw [KV.keys rel, List.getElem?_map, hky] <;> rfl
    rw [hk, List.getElem?_map] at e1
    rw [List.getElem?_map] at h1
    cases hn : ns[j]? with
    | none => rw [hn] at h1; cases h1
    | some n =>
      rw [hn] at h1 e1
      cases h1
      cases e1
      exact keyIs_rel (show keyIs (.inl n) u = true from hik)
  have hoL : (h'.push (seqObj "list" ws.toArray 0)).get? h'.objs.size = some (seqObj "list" ws.toArray 0) := Heap.get?_push_size _ rfl
  have hz : ws.length ≤ sizeLine := by rw [hlen, ← hl]; exact z
  show wpAny _ _ _ _ _ { s with heap := h'.push (seqObj "list" ws.toArray 0), toks := tk }
  refine wpAny_bind (wpAny_holding (wpAny_call_entry PyProof.Rows.slot_list_sort ⟨_, hoL, rfl⟩ PyProof.Rows.entry_list_sort (SrtO.list_sort_ord SrtO.swo_int hoL hz (fun h2 => SrtO.ints_sortable hi h2) fun out h1 h2 => ⟨_, rfl, ?_⟩) (PyProof.Rows.args_list_sort _)))
  obtain ⟨k1, k2, k3⟩ := SrtO.ints_out hi h1 h2
  obtain ⟨ep', he'⟩ := PyProof.Rows.sortedHeap_at (vs := ws) (out := out.toArray) hoL
  have hlen' : ((out.map SrtO.iv).map V.int).length ≤ sizeLine := by
    rw [List.length_map, k2.length_eq, ← hlk]
    exact z
  have es : out.map SrtO.iv = sortInts ns := sortInts_of k2 k3
  have hsz : s.heap.objs.size ≤ h'.objs.size := Nat.le_of_lt hlt
  refine wpAny_pure ⟨_, rfl, .ref _, upd H h'.objs.size (.lst ((out.map SrtO.iv).map V.int)), I.laid (t' := tk) (fun b u hu => ?_) hsz ⟨hlen', out, ep', vals_of_ints k1, he'⟩, rfl, ?_⟩
  · have h3 := hkeep b u hu
    rw [PyProof.Rows.sortedHeap_old (Nat.ne_of_lt (Heap.lt_size h3)) (Nat.lt_trans (Heap.lt_size h3) (by rw [Heap.size_push]; exact Nat.lt_succ_self _))]
    exact Heap.get?_push_of_some _ h3
  · rw [es]
    exact q _ (I.hok.fresh hsz)
end
end Py
end
section
set_option Elab.async false
set_option linter.all false
set_option maxRecDepth 100000
set_option maxHeartbeats 4000000
namespace Py
open PySem PySem.Spec PyProof.Rows L2 C8
section
variable {k : Ki} {C : Ctx} {orc : Orc} {X : Cx} {F : Addr → Prop} {P : Addr → Prop} {σ : St} {H H' : Hp} {G : Py.Env} {fp fp' : Fp}
variable {x : Str} {p pos apos p2 pos2 : Pos} {a e o : Expr} {es : List Expr} {ea : E} {ies : List E} {j jj : Nat}
theorem gInts_eq : ∀ {ks : List D} {ns : List Int}, gInts ks = some ns → ks = ns.map D.int
  | [], ns, h => by cases h; rfl
  | .int i :: ks, ns, h => by
    unfold gInts at h
    obtain ⟨r, h1, rfl⟩ := Option.map_eq_some_iff.mp h
    rw [gInts_eq h1]; rfl
theorem keys_inl : ∀ {ns : List Int} {kvs : List (Key × V)}, (ns.map D.int).map keyV = kvs.map (fun p => some p.1) → kvs.map (·.1) = ns.map Sum.inl
  | [], [], _ => rfl
  | [], _ :: _, h => by simp at h
  | _ :: _, [], h => by simp at h
  | n :: ns, kv :: kvs, h => by
    simp only [List.map_cons, List.cons.injEq] at h ⊢
    refine ⟨?_, keys_inl h.2⟩
    have := h.1
    simp only [keyV, Option.some.injEq] at this
    exact this.symm
theorem boot_sorted : bootBuiltins ("sorted" : Str) = some (.builtin "sorted") ∧ ("sorted" : Str) ≠ "__name__" ∧ (("sorted" : Str) == ("__debug__" : Str)) = false := ⟨by decide +kernel, by decide +kernel, by decide +kernel⟩
theorem se_skeys (B : XB k X) (hg : Gl X "sorted") (hm : X.mg "sorted" = none) (ho : attrOk o = true) (hline : (apos.endLine == pos.line) = true) (hoo : PE X o (tE k C orc ea)) :
    PE X (.Call (.Name "sorted" p) [.Call (.Attribute o "keys" apos) [] [] pos] [] pos2) (tE k C orc (.skeys ea)) := by
  refine pe_imp (pe_callB (cr_sortKeys B.calm) hg hm boot_sorted.1 (pa_cons (pe_bm0 PySem.F.plainAttrs_dict PySem.F.slot_dict_keys PySem.F.type_dict_keys mt_keysK hoo (attBase ho _ _ _) hline) pa_nil rfl) boot_sorted.2.1 boot_sorted.2.2 (star_cons rfl _ _) rfl) fun σ H Q ⟨F, G, fp, G', d, bb, Ee, h, q⟩ => ?_
  rw [ev] at h
  obtain ⟨G1, y, h1, h⟩ := R.bind_inv h
  obtain ⟨h3, rfl⟩ := R.ofO_inv h
  refine ⟨F, G, fp, _, y.1, y.2, Ee, h1, fun H1 fp1 v E1 T1 S1 R1 => ?_⟩
  split at h3
  · rename_i ks vs hy
    obtain ⟨ns, h4, h5⟩ := Option.map_eq_some_iff.mp h3
    cases h5
    rw [hy] at R1
    obtain ⟨a, kvs, rfl, ha, hk⟩ : ∃ a kvs, v = .ref a ∧ H1 a = some (.dK kvs) ∧ ks.map keyV = kvs.map (fun p => some p.1) := by
      cases (show RepX k _ H1 v (.dic ks vs) from R1) with
      | dic h n hk r => exact ⟨_, _, rfl, h, hk⟩
    rw [gInts_eq h4] at hk
    refine ⟨.inr (.inr (.inl ⟨rfl, .inl ⟨kvs, ha⟩⟩)), a, kvs, rfl, rfl, ha, fun p hp => ⟨p, a, kvs, ns, rfl, upd_same, ?_, keys_inl hk, fun l hl => ?_⟩⟩
    · rw [upd_ne (fun z => by rw [z, hp] at ha; cases ha)]; exact ha
    · have s : Same H1 (upd (upd H1 p (keysO p a)) l (.lst ((sortInts ns).map V.int))) := same_trans (same_new hp) (same_new hl)
      exact q _ fp1 _ (E1.same s) (T1.trans (same_tr s)) (fun m => by simp only [Py.E.mf] at m; exact same_trans (S1 m) s)
        (.lst ⟨upd_same, pm_free (E1.same (same_new hp)).pm hl⟩ (repL_ints _))
  · cases h3
/-! ### max(l, default=c) -/
theorem boot_mx : bootBuiltins ("max" : Str) = some (.builtin "max") ∧ ("max" : Str) ≠ "__name__" ∧ (("max" : Str) == ("__debug__" : Str)) = false := ⟨by decide +kernel, by decide +kernel, by decide +kernel⟩
theorem boot_mn : bootBuiltins ("min" : Str) = some (.builtin "min") ∧ ("min" : Str) ≠ "__name__" ∧ (("min" : Str) == ("__debug__" : Str)) = false := ⟨by decide +kernel, by decide +kernel, by decide +kernel⟩
end
end Py
end
section
set_option Elab.async false
set_option linter.all false
set_option maxRecDepth 100000
set_option maxHeartbeats 4000000
namespace Py
open PySem PySem.Spec PyProof.Rows L2 C8
section
variable {k : Ki} {C : Ctx} {orc : Orc} {X : Cx} {F : Addr → Prop} {P : Addr → Prop} {σ : St} {H H' : Hp} {G : Py.Env} {fp fp' : Fp}
variable {x : Str} {p pos apos p2 pos2 : Pos} {a e o : Expr} {es : List Expr} {ea eb : E} {ies : List E} {j jj : Nat}
/-! ### a call that hands out owned places and gives a new object -/
theorem ex_of (E1 : EnvOk k F σ H G fp) {i : Nat} {a : Addr} (h : a ∈ fp i) : ∃ o, H a = some o := by
  have := E1.pm a (.inr ⟨i, h⟩)
  cases e : H a with
  | none => rw [e] at this; cases this
  | some o => exact ⟨o, rfl⟩
theorem io_callF (E1 : EnvOk k F σ H G fp) {vs : List V} {rs : List AR} {ss os : List Slot} {d : D} {G2 : Py.Env} {f np : Nat} {Q : VK} {E : XK} (ha : ARs k (Own F fp) H σ vs rs) (hl : vs.length = np) (hs : OutR G rs ss) (ho : orc f ss = .ok os d) (hb : backA rs os G = some G2) (hf : C.fr f = true)
    (q : ∀ H' fp' v m, EnvOk k F σ H' G2 fp' → Tr fp H fp' H' → RepX k (Own F fp') H' v d → own1 d = some m → Fr k F σ fp H G2 fp' H' v m → Q v H') : spF k C orc f np vs H Q E := by
  -- the places are apart
  have inrNil : ∀ {j : Nat} {p : Nat × List Nat}, rs[j]? = some (.inr p) → p = (p.1, []) := fun {j p} e => by
    obtain ⟨s, _, h2, _⟩ := hs.get e
    rw [← h2]
  have apart : ∀ {j j' : Nat} {p p' : Nat × List Nat}, rs[j]? = some (.inr p) → rs[j']? = some (.inr p') → p.1 = p'.1 → j = j' := fun {j j' p p'} e e' h => by
    rw [inrNil e] at e
    rw [inrNil e', ← h] at e'
    have h1 := (ioIx_get hs).mpr e
    have h2 := (ioIx_get hs).mpr e'
    rw [h1] at h2
    exact Option.some.inj h2
  let Fc : Addr → Prop := fun a => Own F fp a ∧ ∀ j, a ∉ fpIn fp rs j
  have sub1 : ∀ a, Own Fc (fpIn fp rs) a → Own F fp a := fun a z => by
    rcases z with z | ⟨j, z⟩
    · exact z.1
    · obtain ⟨p, _, h⟩ := mem_fpIn z
      exact .inr ⟨p.1, h⟩
  refine ⟨hl, Fc, ss, os, d, fpIn fp rs, ho, ?_, fun H' fpc v E0' T' R' hfr => ?_⟩
  · refine ⟨by rw [List.length_map, hs.length, ha.length], fun j => ?_, fun j => ?_, fun j j' a h1 h2 => ?_, fun j a h1 h2 => h2.2 j h1, E1.pm.sub sub1⟩
    · cases e : rs[j]? with
      | none =>
        have : ss[j]? = none := List.getElem?_eq_none (by rw [hs.length]; exact List.getElem?_eq_none_iff.mp e)
        rw [this]
        show fpIn fp rs j = []
        unfold fpIn; rw [e]
      | some r =>
        obtain ⟨v, e1, r1⟩ := ha.get e
        obtain ⟨s, e2, r2⟩ := hs.get e
        rw [List.getElem?_map, e1, e2]
        cases r with
        | inl d =>
          have r2 : s = .sh d := r2
          subst r2
          exact ⟨⟨v, rfl, (show RepX k (Own F fp) H v d from r1).sub sub1 E1.pm⟩, by unfold fpIn; rw [e]⟩
        | inr p =>
          obtain ⟨_, m, rfl, hg⟩ := r2
          obtain ⟨_, e3⟩ := r1
          obtain ⟨v', e4, rm⟩ := E1.ow hg
          rw [e3] at e4
          cases e4
          refine ⟨v, rfl, ?_⟩
          show RepM k _ H v m (fpIn fp rs j)
          rw [show fpIn fp rs j = fp p.1 from by unfold fpIn; rw [e]]
          exact rm.mono Ext.refl E1.pm (fun a z => .inl (sub1 a z)) fun _ _ => rfl
    · unfold fpIn
      split
      · exact E1.nd _
      · exact List.nodup_nil
    · obtain ⟨p, e, h1⟩ := mem_fpIn h1
      obtain ⟨p', e', h2⟩ := mem_fpIn h2
      exact apart e e' (E1.dj _ _ a h1 h2)
  · have lG : ∀ i, ioIx rs i ≠ none → i < G.length := fun i hi => by
      cases e : ioIx rs i with
      | none => exact absurd e hi
      | some j =>
        obtain ⟨s, _, _, m, _, hg⟩ := hs.get ((ioIx_get hs).mp e)
        exact (List.getElem?_eq_some_iff.mp hg).1
    obtain ⟨b1, b2⟩ := back_spec hs hb lG
    -- what is not handed over is the callee's frame
    have inF : ∀ i a, ioIx rs i = none → a ∈ fp i → Fc a := fun i a hi h => ⟨.inr ⟨i, h⟩, fun j z => by
      obtain ⟨p, e, h2⟩ := mem_fpIn z
      have : i = p.1 := E1.dj _ _ a h h2
      rw [inrNil e, ← this] at e
      rw [(ioIx_get hs).mpr e] at hi
      cases hi⟩
    have FF : ∀ a, F a → Fc a := fun a h => ⟨.inl h, fun j z => by
      obtain ⟨p, e, h2⟩ := mem_fpIn z
      exact E1.df _ a h2 h⟩
    have sub2 : ∀ a, Own F (fpBack fp fpc rs) a → Own Fc fpc a := fun a z => by
      rcases z with z | ⟨i, z⟩
      · exact .inl (FF a z)
      · unfold fpBack at z
        split at z
        · rename_i j e; exact .inr ⟨j, z⟩
        · rename_i e; exact .inl (inF i a e z)
    have new2 : ∀ i a, a ∈ fpBack fp fpc rs i → (∃ j, a ∈ fp j) ∨ H a = none := fun i a z => by
      unfold fpBack at z
      split at z
      · rename_i j e
        rcases T'.new j a z with ⟨j', z⟩ | z
        · obtain ⟨p, _, h⟩ := mem_fpIn z
          exact .inl ⟨p.1, h⟩
        · exact .inr z
      · exact .inl ⟨i, z⟩
    have T2 : Tr fp H (fpBack fp fpc rs) H' := ⟨fun a o h n => T'.keep a o h fun j z => by
      obtain ⟨p, _, h⟩ := mem_fpIn z
      exact n p.1 h, new2, fun a h => T'.stay a h⟩
    have back : ∀ Y : Addr → Prop, (∀ y, Y y → (∃ i, y ∈ fpIn fp rs i) ∨ H y = none) → EnvOk k (fun y => Fc y ∨ Y y) (vs.map some) H' os fpc → EnvOk k (fun y => F y ∨ Y y) σ H' G2 (fpBack fp fpc rs) := by
      intro Y hY E'
      have sub2 : ∀ a, Own (fun y => F y ∨ Y y) (fpBack fp fpc rs) a → Own (fun y => Fc y ∨ Y y) fpc a := fun a z => by
        rcases z with (z | z) | ⟨i, z⟩
        · exact .inl (.inl (FF a z))
        · exact .inl (.inr z)
        · unfold fpBack at z
          split at z
          · rename_i j e; exact .inr ⟨j, z⟩
          · rename_i e; exact .inl (.inl (inF i a e z))
      have subY : ∀ a, Own (fun y => F y ∨ Y y) (fpBack fp fpc rs) a → Own F fp a ∨ H a = none := fun a z => by
        rcases z with (z | z) | z
        · exact .inl (.inl z)
        · rcases hY a z with ⟨j, z⟩ | z
          · obtain ⟨p, _, h⟩ := mem_fpIn z
            exact .inl (.inr ⟨p.1, h⟩)
          · exact .inr z
        · exact T2.sub a (.inr z)
      refine ⟨by rw [b1]; exact E1.len, fun i => ?_, fun i => ?_, fun i i' a h1 h2 => ?_, fun i a h1 h2 => ?_, E'.pm.sub sub2⟩
      · cases e : ioIx rs i with
        | some j =>
          obtain ⟨m, e1, e2⟩ := (b2 i).1 j e
          obtain ⟨v', e3, rm⟩ := E'.ow e1
          obtain ⟨v2, e4, _, e5⟩ := ha.get ((ioIx_get hs).mp e)
          rw [List.getElem?_map, e4] at e3
          have e6 : v2 = v' := by simpa using e3
          rw [← e6] at rm
          rw [e2, e5]
          refine ⟨v2, rfl, ?_⟩
          show RepM k _ H' v2 m (fpBack fp fpc rs i)
          rw [show fpBack fp fpc rs i = fpc j from by unfold fpBack; rw [e]]
          exact rm.mono Ext.refl E'.pm (fun a z => .inl (sub2 a z)) fun _ _ => rfl
        | none =>
          rw [(b2 i).2 e]
          have hfp : fpBack fp fpc rs i = fp i := by unfold fpBack; rw [e]
          have hs1 := E1.slot i
          rw [hfp]
          cases hg : G[i]? with
          | none => rw [hg] at hs1; exact hs1
          | some sl =>
            rw [hg] at hs1
            cases sl with
            | dead => exact hs1
            | sh d => obtain ⟨⟨x, e1, r⟩, z⟩ := hs1; exact ⟨⟨x, e1, r.mono T2.ext E1.pm subY⟩, z⟩
            | ow m =>
              obtain ⟨x, e1, r⟩ := hs1
              refine ⟨x, e1, r.mono T2.ext E1.pm subY fun a h => ?_⟩
              obtain ⟨o, ho⟩ := r.there a h
              rw [ho]
              exact T'.keep a o ho (inF i a e h).2
      · unfold fpBack
        split
        · exact E'.nd _
        · exact E1.nd _
      · unfold fpBack at h1 h2
        split at h1
        · rename_i j e
          split at h2
          · rename_i j' e'
            have := E'.dj _ _ a h1 h2
            subst this
            have h3 := (ioIx_get hs).mp e
            rw [(ioIx_get hs).mp e'] at h3
            cases h3; rfl
          · rename_i e'
            exact absurd (.inl (inF i' a e' h2)) (E'.df _ a h1)
        · rename_i e
          split at h2
          · rename_i j' e'
            exact absurd (.inl (inF i a e h1)) (E'.df _ a h2)
          · exact E1.dj _ _ a h1 h2
      · unfold fpBack at h1
        split at h1
        · exact E'.df _ a h1 (h2.imp (FF a) id)
        · rename_i e
          rcases h2 with h2 | h2
          · exact E1.df _ a h1 h2
          · rcases hY a h2 with ⟨j, z⟩ | z
            · obtain ⟨p, e1, h3⟩ := mem_fpIn z
              have : i = p.1 := E1.dj _ _ a h1 h3
              rw [inrNil e1, ← this] at e1
              rw [(ioIx_get hs).mpr e1] at e
              cases e
            · obtain ⟨o, ho⟩ := ex_of E1 h1
              rw [z] at ho; cases ho
    have E2 : EnvOk k F σ H' G2 (fpBack fp fpc rs) := by
      have := back (fun _ => False) (fun y z => z.elim) (by simpa using E0')
      simpa using this
    obtain ⟨m, hm, a, ev0, Ea, rm, ha0⟩ := hfr hf
    refine q H' (fpBack fp fpc rs) v m E2 T2 (R'.sub sub2 E0'.pm) hm ⟨a, ev0, back (fun y => y = a) (fun y z => by rw [z]; exact ha0) Ea, ?_, ?_⟩
    · refine rm.mono Ext.refl Ea.pm (fun x z => .inl ?_) fun _ _ => rfl
      rcases z with (z | z) | ⟨i, z⟩
      · exact .inl (.inl (FF x z))
      · exact .inl (.inr z)
      · rcases sub2 x (.inr ⟨i, z⟩) with z | z
        · exact .inl (.inl z)
        · exact .inr z
    · rcases ha0 with ⟨j, z⟩ | z
      · obtain ⟨p, _, h⟩ := mem_fpIn z
        exact .inl ⟨p.1, h⟩
      · exact .inr z

theorem sef_callO {f : Nat} {as : List Arg} {pm : List Nat} (hf : C.fr f = true) (c : Cal X.prog X.w X.K X.mg X.base jj x (spF k C orc f pm.length) []) (hr : Room j X.A) (hk : jj ≤ j) (hg : Gl X x) (hdb : (x == ("__debug__" : Str)) = false) (hs : (e :: es).all noStar = true)
    (hp : pm = List.range as.length) (ha : PA X (e :: es) (tA k C orc as)) : PE X (.Call (.Name x p) (e :: es) [] pos) (tEf k C orc (.callO f as pm)) := by
  rw [List.all_cons, Bool.and_eq_true] at hs
  refine pe_imp (pe_c c hr hk hg ha hdb (star_cons hs.1 _ _) (star_any hs.2 _ _)) fun σ H Q ⟨F, G, fp, G', d, Ee, h, q⟩ => ?_
  rw [ev] at h
  obtain ⟨G1, r, h1, h⟩ := R.bind_inv h
  have ln := evA_len h1
  refine ⟨F, G, fp, G1, r, Ee, h1, fun H1 fp1 vs E1 T1 R1 => ?_⟩
  show spF k C orc f pm.length (vs ++ []) H1 Q C8.E0
  rw [List.append_nil]
  have hl : vs.length = as.length := by rw [R1.length, ln]
  unfold callOw at h
  split at h
  · rename_i ss hss
    split at h
    · rename_i os d' ho
      split at h
      · rename_i G2 hb
        cases h
        have e1 : pm.map (fun k => r.getD k (.inl .non)) = r := by rw [hp, ← ln, range_pick]
        rw [e1] at hss hb
        exact io_callF E1 R1 (by rw [hl, hp, List.length_range]) (outR_of hss) ho hb hf fun H' fp' v m E' T' R' hm fr => q H' fp' v m E' (T1.trans T') (fun m => by simp [Py.E.mf] at m) R' hm (fr.tr T1)
      · cases h
    · cases h
  · cases h
/-! ### [..] * n, new -/
theorem sef_rep (ha : PE X a (tE k C orc (.lst ies))) (hb : PE X e (tE k C orc eb)) : PE X (.BinOp a .Mult e pos) (tEf k C orc (.bin .mul (.lst ies) eb)) := by
  refine pe_imp (pe_op op_rep ha hb) fun σ H Q ⟨F, G, fp, G', d, E, h, q⟩ => ?_
  rw [ev] at h
  obtain ⟨G1, x, h1, h⟩ := R.bind_inv h
  obtain ⟨hb1, h⟩ := ite_bad h
  obtain ⟨G2, y, h2, h⟩ := R.bind_inv h
  obtain ⟨h3, rfl⟩ := R.ofO_inv h
  obtain ⟨d', h3, h4⟩ := Option.map_eq_some_iff.mp h3
  obtain ⟨xs, hx⟩ : ∃ xs, x.1 = .lst xs := by
    have h1' := h1
    rw [ev] at h1'
    obtain ⟨G3, r, h5, h6⟩ := R.bind_inv h1'
    obtain ⟨h7, h6⟩ := ite_bad h6
    cases h6
    exact ⟨_, rfl⟩
  rw [hx] at h3
  obtain ⟨j, hy⟩ : ∃ j, y.1 = .int j := by
    cases hy : y.1 <;> rw [hy] at h3 <;> simp [binop] at h3
    exact ⟨_, rfl⟩
  rw [hy] at h3
  simp only [binop] at h3
  split at h3
  · rename_i hz
    simp only [Bool.and_eq_true, decide_eq_true_eq] at hz
    obtain ⟨z1', z3⟩ := hz
    obtain ⟨z2, z1⟩ := ltp_int z1'
    cases h3
    have hbf : (x.2 || y.2) = false := by
      have := congrArg Prod.snd h4
      simpa [fl, D.imm] using this
    have hd : D.lst (rep j.toNat xs) = d := congrArg Prod.fst h4
    subst hd
    rw [Bool.or_eq_false_iff] at hbf
    refine ⟨F, G, fp, G1, x.1, x.2, E, h1, fun H1 fp1 v1 E1 T1 S1 R1 => ⟨F, G1, fp1, _, y.1, y.2, E1, h2, fun H2 fp2 v2 E2 T2 S2 R2 => ?_⟩⟩
    have R1' := R1.tr E1 T2 fun z => S2 (bor hb1 z)
    rw [hx, hbf.1] at R1'
    rw [hy] at R2
    rw [(show RepX k _ H2 v2 (.int j) from R2).int_inv]
    cases (show RepX k (Own F fp2) H2 v1 (.lst xs) from R1') with
    | @lst a0 vs0 _ ht r =>
      refine ⟨_, j, _, rfl, rfl, ht.1, by omega, by omega, ?_, fun p hp => ?_⟩
      · have := lenOk_le z3; rw [r.length]; exact this
      · have s := same_new (o := .lst ((List.replicate j.toNat vs0).flatten)) hp
        exact q _ fp2 _ _ (E2.same s) ((T1.trans T2).trans (same_tr s)) (fun m => by
          simp only [Py.E.mf, Bool.and_eq_true] at m
          exact same_trans (same_trans (S1 m.1) (S2 m.2)) s)
          (.lst ⟨upd_same, pm_free E2.pm hp⟩ (RepL.mono (same_ext s) E2.pm (fun a z => .inl z) (r.rep j.toNat))) rfl ((fr_new E2 hp rfl (r.rep j.toNat)).tr (T1.trans T2))
  · cases h3
/-! ### a module's whole number -/
theorem se_gint {i : Int} {t : Tok} (hg : Gl X x) (hm : X.mg x = some (.int i t)) (hdb : (x == ("__debug__" : Str)) = false) : PE X (.Name x pos) (tE k C orc (.con (.int i))) := by
  refine pe_imp (pe_glob (v := .int i) hg hm ⟨t, rfl⟩ hdb) fun σ H Q ⟨F, G, fp, G', d', b, E, h, q⟩ => ?_
  rw [ev] at h
  cases h
  exact q H fp (.int i) E (.refl _ _) (fun _ => ssame) (.int i)
/-! ### max(l, default=c) -/
theorem gInts_map' : ∀ l : List Int, gInts (l.map D.int) = some l
  | [] => rfl
  | x :: l => by simp [gInts, gInts_map' l]
theorem se_maxD (B : XB k X) {mx : Bool} {c : Int} {n : Nat} {kp cp : Pos} (hx : x = (if mx then ("max" : Str) else ("min" : Str))) (hg : Gl X x) (hm : X.mg x = none) (hs : noStar a = true) (he : PE X a (tE k C orc ea)) :
    PE X (.Call (.Name x p) [a] [⟨some "default", .Constant (.int c) n cp, kp⟩] pos) (tE k C orc (.maxD mx ea c)) := by
  have red : ∀ σ H Q, tE k C orc (.maxD mx ea c) σ H Q → tCKw (rMaxD mx c X.K) (tCons (tE k C orc ea) tNil) (tCons (tC (.int c)) tNil) σ H Q := fun σ H Q ⟨F, G, fp, G', d, bb, Ee, h, q⟩ => by
    rw [ev] at h
    obtain ⟨G1, y, h1, h⟩ := R.bind_inv h
    obtain ⟨h3, rfl⟩ := R.ofO_inv h
    refine ⟨F, G, fp, _, y.1, y.2, Ee, h1, fun H1 fp1 v E1 T1 S1 R1 => ?_⟩
    split at h3
    · rename_i xs hy
      obtain ⟨ns, h4, h5⟩ := Option.map_eq_some_iff.mp h3
      cases h5
      rw [hy, gInts_eq h4] at R1
      obtain ⟨a0, vs, rfl, ha, rl⟩ : ∃ a vs, v = .ref a ∧ SqL X.K H1 a vs ∧ RepL k (if y.2 = true then F else Own F fp1) H1 vs (ns.map D.int) := by
        cases (show RepX k _ H1 v (.lst (ns.map D.int)) from R1) with
        | lst h r => exact ⟨_, _, rfl, h.sq, r⟩
      obtain rfl := rl.ints_inv (gInts_map' ns)
      exact ⟨a0, ns, rfl, rfl, ha, q _ fp1 _ E1 T1 (fun m => S1 (by simpa only [Py.E.mf] using m)) (.int _)⟩
    · cases h3
  subst hx
  cases mx with
  | true => exact pe_imp (pe_callBK (crk_maxD (c := c) B.calm B.units) hg hm boot_mx.1 (one_red hs he) (pk_cons pe_int pk_nil) boot_mx.2.1 boot_mx.2.2 (by rw [star_cons hs]; rfl) (by rw [star_cons hs]; rfl)) red
  | false => exact pe_imp (pe_callBK (crk_minD (c := c) B.calm B.units) hg hm boot_mn.1 (one_red hs he) (pk_cons pe_int pk_nil) boot_mn.2.1 boot_mn.2.2 (by rw [star_cons hs]; rfl) (by rw [star_cons hs]; rfl)) red
end
end Py
end
section
set_option Elab.async false
set_option linter.all false
set_option maxRecDepth 100000
set_option maxHeartbeats 4000000
namespace Py
open PySem PySem.Spec PyProof.Rows L2 C8
/-! ### the checker: terms against the program's syntax -/
/-- where one stands: the def's names, the scope that runs, a block's written scope, the slots that are not stored to, does the def give a new object -/
structure SC where
  N : List Str
  sc : Scope
  fn : Option Scope
  fx : List Nat
  fr : Bool
/-- what is known of the module -/
structure TD where
  fns : List (Str × Nat × Nat)
  kws : List (Str × Nat × List Str × List Nat)
  cls : List (Str × Nat × Nat × Nat)
  mts : List (Nat × Str × Nat)
  fds : List (Nat × Str)
  bis : List Str
  frs : List Nat
  gis : List (Str × Int) := []
inductive Q where
  | e (S : SC) (e : Expr) (i : E) | f (S : SC) (e : Expr) (i : E) | t (S : SC) (e : Expr) (i : E) | w (S : SC) (e : Expr) (i : E)
  | es (S : SC) (es : List Expr) (is : List E) | ks (S : SC) (es : List Keyword) (is : List E) | o (S : SC) (e : Option Expr) (i : E)
  | p (S : SC) (e : Expr) (i : Nat) (gs : List Nat) | a (S : SC) (es : List Expr) (as : List Arg)
  | q (S : SC) (e : Expr) (i : E) | it (S : SC) (tg e : Expr) (i : Py.It) | g (S : SC) (e : Expr) (t : Tg) | gs (S : SC) (es : List Expr) (ts : List Tg)
  | ifs (S : SC) (es : List Expr) (is : List E)
  | s (S : SC) (st : Stmt) (i : Py.S) | ss (S : SC) (sts : List Stmt) (is : List Py.S)
def okName (x : Str) : Bool := !(x == ("__debug__" : Str)) && !(x == ("__classdict__" : Str))
def ckVis (S : SC) (x : Str) (i : Nat) : Bool := (S.N[i]? == some x) && (match S.sc.names.lookup x with | some .local => true | some .cell => true | some .free => true | _ => false) && okName x
def ckLoc (S : SC) (x : Str) (i : Nat) : Bool := (S.N[i]? == some x) && (match S.sc.names.lookup x with
  | some .local => true
  | some .cell => (match S.fn with | none => true | some sc => sc.names.lookup x == some .cell)
  | _ => false)
def ckGl (S : SC) (x : Str) : Bool := S.sc.names.lookup x == some .globalImplicit
/-- a built-in name -/
def ckBi (td : TD) (S : SC) (x : Str) : Bool := ckGl S x && td.bis.contains x
def ownOf (S : SC) (own : List Nat) : List (Str × Nat) := own.map fun i => (S.N.getD i ("" : Str), i)
def inBlk (S : SC) (scope : Scope) : SC := { S with sc := relS scope S.sc, fn := some scope }
def ckLc (r : Q → Bool) (S : SC) (elt tg iter : Expr) (ifs : List Expr) (scope : Scope) (own : List Nat) (tgi : Tg) (iti : Py.It) (ifsi : List E) (elti : E) : Bool :=
  notSet iter && (blkC S.N S.sc scope (ownOf S own) && ((tgs tgi).all own.contains && (r (.it S tg iter iti) && (r (.g (inBlk S scope) tg tgi) && (r (.ifs (inBlk S scope) ifs ifsi) && r (.e (inBlk S scope) elt elti))))))
def stE (td : TD) (r : Q → Bool) (S : SC) (e : Expr) (ie : E) : Bool := match ie with
  | .var i => (match e with | .Name x _ => ckVis S x i | _ => false)
  | .pth i gs => r (.p S e i gs)
  | .con d => (match e with
    | .Constant c _ _ => ckCon c d
    | .Name x _ => (match d with | .int i => ckGl S x && (okName x && td.gis.contains (x, i)) | _ => false)
    | _ => false)
  | .bin o a b => (match e with | .BinOp x op y _ => decide (opOf o = op) && (r (.e S x a) && r (.e S y b)) | _ => false)
  | .un o a => (match e with | .UnaryOp op x _ => decide (unOf o = op) && r (.e S x a) | _ => false)
  | .cmp o a b => (match e with | .Compare x [op] [y] _ => decide (cmpOf o = op) && (noSetE y && (r (.e S x a) && r (.e S y b))) | _ => false)
  | .chain o o' a b c => (match e with | .Compare x [op, op'] [y, z] _ => decide (cmpOf o = op) && (decide (cmpOf o' = op') && (noSetE z && (r (.e S x a) && (r (.e S y b) && r (.e S z c))))) | _ => false)
  | .and a b => (match e with
    | .BoolOp .And [x, y] _ => r (.e S x a) && r (.e S y b)
    | .BoolOp .And (x :: y :: z :: rest) pos => r (.e S x a) && r (.e S (.BoolOp .And (y :: z :: rest) pos) b)
    | _ => false)
  | .or a b => (match e with
    | .BoolOp .Or [x, y] _ => r (.e S x a) && r (.e S y b)
    | .BoolOp .Or (x :: y :: z :: rest) pos => r (.e S x a) && r (.e S (.BoolOp .Or (y :: z :: rest) pos) b)
    | _ => false)
  | .not a => (match e with | .UnaryOp .Not x _ => r (.e S x a) | _ => false)
  | .ife c a b => (match e with | .IfExp z x y _ => r (.t S z c) && (r (.e S x a) && r (.e S y b)) | _ => false)
  | .tup is => (match e with | .Tuple es _ _ => decide (is.length ≤ 10000) && r (.es S es is) | _ => false)
  | .lst _ => r (.f S e ie)
  | .dic0 => (match e with | .Dict [] [] _ => true | _ => false)
  | .idx a b => (match e with | .Subscript x y _ => noSl y && ((match a with | .pth i gs => r (.p S x i gs) | a => r (.e S x a)) && r (.e S y b)) | _ => false)
  | .sli a lo hi => (match e with | .Subscript x (.Slice l h none _) _ => r (.e S x a) && (r (.o S l lo) && r (.o S h hi)) | _ => false)
  | .att a f => (match e with | .Attribute x nm _ => td.fds.contains (f, nm) && (attrOk x && r (.e S x a)) | _ => false)
  | .call f is pm => (match e with
    | .Call (.Name x _) es [] _ => okName x && (ckGl S x && (td.fns.contains (x, f, pm.length) && (decide (pm = List.range is.length) && (es.all noStar && (decide (es.length = is.length) && r (.es S es is))))))
    | .Call (.Name x _) [] kws _ => okName x && (ckGl S x && (td.kws.contains (x, f, kwNames kws, pm) && (allKw kws && (pmOk pm is.length && (decide ((kwNames kws).length = is.length) && r (.ks S kws is))))))
    | _ => false)
  | .callO f as pm => (match e with
    | .Call (.Name x _) (y :: es) [] _ => okName x && (ckGl S x && (td.fns.contains (x, f, pm.length) && (decide (pm = List.range as.length) && ((y :: es).all noStar && r (.a S (y :: es) as)))))
    | _ => false)
  | .blt b is => (match e with | .Call (.Name x _) (y :: es) [] _ => (bName b == x) && (ckBi td S x && ((y :: es).all noStar && r (.es S (y :: es) is))) | _ => false)
  | .sets a => (match e with | .Call (.Name x _) [y] [] _ => (x == ("set" : Str)) && (ckBi td S x && (noStar y && r (.e S y a))) | _ => false)
  | .isi a ts => (match e with
    | .Call (.Name x _) [y, .Name z _] [] _ => (x == ("isinstance" : Str)) && (ckBi td S x && (noStar y && (r (.e S y a) && (match ts with | [t] => t.std && ((tyName t == z) && ckBi td S z) | _ => false))))
    | .Call (.Name x _) [y, .Tuple es _ _] [] _ => (x == ("isinstance" : Str)) && (ckBi td S x && (noStar y && (r (.e S y a) && (ts.all Ty.std && (decide (ts.length ≤ 1000) && (ckTys td S es ts))))))
    | _ => false)
  | .met m a is => (match m, e, is with
    | .index, .Call (.Attribute o x apos) [y] [] pos, [b] => (x == ("index" : Str)) && (attrOk o && (noStar y && ((apos.endLine == pos.line) && (r (.e S o a) && r (.e S y b)))))
    | _, _, _ => false)
  | .mth a m is => (match e with
    | .Call (.Attribute o x apos) es [] pos => td.mts.contains (m, x, is.length + 1) && (attrOk o && (es.all noStar && (decide (es.length < 29) && (decide (es.length = is.length) && ((apos.endLine == pos.line) && (r (.e S o a) && r (.es S es is)))))))
    | _ => false)
  | .mut m i gs is => (match m, e, is with
    | .append, .Call (.Attribute o x apos) [y] [] pos, [b] => (x == ("append" : Str)) && (gs.isEmpty && (attrOk o && (noStar y && ((apos.endLine == pos.line) && (r (.p S o i []) && r (.e S y b))))))
    | .popAt, .Call (.Attribute o x apos) [y] [] pos, [b] => (x == ("pop" : Str)) && (gs.isEmpty && (attrOk o && (noStar y && ((apos.endLine == pos.line) && (r (.p S o i []) && r (.e S y b))))))
    | .pop, .Call (.Attribute o x apos) [] [] pos, [] => (x == ("pop" : Str)) && (gs.isEmpty && (attrOk o && ((apos.endLine == pos.line) && r (.p S o i []))))
    | _, _, _ => false)
  | .new c is => (match e with
    | .Call (.Name x _) (y :: es) [] _ => okName x && (ckGl S x && (td.cls.any (fun q => q.1 == x && q.2.1 == c && q.2.2.2 == is.length + 1) && ((y :: es).all noStar && r (.es S (y :: es) is))))
    | _ => false)
  | .lc _ _ _ _ _ => r (.f S e ie)
  | .lc2 _ _ _ _ _ _ _ _ => false
  | .lrng _ => r (.f S e ie)
  | .callT f a is => (match e with
    | .Call (.Name x _) (y :: es) [] _ => okName x && (ckGl S x && (td.fns.contains (x, f, is.length + 1) && ((y :: es).all noStar && (r (.f S y a) && r (.es S es is)))))
    | _ => false)
  | .maxD mx a c => (match e with
    | .Call (.Name x _) [y] [⟨some kw, .Constant (.int i) _ _, _⟩] _ => (x == (if mx then ("max" : Str) else ("min" : Str))) && (ckBi td S x && ((kw == ("default" : Str)) && ((i == c) && (noStar y && r (.e S y a)))))
    | _ => false)
  | .skeys a => (match e with
    | .Call (.Name x _) [.Call (.Attribute o m apos) [] [] pos] [] _ => (x == ("sorted" : Str)) && (ckBi td S x && ((m == ("keys" : Str)) && (attrOk o && ((apos.endLine == pos.line) && r (.e S o a)))))
    | _ => false)
where ckTys (td : TD) (S : SC) : List Expr → List Ty → Bool
  | [], [] => true
  | .Name z _ :: es, t :: ts => (tyName t == z) && (ckBi td S z && ckTys td S es ts)
  | _, _ => false
/-- expressions that give a new object -/
def stF (td : TD) (r : Q → Bool) (S : SC) (e : Expr) (ie : E) : Bool := match ie with
  | .lst is => (match e with | .List es _ => decide (is.length ≤ 10000) && r (.es S es is) | _ => false)
  | .dic0 => (match e with | .Dict [] [] _ => true | _ => false)
  | .lc own tgi iti ifsi elti => (match e with | .ListComp elt [⟨tg, iter, ifs, 0⟩] scope _ => ckLc r S elt tg iter ifs scope own tgi iti ifsi elti | _ => false)
  | .call f is pm => (match e with
    | .Call (.Name x _) (y :: es) [] _ => td.frs.contains f && (okName x && (ckGl S x && (td.fns.contains (x, f, pm.length) && (decide (pm = List.range is.length) && ((y :: es).all noStar && r (.es S (y :: es) is))))))
    | _ => false)
  | .lrng a => (match e with
    | .Call (.Name x _) [.Call (.Name z _) [y] [] _] [] _ => (x == ("list" : Str)) && (ckBi td S x && ((z == ("range" : Str)) && (ckBi td S z && (noStar y && r (.e S y a)))))
    | _ => false)
  | .callO f as pm => (match e with
    | .Call (.Name x _) (y :: es) [] _ => td.frs.contains f && (okName x && (ckGl S x && (td.fns.contains (x, f, pm.length) && (decide (pm = List.range as.length) && ((y :: es).all noStar && r (.a S (y :: es) as))))))
    | _ => false)
  | .bin o a b => (match o, a, e with | .mul, .lst is, .BinOp x .Mult y _ => r (.e S x (.lst is)) && r (.e S y b) | _, _, _ => false)
  | _ => false
def notBool : E → Bool
  | .and _ _ => false | .or _ _ => false | .not _ => false | _ => true
def stT (r : Q → Bool) (S : SC) (e : Expr) (ie : E) : Bool := match e with
  | .BoolOp _ _ _ => r (.w S e ie)
  | .UnaryOp .Not x _ => (match ie with | .not a => r (.t S x a) | _ => false)
  | .Compare x [op] [y] _ => (match ie with | .cmp o a b => decide (cmpOf o = op) && (noSetE y && (r (.e S x a) && r (.e S y b))) | _ => false)
  | .Compare x [op, op'] [y, z] _ => (match ie with | .chain o o' a b c => decide (cmpOf o = op) && (decide (cmpOf o' = op') && (noSetE z && (r (.e S x a) && (r (.e S y b) && r (.e S z c))))) | _ => false)
  | e => plainT e && (notBool ie && r (.e S e ie))
def stW (r : Q → Bool) (S : SC) (e : Expr) (ie : E) : Bool := match ie with
  | .and a b => (match e with
    | .BoolOp .And [x, y] _ => r (.t S x a) && r (.t S y b)
    | .BoolOp .And (x :: y :: z :: rest) pos => r (.t S x a) && r (.w S (.BoolOp .And (y :: z :: rest) pos) b)
    | _ => false)
  | .or a b => (match e with
    | .BoolOp .Or [x, y] _ => r (.t S x a) && r (.t S y b)
    | .BoolOp .Or (x :: y :: z :: rest) pos => r (.t S x a) && r (.w S (.BoolOp .Or (y :: z :: rest) pos) b)
    | _ => false)
  | _ => false
def stP (td : TD) (r : Q → Bool) (S : SC) (e : Expr) (i : Nat) (gs : List Nat) : Bool := match e with
  | .Name x _ => ckVis S x i && gs.isEmpty
  | .Attribute o x _ => (match gs.getLast? with
    | some f => td.fds.contains (f, x) && (attrOk o && r (.p S o i gs.dropLast))
    | none => false)
  | _ => false
def stI (td : TD) (r : Q → Bool) (S : SC) (tg e : Expr) (it : Py.It) : Bool := match it with
  | .e a => r (.q S e a)
  | .rng1 a => (match e with | .Call (.Name x _) [y] [] _ => (x == ("range" : Str)) && (ckBi td S x && (noStar y && r (.e S y a))) | _ => false)
  | .rng2 a b => (match e with | .Call (.Name x _) [y, z] [] _ => (x == ("range" : Str)) && (ckBi td S x && (noStar y && (noStar z && (r (.e S y a) && r (.e S z b))))) | _ => false)
  | .zip a b => (match tg, e with | .Tuple _ _ _, .Call (.Name x _) [y, z] [] _ => (x == ("zip" : Str)) && (ckBi td S x && (noStar y && (noStar z && (r (.q S y a) && r (.q S z b))))) | _, _ => false)
  | .zip3 a b c => (match tg, e with | .Tuple _ _ _, .Call (.Name x _) [y, z, u] [] _ => (x == ("zip" : Str)) && (ckBi td S x && (noStar y && (noStar z && (noStar u && (r (.q S y a) && (r (.q S z b) && r (.q S u c))))))) | _, _ => false)
  | .enum a => (match tg, e with | .Tuple _ _ _, .Call (.Name x _) [y] [] _ => (x == ("enumerate" : Str)) && (ckBi td S x && (noStar y && r (.q S y a))) | _, _ => false)
  | .rrng1 a => (match e with | .Call (.Name x _) [.Call (.Name z _) [y] [] _] [] _ => (x == ("reversed" : Str)) && (ckBi td S x && ((z == ("range" : Str)) && (ckBi td S z && (noStar y && r (.e S y a))))) | _ => false)
  | _ => false
def noFx (S : SC) (t : Tg) : Bool := S.fx.all fun i => !(tgs t).contains i
def isComp : Expr → Bool
  | .ListComp _ _ _ _ => true | _ => false
/-- does the store to this name stand behind the value as it is -/
def ckSw (S : SC) (tg e : Expr) : Bool := notComp e || (match tg with | .Name y _ => !(S.sc.names.lookup y == some .local) | _ => true)
def stS (td : TD) (r : Q → Bool) (S : SC) (st : Stmt) (i : Py.S) : Bool := match i with
  | .asg t a => (match st with
    | .Assign [tg] e _ => noFx S t && (if ckSw S tg e then (notTup e || plainTg tg) && (noStar tg && (r (.e S e a) && r (.g S tg t))) else
      (match tg, e, t, a with
      | .Name y py, .ListComp elt [⟨tg2, iter, ifs, 0⟩] scope pos, .n i, .lc own tgi iti ifsi elti => ckNm S y py pos scope i && ckLc r S elt tg2 iter ifs scope own tgi iti ifsi elti
      | _, _, _, _ => false))
    | _ => false)
  | .asgO i a => (match st with
    | .Assign [.Name y py] e _ => !S.fx.contains i && (if ckSw S (.Name y py) e then ckLoc S y i && r (.f S e a) else
      (match e, a with
      | .ListComp elt [⟨tg2, iter, ifs, 0⟩] scope pos, .lc own tgi iti ifsi elti => ckNm S y py pos scope i && ckLc r S elt tg2 iter ifs scope own tgi iti ifsi elti
      | _, _ => false))
    | _ => false)
  | .set i gs ik a => (match st with | .Assign [.Subscript o kx _] e _ => gs.isEmpty && (noSl kx && (r (.e S e a) && (r (.p S o i []) && r (.e S kx ik)))) | _ => false)
  | .fset i gs f a => (match st with | .Assign [.Attribute o x _] e _ => gs.isEmpty && (td.fds.contains (f, x) && (notComp e && (r (.e S e a) && r (.p S o i [])))) | _ => false)
  | .aug i op a => (match st with | .AugAssign (.Name x _) opx e _ => augOk op && (decide (opOf op = opx) && (ckLoc S x i && (!S.fx.contains i && r (.e S e a)))) | _ => false)
  | .expr a => (match st with | .Expr e _ => notComp e && r (.e S e a) | _ => false)
  | .ret a => (match st with | .Return (some e) _ => if S.fr then r (.f S e a) else r (.e S e a) | _ => false)
  | .retN => (match st with | .Return none _ => !S.fr | _ => false)
  | .retO i => (match st with | .Return (some (.Name x _)) _ => ckVis S x i | _ => false)
  | .ite c a b => (match st with | .If z x y _ => r (.t S z c) && (r (.ss S x a) && r (.ss S y b)) | _ => false)
  | .for_ t it b => (match st with | .For tg iter body [] _ => notSet iter && (noFx S t && (r (.it S tg iter it) && (r (.g S tg t) && r (.ss S body b)))) | _ => false)
  | .while_ c b => (match st with | .While z body [] _ => r (.t S z c) && r (.ss S body b) | _ => false)
  | .brk => (match st with | .Break _ => true | _ => false)
  | .cont => (match st with | .Continue _ => true | _ => false)
  | .pass => (match st with | .Pass _ => true | .Expr (.Constant (.str _) _ _) _ => true | _ => false)
  | .raise => true
  | .try_ b => (match st with | .Try body (_ :: _) [] [] _ => r (.ss S body b) | _ => false)
where ckNm (S : SC) (y : Str) (py pos : Pos) (scope : Scope) (i : Nat) : Bool :=
  (S.N[i]? == some y) && ((S.sc.names.lookup y == some .local) && ((py.line == pos.line) && (!(scope.names.any fun (n, k) => n == y && (k == .local || k == .cell)) && !S.fx.contains i)))
def step (td : TD) (r : Q → Bool) : Q → Bool
  | .e S e i => stE td r S e i
  | .f S e i => stF td r S e i
  | .t S e i => stT r S e i
  | .w S e i => stW r S e i
  | .es S es is => (match es, is with
    | [], [] => true
    | e :: es, i :: is => noStar e && (r (.e S e i) && r (.es S es is))
    | _, _ => false)
  | .ks S es is => (match es, is with
    | [], [] => true
    | ⟨_, e, _⟩ :: es, i :: is => r (.e S e i) && r (.ks S es is)
    | _, _ => false)
  | .o S e i => (match e with
    | none => (match i with | .con .non => true | _ => false)
    | some e => notNonE i && r (.e S e i))
  | .p S e i gs => stP td r S e i gs
  | .a S es as => (match es, as with
    | [], [] => true
    | e :: es, .e i :: as => noStar e && (r (.e S e i) && r (.a S es as))
    | e :: es, .io i [] :: as => noStar e && (r (.p S e i []) && r (.a S es as))
    | _, _ => false)
  | .q S e i => (match i with
    | .pth j gs => r (.p S e j gs)
    | i => r (.e S e i))
  | .it S tg e i => stI td r S tg e i
  | .g S e t => (match e, t with
    | .Name x _, .n i => ckLoc S x i
    | .Tuple es _ _, .t ts => es.all noStar && (decide (es.length = ts.length) && r (.gs S es ts))
    | _, _ => false)
  | .gs S es ts => (match es, ts with
    | [], [] => true
    | e :: es, t :: ts => noStar e && (r (.g S e t) && r (.gs S es ts))
    | _, _ => false)
  | .ifs S es is => (match es, is with
    | [], [] => true
    | [e], [i] => r (.t S e i)
    | _, _ => false)
  | .s S st i => stS td r S st i
  | .ss S sts is => (match sts, is with
    | [], [] => true
    | st :: sts, i :: is => r (.s S st i) && r (.ss S sts is)
    | _, _ => false)
def ck (td : TD) : Nat → Q → Bool
  | 0, _ => false
  | n + 1, q => step td (ck td n) q
end Py
end
section
set_option Elab.async false
set_option linter.all false
set_option maxRecDepth 100000
set_option maxHeartbeats 4000000
namespace Py
open PySem PySem.Spec PyProof.Rows L2 C8
/-- what the module keeps of its table, with room for calls j deep -/
structure TOk (td : TD) (k : Ki) (C : Ctx) (orc : Orc) (mg : Str → Option Value) (base : Heap) (j : Nat) : Prop where
  fns : ∀ x f np, (x, f, np) ∈ td.fns → Cal k.P k.w k.K mg base j x (spF k C orc f np) []
  kws : ∀ x f ks pm, (x, f, ks, pm) ∈ td.kws → CalK k.P k.w k.K mg base j x (spF k C orc f pm.length) ks pm
  cls : ∀ x c f np, (x, c, f, np) ∈ td.cls → C.init c = some f ∧ ∃ jj, jj + 1 ≤ j + 1 ∧ Mak k.P k.w k.K mg base jj x (k.ca c) (spF k C orc f np) []
  mts : ∀ m x np, (m, x, np) ∈ td.mts → (∀ i, k.fd i ≠ x) ∧ ∀ c f, C.mth c m = some f → Met k.P k.w k.K mg base j (k.ca c) x (spF k C orc f np) []
  lens : ∀ c f, C.lenOf c = some f → LenOk k C orc k.P k.w k.K mg base j c f
  fds : ∀ f x, (f, x) ∈ td.fds → AttOk k f ∧ k.fd f = x
  bis : ∀ x, x ∈ td.bis → mg x = none
  frs : ∀ f, f ∈ td.frs → C.fr f = true
  gis : ∀ x i, (x, i) ∈ td.gis → ∃ t, mg x = some (.int i t)
structure XOk (k : Ki) (mg : Str → Option Value) (base : Heap) (j : Nat) (S : SC) (X : Cx) : Prop where
  B : XB k X
  mg : X.mg = mg
  base : X.base = base
  N : X.N = S.N
  sc : X.env.scope = S.sc
  kind : X.env.scope.kind = .function
  fn : ∀ x, match S.fn with | none => X.fn x = true | some sc => X.fn x = (sc.names.lookup x == some .cell)
  xe : X.xe = fun _ _ => False
  room : Room (j + 1) X.A
section
variable {td : TD} {k : Ki} {C : Ctx} {orc : Orc} {mg : Str → Option Value} {base : Heap} {j : Nat}
def Sem (k : Ki) (C : Ctx) (orc : Orc) (mg : Str → Option Value) (base : Heap) (j : Nat) : Q → Prop
  | .e S e i => ∀ X, XOk k mg base j S X → PE X e (tE k C orc i)
  | .f S e i => ∀ X, XOk k mg base j S X → PE X e (tEf k C orc i)
  | .t S e i => ∀ X, XOk k mg base j S X → PT X e (tT k C orc i)
  | .w S e i => ∀ X, XOk k mg base j S X → PW X e (tT k C orc i)
  | .es S es is => ∀ X, XOk k mg base j S X → PA X es (tEs k C orc is)
  | .ks S es is => ∀ X, XOk k mg base j S X → PK X es (tEs k C orc is)
  | .o S e i => ∀ X, XOk k mg base j S X → PO X e (tO k C orc i)
  | .p S e i gs => ∀ X, XOk k mg base j S X → PE X e (tP k i gs)
  | .a S es as => ∀ X, XOk k mg base j S X → PA X es (tA k C orc as)
  | .q S e i => ∀ X, XOk k mg base j S X → PE X e (tSq k C orc i)
  | .it S tg e i => ∀ X, XOk k mg base j S X → PI X tg e (tI k C orc i)
  | .g S e t => ∀ X, XOk k mg base j S X → PG X e (tG k t)
  | .gs S es ts => ∀ X, XOk k mg base j S X → PGs X es (tGs k ts)
  | .ifs S es is => ∀ X, XOk k mg base j S X → PTs X es (tF k C orc is)
  | .s S st i => ∀ X, XOk k mg base j S X → PS X st (tS k C orc S.fr S.fx i)
  | .ss S sts is => ∀ X, XOk k mg base j S X → PSs X sts (tSs k C orc S.fr S.fx is)
theorem and2 {a b : Bool} (h : (a && b) = true) : a = true ∧ b = true := by simpa using h
theorem nm_ok {x : Str} (h : okName x = true) : (x == ("__debug__" : Str)) = false ∧ (x == ("__classdict__" : Str)) = false := by
  unfold okName at h
  simpa using h
theorem vis_ok {S : SC} {X : Cx} {x : Str} {i : Nat} (O : XOk k mg base j S X) (h : ckVis S x i = true) : X.N[i]? = some x ∧ Vis X.env.scope x ∧ (x == ("__debug__" : Str)) = false ∧ (x == ("__classdict__" : Str)) = false := by
  unfold ckVis at h
  obtain ⟨h, h3⟩ := and2 h
  obtain ⟨h1, h2⟩ := and2 h
  refine ⟨by rw [O.N]; simpa using h1, ?_, nm_ok h3⟩
  unfold Vis
  rw [O.sc]
  split at h2 <;> simp_all
theorem loc_ok {S : SC} {X : Cx} {x : Str} {i : Nat} (O : XOk k mg base j S X) (h : ckLoc S x i = true) : X.N[i]? = some x ∧ L2.Loc X.env.scope x ∧ (X.fn x = true ∨ X.env.scope.names.lookup x = some .local) := by
  unfold ckLoc at h
  obtain ⟨h1, h2⟩ := and2 h
  refine ⟨by rw [O.N]; simpa using h1, ?_⟩
  have fn := O.fn x
  unfold L2.Loc
  rw [O.sc]
  split at h2
  · rename_i e; exact ⟨.inl e, .inr e⟩
  · rename_i e
    refine ⟨.inr e, .inl ?_⟩
    split at h2
    · rename_i e2; rw [e2] at fn; exact fn
    · rename_i sc e2; rw [e2] at fn; rw [fn]; exact h2
  · cases h2
theorem gl_ok {S : SC} {X : Cx} {x : Str} (O : XOk k mg base j S X) (h : ckGl S x = true) : Gl X x := by
  unfold ckGl at h
  show X.env.scope.names.lookup x = _
  rw [O.sc]
  simpa using h
theorem bi_ok {S : SC} {X : Cx} {x : Str} (T : TOk td k C orc mg base j) (O : XOk k mg base j S X) (h : ckBi td S x = true) : Gl X x ∧ X.mg x = none := by
  obtain ⟨h1, h2⟩ := and2 h
  exact ⟨gl_ok O h1, by rw [O.mg]; exact T.bis x (by simpa using h2)⟩
theorem cal_ok {S : SC} {X : Cx} {x : Str} {f np : Nat} (T : TOk td k C orc mg base j) (O : XOk k mg base j S X) (h : td.fns.contains (x, f, np) = true) : Cal X.prog X.w X.K X.mg X.base j x (spF k C orc f np) [] := by
  rw [O.B.P, O.B.w, O.B.K, O.mg, O.base]
  exact T.fns x f np (by simpa using h)
theorem own_snd (S : SC) (own : List Nat) : (ownOf S own).map (·.2) = own := by
  unfold ownOf
  rw [List.map_map]
  exact List.map_id _
theorem blk_ok {S : SC} {X : Cx} (O : XOk k mg base j S X) {scope : Scope} (hk : scope.kind = .function) (s : Shared) (H : Hp) (A : Addr) (cl : List (Str × Addr)) (fp : List Addr) : XOk k mg base j (inBlk S scope) (X.blk s H scope (compEnvC scope cl A X.env) fp) := by
  refine ⟨⟨O.B.K, O.B.P, O.B.w, O.B.calm, O.B.units, O.B.nd⟩, O.mg, O.base, O.N, ?_, hk, fun x => rfl, rfl, O.room⟩
  show relS scope X.env.scope = relS scope S.sc
  rw [O.sc]
/-- a comprehension's parts -/
theorem lc_ok {r : Q → Bool} (hr : ∀ q, r q = true → Sem k C orc mg base j q) {S : SC} {X : Cx} (O : XOk k mg base j S X) {elt tg iter : Expr} {ifs : List Expr} {scope : Scope} {own : List Nat} {tgi : Tg} {iti : Py.It} {ifsi : List E} {elti : E}
    (h : ckLc r S elt tg iter ifs scope own tgi iti ifsi elti = true) : notSet iter = true ∧ BlkOk X.N X.env.scope scope (ownOf S own) ∧ (∀ i ∈ tgs tgi, i ∈ (ownOf S own).map (·.2)) ∧ PI X tg iter (tI k C orc iti) ∧
    (∀ (s : Shared) (H : Hp) (C : Addr) (cl : List (Str × Addr)) (fp : List Addr), PG (X.blk s H scope (compEnvC scope cl C X.env) fp) tg (tG k tgi)) ∧ (∀ (s : Shared) (H : Hp) (A : Addr) (cl : List (Str × Addr)) (fp : List Addr), PTs (X.blk s H scope (compEnvC scope cl A X.env) fp) ifs (tF k C orc ifsi)) ∧
    (∀ (s : Shared) (H : Hp) (A : Addr) (cl : List (Str × Addr)) (fp : List Addr), PE (X.blk s H scope (compEnvC scope cl A X.env) fp) elt (tE k C orc elti)) := by
  obtain ⟨h1, h⟩ := and2 h
  obtain ⟨h2, h⟩ := and2 h
  obtain ⟨h3, h⟩ := and2 h
  obtain ⟨h4, h⟩ := and2 h
  obtain ⟨h5, h⟩ := and2 h
  obtain ⟨h6, h7⟩ := and2 h
  have ok := blkOk_by h2
  rw [← O.N, ← O.sc] at ok
  refine ⟨h1, ok, fun i hi => ?_, hr _ h4 X O, fun s H A cl fp => hr _ h5 _ (blk_ok O ok.kind s H A cl fp), fun s H A cl fp => hr _ h6 _ (blk_ok O ok.kind s H A cl fp), fun s H A cl fp => hr _ h7 _ (blk_ok O ok.kind s H A cl fp)⟩
  rw [own_snd]
  simpa using List.all_eq_true.mp h3 i hi
theorem sef_lc' (B : XB k X) {elt tg iter : Expr} {ifs : List Expr} {scope : Scope} {own : List (Str × Nat)} {ow : List Nat} (e : own.map (·.2) = ow) {pos : Pos} {tgi : Tg} {iti : Py.It} {ifsi : List E} {elti : E} (hi : PI X tg iter (tI k C orc iti)) (ok : BlkOk X.N X.env.scope scope own)
    (hg : ∀ (s : Shared) (H : Hp) (C : Addr) (cl : List (Str × Addr)) (fp : List Addr), PG (X.blk s H scope (compEnvC scope cl C X.env) fp) tg (tG k tgi)) (ht : ∀ (s : Shared) (H : Hp) (A : Addr) (cl : List (Str × Addr)) (fp : List Addr), PTs (X.blk s H scope (compEnvC scope cl A X.env) fp) ifs (tF k C orc ifsi))
    (he : ∀ (s : Shared) (H : Hp) (A : Addr) (cl : List (Str × Addr)) (fp : List Addr), PE (X.blk s H scope (compEnvC scope cl A X.env) fp) elt (tE k C orc elti)) (hs : notSet iter = true) (htg : ∀ i ∈ tgs tgi, i ∈ own.map (·.2)) :
    PE X (.ListComp elt [⟨tg, iter, ifs, 0⟩] scope pos) (tEf k C orc (.lc ow tgi iti ifsi elti)) := by
  subst e
  exact sef_lc B hi ok hg ht he hs htg
theorem stF_ok (T : TOk td k C orc mg base j) {r : Q → Bool} (hr : ∀ q, r q = true → Sem k C orc mg base j q) {S : SC} {e : Expr} {ie : E} (h : stF td r S e ie = true) : ∀ X, XOk k mg base j S X → PE X e (tEf k C orc ie) := by
  intro X O
  cases ie <;> simp only [stF] at h <;> first | (cases h; done) | skip
  case lst is =>
    split at h
    · obtain ⟨h1, h2⟩ := and2 h
      exact sef_lst (of_decide_eq_true h1) (hr _ h2 X O)
    · cases h
  case dic0 =>
    split at h
    · exact sef_dic0
    · cases h
  case call f is pm =>
    split at h
    · obtain ⟨h1, h⟩ := and2 h
      obtain ⟨h2, h⟩ := and2 h
      obtain ⟨h3, h⟩ := and2 h
      obtain ⟨h4, h⟩ := and2 h
      obtain ⟨h5, h⟩ := and2 h
      obtain ⟨h6, h7⟩ := and2 h
      exact sef_call (T.frs f (by simpa using h1)) (cal_ok T O h4) O.room (Nat.le_succ _) (gl_ok O h3) (nm_ok h2).1 h6 (of_decide_eq_true h5) (hr _ h7 X O)
    · cases h
  case lc own tgi iti ifsi elti =>
    split at h
    · obtain ⟨a1, a2, a3, a4, a5, a6, a7⟩ := lc_ok hr O h
      exact sef_lc' O.B (own_snd S own) a4 a2 a5 a6 a7 a1 a3
    · cases h
  case lrng a =>
    split at h
    · obtain ⟨h1, h⟩ := and2 h
      obtain ⟨h2, h⟩ := and2 h
      obtain ⟨h3, h⟩ := and2 h
      obtain ⟨h4, h⟩ := and2 h
      obtain ⟨h5, h6⟩ := and2 h
      have e1 := eq_of_beq h1
      subst e1
      have e3 := eq_of_beq h3
      subst e3
      obtain ⟨g, m⟩ := bi_ok T O h2
      obtain ⟨g2, m2⟩ := bi_ok T O h4
      exact sef_lrng O.B g m g2 m2 h5 (hr _ h6 X O)
    · cases h
  case callO f as pm =>
    split at h
    · obtain ⟨h1, h⟩ := and2 h
      obtain ⟨h2, h⟩ := and2 h
      obtain ⟨h3, h⟩ := and2 h
      obtain ⟨h4, h⟩ := and2 h
      obtain ⟨h5, h⟩ := and2 h
      obtain ⟨h6, h7⟩ := and2 h
      exact sef_callO (T.frs f (by simpa using h1)) (cal_ok T O h4) O.room (Nat.le_succ _) (gl_ok O h3) (nm_ok h2).1 h6 (of_decide_eq_true h5) (hr _ h7 X O)
    · cases h
  case bin o a b =>
    split at h
    · obtain ⟨h1, h2⟩ := and2 h
      exact sef_rep (hr _ h1 X O) (hr _ h2 X O)
    · cases h
end
end Py
end
section
set_option Elab.async false
set_option linter.all false
set_option maxRecDepth 100000
set_option maxHeartbeats 4000000
namespace Py
open PySem PySem.Spec PyProof.Rows L2 C8
section
variable {td : TD} {k : Ki} {C : Ctx} {orc : Orc} {mg : Str → Option Value} {base : Heap} {j : Nat}
theorem ckTys_ok {S : SC} {X : Cx} (T : TOk td k C orc mg base j) (O : XOk k mg base j S X) : ∀ {es : List Expr} {ts : List Ty}, stE.ckTys td S es ts = true →
    (∀ t ∈ ts, Gl X (tyName t) ∧ X.mg (tyName t) = none) ∧ es.length = ts.length ∧ ∀ (i : Nat) t, ts[i]? = some t → ∃ p, es[i]? = some (.Name (tyName t) p)
  | [], [], _ => ⟨fun t h => absurd h (by simp), rfl, fun i t h => by simp at h⟩
  | [], _ :: _, h => by simp [stE.ckTys] at h
  | e :: es, [], h => by cases e <;> simp [stE.ckTys] at h
  | e :: es, t :: ts, h => by
    cases e <;> simp only [stE.ckTys] at h <;> try (cases h; done)
    rename_i z p
    obtain ⟨h1, h⟩ := and2 h
    obtain ⟨h2, h3⟩ := and2 h
    have e1 : tyName t = z := by simpa using h1
    obtain ⟨a, b, c⟩ := ckTys_ok T O h3
    refine ⟨fun u hu => ?_, by simp [b], fun i u hu => ?_⟩
    · rcases List.mem_cons.mp hu with rfl | hu
      · rw [e1]; exact bi_ok T O h2
      · exact a u hu
    · cases i with
      | zero => simp at hu; subst hu; exact ⟨p, by simp [e1]⟩
      | succ i => simpa using c i u (by simpa using hu)
theorem tail_and {X : Cx} {y : Expr} {pos : Pos} {t : TE} (h : PE X y t) : PE X (.BoolOp .And [y] pos) t := L2.pe_one h
theorem tail_or {X : Cx} {y : Expr} {pos : Pos} {t : TE} (h : PE X y t) : PE X (.BoolOp .Or [y] pos) t := L2.pe_one h
theorem stE_ok (T : TOk td k C orc mg base j) {r : Q → Bool} (hr : ∀ q, r q = true → Sem k C orc mg base j q) {S : SC} {e : Expr} {ie : E} (h : stE td r S e ie = true) : ∀ X, XOk k mg base j S X → PE X e (tE k C orc ie) := by
  intro X O
  have B := O.B
  cases ie <;> simp only [stE] at h <;> first | (cases h; done) | skip
  case var i =>
    split at h
    · obtain ⟨a, b, c, d⟩ := vis_ok O h
      exact se_var a b c d
    · cases h
  case pth i gs => exact se_pth (hr _ h X O)
  case con d =>
    split at h
    · exact se_con h
    · split at h
      · obtain ⟨h1, h⟩ := and2 h
        obtain ⟨h2, h3⟩ := and2 h
        obtain ⟨t, ht⟩ := T.gis _ _ (by simpa using h3)
        exact se_gint (gl_ok O h1) (by rw [O.mg]; exact ht) (nm_ok h2).1
      · cases h
    · cases h
  case bin o a b =>
    split at h
    · obtain ⟨h1, h⟩ := and2 h
      obtain ⟨h2, h3⟩ := and2 h
      exact se_bin B (of_decide_eq_true h1) (hr _ h2 X O) (hr _ h3 X O)
    · cases h
  case un o a =>
    split at h
    · obtain ⟨h1, h2⟩ := and2 h
      exact se_un B (of_decide_eq_true h1) (hr _ h2 X O)
    · cases h
  case cmp o a b =>
    split at h
    · obtain ⟨h1, h⟩ := and2 h
      obtain ⟨h2, h⟩ := and2 h
      obtain ⟨h3, h4⟩ := and2 h
      exact se_cmp B (of_decide_eq_true h1) h2 (hr _ h3 X O) (hr _ h4 X O)
    · cases h
  case chain o o' a b c =>
    split at h
    · obtain ⟨h1, h⟩ := and2 h
      obtain ⟨h2, h⟩ := and2 h
      obtain ⟨h3, h⟩ := and2 h
      obtain ⟨h4, h⟩ := and2 h
      obtain ⟨h5, h6⟩ := and2 h
      exact se_chain B (of_decide_eq_true h1) (of_decide_eq_true h2) h3 (hr _ h4 X O) (hr _ h5 X O) (hr _ h6 X O)
    · cases h
  case and a b =>
    split at h
    · obtain ⟨h1, h2⟩ := and2 h
      exact se_and B (hr _ h1 X O) (tail_and (hr _ h2 X O))
    · obtain ⟨h1, h2⟩ := and2 h
      exact se_and B (hr _ h1 X O) (hr _ h2 X O)
    · cases h
  case or a b =>
    split at h
    · obtain ⟨h1, h2⟩ := and2 h
      exact se_or B (hr _ h1 X O) (tail_or (hr _ h2 X O))
    · obtain ⟨h1, h2⟩ := and2 h
      exact se_or B (hr _ h1 X O) (hr _ h2 X O)
    · cases h
  case not a =>
    split at h
    · exact se_not B (hr _ h X O)
    · cases h
  case ife c a b =>
    split at h
    · obtain ⟨h1, h⟩ := and2 h
      obtain ⟨h2, h3⟩ := and2 h
      exact se_ife (hr _ h1 X O) (hr _ h2 X O) (hr _ h3 X O)
    · cases h
  case tup is =>
    split at h
    · obtain ⟨h1, h2⟩ := and2 h
      exact se_tup (of_decide_eq_true h1) (hr _ h2 X O)
    · cases h
  case lst is => exact pe_ef lst_clean (hr _ h X O)
  case dic0 =>
    split at h
    · exact se_dic0
    · cases h
  case idx a b =>
    split at h
    · obtain ⟨h1, h⟩ := and2 h
      obtain ⟨h2, h3⟩ := and2 h
      cases a <;> simp only at h2
      case pth i gs => exact se_idxP B h1 (hr _ h2 X O) (hr _ h3 X O)
      all_goals exact se_idx B rfl h1 (hr _ h2 X O) (hr _ h3 X O)
    · cases h
  case sli a lo hi =>
    split at h
    · obtain ⟨h1, h⟩ := and2 h
      obtain ⟨h2, h3⟩ := and2 h
      exact se_sli B (hr _ h1 X O) (hr _ h2 X O) (hr _ h3 X O)
    · cases h
  case att a f =>
    split at h
    · obtain ⟨h1, h⟩ := and2 h
      obtain ⟨h2, h3⟩ := and2 h
      obtain ⟨A, hx⟩ := T.fds f _ (by simpa using h1)
      exact se_att B A hx h2 (hr _ h3 X O)
    · cases h
  case call f is pm =>
    split at h
    · rename_i x p es pos
      obtain ⟨h2, h⟩ := and2 h
      obtain ⟨h3, h⟩ := and2 h
      obtain ⟨h4, h⟩ := and2 h
      obtain ⟨h5, h⟩ := and2 h
      obtain ⟨h6, h⟩ := and2 h
      obtain ⟨h7, h8⟩ := and2 h
      have c := cal_ok T O h4
      have e5 := of_decide_eq_true h5
      have e7 := of_decide_eq_true h7
      cases es with
      | nil =>
        cases is with
        | nil => subst e5; exact se_call0 c O.room (Nat.le_succ _) (gl_ok O h3) (nm_ok h2).1
        | cons => simp at e7
      | cons y es => exact se_call c O.room (Nat.le_succ _) (gl_ok O h3) (nm_ok h2).1 h6 e5 (hr _ h8 X O)
    · obtain ⟨h2, h⟩ := and2 h
      obtain ⟨h3, h⟩ := and2 h
      obtain ⟨h4, h⟩ := and2 h
      obtain ⟨h5, h⟩ := and2 h
      obtain ⟨h6, h⟩ := and2 h
      obtain ⟨h7, h8⟩ := and2 h
      have c := T.kws _ _ _ _ (by simpa using h4)
      rw [← B.P, ← B.w, ← B.K, ← O.mg, ← O.base] at c
      exact se_callK c O.room (Nat.le_succ _) (gl_ok O h3) (nm_ok h2).1 h5 h6 (of_decide_eq_true h7) (hr _ h8 X O)
    · cases h
  case callO f as pm =>
    split at h
    · obtain ⟨h2, h⟩ := and2 h
      obtain ⟨h3, h⟩ := and2 h
      obtain ⟨h4, h⟩ := and2 h
      obtain ⟨h5, h⟩ := and2 h
      obtain ⟨h6, h7⟩ := and2 h
      exact se_callO (cal_ok T O h4) O.room (Nat.le_succ _) (gl_ok O h3) (nm_ok h2).1 h6 (of_decide_eq_true h5) (hr _ h7 X O)
    · cases h
  case blt b is =>
    split at h
    · obtain ⟨h1, h⟩ := and2 h
      obtain ⟨h2, h⟩ := and2 h
      obtain ⟨h3, h4⟩ := and2 h
      have e1 := eq_of_beq h1
      obtain ⟨g, m⟩ := bi_ok T O h2
      refine se_blt B (jj := j) (fun c f hl => ?_) O.room (Nat.le_refl _) (by rw [e1]; exact g) (by rw [e1]; exact m) e1 h3 (hr _ h4 X O)
      have := T.lens c f hl
      rw [← B.P, ← B.w, ← B.K, ← O.mg, ← O.base] at this
      exact this
    · cases h
  case sets a =>
    split at h
    · obtain ⟨h1, h⟩ := and2 h
      obtain ⟨h2, h⟩ := and2 h
      obtain ⟨h3, h4⟩ := and2 h
      have e1 := eq_of_beq h1
      subst e1
      obtain ⟨g, m⟩ := bi_ok T O h2
      exact se_sets B g m h3 (hr _ h4 X O)
    · cases h
  case isi a ts =>
    split at h
    · have i1 := (and2 h).1
      replace h := (and2 h).2
      have i2 := (and2 h).1
      replace h := (and2 h).2
      have i3 := (and2 h).1
      replace h := (and2 h).2
      have i4 := (and2 h).1
      replace h := (and2 h).2
      have e1 := eq_of_beq i1
      subst e1
      obtain ⟨g, m⟩ := bi_ok T O i2
      split at h
      · obtain ⟨i5, h⟩ := and2 h
        obtain ⟨i6, i7⟩ := and2 h
        have e2 := eq_of_beq i6
        subst e2
        obtain ⟨g2, m2⟩ := bi_ok T O i7
        exact se_isi1 B i5 g2 m2 g m i3 (hr _ i4 X O)
      · exact absurd h (by simp)
    · obtain ⟨h1, h⟩ := and2 h
      obtain ⟨h2, h⟩ := and2 h
      obtain ⟨h3, h⟩ := and2 h
      obtain ⟨h4, h⟩ := and2 h
      obtain ⟨h5, h⟩ := and2 h
      obtain ⟨h6, h7⟩ := and2 h
      have e1 := eq_of_beq h1
      subst e1
      obtain ⟨g, m⟩ := bi_ok T O h2
      obtain ⟨a1, a2, a3⟩ := ckTys_ok T O h7
      exact se_isiT B h5 a1 a2 a3 (of_decide_eq_true h6) g m h3 (hr _ h4 X O)
    · cases h
  case met m a is =>
    split at h
    · obtain ⟨h1, h⟩ := and2 h
      obtain ⟨h2, h⟩ := and2 h
      obtain ⟨h3, h⟩ := and2 h
      obtain ⟨h4, h⟩ := and2 h
      obtain ⟨h5, h6⟩ := and2 h
      have e1 := eq_of_beq h1
      subst e1
      exact se_index B h2 h3 h4 (hr _ h5 X O) (hr _ h6 X O)
    · cases h
  case mth a m is =>
    split at h
    · obtain ⟨h1, h⟩ := and2 h
      obtain ⟨h2, h⟩ := and2 h
      obtain ⟨h3, h⟩ := and2 h
      obtain ⟨h4, h⟩ := and2 h
      obtain ⟨h5, h⟩ := and2 h
      obtain ⟨h6, h⟩ := and2 h
      obtain ⟨h7, h8⟩ := and2 h
      obtain ⟨a1, a2⟩ := T.mts _ _ _ (by simpa using h1)
      refine se_mth (fun c f hc => ?_) a1 O.room (Nat.le_succ _) h2 h3 (of_decide_eq_true h4) (of_decide_eq_true h5) h6 (hr _ h7 X O) (hr _ h8 X O)
      have := a2 c f hc
      rw [← B.P, ← B.w, ← B.K, ← O.mg, ← O.base] at this
      exact this
    · cases h
  case «mut» m i gs is =>
    split at h
    · obtain ⟨h1, h⟩ := and2 h
      obtain ⟨h2, h⟩ := and2 h
      obtain ⟨h3, h⟩ := and2 h
      obtain ⟨h4, h⟩ := and2 h
      obtain ⟨h5, h⟩ := and2 h
      obtain ⟨h6, h7⟩ := and2 h
      have e1 := eq_of_beq h1
      subst e1
      have e2 : gs = [] := by simpa using h2
      subst e2
      exact se_append B h3 h4 h5 (hr _ h6 X O) (hr _ h7 X O)
    · obtain ⟨h1, h⟩ := and2 h
      obtain ⟨h2, h⟩ := and2 h
      obtain ⟨h3, h⟩ := and2 h
      obtain ⟨h4, h⟩ := and2 h
      obtain ⟨h5, h⟩ := and2 h
      obtain ⟨h6, h7⟩ := and2 h
      have e1 := eq_of_beq h1
      subst e1
      have e2 : gs = [] := by simpa using h2
      subst e2
      exact se_popAt B h3 h4 h5 (hr _ h6 X O) (hr _ h7 X O)
    · obtain ⟨h1, h⟩ := and2 h
      obtain ⟨h2, h⟩ := and2 h
      obtain ⟨h3, h⟩ := and2 h
      obtain ⟨h5, h6⟩ := and2 h
      have e1 := eq_of_beq h1
      subst e1
      have e2 : gs = [] := by simpa using h2
      subst e2
      exact se_pop B h3 h5 (hr _ h6 X O)
    · cases h
  case new c is =>
    split at h
    · obtain ⟨h2, h⟩ := and2 h
      obtain ⟨h3, h⟩ := and2 h
      obtain ⟨h4, h⟩ := and2 h
      obtain ⟨h5, h6⟩ := and2 h
      obtain ⟨⟨x', c', f, np⟩, hq, hh⟩ := List.any_eq_true.mp h4
      obtain ⟨hh, hh3⟩ := and2 hh
      obtain ⟨hh1, hh2⟩ := and2 hh
      have e1 := eq_of_beq hh1
      have e2 : c' = c := by simpa using hh2
      have e3 := eq_of_beq hh3
      subst e1 e2 e3
      obtain ⟨a1, jj, a2, a3⟩ := T.cls _ _ _ _ hq
      rw [← B.P, ← B.w, ← B.K, ← O.mg, ← O.base] at a3
      exact se_new a1 a3 O.room a2 (gl_ok O h3) (nm_ok h2).1 h5 (hr _ h6 X O)
    · cases h
  case lc own tgi iti ifsi elti => exact pe_ef lc_clean (hr _ h X O)
  case lrng a => exact pe_ef lrng_clean (hr _ h X O)
  case maxD mx a c =>
    split at h
    · obtain ⟨h1, h⟩ := and2 h
      obtain ⟨h2, h⟩ := and2 h
      obtain ⟨h3, h⟩ := and2 h
      obtain ⟨h4, h⟩ := and2 h
      obtain ⟨h5, h6⟩ := and2 h
      have e3 := eq_of_beq h3
      subst e3
      have e4 := eq_of_beq h4
      subst e4
      obtain ⟨g, m⟩ := bi_ok T O h2
      exact se_maxD B (eq_of_beq h1) g m h5 (hr _ h6 X O)
    · cases h
  case skeys a =>
    split at h
    · obtain ⟨h1, h⟩ := and2 h
      obtain ⟨h2, h⟩ := and2 h
      obtain ⟨h3, h⟩ := and2 h
      obtain ⟨h4, h⟩ := and2 h
      obtain ⟨h5, h6⟩ := and2 h
      have e1 := eq_of_beq h1
      subst e1
      have e3 := eq_of_beq h3
      subst e3
      obtain ⟨g, m⟩ := bi_ok T O h2
      exact se_skeys B g m h4 h5 (hr _ h6 X O)
    · cases h
  case callT f a is =>
    split at h
    · obtain ⟨h2, h⟩ := and2 h
      obtain ⟨h3, h⟩ := and2 h
      obtain ⟨h4, h⟩ := and2 h
      obtain ⟨h5, h⟩ := and2 h
      obtain ⟨h6, h7⟩ := and2 h
      exact se_callT (cal_ok T O h4) O.room (Nat.le_succ _) (gl_ok O h3) (nm_ok h2).1 h5 (hr _ h6 X O) (hr _ h7 X O)
    · cases h
theorem not_okT {ie : E} : notBool ie = true → match ie with | .and _ _ => False | .or _ _ => False | .not _ => False | _ => True := by
  intro h; cases ie <;> first | trivial | cases h
theorem stT_ok (T : TOk td k C orc mg base j) {r : Q → Bool} (hr : ∀ q, r q = true → Sem k C orc mg base j q) {S : SC} {e : Expr} {ie : E} (h : stT r S e ie = true) : ∀ X, XOk k mg base j S X → PT X e (tT k C orc ie) := by
  intro X O
  have B := O.B
  unfold stT at h
  split at h
  · exact (hr _ h X O).pt
  · split at h
    · exact st_not (hr _ h X O)
    · cases h
  · split at h
    · obtain ⟨h1, h⟩ := and2 h
      obtain ⟨h2, h⟩ := and2 h
      obtain ⟨h3, h4⟩ := and2 h
      exact st_cmp B (of_decide_eq_true h1) h2 (hr _ h3 X O) (hr _ h4 X O)
    · cases h
  · split at h
    · obtain ⟨h1, h⟩ := and2 h
      obtain ⟨h2, h⟩ := and2 h
      obtain ⟨h3, h⟩ := and2 h
      obtain ⟨h4, h⟩ := and2 h
      obtain ⟨h5, h6⟩ := and2 h
      exact st_chain B (of_decide_eq_true h1) (of_decide_eq_true h2) h3 (hr _ h4 X O) (hr _ h5 X O) (hr _ h6 X O)
    · cases h
  · obtain ⟨h1, h⟩ := and2 h
    obtain ⟨h2, h3⟩ := and2 h
    exact st_truth B h1 (not_okT h2) (hr _ h3 X O)
theorem stW_ok (T : TOk td k C orc mg base j) {r : Q → Bool} (hr : ∀ q, r q = true → Sem k C orc mg base j q) {S : SC} {e : Expr} {ie : E} (h : stW r S e ie = true) : ∀ X, XOk k mg base j S X → PW X e (tT k C orc ie) := by
  intro X O
  cases ie <;> simp only [stW] at h <;> first | (cases h; done) | skip
  case and a b =>
    split at h
    · obtain ⟨h1, h2⟩ := and2 h
      exact sw_and (hr _ h1 X O) (sw_and1 (hr _ h2 X O))
    · obtain ⟨h1, h2⟩ := and2 h
      exact sw_and (hr _ h1 X O) (hr _ h2 X O)
    · cases h
  case or a b =>
    split at h
    · obtain ⟨h1, h2⟩ := and2 h
      exact sw_or (hr _ h1 X O) (sw_and1 (hr _ h2 X O))
    · obtain ⟨h1, h2⟩ := and2 h
      exact sw_or (hr _ h1 X O) (hr _ h2 X O)
    · cases h
theorem drop_last {α : Type} : ∀ {l : List α} {f : α}, l.getLast? = some f → l.dropLast ++ [f] = l
  | [], _, h => by simp at h
  | [a], _, h => by simp at h; simp [h]
  | a :: b :: l, f, h => by
    have := drop_last (l := b :: l) (f := f) (by simpa using h)
    simpa using this
theorem stP_ok (T : TOk td k C orc mg base j) {r : Q → Bool} (hr : ∀ q, r q = true → Sem k C orc mg base j q) {S : SC} {e : Expr} {i : Nat} {gs : List Nat} (h : stP td r S e i gs = true) : ∀ X, XOk k mg base j S X → PE X e (tP k i gs) := by
  intro X O
  unfold stP at h
  split at h
  · obtain ⟨h1, h2⟩ := and2 h
    have e2 : gs = [] := by simpa using h2
    subst e2
    obtain ⟨a, b, c, d⟩ := vis_ok O h1
    exact sp_name a b c d
  · split at h
    · rename_i f e1
      obtain ⟨h1, h⟩ := and2 h
      obtain ⟨h2, h3⟩ := and2 h
      obtain ⟨A, hx⟩ := T.fds f _ (by simpa using h1)
      have e9 : gs = gs.dropLast ++ [f] := (drop_last e1).symm
      rw [e9]
      exact sp_att O.B A hx h2 (hr _ h3 X O)
    · cases h
  · cases h
theorem stI_ok (T : TOk td k C orc mg base j) {r : Q → Bool} (hr : ∀ q, r q = true → Sem k C orc mg base j q) {S : SC} {tg e : Expr} {it : Py.It} (h : stI td r S tg e it = true) : ∀ X, XOk k mg base j S X → PI X tg e (tI k C orc it) := by
  intro X O
  have B := O.B
  cases it <;> simp only [stI] at h <;> first | (cases h; done) | skip
  case e a => exact si_e B (hr _ h X O)
  case rng1 a =>
    split at h
    · obtain ⟨h1, h⟩ := and2 h
      obtain ⟨h2, h⟩ := and2 h
      obtain ⟨h3, h4⟩ := and2 h
      have e1 := eq_of_beq h1
      subst e1
      obtain ⟨g, m⟩ := bi_ok T O h2
      exact si_rng1 g m h3 (hr _ h4 X O)
    · cases h
  case rng2 a b =>
    split at h
    · obtain ⟨h1, h⟩ := and2 h
      obtain ⟨h2, h⟩ := and2 h
      obtain ⟨h3, h⟩ := and2 h
      obtain ⟨h4, h⟩ := and2 h
      obtain ⟨h5, h6⟩ := and2 h
      have e1 := eq_of_beq h1
      subst e1
      obtain ⟨g, m⟩ := bi_ok T O h2
      exact si_rng2 g m h3 h4 (hr _ h5 X O) (hr _ h6 X O)
    · cases h
  case enum a =>
    split at h
    · obtain ⟨h1, h⟩ := and2 h
      obtain ⟨h2, h⟩ := and2 h
      obtain ⟨h3, h5⟩ := and2 h
      have e1 := eq_of_beq h1
      subst e1
      obtain ⟨g, m⟩ := bi_ok T O h2
      exact si_enum B g m h3 (hr _ h5 X O)
    · cases h
  case rrng1 a =>
    split at h
    · obtain ⟨h1, h⟩ := and2 h
      obtain ⟨h2, h⟩ := and2 h
      obtain ⟨h3, h⟩ := and2 h
      obtain ⟨h4, h⟩ := and2 h
      obtain ⟨h5, h6⟩ := and2 h
      have e1 := eq_of_beq h1
      subst e1
      have e3 := eq_of_beq h3
      subst e3
      obtain ⟨g, m⟩ := bi_ok T O h2
      obtain ⟨g2, m2⟩ := bi_ok T O h4
      exact si_rrng1 g m g2 m2 h5 (hr _ h6 X O)
    · cases h
  case zip a b =>
    split at h
    · obtain ⟨h1, h⟩ := and2 h
      obtain ⟨h2, h⟩ := and2 h
      obtain ⟨h3, h⟩ := and2 h
      obtain ⟨h4, h⟩ := and2 h
      obtain ⟨h5, h6⟩ := and2 h
      have e1 := eq_of_beq h1
      subst e1
      obtain ⟨g, m⟩ := bi_ok T O h2
      exact si_zip B g m h3 h4 (hr _ h5 X O) (hr _ h6 X O)
    · cases h
  case zip3 a b c =>
    split at h
    · obtain ⟨h1, h⟩ := and2 h
      obtain ⟨h2, h⟩ := and2 h
      obtain ⟨h3, h⟩ := and2 h
      obtain ⟨h4, h⟩ := and2 h
      obtain ⟨h4', h⟩ := and2 h
      obtain ⟨h5, h⟩ := and2 h
      obtain ⟨h6, h7⟩ := and2 h
      have e1 := eq_of_beq h1
      subst e1
      obtain ⟨g, m⟩ := bi_ok T O h2
      exact si_zip3 B g m h3 h4 h4' (hr _ h5 X O) (hr _ h6 X O) (hr _ h7 X O)
    · cases h
end
end Py
end
section
set_option Elab.async false
set_option linter.all false
set_option maxRecDepth 100000
set_option maxHeartbeats 4000000
namespace Py
open PySem PySem.Spec PyProof.Rows L2 C8
section
variable {td : TD} {k : Ki} {C : Ctx} {orc : Orc} {mg : Str → Option Value} {base : Heap} {j : Nat}
theorem sw_ok {S : SC} {X : Cx} (O : XOk k mg base j S X) {tg e : Expr} (h : ckSw S tg e = true) (l : Nat) : swapsWith e (some tg) l X.env = pure false := by
  unfold ckSw at h
  rw [Bool.or_eq_true] at h
  rcases h with h | h
  · exact sw_no h _ _ _
  · split at h
    · rename_i y py
      refine sw_cell ?_ l
      rw [O.sc]
      simpa using h
    · rename_i hn
      cases tg <;> first | exact sw_tg rfl _ _ _ | exact absurd rfl (hn _ _)
theorem fx_ok {S : SC} {t : Tg} (h : noFx S t = true) : ∀ i ∈ S.fx, i ∉ tgs t := fun i hi => by
  have := List.all_eq_true.mp h i hi
  simpa using this
theorem ss_asgLc' {X : Cx} {fr : Bool} {fx : List Nat} {i : Nat} (B : XB k X) {y : Str} {py : Pos} {elt tg iter : Expr} {ifs : List Expr} {scope : Scope} {own : List (Str × Nat)} {wn : List Nat} (ew : own.map (·.2) = wn) {pos spos : Pos} {tgi : Tg} {iti : Py.It} {ifsi : List E} {elti : E} (hk : X.env.scope.kind = .function) (hy : X.N[i]? = some y) (hyl : X.env.scope.names.lookup y = some .local)
    (hl : (py.line == pos.line) = true) (ha : (scope.names.any fun (n, k) => n == y && (k == .local || k == .cell)) = false) (hfx : i ∉ fx)
    (hi : PI X tg iter (tI k C orc iti)) (ok : BlkOk X.N X.env.scope scope own)
    (hg : ∀ (s : Shared) (H : Hp) (C : Addr) (cl : List (Str × Addr)) (fp : List Addr), PG (X.blk s H scope (compEnvC scope cl C X.env) fp) tg (tG k tgi)) (ht : ∀ (s : Shared) (H : Hp) (A : Addr) (cl : List (Str × Addr)) (fp : List Addr), PTs (X.blk s H scope (compEnvC scope cl A X.env) fp) ifs (tF k C orc ifsi))
    (he : ∀ (s : Shared) (H : Hp) (A : Addr) (cl : List (Str × Addr)) (fp : List Addr), PE (X.blk s H scope (compEnvC scope cl A X.env) fp) elt (tE k C orc elti)) (hs : notSet iter = true) (htg : ∀ i ∈ tgs tgi, i ∈ own.map (·.2)) :
    PS X (.Assign [.Name y py] (.ListComp elt [⟨tg, iter, ifs, 0⟩] scope pos) spos) (tS k C orc fr fx (.asgO i (.lc wn tgi iti ifsi elti))) ∧ PS X (.Assign [.Name y py] (.ListComp elt [⟨tg, iter, ifs, 0⟩] scope pos) spos) (tS k C orc fr fx (.asg (.n i) (.lc wn tgi iti ifsi elti))) := by
  subst ew
  exact ⟨ss_asgLc B hk hy hyl hl ha hfx hi ok hg ht he hs htg true, ss_asgLc B hk hy hyl hl ha hfx hi ok hg ht he hs htg false⟩
theorem asgLc_ok {r : Q → Bool} (hr : ∀ q, r q = true → Sem k C orc mg base j q) {S : SC} {X : Cx} (O : XOk k mg base j S X) {y : Str} {py pos spos : Pos} {i : Nat} {elt tg iter : Expr} {ifs : List Expr} {scope : Scope} {own : List Nat} {tgi : Tg} {iti : Py.It} {ifsi : List E} {elti : E}
    (hn : stS.ckNm S y py pos scope i = true) (h : ckLc r S elt tg iter ifs scope own tgi iti ifsi elti = true) :
    PS X (.Assign [.Name y py] (.ListComp elt [⟨tg, iter, ifs, 0⟩] scope pos) spos) (tS k C orc S.fr S.fx (.asgO i (.lc own tgi iti ifsi elti))) ∧ PS X (.Assign [.Name y py] (.ListComp elt [⟨tg, iter, ifs, 0⟩] scope pos) spos) (tS k C orc S.fr S.fx (.asg (.n i) (.lc own tgi iti ifsi elti))) := by
  obtain ⟨n1, hn⟩ := and2 hn
  obtain ⟨n2, hn⟩ := and2 hn
  obtain ⟨n3, hn⟩ := and2 hn
  obtain ⟨n4, n5⟩ := and2 hn
  obtain ⟨a1, a2, a3, a4, a5, a6, a7⟩ := lc_ok hr O h
  exact ss_asgLc' O.B (own_snd S own) O.kind (by rw [O.N]; simpa using n1) (by rw [O.sc]; simpa using n2) n3 (by simpa using n4) (by simpa using n5) a4 a2 a5 a6 a7 a1 a3
theorem stS_ok (T : TOk td k C orc mg base j) {r : Q → Bool} (hr : ∀ q, r q = true → Sem k C orc mg base j q) {S : SC} {st : Stmt} {i : Py.S} (h : stS td r S st i = true) : ∀ X, XOk k mg base j S X → PS X st (tS k C orc S.fr S.fx i) := by
  intro X O
  have B := O.B
  cases i <;> simp only [stS] at h <;> first | (cases h; done) | skip
  case asg t a =>
    split at h
    · have i1 := (and2 h).1
      replace h := (and2 h).2
      split at h
      · rename_i hsw
        obtain ⟨j1, h⟩ := and2 h
        obtain ⟨j2, h⟩ := and2 h
        obtain ⟨j3, j4⟩ := and2 h
        exact ss_asg (sw_ok O hsw) (by simpa using j1) j2 (fx_ok i1) (hr _ j3 X O) (hr _ j4 X O)
      · split at h
        · obtain ⟨j1, j2⟩ := and2 h
          exact (asgLc_ok hr O j1 j2).2
        · cases h
    · cases h
  case asgO i a =>
    split at h
    · have i1 := (and2 h).1
      replace h := (and2 h).2
      split at h
      · rename_i hsw
        obtain ⟨j1, j2⟩ := and2 h
        obtain ⟨l1, l2, l3⟩ := loc_ok O j1
        exact ss_asgO B.nd l1 l2 l3 (sw_ok O hsw) (by simpa using i1) (hr _ j2 X O)
      · split at h
        · obtain ⟨j1, j2⟩ := and2 h
          exact (asgLc_ok hr O j1 j2).1
        · cases h
    · cases h
  case «set» i gs ik a =>
    split at h
    · obtain ⟨h1, h⟩ := and2 h
      obtain ⟨h2, h⟩ := and2 h
      obtain ⟨h3, h⟩ := and2 h
      obtain ⟨h4, h5⟩ := and2 h
      have e2 : gs = [] := by simpa using h1
      subst e2
      exact ss_set B h2 (hr _ h3 X O) (hr _ h4 X O) (hr _ h5 X O)
    · cases h
  case fset i gs f a =>
    split at h
    · obtain ⟨h1, h⟩ := and2 h
      obtain ⟨h2, h⟩ := and2 h
      obtain ⟨h3, h⟩ := and2 h
      obtain ⟨h4, h5⟩ := and2 h
      have e2 : gs = [] := by simpa using h1
      subst e2
      obtain ⟨A, hx⟩ := T.fds f _ (by simpa using h2)
      exact ss_fset B A hx h3 (hr _ h4 X O) (hr _ h5 X O)
    · cases h
  case aug i op a =>
    split at h
    · obtain ⟨h1, h⟩ := and2 h
      obtain ⟨h2, h⟩ := and2 h
      obtain ⟨h3, h⟩ := and2 h
      obtain ⟨h4, h5⟩ := and2 h
      obtain ⟨l1, l2, l3⟩ := loc_ok O h3
      exact ss_aug h1 (of_decide_eq_true h2) B.nd l1 l2 l3 (by simpa using h4) (hr _ h5 X O)
    · cases h
  case expr a =>
    split at h
    · obtain ⟨h1, h2⟩ := and2 h
      exact ss_expr h1 (hr _ h2 X O)
    · cases h
  case ret a =>
    split at h
    · split at h
      · exact ss_retF (hr _ h X O)
      · rename_i hf
        exact ss_ret (by simpa using hf) (hr _ h X O)
    · cases h
  case retN =>
    split at h
    · exact ss_retN (by simpa using h)
    · cases h
  case retO i =>
    split at h
    · obtain ⟨a, b, c, d⟩ := vis_ok O h
      exact ss_retO a b c d
    · cases h
  case ite c a b =>
    split at h
    · obtain ⟨h1, h⟩ := and2 h
      obtain ⟨h2, h3⟩ := and2 h
      exact ss_ite (hr _ h1 X O) (hr _ h2 X O) (hr _ h3 X O)
    · cases h
  case for_ t it b =>
    split at h
    · obtain ⟨h1, h⟩ := and2 h
      obtain ⟨h2, h⟩ := and2 h
      obtain ⟨h3, h⟩ := and2 h
      obtain ⟨h4, h5⟩ := and2 h
      exact ss_for B O.xe h1 (fx_ok h2) (hr _ h3 X O) (hr _ h4 X O) (hr _ h5 X O)
    · cases h
  case while_ c b =>
    split at h
    · obtain ⟨h1, h2⟩ := and2 h
      exact ss_while O.xe (hr _ h1 X O) (hr _ h2 X O)
    · cases h
  case brk =>
    split at h
    · exact ss_brk
    · cases h
  case cont =>
    split at h
    · exact ss_cont
    · cases h
  case pass =>
    split at h
    · exact ss_pass
    · exact ss_doc
    · cases h
  case raise => exact ss_raise
  case try_ b =>
    split at h
    · exact ss_try O.xe (hr _ h X O)
    · cases h
theorem step_ok (T : TOk td k C orc mg base j) {r : Q → Bool} (hr : ∀ q, r q = true → Sem k C orc mg base j q) (q : Q) (h : step td r q = true) : Sem k C orc mg base j q := by
  cases q with
  | e S e i => exact stE_ok T hr h
  | f S e i => exact stF_ok T hr h
  | t S e i => exact stT_ok T hr h
  | w S e i => exact stW_ok T hr h
  | es S es is =>
    intro X O
    simp only [step] at h
    split at h
    · exact ses_nil
    · obtain ⟨h1, h⟩ := and2 h
      obtain ⟨h2, h3⟩ := and2 h
      exact ses_cons h1 (hr _ h2 X O) (hr _ h3 X O)
    · cases h
  | ks S es is =>
    intro X O
    simp only [step] at h
    split at h
    · exact sks_nil
    · obtain ⟨h2, h3⟩ := and2 h
      exact sks_cons (hr _ h2 X O) (hr _ h3 X O)
    · cases h
  | o S e i =>
    intro X O
    simp only [step] at h
    split at h
    · split at h
      · exact so_none
      · cases h
    · obtain ⟨h2, h3⟩ := and2 h
      exact so_some h2 (hr _ h3 X O)
  | p S e i gs => exact stP_ok T hr h
  | a S es as =>
    intro X O
    simp only [step] at h
    split at h
    · exact sa_nil
    · obtain ⟨h1, h⟩ := and2 h
      obtain ⟨h2, h3⟩ := and2 h
      exact sa_e h1 (hr _ h2 X O) (hr _ h3 X O)
    · obtain ⟨h1, h⟩ := and2 h
      obtain ⟨h2, h3⟩ := and2 h
      exact sa_io h1 (hr _ h2 X O) (hr _ h3 X O)
    · cases h
  | q S e i =>
    intro X O
    cases i <;> simp only [step] at h
    case pth i gs => exact sq_p (hr _ h X O)
    all_goals exact sq_e rfl (hr _ h X O)
  | it S tg e i => exact stI_ok T hr h
  | g S e t =>
    intro X O
    simp only [step] at h
    split at h
    · obtain ⟨l1, l2, l3⟩ := loc_ok O h
      exact sg_n O.B.nd l1 l2 l3
    · obtain ⟨h1, h⟩ := and2 h
      obtain ⟨h2, h3⟩ := and2 h
      exact sg_t O.B h1 (of_decide_eq_true h2) (hr _ h3 X O)
    · cases h
  | gs S es ts =>
    intro X O
    simp only [step] at h
    split at h
    · exact sgs_nil
    · obtain ⟨h1, h⟩ := and2 h
      obtain ⟨h2, h3⟩ := and2 h
      exact sgs_cons h1 (hr _ h2 X O) (hr _ h3 X O)
    · cases h
  | ifs S es is =>
    intro X O
    simp only [step] at h
    split at h
    · exact sf_nil
    · exact sf_one (hr _ h X O)
    · cases h
  | s S st i => exact stS_ok T hr h
  | ss S sts is =>
    intro X O
    simp only [step] at h
    split at h
    · exact sss_nil
    · obtain ⟨h2, h3⟩ := and2 h
      exact sss_cons (hr _ h2 X O) (hr _ h3 X O)
    · cases h
theorem ck_ok (T : TOk td k C orc mg base j) : ∀ (n : Nat) (q : Q), ck td n q = true → Sem k C orc mg base j q
  | 0, _, h => by simp [ck] at h
  | n + 1, q, h => step_ok T (ck_ok T n) q h
end
end Py
end
section
set_option Elab.async false
set_option linter.all false
set_option maxRecDepth 100000
set_option maxHeartbeats 4000000
namespace Py
open PySem PySem.Spec PyProof.Rows L2 C8
/-! ### the table of defs -/
structure Df where
  N : List Str
  ps : List Str
  name : Str
  qual : Str
  args : Arguments
  body : List Stmt
  scope : Scope
/-- one def as it stands, checked -/
structure DfOk (td : TD) (k : Ki) (C : Ctx) (fa : Nat → Addr) (fd : Nat → FuncData) (i : Nat) (D : Df) (F : Fn) : Prop where
  fn : FunD k.K D.name D.qual D.args D.body D.scope [] [] (fa i) (fd i)
  sc : FnScope D.N D.ps D.scope
  n : F.n = D.N.length
  io : F.io.length = D.ps.length
  fr : C.fr i = F.fr
  ck : ∃ fuel, ck td fuel (.ss ⟨D.N, D.scope, none, ioFrom F.io 0, F.fr⟩ D.body F.body) = true
/-- what the module's facts say of the table's rows -/
structure TabOk (td : TD) (k : Ki) (C : Ctx) (fns : List Fn) (dfs : List Df) (fa : Nat → Addr) (fd : Nat → FuncData) (mg : Str → Option Value) : Prop where
  len : dfs.length = fns.length
  def_ : ∀ i D F, dfs[i]? = some D → fns[i]? = some F → DfOk td k C fa fd i D F
  binds : ∀ i D, dfs[i]? = some D → Binds k.K (fd i) D.ps []
  fns : ∀ x f np, (x, f, np) ∈ td.fns → ∃ D, dfs[f]? = some D ∧ D.ps.length = np ∧ mg x = some (.ref (fa f))
  kws : ∀ x f ks pm, (x, f, ks, pm) ∈ td.kws → ∃ D g, dfs[f]? = some D ∧ D.ps.length = pm.length ∧ mg x = some (.ref (fa f)) ∧ KBn k.K (fd f) D.ps 0 ks g (fun _ zs => pm.map fun i => zs.getD i .non)
  cls : ∀ x c f np, (x, c, f, np) ∈ td.cls → C.init c = some f ∧ ∃ D, dfs[f]? = some D ∧ D.ps.length = np ∧ mg x = some (.ref (k.ca c)) ∧ Mk k.K (k.ca c) (fa f)
  mts : ∀ m x np, (m, x, np) ∈ td.mts → (∀ i, k.fd i ≠ x) ∧ ∀ c f, C.mth c m = some f → ∃ D, dfs[f]? = some D ∧ D.ps.length = np ∧ Cls k.K (k.ca c) ∧ Meth k.K (k.ca c) x (fa f)
  lens : ∀ c f, C.lenOf c = some f → ∃ D, dfs[f]? = some D ∧ D.ps.length = 1 ∧ PySem.W.findIn k.K (.ref (k.ca c)) "__len__" = some (some (.ref (fa f))) ∧ PySem.W.isFn k.K (.ref (fa f)) = true
  fds : ∀ f x, (f, x) ∈ td.fds → AttOk k f ∧ k.fd f = x
  bis : ∀ x, x ∈ td.bis → mg x = none
  frs : ∀ f, f ∈ td.frs → C.fr f = true
  gis : ∀ x i, (x, i) ∈ td.gis → ∃ t, mg x = some (.int i t)
section
variable {td : TD} {k : Ki} {C : Ctx} {fns : List Fn} {dfs : List Df} {fa : Nat → Addr} {fd : Nat → FuncData} {mg : Str → Option Value} {base : Heap} {j : Nat}
theorem tok_of (T : TabOk td k C fns dfs fa fd mg) {orc : Orc} (Fo : ∀ i (D : Df), dfs[i]? = some D → FnOk k.P k.w k.K mg base C8.CX0 j (fa i) (fd i) D.ps (spF k C orc i D.ps.length)) : TOk td k C orc mg base j := by
  have keep : ∀ i D, dfs[i]? = some D → PySem.W.keepIn k.K (.ref (fa i)) = true := fun i D hD => by
    have hl : i < fns.length := by
      rw [← T.len]
      exact (List.getElem?_eq_some_iff.mp hD).1
    exact (T.def_ i D fns[i] hD (List.getElem?_eq_getElem hl)).fn.kp
  refine ⟨fun x f np h => ?_, fun x f ks pm h => ?_, fun x c f np h => ?_, fun m x np h => ?_, fun c f h => ?_, T.fds, T.bis, T.frs, T.gis⟩
  · obtain ⟨D, hD, e, hm⟩ := T.fns x f np h
    have := Fo f D hD
    rw [e] at this
    exact ⟨fa f, fd f, D.ps, [], this, hm, keep f D hD, T.binds f D hD, .nil⟩
  · obtain ⟨D, g, hD, e, hm, hk⟩ := T.kws x f ks pm h
    have := Fo f D hD
    rw [e] at this
    exact ⟨fa f, fd f, D.ps, g, this, hm, keep f D hD, hk⟩
  · obtain ⟨hc, D, hD, e, hm, mk⟩ := T.cls x c f np h
    have := Fo f D hD
    rw [e] at this
    exact ⟨hc, j, Nat.le_refl _, fa f, fd f, D.ps, [], mk, this, hm, T.binds f D hD, .nil⟩
  · obtain ⟨a, b⟩ := T.mts m x np h
    refine ⟨a, fun c f hc => ?_⟩
    obtain ⟨D, hD, e, c1, m1⟩ := b c f hc
    have := Fo f D hD
    rw [e] at this
    exact ⟨fa f, fd f, D.ps, [], c1, m1, this, T.binds f D hD, .nil⟩
  · obtain ⟨D, hD, e, c1, m1⟩ := T.lens c f h
    have := Fo f D hD
    rw [e] at this
    exact ⟨fa f, fd f, D.ps, c1, m1, this, T.binds f D hD⟩
/-- every def keeps its promise, calls d deep -/
theorem tab_ok (T : TabOk td k C fns dfs fa fd mg) : ∀ (d i : Nat) (D : Df), dfs[i]? = some D → FnOk k.P k.w k.K mg base C8.CX0 (2 * d + 1) (fa i) (fd i) D.ps (spF k C (callN C fns d) i D.ps.length)
  | 0, i, D, hD => by
    have hl : i < fns.length := by rw [← T.len]; exact (List.getElem?_eq_some_iff.mp hD).1
    have d1 := T.def_ i D fns[i] hD (List.getElem?_eq_getElem hl)
    refine d1.fn.ok d1.sc (fun vs H Q E h => h.1) (fun cdv A outer s H vs Q E hr h => ?_)
    obtain ⟨_, F, as, os, d, fp, e, _⟩ := h
    simp only [callN] at e
    cases e
  | d + 1, i, D, hD => by
    have hl : i < fns.length := by rw [← T.len]; exact (List.getElem?_eq_some_iff.mp hD).1
    have hF : fns[i]? = some fns[i] := List.getElem?_eq_getElem hl
    have d1 := T.def_ i D fns[i] hD hF
    have tk : TOk td k C (callN C fns d) mg base (2 * d + 1) := tok_of T fun i D hD => tab_ok T d i D hD
    refine FnOk.mono (j := (2 * d + 2) + 1) (d1.fn.ok d1.sc (fun vs H Q E h => h.1) (fun cdv A outer s H vs Q E hr h => ?_)) (by omega)
    obtain ⟨fuel, hck⟩ := d1.ck
    have sem := ck_ok tk fuel _ hck
    refine ⟨_, PSs.nox (sem _ ?_), fn_red (Fn0 := fns[i]) (f := i) d1.n d1.fr (fun as => ?_) (by rw [d1.io]; exact h)⟩
    · refine ⟨⟨rfl, rfl, rfl, rfl, ?_, d1.sc.nd⟩, rfl, rfl, rfl, rfl, d1.sc.kind, fun x => rfl, rfl, hr⟩
      have := hr.un
      show (A.deeper _).units + 100 < cLine
      omega
    · simp only [callN, hF]
end
end Py
end
section
set_option Elab.async false
set_option linter.all false
set_option maxRecDepth 100000
set_option maxHeartbeats 4000000
namespace Py
open PySem PySem.Spec PyProof.Rows L2 C8
theorem look_none {ps : List Str} {us : List Value} (hl : us.length = ps.length) : ∀ n ∈ ps, ((ps.zip us).lookup n).isNone = false := by
  induction ps generalizing us with
  | nil => intro n h; cases h
  | cons p ps ih =>
    cases us with
    | nil => simp at hl
    | cons u us =>
      intro n h
      rw [List.zip_cons_cons, List.lookup_cons]
      cases e : n == p with
      | true => rfl
      | false =>
        have hne : n ≠ p := by simpa using e
        exact ih (by simpa using hl) n ((List.mem_cons.mp h).resolve_left hne)
theorem look_map {ps : List Str} (nd : ps.Nodup) {us : List Value} (hl : us.length = ps.length) : ps.filterMap (fun n => ((ps.zip us).lookup n).map (n, ·)) = ps.zip us := by
  have : ∀ (qs : List Str) (vs : List Value) (f : Str → Option Value), vs.length = qs.length → (∀ i (h : i < qs.length), f qs[i] = vs[i]?) → qs.filterMap (fun n => (f n).map (n, ·)) = qs.zip vs := by
    intro qs
    induction qs with
    | nil => intro vs f _ _; rfl
    | cons q qs ih =>
      intro vs f h1 h2
      cases vs with
      | nil => simp at h1
      | cons v vs =>
        have := h2 0 (by simp)
        simp at this
        rw [List.filterMap_cons, this]
        simp only [Option.map_some, List.zip_cons_cons]
        rw [ih vs f (by simpa using h1) fun i h => by
          have := h2 (i + 1) (by simpa using h)
          rw [List.getElem_cons_succ, List.getElem?_cons_succ] at this
          exact this]
  refine this ps us _ hl fun i h => ?_
  clear this
  induction ps generalizing us i with
  | nil => simp at h
  | cons p ps ih =>
    cases us with
    | nil => simp at hl
    | cons u us =>
      rw [List.zip_cons_cons, List.lookup_cons]
      cases i with
      | zero => simp
      | succ i =>
        have hh : i < ps.length := by simpa using h
        have hne : ((p :: ps)[i + 1] == p) = false := by
          simp only [List.getElem_cons_succ, beq_eq_false_iff_ne]
          intro e
          exact (List.nodup_cons.mp nd).1 (e ▸ List.getElem_mem hh)
        rw [hne]
        simpa using ih (List.nodup_cons.mp nd).2 (by simpa using hl) i hh
theorem bind_plain {fd : FuncData} (h1 : fd.params.posonlyargs = []) (h2 : fd.params.vararg = none) (h3 : fd.params.kwonlyargs = []) (h4 : fd.params.kwarg = none) (hdf : fd.defaults = .none) (nd : (fd.params.args.map (·.arg)).Nodup) (us : List Value) (hl : us.length = (fd.params.args.map (·.arg)).length) :
    bindArgs fd ⟨us, []⟩ = pure ((fd.params.args.map (·.arg)).zip us) := by
  have e1 : seqItems? Value.none = pure none := rfl
  have e2 : ((fd.params.args.map (·.arg)).filter fun n => (((fd.params.args.map (·.arg)).zip us).lookup n).isNone) = [] := List.filter_eq_nil_iff.mpr fun n hn => by rw [look_none hl n hn]; simp
  have e3 := look_map nd hl
  have e4 : decide (us.length > (fd.params.args.map (·.arg)).length) = false := by simp [hl]
  unfold bindArgs
  simp only [h1, h2, h3, h4, hdf, e1, List.map_nil, List.nil_append, List.append_nil, pure_bind, Option.getD_none]
  clear h1 h2 h3 h4 hdf e1 nd
  revert us
  generalize fd.params.args.map (·.arg) = ps
  intro us hl e2 e3 e4
  simp [hl, e2, e3, List.take_length]
end Py
end
section
set_option Elab.async false
set_option linter.all false
set_option maxRecDepth 100000
set_option maxHeartbeats 4000000
namespace Py
open PySem PySem.Spec PyProof.Rows L2 C8
/-! ### a law's table, by one look at its data -/
structure Law where
  names : List (List Str)
  fns : List Fn
  cn : List Str
  fl : List Str
  inits : List (Nat × Nat)
  lens : List (Nat × Nat)
  mths : List (Nat × Nat × Nat)
  frs : List Nat
  wh : Nat
  td : TD
def find2 : List (Nat × Nat) → Nat → Option Nat
  | [], _ => none
  | (a, b) :: l, c => if c = a then some b else find2 l c
def find3 : List (Nat × Nat × Nat) → Nat → Nat → Option Nat
  | [], _, _ => none
  | (a, b, f) :: l, c, m => if c = a ∧ m = b then some f else find3 l c m
theorem find2_mem : ∀ {l : List (Nat × Nat)} {c f : Nat}, find2 l c = some f → (c, f) ∈ l
  | (a, b) :: l, c, f, h => by
    unfold find2 at h
    split at h
    · rename_i e; cases h; rw [e]; exact List.mem_cons_self
    · exact List.mem_cons_of_mem _ (find2_mem h)
theorem find3_mem : ∀ {l : List (Nat × Nat × Nat)} {c m f : Nat}, find3 l c m = some f → (c, m, f) ∈ l
  | (a, b, g) :: l, c, m, f, h => by
    unfold find3 at h
    split at h
    · rename_i e; cases h; rw [e.1, e.2]; exact List.mem_cons_self
    · exact List.mem_cons_of_mem _ (find3_mem h)
def Law.ctx (L : Law) : Ctx where
  init := find2 L.inits
  lenOf := find2 L.lens
  mth := find3 L.mths
  wh := L.wh
  fr := fun f => L.frs.contains f
/-- the fields' names; past the list: strings that no text holds -/
def fdName (l : List Str) (i : Nat) : Str := match l[i]? with
  | some s => s
  | none => ⟨#[1114112 + i]⟩
def plainS (s : Str) : Bool := s.cps.all fun c => decide (c < 1114112)
theorem plainS_ne {s : Str} (h : plainS s = true) (i : Nat) : s ≠ ⟨#[1114112 + i]⟩ := fun e => by
  subst e
  simp [plainS] at h
  omega
theorem nodup_idx {α : Type} : ∀ {l : List α} {i j : Nat} {a : α}, l.Nodup → l[i]? = some a → l[j]? = some a → i = j
  | [], _, _, _, _, h, _ => by simp at h
  | x :: l, 0, 0, _, _, _, _ => rfl
  | x :: l, 0, j + 1, a, nd, h1, h2 => by
    simp at h1 h2
    subst h1
    exact absurd (List.mem_of_getElem? h2) (List.nodup_cons.mp nd).1
  | x :: l, i + 1, 0, a, nd, h1, h2 => by
    simp at h1 h2
    subst h2
    exact absurd (List.mem_of_getElem? h1) (List.nodup_cons.mp nd).1
  | x :: l, i + 1, j + 1, a, nd, h1, h2 => by
    exact congrArg (· + 1) (nodup_idx (l := l) (i := i) (j := j) (a := a) (List.nodup_cons.mp nd).2 (by simpa using h1) (by simpa using h2))
theorem fdName_inj {l : List Str} (nd : l.Nodup) (h : l.all plainS = true) (f g : Nat) (e : fdName l f = fdName l g) : f = g := by
  have pl : ∀ i s, l[i]? = some s → plainS s = true := fun i s hs => List.all_eq_true.mp h s (List.mem_of_getElem? hs)
  unfold fdName at e
  split at e <;> split at e
  · rename_i a ea _ b eb
    subst e
    exact nodup_idx nd ea (by rw [eb])
  · rename_i a ea _ eb
    exact absurd e (plainS_ne (pl _ _ ea) _)
  · rename_i ea _ b eb
    exact absurd e.symm (plainS_ne (pl _ _ eb) _)
  · have := congrArg (fun s : Str => s.cps.toList) e
    simp at this
    exact this
theorem fdName_ne {l : List Str} {x : Str} (hx : plainS x = true) (hn : l.contains x = false) (i : Nat) : fdName l i ≠ x := fun e => by
  unfold fdName at e
  split at e
  · rename_i s es
    subst e
    have := List.mem_of_getElem? es
    simp at hn
    exact hn this
  · exact plainS_ne hx i e.symm
def dfOf (N : List Str) (d : He.DefD) : Df := ⟨N, d.params.args.map (·.arg), d.name, d.qual, d.params, d.body, d.scope⟩
/-- the class whose number is c -/
def Law.cls (L : Law) (c : Nat) : Str := L.cn.getD c (L.cn.headD Str.empty)
def defC (L : Law) (fuel i : Nat) (N : List Str) (d : He.DefD) (F : Fn) : Bool :=
  (d.dfl.isEmpty && d.kwd.isEmpty) && ((d.params.posonlyargs.isEmpty && (d.params.vararg.isNone && (d.params.kwonlyargs.isEmpty && d.params.kwarg.isNone))) &&
  (scC N (d.params.args.map (·.arg)) d.scope && (decide (d.params.args.map (·.arg)).Nodup && (decide (F.n = N.length) && (decide (F.io.length = (d.params.args.map (·.arg)).length) && ((L.ctx.fr i == F.fr) &&
  ck L.td fuel (.ss ⟨N, d.scope, none, ioFrom F.io 0, F.fr⟩ d.body F.body)))))))
def allC (L : Law) (fuel : Nat) : Nat → List (List Str) → List He.DefD → List Fn → Bool
  | i, N :: Ns, d :: ds, F :: Fs => defC L fuel i N d F && allC L fuel (i + 1) Ns ds Fs
  | _, [], [], [] => true
  | _, _, _, _ => false
def hasGlo (fa : List He.Fa) (x : Str) : Bool := fa.any fun | .glo y => y == x | _ => false
def hasInt (fa : List He.Fa) (x : Str) (i : Int) : Bool := fa.any fun | .int y j => y == x && decide (j = i) | _ => false
def hasFree (fa : List He.Fa) (x : Str) : Bool := fa.any fun | .free y => y == x | _ => false
def hasCls (fa : List He.Fa) (x : Str) : Bool := fa.any fun | .cls y => y == x | _ => false
def hasMkr (fa : List He.Fa) (x : Str) : Bool := fa.any fun | .mkr y => y == x | _ => false
def hasNoat (fa : List He.Fa) (x f : Str) : Bool := fa.any fun | .noat y g => y == x && g == f | _ => false
def hasMeth (fa : List He.Fa) (x f : Str) : Bool := fa.any fun | .meth y g => y == x && g == f | _ => false
/-- the def number f stands there, with np parameters -/
def isAt (fn : List He.DefD) (f np : Nat) (p : Str × Option Str) : Bool := match fn[f]? with
  | some d => decide (d.at_ = p) && decide ((d.params.args.map (·.arg)).length = np)
  | none => false
def rowsC (L : Law) (fa : List He.Fa) (fn : List He.DefD) : Bool :=
  (L.td.fns.all fun q => hasGlo fa q.1 && isAt fn q.2.1 q.2.2 (q.1, none)) &&
  ((L.td.kws.all fun q => hasGlo fa q.1 && isAt fn q.2.1 q.2.2.2.length (q.1, none)) &&
  ((L.td.cls.all fun q => hasGlo fa q.1 && (hasMkr fa q.1 && ((L.cls q.2.1 == q.1) && (decide (find2 L.inits q.2.1 = some q.2.2.1) && isAt fn q.2.2.1 q.2.2.2 (q.1, some "__init__"))))) &&
  ((L.td.mts.all fun q => plainS q.2.1 && (!L.fl.contains q.2.1 && L.mths.all fun r => !(decide (r.2.1 = q.1)) || (hasMeth fa (L.cls r.1) q.2.1 && (hasCls fa (L.cls r.1) && isAt fn r.2.2 q.2.2 (L.cls r.1, some q.2.1))))) &&
  ((L.lens.all fun q => hasMeth fa (L.cls q.1) "__len__" && isAt fn q.2 1 (L.cls q.1, some "__len__")) &&
  ((L.td.fds.all fun q => decide (L.fl[q.1]? = some q.2) && ((L.cls 0 :: L.cn).all fun c => hasCls fa c && hasNoat fa c q.2)) &&
  (((L.td.bis.all fun x => hasFree fa x) && L.td.gis.all fun q => hasInt fa q.1 q.2) && ((L.td.frs.all fun f => L.frs.contains f) && (decide L.fl.Nodup && L.fl.all plainS))))))))
/-! ### .. and what it says -/
def fdOf (K : PySem.W.Frag) (a : Addr) : FuncData := match K.lookup a with
  | some ⟨_, _, .func fd, _⟩ => fd
  | _ => default
theorem fdOf_eq {K : PySem.W.Frag} {x qual : Str} {params : Arguments} {body : List Stmt} {scope : Scope} {dvs : List V} {kws : List (Str × V)} {f : Addr} {fd : FuncData} (F : FunD K x qual params body scope dvs kws f fd) : fdOf K f = fd := by
  obtain ⟨oc, od, dV, kV, doc, pm, an, cdv, ct, osl, e, lk, _⟩ := F.ex
  unfold fdOf
  rw [lk]
def Law.ki (L : Law) (P : Program) (w : World) (K : PySem.W.Frag) (nd : L.fl.Nodup) (h : L.fl.all plainS = true) : Ki where
  P := P
  w := w
  K := K
  ca := fun c => He.ga K (L.cls c)
  fd := fdName L.fl
  inj := fdName_inj nd h
theorem any_pick {α : Type} {p : α → Bool} {l : List α} (h : l.any p = true) : ∃ a ∈ l, p a = true := by simpa using List.any_eq_true.mp h
section
variable {fa : List He.Fa} {fn : List He.DefD} {K : PySem.W.Frag} {h : Heap} {mg : Str → Option Value}
theorem says_fact (c : He.SaysD fa fn K) {f : He.Fa} (hf : f ∈ fa) : f.ok K = true := by
  obtain ⟨i, hi⟩ := List.mem_iff_getElem?.mp hf
  exact c.fact i hi
theorem glo_of (X : K.In h) (G : h.Ns mainGlobals mg) (c : He.SaysD fa fn K) {x : Str} (e : hasGlo fa x = true) : mg x = some (.ref (He.ga K x)) := by
  obtain ⟨f, hf, e⟩ := any_pick e
  cases f <;> first | (cases e; done) | skip
  have e := eq_of_beq e
  subst e
  exact He.glo_ok X G (says_fact c hf)
theorem int_of (X : K.In h) (G : h.Ns mainGlobals mg) (c : He.SaysD fa fn K) {x : Str} {i : Int} (e : hasInt fa x i = true) : ∃ t, mg x = some (.int i t) := by
  obtain ⟨f, hf, e⟩ := any_pick e
  cases f <;> first | (cases e; done) | skip
  obtain ⟨e1, e2⟩ := and2 e
  have e1 := eq_of_beq e1
  have e2 := of_decide_eq_true e2
  subst e1 e2
  exact He.int_ok X G (says_fact c hf)
theorem free_of (X : K.In h) (G : h.Ns mainGlobals mg) (c : He.SaysD fa fn K) {x : Str} (e : hasFree fa x = true) : mg x = none := by
  obtain ⟨f, hf, e⟩ := any_pick e
  cases f <;> first | (cases e; done) | skip
  have e := eq_of_beq e
  subst e
  exact He.free_ok X G (says_fact c hf)
theorem cls_of (c : He.SaysD fa fn K) {x : Str} (e : hasCls fa x = true) : Cls K (He.ga K x) := by
  obtain ⟨f, hf, e⟩ := any_pick e
  cases f <;> first | (cases e; done) | skip
  have e := eq_of_beq e
  subst e
  exact He.cls_ok (says_fact c hf)
theorem mkr_of (c : He.SaysD fa fn K) {x : Str} (e : hasMkr fa x = true) : Mk K (He.ga K x) (He.ma K (He.ga K x) "__init__") := by
  obtain ⟨f, hf, e⟩ := any_pick e
  cases f <;> first | (cases e; done) | skip
  have e := eq_of_beq e
  subst e
  exact He.mkr_ok (says_fact c hf)
theorem noat_of (c : He.SaysD fa fn K) {x g : Str} (e : hasNoat fa x g = true) : NoAttr K (He.ga K x) g := by
  obtain ⟨f, hf, e⟩ := any_pick e
  cases f <;> first | (cases e; done) | skip
  obtain ⟨e, e2⟩ := and2 e
  have e := eq_of_beq e
  have e2 := eq_of_beq e2
  subst e e2
  exact He.noat_ok (says_fact c hf)
theorem meth_of (c : He.SaysD fa fn K) {x g : Str} (e : hasMeth fa x g = true) : Meth K (He.ga K x) g (He.ma K (He.ga K x) g) := by
  obtain ⟨f, hf, e⟩ := any_pick e
  cases f <;> first | (cases e; done) | skip
  obtain ⟨e, e2⟩ := and2 e
  have e := eq_of_beq e
  have e2 := eq_of_beq e2
  subst e e2
  exact He.meth_ok (says_fact c hf)
def faOf (fn : List He.DefD) (K : PySem.W.Frag) (i : Nat) : Addr := match fn[i]? with
  | some d => He.fAd K d.at_
  | none => 0
def dfsOf : List (List Str) → List He.DefD → List Df
  | N :: Ns, d :: ds => dfOf N d :: dfsOf Ns ds
  | _, _ => []
theorem allC_get {L : Law} {fuel : Nat} : ∀ {i : Nat} {Ns : List (List Str)} {ds : List He.DefD} {Fs : List Fn}, allC L fuel i Ns ds Fs = true → (dfsOf Ns ds).length = Fs.length ∧ ∀ j D, (dfsOf Ns ds)[j]? = some D → ∃ N d F, Ns[j]? = some N ∧ ds[j]? = some d ∧ Fs[j]? = some F ∧ D = dfOf N d ∧ defC L fuel (i + j) N d F = true
  | i, [], [], [], _ => ⟨rfl, fun j D h => by simp [dfsOf] at h⟩
  | i, N :: Ns, d :: ds, F :: Fs, h => by
    obtain ⟨h1, h2⟩ := and2 (show (defC L fuel i N d F && allC L fuel (i + 1) Ns ds Fs) = true from h)
    obtain ⟨a, b⟩ := allC_get h2
    refine ⟨by simp [dfsOf, a], fun j D hD => ?_⟩
    cases j with
    | zero =>
      simp [dfsOf] at hD
      exact ⟨N, d, F, rfl, rfl, rfl, hD.symm, h1⟩
    | succ j =>
      obtain ⟨N', d', F', e1, e2, e3, e4, e5⟩ := b j D (by simpa [dfsOf] using hD)
      exact ⟨N', d', F', by simpa using e1, by simpa using e2, by simpa using e3, e4, by rw [show i + (j + 1) = i + 1 + j by omega]; exact e5⟩
  | _, [], [], _ :: _, h => by simp [allC] at h
  | _, [], _ :: _, _, h => by simp [allC] at h
  | _, _ :: _, [], _, h => by simp [allC] at h
  | _, _ :: _, _ :: _, [], h => by simp [allC] at h
theorem dfs_some : ∀ {Ns : List (List Str)} {ds : List He.DefD} {Fs : List Fn} {L : Law} {fuel i : Nat}, allC L fuel i Ns ds Fs = true → ∀ {j : Nat} {d : He.DefD}, ds[j]? = some d → ∃ N, (dfsOf Ns ds)[j]? = some (dfOf N d)
  | N :: Ns, d :: ds, F :: Fs, L, fuel, i, h, 0, d', e => by
    simp at e
    subst e
    exact ⟨N, rfl⟩
  | N :: Ns, d :: ds, F :: Fs, L, fuel, i, h, j + 1, d', e => by
    obtain ⟨h1, h2⟩ := and2 (show (defC L fuel i N d F && allC L fuel (i + 1) Ns ds Fs) = true from h)
    obtain ⟨N', e'⟩ := dfs_some h2 (show ds[j]? = some d' by simpa using e)
    exact ⟨N', by simpa [dfsOf] using e'⟩
  | [], [], [], _, _, _, _, _, _, e => by simp at e
  | [], [], _ :: _, _, _, _, h, _, _, _ => by simp [allC] at h
  | [], _ :: _, _, _, _, _, h, _, _, _ => by simp [allC] at h
  | _ :: _, [], _, _, _, _, h, _, _, _ => by simp [allC] at h
  | _ :: _, _ :: _, [], _, _, _, h, _, _, _ => by simp [allC] at h
theorem isAt_of {f np : Nat} {p : Str × Option Str} (h : isAt fn f np p = true) : ∃ d, fn[f]? = some d ∧ d.at_ = p ∧ (d.params.args.map (·.arg)).length = np := by
  unfold isAt at h
  split at h
  · rename_i d e
    obtain ⟨h1, h2⟩ := and2 h
    exact ⟨d, e, of_decide_eq_true h1, of_decide_eq_true h2⟩
  · cases h
end
end Py
end
section
set_option Elab.async false
set_option linter.all false
set_option maxRecDepth 100000
set_option maxHeartbeats 4000000
namespace Py
open PySem PySem.Spec PyProof.Rows L2 C8
section
variable {fa : List He.Fa} {fn : List He.DefD} {K : PySem.W.Frag} {h : Heap} {mg : Str → Option Value} {L : Law} {fuel : Nat}
theorem kbn_of {x qual : Str} {params : Arguments} {body : List Stmt} {scope : Scope} {f : Addr} {fd : FuncData} {ps ks : List Str} {pm : List Nat} (F : FunD K x qual params body scope [] [] f fd)
    (hb : ∀ (kV doc pm' : Value) (an : Option Addr) (cdv ct : Value) (ws : List Value), ws.length = ks.length → bindArgs (PySem.W.fnOf x qual params body scope .none kV doc pm' an cdv ct) ⟨[], ks.zip ws⟩ = pure (ps.zip (pm.map fun i => ws.getD i .none))) :
    KBn K fd ps 0 ks (fun _ ws => pm.map fun i => ws.getD i .none) (fun _ zs => pm.map fun i => zs.getD i .non) := by
  obtain ⟨oc, od, dV, kV, doc, pm', an, cdv, ct, osl, rfl, lk, hcd, hD, hK⟩ := F.ex
  rcases hD with ⟨_, rfl⟩ | ⟨e, _⟩
  · refine ⟨fun s us ws X l1 l2 => ?_, fun {vs us zs ws} r1 r2 => ?_⟩
    · have : us = [] := List.length_eq_zero_iff.mp l1
      subst this
      exact .of_eq (hb kV doc pm' an cdv ct ws l2)
    · clear hb
      induction pm with
      | nil => exact .nil
      | cons i pm ih =>
        refine .cons ?_ ih
        show RelV (zs.getD i .non) (ws.getD i .none)
        rw [List.getD_eq_getElem?_getD, List.getD_eq_getElem?_getD]
        cases e : zs[i]? with
        | none => rw [Vals.none_of r2 e]; rfl
        | some z =>
          obtain ⟨u, e1, e2⟩ := Vals.get r2 e
          rw [e1]
          exact e2
  · exact absurd rfl e
theorem bindsP {x qual : Str} {params : Arguments} {body : List Stmt} {scope : Scope} {f : Addr} {fd : FuncData} (F : FunD K x qual params body scope [] [] f fd) (h1 : params.posonlyargs = []) (h2 : params.vararg = none) (h3 : params.kwonlyargs = []) (h4 : params.kwarg = none) (nd : (params.args.map (·.arg)).Nodup) : Binds K fd (params.args.map (·.arg)) [] :=
  F.bindsN fun kV doc pm an cdv ct us hl => bind_plain (fd := PySem.W.fnOf x qual params body scope .none kV doc pm an cdv ct) h1 h2 h3 h4 rfl nd us hl
theorem cls_mem (L : Law) (cc : Nat) : L.cls cc ∈ L.cls 0 :: L.cn := by
  have g : ∀ (l : List Str) (c : Nat) (d : Str), l.getD c d ∈ d :: l := fun l c d => by
    rw [List.getD_eq_getElem?_getD]
    cases e : l[c]? with
    | some y => exact List.mem_cons_of_mem _ (List.mem_of_getElem? e)
    | none => exact List.mem_cons_self
  have h0 : L.cls 0 = L.cn.headD Str.empty := by
    unfold Law.cls
    cases L.cn <;> rfl
  rw [h0]
  exact g _ _ _
/-- what the keyword calls bind -/
def KwsOk (L : Law) (fn : List He.DefD) : Prop := ∀ x f ks pm, (x, f, ks, pm) ∈ L.td.kws → ∀ d, fn[f]? = some d → ∀ (kV doc pm' : Value) (an : Option Addr) (cdv ct : Value) (ws : List Value), ws.length = ks.length →
  bindArgs (PySem.W.fnOf d.name d.qual d.params d.body d.scope .none kV doc pm' an cdv ct) ⟨[], ks.zip ws⟩ = pure ((d.params.args.map (·.arg)).zip (pm.map fun i => ws.getD i .none))
theorem law_tab (X : K.In h) (G : h.Ns mainGlobals mg) (c : He.SaysD fa fn K) (ha : allC L fuel 0 L.names fn L.fns = true) (hr : rowsC L fa fn = true) (hk : KwsOk L fn) (P : Program) (w : World) :
    ∃ nd pl, TabOk L.td (L.ki P w K nd pl) L.ctx L.fns (dfsOf L.names fn) (faOf fn K) (fun i => fdOf K (faOf fn K i)) mg := by
  obtain ⟨r1, hr⟩ := and2 hr
  obtain ⟨r2, hr⟩ := and2 hr
  obtain ⟨r3, hr⟩ := and2 hr
  obtain ⟨r4, hr⟩ := and2 hr
  obtain ⟨r5, hr⟩ := and2 hr
  obtain ⟨r6, hr⟩ := and2 hr
  obtain ⟨r7, hr⟩ := and2 hr
  obtain ⟨r8, hr⟩ := and2 hr
  obtain ⟨r9, r10⟩ := and2 hr
  have nd := of_decide_eq_true r9
  obtain ⟨hlen, hget⟩ := allC_get ha
  refine ⟨nd, r10, ?_⟩
  have fun_ : ∀ {i : Nat} {N : List Str} {d : He.DefD} {F : Fn} {j : Nat}, fn[i]? = some d → defC L fuel j N d F = true → FunD K d.name d.qual d.params d.body d.scope [] [] (faOf fn K i) (fdOf K (faOf fn K i)) := by
    intro i N d F j e hd
    obtain ⟨h1, _⟩ := and2 hd
    obtain ⟨h1, h2⟩ := and2 h1
    obtain ⟨fd, Fd⟩ := c.def_ i e
    have e1 : d.dvs K = [] := by unfold He.DefD.dvs; rw [List.isEmpty_iff.mp h1]; rfl
    have e2 : d.kws K = [] := by unfold He.DefD.kws; rw [List.isEmpty_iff.mp h2]; rfl
    rw [e1, e2] at Fd
    have e3 : faOf fn K i = He.fAd K d.at_ := by unfold faOf; rw [e]
    rw [e3, fdOf_eq Fd]
    exact Fd
  have df : ∀ {f : Nat} {d : He.DefD}, fn[f]? = some d → ∃ D, (dfsOf L.names fn)[f]? = some D ∧ D.ps = d.params.args.map (·.arg) := fun e => by
    obtain ⟨N, e'⟩ := dfs_some ha e
    exact ⟨_, e', rfl⟩
  have adr : ∀ {f : Nat} {d : He.DefD}, fn[f]? = some d → faOf fn K f = He.fAd K d.at_ := fun e => by unfold faOf; rw [e]
  refine ⟨hlen, fun i D F hD hF => ?_, fun i D hD => ?_, fun x f np hm => ?_, fun x f ks pm hm => ?_, fun x cc f np hm => ?_, fun m x np hm => ?_, fun cc f hm => ?_, fun f x hm => ?_, fun x hm => ?_, fun f hm => ?_, fun x i hm => ?_⟩
  · obtain ⟨N, d, F', e1, e2, e3, rfl, hd⟩ := hget i D hD
    rw [hF] at e3
    cases e3
    have fu := fun_ e2 hd
    rw [Nat.zero_add] at hd
    obtain ⟨_, hd⟩ := and2 hd
    obtain ⟨_, hd⟩ := and2 hd
    obtain ⟨h1, hd⟩ := and2 hd
    obtain ⟨h2, hd⟩ := and2 hd
    obtain ⟨h3, hd⟩ := and2 hd
    obtain ⟨h4, hd⟩ := and2 hd
    obtain ⟨h5, h6⟩ := and2 hd
    exact ⟨fu, fnScope_by h1, of_decide_eq_true h3, of_decide_eq_true h4, eq_of_beq h5, fuel, h6⟩
  · obtain ⟨N, d, F', e1, e2, e3, rfl, hd⟩ := hget i D hD
    have fu := fun_ e2 hd
    obtain ⟨_, hd⟩ := and2 hd
    obtain ⟨p, hd⟩ := and2 hd
    obtain ⟨p1, p⟩ := and2 p
    obtain ⟨p2, p⟩ := and2 p
    obtain ⟨p3, p4⟩ := and2 p
    obtain ⟨h1, hd⟩ := and2 hd
    obtain ⟨h2, hd⟩ := and2 hd
    exact bindsP fu (List.isEmpty_iff.mp p1) (Option.isNone_iff_eq_none.mp p2) (List.isEmpty_iff.mp p3) (Option.isNone_iff_eq_none.mp p4) (of_decide_eq_true h2)
  · obtain ⟨a, b⟩ := and2 (List.all_eq_true.mp r1 _ hm)
    obtain ⟨d, e1, e2, e3⟩ := isAt_of b
    obtain ⟨D, e4, e5⟩ := df e1
    refine ⟨D, e4, by rw [e5]; exact e3, ?_⟩
    rw [glo_of X G c a, adr e1, e2]
    rfl
  · obtain ⟨a, b⟩ := and2 (List.all_eq_true.mp r2 _ hm)
    obtain ⟨d, e1, e2, e3⟩ := isAt_of b
    obtain ⟨N, e4⟩ := dfs_some ha e1
    obtain ⟨N', d', F', g1, g2, g3, g4, hd⟩ := hget f _ e4
    rw [e1] at g2
    cases g2
    refine ⟨_, _, e4, e3, ?_, kbn_of (fun_ e1 hd) (hk x f ks pm hm d e1)⟩
    rw [glo_of X G c a, adr e1, e2]
    rfl
  · obtain ⟨a, b⟩ := and2 (List.all_eq_true.mp r3 _ hm)
    obtain ⟨b, q⟩ := and2 b
    obtain ⟨q1, q⟩ := and2 q
    obtain ⟨q2, q3⟩ := and2 q
    obtain ⟨d, e1, e2, e3⟩ := isAt_of q3
    obtain ⟨D, e4, e5⟩ := df e1
    have ec : (L.ki P w K nd r10).ca cc = He.ga K x := congrArg (He.ga K) (eq_of_beq q1)
    refine ⟨of_decide_eq_true q2, D, e4, by rw [e5]; exact e3, ?_, ?_⟩
    · rw [ec]; exact glo_of X G c a
    · rw [ec, adr e1, e2]
      exact mkr_of c b
  · obtain ⟨a, b⟩ := and2 (List.all_eq_true.mp r4 _ hm)
    obtain ⟨b1, b2⟩ := and2 b
    refine ⟨fdName_ne a (by simpa using b1), fun cc f hf => ?_⟩
    have := List.all_eq_true.mp b2 _ (find3_mem hf)
    simp only [decide_true, Bool.not_true, Bool.false_or] at this
    obtain ⟨q1, q⟩ := and2 this
    obtain ⟨q2, q3⟩ := and2 q
    obtain ⟨d, e1, e2, e3⟩ := isAt_of q3
    obtain ⟨D, e4, e5⟩ := df e1
    refine ⟨D, e4, by rw [e5]; exact e3, cls_of c q2, ?_⟩
    rw [adr e1, e2]
    exact meth_of c q1
  · obtain ⟨q1, q3⟩ := and2 (List.all_eq_true.mp r5 _ (find2_mem hm))
    obtain ⟨d, e1, e2, e3⟩ := isAt_of q3
    obtain ⟨D, e4, e5⟩ := df e1
    have M := meth_of c q1
    refine ⟨D, e4, by rw [e5]; exact e3, ?_, ?_⟩
    · rw [adr e1, e2]; exact M.at_
    · rw [adr e1, e2]; exact M.fn
  · obtain ⟨q1, q2⟩ := and2 (List.all_eq_true.mp r6 _ hm)
    have ef : fdName L.fl f = x := by unfold fdName; rw [of_decide_eq_true q1]
    have all : ∀ cc : Nat, Cls K (He.ga K (L.cls cc)) ∧ NoAttr K (He.ga K (L.cls cc)) x := fun cc => by
      have hmem := cls_mem L cc
      obtain ⟨u1, u2⟩ := and2 (List.all_eq_true.mp q2 _ hmem)
      exact ⟨cls_of c u1, noat_of c u2⟩
    refine ⟨⟨fun cc => (all cc).1, fun cc => ?_⟩, ef⟩
    show NoAttr K _ (fdName L.fl f)
    rw [ef]
    exact (all cc).2
  · exact free_of X G c (List.all_eq_true.mp (and2 r7).1 _ hm)
  · exact List.all_eq_true.mp r8 _ hm
  · exact int_of X G c (List.all_eq_true.mp (and2 r7).2 _ hm)
end
end Py
end
section
set_option Elab.async false
set_option linter.all false
set_option maxRecDepth 100000
set_option maxHeartbeats 4000000
namespace Py
open PySem PySem.Spec PyProof.Rows L2 C8
section
variable {fa : List He.Fa} {fn : List He.DefD} {K : PySem.W.Frag} {h : Heap} {mg : Str → Option Value} {L : Law} {fuel : Nat}
theorem repL_script {k : Ki} {P : Addr → Prop} {H : Hp} : ∀ ns : List Int, RepL k P H (ns.map V.int) (ns.map D.int)
  | [] => .nil
  | n :: ns => .cons (.int n) (repL_script ns)
theorem law_facts (X : K.In h) (G : h.Ns mainGlobals mg) (c : He.SaysD fa fn K) (ha : allC L fuel 0 L.names fn L.fns = true) (hr : rowsC L fa fn = true) (hk : KwsOk L fn) {P : Program} {w : World} {iL d n : Nat} {f : Addr} {x : Str} (hat : isAt fn iL 1 ("law", none) = true) (hx : (fn[iL]?.map fun d => d.params.args.map (·.arg)) = some [x])
    (hgl : hasGlo fa "law" = true) (hmg : mg ("law" : Str) = some (.ref f)) (hlaw : ∀ ns : List Int, ns.length ≤ n → ∃ os, callN L.ctx L.fns d iL [.sh (.fro (ns.map D.int))] = .ok os (.bl true)) :
    ∃ (fd : FuncData) (sp : Sp), (∀ (s : Shared) (v : Value), BindsTo s fd ⟨[v], []⟩ [(x, v)]) ∧ (∀ (H : Hp) (a : Addr) (ns : List Int), ns.length ≤ n → Only H → SqL K H a (ns.map V.int) → sp [.ref a] H (fun v _ => v = .bl true) fun _ _ _ => False) ∧
      ∀ base : Heap, K.In base → base.Ns mainGlobals mg → FnOk P w K mg base C8.CX0 (2 * d + 1) f fd [x] sp := by
  obtain ⟨nd, pl, T⟩ := law_tab X G c ha hr hk P w
  obtain ⟨dL, e1, e2, e3⟩ := isAt_of hat
  rw [e1] at hx
  have hx : dL.params.args.map (·.arg) = [x] := by simpa using hx
  obtain ⟨N, e4⟩ := dfs_some ha e1
  have ef : faOf fn K iL = f := by
    have g := hmg.symm.trans (glo_of X G c hgl)
    have : faOf fn K iL = He.ga K "law" := by
      unfold faOf
      rw [e1]
      show He.fAd K dL.at_ = _
      rw [e2]
      rfl
    rw [this]
    injection g with g
    injection g with g
    exact g.symm
  refine ⟨fdOf K (faOf fn K iL), spF (L.ki P w K nd pl) L.ctx (callN L.ctx L.fns d) iL 1, fun s v => ?_, fun H a ns hl hO hS => ?_, fun base hb1 hb2 => ?_⟩
  · obtain ⟨hlen, hget⟩ := allC_get ha
    obtain ⟨N', d', F', g1, g2, g3, g4, hd⟩ := hget iL _ e4
    rw [e1] at g2
    cases g2
    have fu := (T.def_ iL _ F' e4 g3).fn
    obtain ⟨_, hd⟩ := and2 hd
    obtain ⟨p, hd⟩ := and2 hd
    obtain ⟨p1, p⟩ := and2 p
    obtain ⟨p2, p⟩ := and2 p
    obtain ⟨p3, p4⟩ := and2 p
    obtain ⟨h1, hd⟩ := and2 hd
    obtain ⟨h2, hd⟩ := and2 hd
    have := FunD.bindsA (ps := dL.params.args.map fun a : PySem.Arg => a.arg) fu (fun kV doc pm an cdv ct us hl => bind_plain (fd := PySem.W.fnOf dL.name dL.qual dL.params dL.body dL.scope .none kV doc pm an cdv ct) (List.isEmpty_iff.mp p1) (Option.isNone_iff_eq_none.mp p2) (List.isEmpty_iff.mp p3) (Option.isNone_iff_eq_none.mp p4) rfl (of_decide_eq_true h2) us hl) s [v] (by rw [hx]; rfl)
    rw [hx] at this
    exact this
  · obtain ⟨os, ho⟩ := hlaw ns hl
    have fr : FroAt (L.ki P w K nd pl) H a (ns.map V.int) := by
      rcases hS with (hS | hS) | hS
      · rcases hO a with q | ⟨o, xs, q⟩
        · rw [q] at hS; cases hS
        · rw [q] at hS; cases hS
      · exact .inl hS
      · exact .inr hS
    refine ⟨rfl, fun _ => False, _, os, .bl true, fp0, ho, ?_, fun H' fp' v E' T' R _ => by cases R; rfl⟩
    exact env_args (vs := [.ref a]) (ds := [.fro (ns.map D.int)]) (P := fun _ => False) (fun _ z => z.elim) (.cons (.fro fr (repL_script ns)) .nil)
  · have := tab_ok (base := base) T d iL _ e4
    rw [show (dfOf N dL).ps = [x] from hx, ef] at this
    rw [ef]
    exact this
end
end Py
end
section
set_option Elab.async false
set_option linter.all false
set_option maxRecDepth 100000
set_option maxHeartbeats 4000000
namespace Py
open PySem PySem.Spec PyProof.Rows L2 C8
/-- one row of the keyword calls -/
def KwRow (fn : List He.DefD) (q : Str × Nat × List Str × List Nat) : Prop := ∀ d, fn[q.2.1]? = some d → ∀ (kV doc pm' : Value) (an : Option Addr) (cdv ct : Value) (ws : List Value), ws.length = q.2.2.1.length →
  bindArgs (PySem.W.fnOf d.name d.qual d.params d.body d.scope .none kV doc pm' an cdv ct) ⟨[], q.2.2.1.zip ws⟩ = pure ((d.params.args.map (·.arg)).zip (q.2.2.2.map fun i => ws.getD i .none))
inductive KwRows (fn : List He.DefD) : List (Str × Nat × List Str × List Nat) → Prop
  | nil : KwRows fn []
  | cons {q : Str × Nat × List Str × List Nat} {l : List (Str × Nat × List Str × List Nat)} : KwRow fn q → KwRows fn l → KwRows fn (q :: l)
theorem KwRows.mem {fn : List He.DefD} : ∀ {l : List (Str × Nat × List Str × List Nat)}, KwRows fn l → ∀ q ∈ l, KwRow fn q
  | _, .cons h t, q, hq => by
    rcases List.mem_cons.mp hq with rfl | hq
    · exact h
    · exact t.mem q hq
theorem kws_of {L : Law} {fn : List He.DefD} (h : KwRows fn L.td.kws) : KwsOk L fn := fun x f ks pm hm d hd => h.mem _ hm d hd
theorem kw_row {fn : List He.DefD} {q : Str × Nat × List Str × List Nat} {d : He.DefD} (e : fn[q.2.1]? = some d)
    (h : ∀ (kV doc pm' : Value) (an : Option Addr) (cdv ct : Value) (ws : List Value), ws.length = q.2.2.1.length →
  bindArgs (PySem.W.fnOf d.name d.qual d.params d.body d.scope .none kV doc pm' an cdv ct) ⟨[], q.2.2.1.zip ws⟩ = pure ((d.params.args.map (·.arg)).zip (q.2.2.2.map fun i => ws.getD i .none))) : KwRow fn q := fun d' hd => by
  rw [e] at hd
  cases hd
  exact h
end Py
end
section
set_option Elab.async false
set_option linter.all false
set_option maxRecDepth 100000
set_option maxHeartbeats 0
namespace Hd
open PySem PySem.Spec PyProof.Rows L2
def top (i : Nat) : Stmt := PySem.Challenge.pw_learnrealm_k51_mistake_numbers.main.body.getD i (.Pass ⟨0, 0, 0, 0⟩)
def d0 : He.DefD := ⟨("_wall", none), "_wall", "_wall", defArgs (top 0), defBody (top 0), defScope (top 0), [], []⟩
def d1 : He.DefD := ⟨("InvalidRules", some "__init__"), "__init__", "InvalidRules.__init__", defArgs (inClass (top 3) 0), defBody (inClass (top 3) 0), defScope (inClass (top 3) 0), [], []⟩
def d2 : He.DefD := ⟨("InvalidShown", some "__init__"), "__init__", "InvalidShown.__init__", defArgs (inClass (top 4) 0), defBody (inClass (top 4) 0), defScope (inClass (top 4) 0), [], []⟩
def d3 : He.DefD := ⟨("Undefined", some "__init__"), "__init__", "Undefined.__init__", defArgs (inClass (top 5) 0), defBody (inClass (top 5) 0), defScope (inClass (top 5) 0), [], []⟩
def d4 : He.DefD := ⟨("bit_of", none), "bit_of", "bit_of", defArgs (top 7), defBody (top 7), defScope (top 7), [], []⟩
def d5 : He.DefD := ⟨("mask_of", none), "mask_of", "mask_of", defArgs (top 8), defBody (top 8), defScope (top 8), [], []⟩
def d6 : He.DefD := ⟨("whole_mask", none), "whole_mask", "whole_mask", defArgs (top 9), defBody (top 9), defScope (top 9), [], []⟩
def d7 : He.DefD := ⟨("yes_mask", none), "yes_mask", "yes_mask", defArgs (top 10), defBody (top 10), defScope (top 10), [], []⟩
def d8 : He.DefD := ⟨("yes_masks", none), "yes_masks", "yes_masks", defArgs (top 11), defBody (top 11), defScope (top 11), [], []⟩
def d9 : He.DefD := ⟨("halves_at", none), "halves_at", "halves_at", defArgs (top 12), defBody (top 12), defScope (top 12), [], []⟩
def d10 : He.DefD := ⟨("cuts_of", none), "cuts_of", "cuts_of", defArgs (top 14), defBody (top 14), defScope (top 14), [], []⟩
def d11 : He.DefD := ⟨("cuts_of_all", none), "cuts_of_all", "cuts_of_all", defArgs (top 15), defBody (top 15), defScope (top 15), [], []⟩
def d12 : He.DefD := ⟨("Parts", some "__init__"), "__init__", "Parts.__init__", defArgs (inClass (top 16) 0), defBody (inClass (top 16) 0), defScope (inClass (top 16) 0), [], []⟩
def d13 : He.DefD := ⟨("Parts", some "sides_at"), "sides_at", "Parts.sides_at", defArgs (inClass (top 16) 1), defBody (inClass (top 16) 1), defScope (inClass (top 16) 1), [], []⟩
def d14 : He.DefD := ⟨("Parts", some "left_at"), "left_at", "Parts.left_at", defArgs (inClass (top 16) 2), defBody (inClass (top 16) 2), defScope (inClass (top 16) 2), [], []⟩
def d15 : He.DefD := ⟨("is_integer", none), "is_integer", "is_integer", defArgs (top 18), defBody (top 18), defScope (top 18), [], []⟩
def d16 : He.DefD := ⟨("is_number", none), "is_number", "is_number", defArgs (top 19), defBody (top 19), defScope (top 19), [], []⟩
def d17 : He.DefD := ⟨("is_value", none), "is_value", "is_value", defArgs (top 21), defBody (top 21), defScope (top 21), [], []⟩
def d18 : He.DefD := ⟨("is_row", none), "is_row", "is_row", defArgs (top 22), defBody (top 22), defScope (top 22), [], []⟩
def d19 : He.DefD := ⟨("depth_below", none), "depth_below", "depth_below", defArgs (top 24), defBody (top 24), defScope (top 24), [], []⟩
def d20 : He.DefD := ⟨("mistake_numbers", none), "mistake_numbers", "mistake_numbers", defArgs (top 25), defBody (top 25), defScope (top 25), [], []⟩
def d21 : He.DefD := ⟨("mistake_number", none), "mistake_number", "mistake_number", defArgs (top 26), defBody (top 26), defScope (top 26), [], []⟩
def d22 : He.DefD := ⟨("and_of", none), "and_of", "and_of", defArgs (top 28), defBody (top 28), defScope (top 28), [], []⟩
def d23 : He.DefD := ⟨("are_rows", none), "are_rows", "are_rows", defArgs (top 29), defBody (top 29), defScope (top 29), [], []⟩
def d24 : He.DefD := ⟨("Rules", some "__init__"), "__init__", "Rules.__init__", defArgs (inClass (top 30) 0), defBody (inClass (top 30) 0), defScope (inClass (top 30) 0), [], []⟩
def d25 : He.DefD := ⟨("Rules", some "__eq__"), "__eq__", "Rules.__eq__", defArgs (inClass (top 30) 1), defBody (inClass (top 30) 1), defScope (inClass (top 30) 1), [], []⟩
def d26 : He.DefD := ⟨("Rules", some "__len__"), "__len__", "Rules.__len__", defArgs (inClass (top 30) 2), defBody (inClass (top 30) 2), defScope (inClass (top 30) 2), [], []⟩
def d27 : He.DefD := ⟨("Rules", some "has"), "has", "Rules.has", defArgs (inClass (top 30) 3), defBody (inClass (top 30) 3), defScope (inClass (top 30) 3), [], []⟩
def d28 : He.DefD := ⟨("Rules", some "look_at_row"), "look_at_row", "Rules.look_at_row", defArgs (inClass (top 30) 4), defBody (inClass (top 30) 4), defScope (inClass (top 30) 4), [], []⟩
def d29 : He.DefD := ⟨("Rules", some "seen_at"), "seen_at", "Rules.seen_at", defArgs (inClass (top 30) 5), defBody (inClass (top 30) 5), defScope (inClass (top 30) 5), [], []⟩
def d30 : He.DefD := ⟨("Rules", some "turned"), "turned", "Rules.turned", defArgs (inClass (top 30) 6), defBody (inClass (top 30) 6), defScope (inClass (top 30) 6), [], []⟩
def d31 : He.DefD := ⟨("Rules", some "look_at_size"), "look_at_size", "Rules.look_at_size", defArgs (inClass (top 30) 7), defBody (inClass (top 30) 7), defScope (inClass (top 30) 7), [], []⟩
def d32 : He.DefD := ⟨("Rules", some "both"), "both", "Rules.both", defArgs (inClass (top 30) 8), defBody (inClass (top 30) 8), defScope (inClass (top 30) 8), [], []⟩
def d33 : He.DefD := ⟨("Rules", some "either"), "either", "Rules.either", defArgs (inClass (top 30) 9), defBody (inClass (top 30) 9), defScope (inClass (top 30) 9), [], []⟩
def d34 : He.DefD := ⟨("Rules", some "unlike"), "unlike", "Rules.unlike", defArgs (inClass (top 30) 10), defBody (inClass (top 30) 10), defScope (inClass (top 30) 10), [], []⟩
def d35 : He.DefD := ⟨("Rules", some "beside"), "beside", "Rules.beside", defArgs (inClass (top 30) 11), defBody (inClass (top 30) 11), defScope (inClass (top 30) 11), [], []⟩
def d36 : He.DefD := ⟨("Rules", some "with_rule"), "with_rule", "Rules.with_rule", defArgs (inClass (top 30) 12), defBody (inClass (top 30) 12), defScope (inClass (top 30) 12), [], []⟩
def d37 : He.DefD := ⟨("Rules", some "without"), "without", "Rules.without", defArgs (inClass (top 30) 13), defBody (inClass (top 30) 13), defScope (inClass (top 30) 13), [], []⟩
def d38 : He.DefD := ⟨("Rules", some "others"), "others", "Rules.others", defArgs (inClass (top 30) 14), defBody (inClass (top 30) 14), defScope (inClass (top 30) 14), [], []⟩
def d39 : He.DefD := ⟨("Rules", some "is_closed"), "is_closed", "Rules.is_closed", defArgs (inClass (top 30) 15), defBody (inClass (top 30) 15), defScope (inClass (top 30) 15), [], []⟩
def d40 : He.DefD := ⟨("Rules", some "is_shown"), "is_shown", "Rules.is_shown", defArgs (inClass (top 30) 16), defBody (inClass (top 30) 16), defScope (inClass (top 30) 16), [], []⟩
def d41 : He.DefD := ⟨("Rules", some "fitting"), "fitting", "Rules.fitting", defArgs (inClass (top 30) 17), defBody (inClass (top 30) 17), defScope (inClass (top 30) 17), [], []⟩
def d42 : He.DefD := ⟨("_law_draw", none), "_law_draw", "_law_draw", defArgs (top 32), defBody (top 32), defScope (top 32), [], []⟩
def d43 : He.DefD := ⟨("_law_next", none), "_law_next", "_law_next", defArgs (top 33), defBody (top 33), defScope (top 33), [], []⟩
def d44 : He.DefD := ⟨("_law_bits", none), "_law_bits", "_law_bits", defArgs (top 34), defBody (top 34), defScope (top 34), [], []⟩
def d45 : He.DefD := ⟨("_law_odd", none), "_law_odd", "_law_odd", defArgs (top 35), defBody (top 35), defScope (top 35), [], []⟩
def d46 : He.DefD := ⟨("_law_grown", none), "_law_grown", "_law_grown", defArgs (top 36), defBody (top 36), defScope (top 36), [], []⟩
def d47 : He.DefD := ⟨("_law_shaped", none), "_law_shaped", "_law_shaped", defArgs (top 37), defBody (top 37), defScope (top 37), [], []⟩
def d48 : He.DefD := ⟨("_law_swapped", none), "_law_swapped", "_law_swapped", defArgs (top 38), defBody (top 38), defScope (top 38), [], []⟩
def d49 : He.DefD := ⟨("_law_sized", none), "_law_sized", "_law_sized", defArgs (top 39), defBody (top 39), defScope (top 39), [], []⟩
def d50 : He.DefD := ⟨("_law_listed", none), "_law_listed", "_law_listed", defArgs (top 40), defBody (top 40), defScope (top 40), [], []⟩
def d51 : He.DefD := ⟨("_law_step", none), "_law_step", "_law_step", defArgs (top 41), defBody (top 41), defScope (top 41), [], []⟩
def d52 : He.DefD := ⟨("_law_links", none), "_law_links", "_law_links", defArgs (top 42), defBody (top 42), defScope (top 42), [], []⟩
def d53 : He.DefD := ⟨("_law_fits", none), "_law_fits", "_law_fits", defArgs (top 43), defBody (top 43), defScope (top 43), [], []⟩
def d54 : He.DefD := ⟨("_law_same", none), "_law_same", "_law_same", defArgs (top 44), defBody (top 44), defScope (top 44), [], []⟩
def d55 : He.DefD := ⟨("_law_depths", none), "_law_depths", "_law_depths", defArgs (top 45), defBody (top 45), defScope (top 45), [], []⟩
def d56 : He.DefD := ⟨("_law_number_of", none), "_law_number_of", "_law_number_of", defArgs (top 46), defBody (top 46), defScope (top 46), [], []⟩
def d57 : He.DefD := ⟨("_law_parts", none), "_law_parts", "_law_parts", defArgs (top 47), defBody (top 47), defScope (top 47), [], []⟩
def d58 : He.DefD := ⟨("_law_formed", none), "_law_formed", "_law_formed", defArgs (top 48), defBody (top 48), defScope (top 48), [], []⟩
def d59 : He.DefD := ⟨("_law_all", none), "_law_all", "_law_all", defArgs (top 49), defBody (top 49), defScope (top 49), [], []⟩
def d60 : He.DefD := ⟨("law", none), "law", "law", defArgs (top 50), defBody (top 50), defScope (top 50), [], []⟩
def fn : List He.DefD := ([d0, d1, d2, d3, d4, d5, d6, d7, d8, d9, d10, d11, d12, d13, d14, d15, d16, d17, d18, d19, d20, d21, d22, d23, d24, d25, d26, d27, d28, d29] : List He.DefD) ++ ([d30, d31, d32, d33, d34, d35, d36, d37, d38, d39, d40, d41, d42, d43, d44, d45, d46, d47, d48, d49, d50, d51, d52, d53, d54, d55, d56, d57, d58, d59] : List He.DefD) ++ ([d60] : List He.DefD)
def fa : List He.Fa := ([.glo "_wall", .glo "bit_of", .glo "mask_of", .glo "whole_mask", .glo "yes_mask", .glo "yes_masks", .glo "halves_at", .glo "cuts_of", .glo "cuts_of_all", .glo "is_integer", .glo "is_number", .glo "is_value", .glo "is_row", .glo "depth_below", .glo "mistake_numbers", .glo "mistake_number", .glo "and_of", .glo "are_rows", .glo "_law_draw", .glo "_law_next", .glo "_law_bits", .glo "_law_odd", .glo "_law_grown", .glo "_law_shaped", .glo "_law_swapped", .glo "_law_sized", .glo "_law_listed", .glo "_law_step", .glo "_law_links", .glo "_law_fits"] : List He.Fa) ++ ([.glo "_law_same", .glo "_law_depths", .glo "_law_number_of", .glo "_law_parts", .glo "_law_formed", .glo "_law_all", .glo "law", .glo "GuessError", .glo "InvalidRules", .glo "InvalidShown", .glo "Undefined", .glo "Parts", .glo "Rules", .free "isinstance", .free "int", .free "bool", .free "tuple", .free "list", .free "len", .free "range", .free "zip", .free "enumerate", .free "sum", .free "max", .free "min", .free "sorted", .free "set", .free "abs", .free "all", .free "any"] : List He.Fa) ++ ([.free "reversed", .free "dict", .free "str", .free "repr", .free "type", .cls "Parts", .mkr "Parts", .meth "Parts" "__init__", .meth "Parts" "sides_at", .meth "Parts" "left_at", .noat "Parts" "value", .noat "Parts" "what", .noat "Parts" "rows", .noat "Parts" "size", .noat "Parts" "yes_at", .noat "Parts" "whole", .noat "Parts" "cuts", .noat "Parts" "rising", .cls "Rules", .mkr "Rules", .meth "Rules" "__init__", .meth "Rules" "__eq__", .meth "Rules" "__len__", .meth "Rules" "has", .meth "Rules" "look_at_row", .meth "Rules" "seen_at", .meth "Rules" "turned", .meth "Rules" "look_at_size", .meth "Rules" "both", .meth "Rules" "either"] : List He.Fa) ++ ([.meth "Rules" "unlike", .meth "Rules" "beside", .meth "Rules" "with_rule", .meth "Rules" "without", .meth "Rules" "others", .meth "Rules" "is_closed", .meth "Rules" "is_shown", .meth "Rules" "fitting", .noat "Rules" "value", .noat "Rules" "what", .noat "Rules" "rows", .noat "Rules" "size", .noat "Rules" "yes_at", .noat "Rules" "whole", .noat "Rules" "cuts", .noat "Rules" "rising"] : List He.Fa)
def loose : List PySem.Str := (["_wall", "GuessError", "InvalidRules", "InvalidShown", "Undefined", "bit_of", "mask_of", "whole_mask", "yes_mask", "yes_masks", "halves_at", "cuts_of", "cuts_of_all", "Parts", "is_integer", "is_number", "is_value", "is_row", "depth_below", "mistake_numbers", "mistake_number", "and_of", "are_rows", "Rules", "_law_draw", "_law_next", "_law_bits", "_law_odd", "_law_grown", "_law_shaped"] : List PySem.Str) ++ (["_law_swapped", "_law_sized", "_law_listed", "_law_step", "_law_links", "_law_fits", "_law_same", "_law_depths", "_law_number_of", "_law_parts", "_law_formed", "_law_all"] : List PySem.Str)
abbrev R : PySem.W.OpenRow := PySem.W.OpenLaw.row PySem.Challenge.rw_learnrealm_k51_mistake_numbers
abbrev hk : PySem.W.Hook := He.hookD 5 fa fn
def ob (s : PySem.W.SharedT) : He.AlD := He.obsDG 5 fa fn (HandSHeadRun.getT s)
theorem ob_eq (s : PySem.W.SharedT) : ob s = hk.obs s.abs := He.obsDG_eq (HandSHeadRun.getT_eq s)
theorem run (w : World) : HandSHeadRun.RunEq R (PySem.W.view R.prog [50]) hk ob 20000 loose w := by
  intro os
  kernel_rfl
end Hd
end
section
set_option Elab.async false
set_option linter.all false
set_option maxRecDepth 100000
set_option maxHeartbeats 0
namespace Lw
open Py PySem PySem.Spec L2
abbrev f__wall : Nat := 0
abbrev f_InvalidRules___init__ : Nat := 1
abbrev f_InvalidShown___init__ : Nat := 2
abbrev f_Undefined___init__ : Nat := 3
abbrev f_bit_of : Nat := 4
abbrev f_mask_of : Nat := 5
abbrev f_whole_mask : Nat := 6
abbrev f_yes_mask : Nat := 7
abbrev f_yes_masks : Nat := 8
abbrev f_halves_at : Nat := 9
abbrev f_cuts_of : Nat := 10
abbrev f_cuts_of_all : Nat := 11
abbrev f_Parts___init__ : Nat := 12
abbrev f_Parts_sides_at : Nat := 13
abbrev f_Parts_left_at : Nat := 14
abbrev f_is_integer : Nat := 15
abbrev f_is_number : Nat := 16
abbrev f_is_value : Nat := 17
abbrev f_is_row : Nat := 18
abbrev f_depth_below : Nat := 19
abbrev f_mistake_numbers : Nat := 20
abbrev f_mistake_number : Nat := 21
abbrev f_and_of : Nat := 22
abbrev f_are_rows : Nat := 23
abbrev f_Rules___init__ : Nat := 24
abbrev f_Rules___eq__ : Nat := 25
abbrev f_Rules___len__ : Nat := 26
abbrev f_Rules_has : Nat := 27
abbrev f_Rules_look_at_row : Nat := 28
abbrev f_Rules_seen_at : Nat := 29
abbrev f_Rules_turned : Nat := 30
abbrev f_Rules_look_at_size : Nat := 31
abbrev f_Rules_both : Nat := 32
abbrev f_Rules_either : Nat := 33
abbrev f_Rules_unlike : Nat := 34
abbrev f_Rules_beside : Nat := 35
abbrev f_Rules_with_rule : Nat := 36
abbrev f_Rules_without : Nat := 37
abbrev f_Rules_others : Nat := 38
abbrev f_Rules_is_closed : Nat := 39
abbrev f_Rules_is_shown : Nat := 40
abbrev f_Rules_fitting : Nat := 41
abbrev f__law_draw : Nat := 42
abbrev f__law_next : Nat := 43
abbrev f__law_bits : Nat := 44
abbrev f__law_odd : Nat := 45
abbrev f__law_grown : Nat := 46
abbrev f__law_shaped : Nat := 47
abbrev f__law_swapped : Nat := 48
abbrev f__law_sized : Nat := 49
abbrev f__law_listed : Nat := 50
abbrev f__law_step : Nat := 51
abbrev f__law_links : Nat := 52
abbrev f__law_fits : Nat := 53
abbrev f__law_same : Nat := 54
abbrev f__law_depths : Nat := 55
abbrev f__law_number_of : Nat := 56
abbrev f__law_parts : Nat := 57
abbrev f__law_formed : Nat := 58
abbrev f__law_all : Nat := 59
abbrev f_law : Nat := 60
abbrev c_Parts : Nat := 0
abbrev c_Rules : Nat := 1
abbrev c_GuessError : Nat := 2
abbrev c_InvalidRules : Nat := 3
abbrev c_InvalidShown : Nat := 4
abbrev c_Undefined : Nat := 5
abbrev m___init__ : Nat := 0
abbrev m_sides_at : Nat := 1
abbrev m_left_at : Nat := 2
abbrev m___eq__ : Nat := 3
abbrev m___len__ : Nat := 4
abbrev m_has : Nat := 5
abbrev m_look_at_row : Nat := 6
abbrev m_seen_at : Nat := 7
abbrev m_turned : Nat := 8
abbrev m_look_at_size : Nat := 9
abbrev m_both : Nat := 10
abbrev m_either : Nat := 11
abbrev m_unlike : Nat := 12
abbrev m_beside : Nat := 13
abbrev m_with_rule : Nat := 14
abbrev m_without : Nat := 15
abbrev m_others : Nat := 16
abbrev m_is_closed : Nat := 17
abbrev m_is_shown : Nat := 18
abbrev m_fitting : Nat := 19
/- _wall(k): 0=k -/
def F__wall : Fn := ⟨1, [false], [(.while_ (.con (.bl true)) [.pass])], false⟩
def N__wall : List PySem.Str := [(PySem.Str.ofString "k")]
/- InvalidRules.__init__(self, value): 0=self 1=value -/
def F_InvalidRules___init__ : Fn := ⟨2, [true, false], [(.fset 0 [] 0 (.var 1))], false⟩
def N_InvalidRules___init__ : List PySem.Str := [(PySem.Str.ofString "self"), (PySem.Str.ofString "value")]
/- InvalidShown.__init__(self, value): 0=self 1=value -/
def F_InvalidShown___init__ : Fn := ⟨2, [true, false], [(.fset 0 [] 0 (.var 1))], false⟩
def N_InvalidShown___init__ : List PySem.Str := [(PySem.Str.ofString "self"), (PySem.Str.ofString "value")]
/- Undefined.__init__(self, what): 0=self 1=what -/
def F_Undefined___init__ : Fn := ⟨2, [true, false], [(.fset 0 [] 1 (.var 1))], false⟩
def N_Undefined___init__ : List PySem.Str := [(PySem.Str.ofString "self"), (PySem.Str.ofString "what")]
/- bit_of(number): 0=number -/
def F_bit_of : Fn := ⟨1, [false], [(.ret (.bin .shl (.con (.int 1)) (.var 0)))], false⟩
def N_bit_of : List PySem.Str := [(PySem.Str.ofString "number")]
/- mask_of(numbers): 0=numbers 1=mask 2=number -/
def F_mask_of : Fn := ⟨3, [false], [(.asg (.n 1) (.con (.int 0))), (.for_ (.n 2) (.e (.var 0)) [(.asg (.n 1) (.bin .bor (.var 1) (.call f_bit_of [(.var 2)] [0])))]), (.ret (.var 1))], false⟩
def N_mask_of : List PySem.Str := [(PySem.Str.ofString "numbers"), (PySem.Str.ofString "mask"), (PySem.Str.ofString "number")]
/- whole_mask(rules): 0=rules -/
def F_whole_mask : Fn := ⟨1, [false], [(.ret (.bin .sub (.call f_bit_of [(.blt .len [(.var 0)])] [0]) (.con (.int 1))))], false⟩
def N_whole_mask : List PySem.Str := [(PySem.Str.ofString "rules")]
/- yes_mask(rules, point): 0=rules 1=point 2=number 3=row -/
def F_yes_mask : Fn := ⟨4, [false, false], [(.ret (.call f_mask_of [(.lc [2, 3] (.t [(.n 2), (.n 3)]) (.enum (.att (.var 0) 2)) [(.cmp .eq (.idx (.var 3) (.var 1)) (.con (.int 1)))] (.var 2))] [0]))], false⟩
def N_yes_mask : List PySem.Str := [(PySem.Str.ofString "rules"), (PySem.Str.ofString "point"), (PySem.Str.ofString "number"), (PySem.Str.ofString "row")]
/- yes_masks(rules): 0=rules 1=point -/
def F_yes_masks : Fn := ⟨2, [false], [(.ret (.blt .tuple [(.lc [1] (.n 1) (.rng1 (.att (.var 0) 3)) [] (.call f_yes_mask [(.var 0), (.var 1)] [0, 1]))]))], false⟩
def N_yes_masks : List PySem.Str := [(PySem.Str.ofString "rules"), (PySem.Str.ofString "point")]
/- halves_at(mask, yes): 0=mask 1=yes -/
def F_halves_at : Fn := ⟨2, [false, false], [(.ret (.tup [(.bin .band (.var 0) (.un .inv (.var 1))), (.bin .band (.var 0) (.var 1))]))], false⟩
def N_halves_at : List PySem.Str := [(PySem.Str.ofString "mask"), (PySem.Str.ofString "yes")]
/- cuts_of(mask, yes_at): 0=mask 1=yes_at 2=cuts 3=point 4=yes 5=no_side 6=yes_side -/
def F_cuts_of : Fn := ⟨7, [false, false], [(.asgO 2 (.lst [])), (.for_ (.t [(.n 3), (.n 4)]) (.enum (.var 1)) [(.asg (.t [(.n 5), (.n 6)]) (.call f_halves_at [(.var 0), (.var 4)] [0, 1])), (.ite (.and (.cmp .gt (.var 5) (.con (.int 0))) (.cmp .gt (.var 6) (.con (.int 0)))) [(.expr (.mut .append 2 [] [(.tup [(.var 3), (.var 5), (.var 6)])]))] [])]), (.ret (.blt .tuple [(.var 2)]))], false⟩
def N_cuts_of : List PySem.Str := [(PySem.Str.ofString "mask"), (PySem.Str.ofString "yes_at"), (PySem.Str.ofString "cuts"), (PySem.Str.ofString "point"), (PySem.Str.ofString "yes"), (PySem.Str.ofString "no_side"), (PySem.Str.ofString "yes_side")]
/- cuts_of_all(whole, yes_at): 0=whole 1=yes_at 2=known 3=waiting 4=mask 5=_ 6=no_side 7=yes_side -/
def F_cuts_of_all : Fn := ⟨8, [false, false], [(.asgO 2 .dic0), (.asgO 3 (.lst [(.var 0)])), (.while_ (.cmp .gt (.blt .len [(.pth 3 [])]) (.con (.int 0))) [(.asg (.n 4) (.mut .pop 3 [] [])), (.ite (.cmp .nmem (.var 4) (.pth 2 [])) [(.set 2 [] (.var 4) (.call f_cuts_of [(.var 4), (.var 1)] [0, 1])), (.for_ (.t [(.n 5), (.n 6), (.n 7)]) (.e (.idx (.pth 2 []) (.var 4))) [(.expr (.mut .append 3 [] [(.var 6)])), (.expr (.mut .append 3 [] [(.var 7)]))])] [])]), (.ret (.var 2))], false⟩
def N_cuts_of_all : List PySem.Str := [(PySem.Str.ofString "whole"), (PySem.Str.ofString "yes_at"), (PySem.Str.ofString "known"), (PySem.Str.ofString "waiting"), (PySem.Str.ofString "mask"), (PySem.Str.ofString "_"), (PySem.Str.ofString "no_side"), (PySem.Str.ofString "yes_side")]
/- Parts.__init__(self, rules): 0=self 1=rules -/
def F_Parts___init__ : Fn := ⟨2, [true, false], [(.fset 0 [] 4 (.call f_yes_masks [(.var 1)] [0])), (.fset 0 [] 5 (.call f_whole_mask [(.var 1)] [0])), (.fset 0 [] 6 (.call f_cuts_of_all [(.pth 0 [5]), (.pth 0 [4])] [0, 1])), (.fset 0 [] 7 (.blt .tuple [(.skeys (.pth 0 [6]))]))], false⟩
def N_Parts___init__ : List PySem.Str := [(PySem.Str.ofString "self"), (PySem.Str.ofString "rules")]
/- Parts.sides_at(self, mask, point): 0=self 1=mask 2=point -/
def F_Parts_sides_at : Fn := ⟨3, [false, false, false], [(.expr (.call f__wall [(.con (.int 0))] [0]))], false⟩
def N_Parts_sides_at : List PySem.Str := [(PySem.Str.ofString "self"), (PySem.Str.ofString "mask"), (PySem.Str.ofString "point")]
/- Parts.left_at(self, mask, point, value): 0=self 1=mask 2=point 3=value -/
def F_Parts_left_at : Fn := ⟨4, [false, false, false, false], [(.expr (.call f__wall [(.con (.int 1))] [0]))], false⟩
def N_Parts_left_at : List PySem.Str := [(PySem.Str.ofString "self"), (PySem.Str.ofString "mask"), (PySem.Str.ofString "point"), (PySem.Str.ofString "value")]
/- is_integer(value): 0=value -/
def F_is_integer : Fn := ⟨1, [false], [(.ret (.and (.isi (.var 0) [.int]) (.not (.isi (.var 0) [.bool]))))], false⟩
def N_is_integer : List PySem.Str := [(PySem.Str.ofString "value")]
/- is_number(value): 0=value -/
def F_is_number : Fn := ⟨1, [false], [(.ret (.and (.call f_is_integer [(.var 0)] [0]) (.cmp .ge (.var 0) (.con (.int 0)))))], false⟩
def N_is_number : List PySem.Str := [(PySem.Str.ofString "value")]
/- is_value(value): 0=value -/
def F_is_value : Fn := ⟨1, [false], [(.ret (.and (.call f_is_integer [(.var 0)] [0]) (.chain .le .le (.con (.int 0)) (.var 0) (.con (.int 1)))))], false⟩
def N_is_value : List PySem.Str := [(PySem.Str.ofString "value")]
/- is_row(value, size): 0=value 1=size 2=one -/
def F_is_row : Fn := ⟨3, [false, false], [(.ite (.or (.not (.isi (.var 0) [.tuple])) (.cmp .ne (.blt .len [(.var 0)]) (.var 1))) [(.ret (.con (.bl false)))] []), (.ret (.cmp .eq (.blt .len [(.lc [2] (.n 2) (.e (.var 0)) [(.not (.call f_is_value [(.var 2)] [0]))] (.var 2))]) (.con (.int 0))))], false⟩
def N_is_row : List PySem.Str := [(PySem.Str.ofString "value"), (PySem.Str.ofString "size"), (PySem.Str.ofString "one")]
/- depth_below(numbers, cut): 0=numbers 1=cut -/
def F_depth_below : Fn := ⟨2, [false, false], [(.ret (.blt .min [(.idx (.var 0) (.idx (.var 1) (.con (.int 1)))), (.idx (.var 0) (.idx (.var 1) (.con (.int 2))))]))], false⟩
def N_depth_below : List PySem.Str := [(PySem.Str.ofString "numbers"), (PySem.Str.ofString "cut")]
/- mistake_numbers(parts): 0=parts 1=numbers 2=mask 3=depths 4=cut -/
def F_mistake_numbers : Fn := ⟨5, [false], [(.asgO 1 .dic0), (.for_ (.n 2) (.e (.att (.var 0) 7)) [(.asg (.n 3) (.lc [4] (.n 4) (.e (.idx (.att (.var 0) 6) (.var 2))) [] (.bin .add (.con (.int 1)) (.call f_depth_below [(.pth 1 []), (.var 4)] [0, 1])))), (.set 1 [] (.var 2) (.maxD true (.var 3) 0))]), (.ret (.var 1))], false⟩
def N_mistake_numbers : List PySem.Str := [(PySem.Str.ofString "parts"), (PySem.Str.ofString "numbers"), (PySem.Str.ofString "mask"), (PySem.Str.ofString "depths"), (PySem.Str.ofString "cut")]
/- mistake_number(rules): 0=rules 1=parts -/
def F_mistake_number : Fn := ⟨2, [false], [(.asg (.n 1) (.new c_Parts [(.var 0)])), (.ret (.idx (.call f_mistake_numbers [(.var 1)] [0]) (.att (.var 1) 5)))], false⟩
def N_mistake_number : List PySem.Str := [(PySem.Str.ofString "rules"), (PySem.Str.ofString "parts")]
/- and_of(one, other): 0=one 1=other 2=a 3=b -/
def F_and_of : Fn := ⟨4, [false, false], [(.ret (.blt .tuple [(.lc [2, 3] (.t [(.n 2), (.n 3)]) (.zip (.var 0) (.var 1)) [] (.bin .mul (.var 2) (.var 3)))]))], false⟩
def N_and_of : List PySem.Str := [(PySem.Str.ofString "one"), (PySem.Str.ofString "other"), (PySem.Str.ofString "a"), (PySem.Str.ofString "b")]
/- are_rows(size, rows): 0=size 1=rows 2=row -/
def F_are_rows : Fn := ⟨3, [false, false], [(.ite (.or (.not (.call f_is_number [(.var 0)] [0])) (.or (.not (.isi (.var 1) [.tuple, .list])) (.cmp .eq (.blt .len [(.var 1)]) (.con (.int 0))))) [(.ret (.con (.bl false)))] []), (.ret (.cmp .eq (.blt .len [(.lc [2] (.n 2) (.e (.var 1)) [(.not (.call f_is_row [(.var 2), (.var 0)] [0, 1]))] (.var 2))]) (.con (.int 0))))], false⟩
def N_are_rows : List PySem.Str := [(PySem.Str.ofString "size"), (PySem.Str.ofString "rows"), (PySem.Str.ofString "row")]
/- Rules.__init__(self, size, rows): 0=self 1=size 2=rows -/
def F_Rules___init__ : Fn := ⟨3, [true, false, false], [(.ite (.not (.call f_are_rows [(.var 1), (.var 2)] [0, 1])) [.raise] []), (.fset 0 [] 3 (.var 1)), (.fset 0 [] 2 (.blt .tuple [(.blt .sorted [(.sets (.var 2))])]))], false⟩
def N_Rules___init__ : List PySem.Str := [(PySem.Str.ofString "self"), (PySem.Str.ofString "size"), (PySem.Str.ofString "rows")]
/- Rules.__eq__(self, other): 0=self 1=other -/
def F_Rules___eq__ : Fn := ⟨2, [false, false], [.raise], false⟩
def N_Rules___eq__ : List PySem.Str := [(PySem.Str.ofString "self"), (PySem.Str.ofString "other")]
/- Rules.__len__(self): 0=self -/
def F_Rules___len__ : Fn := ⟨1, [false], [(.ret (.blt .len [(.att (.var 0) 2)]))], false⟩
def N_Rules___len__ : List PySem.Str := [(PySem.Str.ofString "self")]
/- Rules.has(self, row): 0=self 1=row -/
def F_Rules_has : Fn := ⟨2, [false, false], [(.ret (.and (.call f_is_row [(.var 1), (.att (.var 0) 3)] [0, 1]) (.cmp .mem (.var 1) (.att (.var 0) 2))))], false⟩
def N_Rules_has : List PySem.Str := [(PySem.Str.ofString "self"), (PySem.Str.ofString "row")]
/- Rules.look_at_row(self, row): 0=self 1=row -/
def F_Rules_look_at_row : Fn := ⟨2, [false, false], [(.expr (.call f__wall [(.con (.int 2))] [0]))], false⟩
def N_Rules_look_at_row : List PySem.Str := [(PySem.Str.ofString "self"), (PySem.Str.ofString "row")]
/- Rules.seen_at(self, lot): 0=self 1=lot -/
def F_Rules_seen_at : Fn := ⟨2, [false, false], [(.expr (.call f__wall [(.con (.int 3))] [0]))], false⟩
def N_Rules_seen_at : List PySem.Str := [(PySem.Str.ofString "self"), (PySem.Str.ofString "lot")]
/- Rules.turned(self, row): 0=self 1=row -/
def F_Rules_turned : Fn := ⟨2, [false, false], [(.expr (.call f__wall [(.con (.int 4))] [0]))], false⟩
def N_Rules_turned : List PySem.Str := [(PySem.Str.ofString "self"), (PySem.Str.ofString "row")]
/- Rules.look_at_size(self, other): 0=self 1=other -/
def F_Rules_look_at_size : Fn := ⟨2, [false, false], [(.ite (.cmp .ne (.att (.var 0) 3) (.att (.var 1) 3)) [.raise] [])], false⟩
def N_Rules_look_at_size : List PySem.Str := [(PySem.Str.ofString "self"), (PySem.Str.ofString "other")]
/- Rules.both(self, other): 0=self 1=other 2=one 3=two -/
def F_Rules_both : Fn := ⟨4, [false, false], [.raise, .raise], false⟩
def N_Rules_both : List PySem.Str := [(PySem.Str.ofString "self"), (PySem.Str.ofString "other"), (PySem.Str.ofString "one"), (PySem.Str.ofString "two")]
/- Rules.either(self, other): 0=self 1=other -/
def F_Rules_either : Fn := ⟨2, [false, false], [(.expr (.call f__wall [(.con (.int 5))] [0]))], false⟩
def N_Rules_either : List PySem.Str := [(PySem.Str.ofString "self"), (PySem.Str.ofString "other")]
/- Rules.unlike(self, other): 0=self 1=other -/
def F_Rules_unlike : Fn := ⟨2, [false, false], [(.expr (.call f__wall [(.con (.int 6))] [0]))], false⟩
def N_Rules_unlike : List PySem.Str := [(PySem.Str.ofString "self"), (PySem.Str.ofString "other")]
/- Rules.beside(self, other): 0=self 1=other -/
def F_Rules_beside : Fn := ⟨2, [false, false], [(.expr (.call f__wall [(.con (.int 7))] [0]))], false⟩
def N_Rules_beside : List PySem.Str := [(PySem.Str.ofString "self"), (PySem.Str.ofString "other")]
/- Rules.with_rule(self, row): 0=self 1=row -/
def F_Rules_with_rule : Fn := ⟨2, [false, false], [(.expr (.call f__wall [(.con (.int 8))] [0]))], false⟩
def N_Rules_with_rule : List PySem.Str := [(PySem.Str.ofString "self"), (PySem.Str.ofString "row")]
/- Rules.without(self, row): 0=self 1=row -/
def F_Rules_without : Fn := ⟨2, [false, false], [(.expr (.call f__wall [(.con (.int 9))] [0]))], false⟩
def N_Rules_without : List PySem.Str := [(PySem.Str.ofString "self"), (PySem.Str.ofString "row")]
/- Rules.others(self): 0=self -/
def F_Rules_others : Fn := ⟨1, [false], [(.expr (.call f__wall [(.con (.int 10))] [0]))], false⟩
def N_Rules_others : List PySem.Str := [(PySem.Str.ofString "self")]
/- Rules.is_closed(self): 0=self -/
def F_Rules_is_closed : Fn := ⟨1, [false], [(.expr (.call f__wall [(.con (.int 11))] [0]))], false⟩
def N_Rules_is_closed : List PySem.Str := [(PySem.Str.ofString "self")]
/- Rules.is_shown(self, value): 0=self 1=value 2=ahead 3=pair -/
def F_Rules_is_shown : Fn := ⟨4, [false, false], [(.ite (.not (.isi (.var 1) [.tuple])) [(.ret (.con (.bl false)))] []), (.asg (.n 2) (.un .neg (.con (.int 1)))), (.for_ (.n 3) (.e (.var 1)) [(.ite (.or (.not (.isi (.var 3) [.tuple])) (.or (.cmp .ne (.blt .len [(.var 3)]) (.con (.int 2))) (.or (.not (.call f_is_integer [(.idx (.var 3) (.con (.int 0)))] [0])) (.not (.call f_is_value [(.idx (.var 3) (.con (.int 1)))] [0]))))) [(.ret (.con (.bl false)))] []), (.ite (.not (.chain .lt .lt (.var 2) (.idx (.var 3) (.con (.int 0))) (.att (.var 0) 3))) [(.ret (.con (.bl false)))] []), (.asg (.n 2) (.idx (.var 3) (.con (.int 0))))]), (.ret (.con (.bl true)))], false⟩
def N_Rules_is_shown : List PySem.Str := [(PySem.Str.ofString "self"), (PySem.Str.ofString "value"), (PySem.Str.ofString "ahead"), (PySem.Str.ofString "pair")]
/- Rules.fitting(self, shown): 0=self 1=shown 2=left 3=row 4=point 5=value -/
def F_Rules_fitting : Fn := ⟨6, [false, false], [(.ite (.not (.mth (.var 0) m_is_shown [(.var 1)])) [.raise] []), (.asg (.n 2) (.lc [3] (.n 3) (.e (.att (.var 0) 2)) [(.blt .all [(.lc [4, 5] (.t [(.n 4), (.n 5)]) (.e (.var 1)) [] (.cmp .eq (.idx (.var 3) (.var 4)) (.var 5)))])] (.var 3))), (.ite (.cmp .eq (.blt .len [(.var 2)]) (.con (.int 0))) [.raise] []), (.ret (.new c_Rules [(.att (.var 0) 3), (.var 2)]))], false⟩
def N_Rules_fitting : List PySem.Str := [(PySem.Str.ofString "self"), (PySem.Str.ofString "shown"), (PySem.Str.ofString "left"), (PySem.Str.ofString "row"), (PySem.Str.ofString "point"), (PySem.Str.ofString "value")]
/- _law_draw(script, place): 0=script 1=place 2=cell 3=left -/
def F__law_draw : Fn := ⟨4, [false, false], [(.asg (.n 2) (.con (.int 0))), (.ite (.cmp .lt (.var 1) (.blt .len [(.var 0)])) [(.asg (.n 2) (.blt .abs [(.blt .int [(.idx (.var 0) (.var 1))])]))] []), (.asg (.n 3) (.con (.int 0))), (.ite (.cmp .ge (.var 2) (.bin .pow (.con (.int 10)) (.con (.int 18)))) [(.asg (.n 3) (.var 2))] []), (.ret (.lst [(.var 3), (.bin .mod (.blt .int [(.bin .add (.bin .add (.bin .mul (.var 2) (.con (.int 69621))) (.bin .mul (.var 1) (.con (.int 7919)))) (.con (.int 1)))]) (.con (.int 2147483647))), (.bin .mod (.blt .int [(.bin .add (.bin .add (.var 2) (.bin .mul (.var 1) (.con (.int 104729)))) (.con (.int 3)))]) (.con (.int 2147483399)))]))], true⟩
def N__law_draw : List PySem.Str := [(PySem.Str.ofString "script"), (PySem.Str.ofString "place"), (PySem.Str.ofString "cell"), (PySem.Str.ofString "left")]
/- _law_next(draw, many): 0=draw 1=many 2=digit -/
def F__law_next : Fn := ⟨3, [true, false], [(.ite (.cmp .gt (.idx (.pth 0 []) (.con (.int 0))) (.con (.int 0))) [(.asg (.n 2) (.bin .mod (.blt .int [(.idx (.pth 0 []) (.con (.int 0)))]) (.var 1))), (.set 0 [] (.con (.int 0)) (.bin .fdiv (.idx (.pth 0 []) (.con (.int 0))) (.var 1))), (.ret (.var 2))] []), (.set 0 [] (.con (.int 1)) (.bin .mod (.blt .int [(.bin .add (.bin .mul (.idx (.pth 0 []) (.con (.int 1))) (.con (.int 48271))) (.con (.int 11)))]) (.con (.int 2147483647)))), (.set 0 [] (.con (.int 2)) (.bin .mod (.blt .int [(.bin .add (.bin .mul (.idx (.pth 0 []) (.con (.int 2))) (.con (.int 40692))) (.con (.int 7)))]) (.con (.int 2147483399)))), (.ret (.bin .mod (.blt .int [(.bin .fdiv (.bin .add (.idx (.pth 0 []) (.con (.int 1))) (.idx (.pth 0 []) (.con (.int 2)))) (.con (.int 64)))]) (.var 1)))], false⟩
def N__law_next : List PySem.Str := [(PySem.Str.ofString "draw"), (PySem.Str.ofString "many"), (PySem.Str.ofString "digit")]
/- _law_bits(number, size): 0=number 1=size 2=p -/
def F__law_bits : Fn := ⟨3, [false, false], [(.ret (.blt .tuple [(.lc [2] (.n 2) (.rng1 (.var 1)) [] (.bin .band (.bin .shr (.var 0) (.bin .sub (.bin .sub (.var 1) (.con (.int 1))) (.var 2))) (.con (.int 1))))]))], false⟩
def N__law_bits : List PySem.Str := [(PySem.Str.ofString "number"), (PySem.Str.ofString "size"), (PySem.Str.ofString "p")]
/- _law_odd(number): 0=number 1=odd 2=k -/
def F__law_odd : Fn := ⟨3, [false], [(.asg (.n 1) (.con (.int 0))), (.for_ (.n 2) (.rng1 (.con (.int 5))) [(.asg (.n 1) (.bin .bxor (.var 1) (.bin .band (.bin .shr (.var 0) (.var 2)) (.con (.int 1)))))]), (.ret (.var 1))], false⟩
def N__law_odd : List PySem.Str := [(PySem.Str.ofString "number"), (PySem.Str.ofString "odd"), (PySem.Str.ofString "k")]
/- _law_grown(draw, size): 0=draw 1=size 2=found 3=k 4=number -/
def F__law_grown : Fn := ⟨5, [true, false], [(.asgO 2 (.lst [(.callO f__law_next [(.io 0 []), (.e (.bin .shl (.con (.int 1)) (.var 1)))] [0, 1])])), (.for_ (.n 3) (.rng1 (.bin .add (.con (.int 3)) (.callO f__law_next [(.io 0 []), (.e (.con (.int 12)))] [0, 1]))) [(.asg (.n 4) (.idx (.pth 2 []) (.callO f__law_next [(.io 0 []), (.e (.blt .len [(.pth 2 [])]))] [0, 1]))), (.ite (.and (.cmp .gt (.var 1) (.con (.int 0))) (.cmp .gt (.callO f__law_next [(.io 0 []), (.e (.con (.int 3)))] [0, 1]) (.con (.int 0)))) [(.asg (.n 4) (.bin .bxor (.var 4) (.bin .shl (.con (.int 1)) (.callO f__law_next [(.io 0 []), (.e (.var 1))] [0, 1]))))] [(.asg (.n 4) (.bin .bxor (.bin .bxor (.var 4) (.idx (.pth 2 []) (.callO f__law_next [(.io 0 []), (.e (.blt .len [(.pth 2 [])]))] [0, 1]))) (.idx (.pth 2 []) (.callO f__law_next [(.io 0 []), (.e (.blt .len [(.pth 2 [])]))] [0, 1]))))]), (.ite (.cmp .nmem (.var 4) (.pth 2 [])) [(.expr (.mut .append 2 [] [(.var 4)]))] [])]), (.ret (.var 2))], false⟩
def N__law_grown : List PySem.Str := [(PySem.Str.ofString "draw"), (PySem.Str.ofString "size"), (PySem.Str.ofString "found"), (PySem.Str.ofString "k"), (PySem.Str.ofString "number")]
/- _law_shaped(draw, shape, size): 0=draw 1=shape 2=size 3=full 4=odd 5=one 6=other 7=k -/
def F__law_shaped : Fn := ⟨8, [true, false, false], [(.asg (.n 3) (.bin .shl (.con (.int 1)) (.var 2))), (.ite (.cmp .eq (.var 1) (.con (.int 0))) [(.ret (.lrng (.var 3)))] []), (.ite (.cmp .eq (.var 1) (.con (.int 1))) [(.ret (.lc [7] (.n 7) (.rng1 (.bin .add (.var 2) (.con (.int 1)))) [] (.bin .sub (.bin .shl (.con (.int 1)) (.var 7)) (.con (.int 1)))))] []), (.ite (.cmp .eq (.var 1) (.con (.int 2))) [(.ret (.bin .add (.lst [(.con (.int 0))]) (.lc [7] (.n 7) (.rng1 (.var 2)) [] (.bin .shl (.con (.int 1)) (.var 7)))))] []), (.ite (.cmp .eq (.var 1) (.con (.int 3))) [(.asg (.n 4) (.callO f__law_next [(.io 0 []), (.e (.con (.int 2)))] [0, 1])), (.ret (.lc [7] (.n 7) (.rng1 (.var 3)) [(.cmp .eq (.call f__law_odd [(.var 7)] [0]) (.var 4))] (.var 7)))] []), (.ite (.cmp .eq (.var 1) (.con (.int 4))) [(.asg (.n 5) (.callO f__law_next [(.io 0 []), (.e (.var 3))] [0, 1])), (.asg (.n 6) (.callO f__law_next [(.io 0 []), (.e (.var 3))] [0, 1])), (.ret (.lc [7] (.n 7) (.rng1 (.var 3)) [(.or (.cmp .eq (.bin .band (.var 7) (.var 5)) (.var 7)) (.cmp .eq (.bin .band (.var 7) (.var 6)) (.var 7)))] (.var 7)))] []), (.ite (.cmp .lt (.var 1) (.con (.int 7))) [(.ret (.callO f__law_grown [(.io 0 []), (.e (.var 2))] [0, 1]))] []), (.ret (.lc [7] (.n 7) (.rng1 (.var 3)) [(.cmp .eq (.callO f__law_next [(.io 0 []), (.e (.con (.int 2)))] [0, 1]) (.con (.int 1)))] (.var 7)))], false⟩
def N__law_shaped : List PySem.Str := [(PySem.Str.ofString "draw"), (PySem.Str.ofString "shape"), (PySem.Str.ofString "size"), (PySem.Str.ofString "full"), (PySem.Str.ofString "odd"), (PySem.Str.ofString "one"), (PySem.Str.ofString "other"), (PySem.Str.ofString "k")]
/- _law_swapped(number, one, other): 0=number 1=one 2=other -/
def F__law_swapped : Fn := ⟨3, [false, false, false], [(.ite (.cmp .eq (.bin .band (.bin .shr (.var 0) (.var 1)) (.con (.int 1))) (.bin .band (.bin .shr (.var 0) (.var 2)) (.con (.int 1)))) [(.ret (.var 0))] []), (.ret (.bin .bxor (.bin .bxor (.var 0) (.bin .shl (.con (.int 1)) (.var 1))) (.bin .shl (.con (.int 1)) (.var 2))))], false⟩
def N__law_swapped : List PySem.Str := [(PySem.Str.ofString "number"), (PySem.Str.ofString "one"), (PySem.Str.ofString "other")]
/- _law_sized(draw, size, most): 0=draw 1=size 2=most 3=numbers 4=k 5=turn 6=start 7=one 8=other 9=number -/
def F__law_sized : Fn := ⟨10, [true, false, false], [(.asg (.n 3) (.callO f__law_shaped [(.io 0 []), (.e (.callO f__law_next [(.io 0 []), (.e (.con (.int 11)))] [0, 1])), (.e (.var 1))] [0, 1, 2])), (.ite (.cmp .gt (.var 1) (.con (.int 1))) [(.for_ (.n 4) (.rng1 (.con (.int 2))) [(.asg (.n 7) (.callO f__law_next [(.io 0 []), (.e (.var 1))] [0, 1])), (.asg (.n 8) (.callO f__law_next [(.io 0 []), (.e (.var 1))] [0, 1])), (.asg (.n 3) (.lc [9] (.n 9) (.e (.var 3)) [] (.call f__law_swapped [(.var 9), (.var 7), (.var 8)] [0, 1, 2])))])] []), (.ite (.or (.cmp .eq (.blt .len [(.var 3)]) (.con (.int 0))) (.cmp .eq (.callO f__law_next [(.io 0 []), (.e (.con (.int 3)))] [0, 1]) (.con (.int 0)))) [(.asg (.n 5) (.callO f__law_next [(.io 0 []), (.e (.bin .shl (.con (.int 1)) (.var 1)))] [0, 1])), (.asg (.n 3) (.lc [9] (.n 9) (.e (.var 3)) [] (.bin .bxor (.var 9) (.var 5)))), (.ite (.cmp .eq (.blt .len [(.var 3)]) (.con (.int 0))) [(.asg (.n 3) (.lst [(.var 5)]))] [])] []), (.asg (.n 3) (.blt .sorted [(.var 3)])), (.ite (.cmp .gt (.blt .len [(.var 3)]) (.var 2)) [(.asg (.n 6) (.callO f__law_next [(.io 0 []), (.e (.bin .add (.bin .sub (.blt .len [(.var 3)]) (.var 2)) (.con (.int 1))))] [0, 1])), (.asg (.n 3) (.sli (.var 3) (.var 6) (.bin .add (.var 6) (.var 2))))] []), (.ret (.lc [9] (.n 9) (.e (.var 3)) [] (.call f__law_bits [(.var 9), (.var 1)] [0, 1])))], true⟩
def N__law_sized : List PySem.Str := [(PySem.Str.ofString "draw"), (PySem.Str.ofString "size"), (PySem.Str.ofString "most"), (PySem.Str.ofString "numbers"), (PySem.Str.ofString "k"), (PySem.Str.ofString "turn"), (PySem.Str.ofString "start"), (PySem.Str.ofString "one"), (PySem.Str.ofString "other"), (PySem.Str.ofString "number")]
/- _law_listed(draw, widest, most): 0=draw 1=widest 2=most 3=size -/
def F__law_listed : Fn := ⟨4, [true, false, false], [(.asg (.n 3) (.blt .min [(.var 1), (.idx (.lst [(.con (.int 3)), (.con (.int 4)), (.con (.int 5)), (.con (.int 2)), (.con (.int 3)), (.con (.int 4)), (.con (.int 1)), (.con (.int 3)), (.con (.int 2)), (.con (.int 0))]) (.callO f__law_next [(.io 0 []), (.e (.con (.int 10)))] [0, 1]))])), (.ret (.lst [(.var 3), (.callO f__law_sized [(.io 0 []), (.e (.var 3)), (.e (.var 2))] [0, 1, 2])]))], false⟩
def N__law_listed : List PySem.Str := [(PySem.Str.ofString "draw"), (PySem.Str.ofString "widest"), (PySem.Str.ofString "most"), (PySem.Str.ofString "size")]
/- _law_step(point): 0=point -/
def F__law_step : Fn := ⟨1, [false], [(.ret (.idx (.lst [(.con (.int 1)), (.con (.int 3)), (.con (.int 9)), (.con (.int 27)), (.con (.int 81)), (.con (.int 243))]) (.var 0)))], false⟩
def N__law_step : List PySem.Str := [(PySem.Str.ofString "point")]
/- _law_links(size): 0=size 1=links 2=code 3=free 4=p -/
def F__law_links : Fn := ⟨5, [false], [(.asgO 1 (.lst [])), (.for_ (.n 2) (.rng1 (.call f__law_step [(.var 0)] [0])) [(.asg (.n 3) (.lc [4] (.n 4) (.rng1 (.var 0)) [(.cmp .eq (.bin .mod (.blt .int [(.bin .fdiv (.var 2) (.call f__law_step [(.var 4)] [0]))]) (.con (.int 3))) (.con (.int 2)))] (.var 4))), (.expr (.mut .append 1 [] [(.lc [4] (.n 4) (.e (.var 3)) [] (.tup [(.var 4), (.bin .sub (.var 2) (.bin .mul (.con (.int 2)) (.call f__law_step [(.var 4)] [0]))), (.bin .sub (.var 2) (.call f__law_step [(.var 4)] [0]))]))]))]), (.ret (.var 1))], false⟩
def N__law_links : List PySem.Str := [(PySem.Str.ofString "size"), (PySem.Str.ofString "links"), (PySem.Str.ofString "code"), (PySem.Str.ofString "free"), (PySem.Str.ofString "p")]
/- _law_fits(links, table): 0=links 1=table 2=fits 3=row 4=code 5=p 6=no 7=yes -/
def F__law_fits : Fn := ⟨8, [false, false], [(.asgO 2 (.bin .mul (.lst [(.con (.int 0))]) (.blt .len [(.var 0)]))), (.for_ (.n 3) (.e (.var 1)) [(.set 2 [] (.blt .sum [(.lc [5] (.n 5) (.rng1 (.blt .len [(.var 3)])) [] (.bin .mul (.idx (.var 3) (.var 5)) (.call f__law_step [(.var 5)] [0])))]) (.con (.int 1)))]), (.for_ (.n 4) (.rng1 (.blt .len [(.var 0)])) [(.for_ (.t [(.n 5), (.n 6), (.n 7)]) (.e (.sli (.idx (.var 0) (.var 4)) (.con .non) (.con (.int 1)))) [(.set 2 [] (.var 4) (.bin .add (.idx (.pth 2 []) (.var 6)) (.idx (.pth 2 []) (.var 7))))])]), (.ret (.var 2))], false⟩
def N__law_fits : List PySem.Str := [(PySem.Str.ofString "links"), (PySem.Str.ofString "table"), (PySem.Str.ofString "fits"), (PySem.Str.ofString "row"), (PySem.Str.ofString "code"), (PySem.Str.ofString "p"), (PySem.Str.ofString "no"), (PySem.Str.ofString "yes")]
/- _law_same(came, due): 0=came 1=due 2=k -/
def F__law_same : Fn := ⟨3, [false, false], [(.ite (.isi (.var 1) [.tuple]) [(.ite (.or (.not (.isi (.var 0) [.tuple])) (.cmp .ne (.blt .len [(.var 0)]) (.blt .len [(.var 1)]))) [(.ret (.con (.bl false)))] []), (.for_ (.n 2) (.rng1 (.blt .len [(.var 1)])) [(.ite (.not (.call f__law_same [(.idx (.var 0) (.var 2)), (.idx (.var 1) (.var 2))] [0, 1])) [(.ret (.con (.bl false)))] [])]), (.ret (.con (.bl true)))] []), (.ite (.or (.isi (.var 1) [.bool]) (.cmp .isNone (.var 1) (.con .non))) [(.ret (.and (.or (.cmp .isTrue (.var 0) (.con (.bl true))) (.or (.cmp .isFalse (.var 0) (.con (.bl false))) (.cmp .isNone (.var 0) (.con .non)))) (.cmp .eq (.var 0) (.var 1))))] []), (.ite (.isi (.var 1) [.int]) [(.ret (.and (.isi (.var 0) [.int]) (.and (.not (.isi (.var 0) [.bool])) (.cmp .eq (.var 0) (.var 1)))))] []), (.ite (.isi (.var 1) [.str]) [(.ret (.and (.isi (.var 0) [.str]) (.cmp .eq (.var 0) (.var 1))))] []), (.ite (.isi (.var 1) [.list]) [(.ret (.and (.isi (.var 0) [.list]) (.call f__law_same [(.blt .tuple [(.var 0)]), (.blt .tuple [(.var 1)])] [0, 1])))] []), (.ret (.cmp .eq (.var 0) (.var 1)))], false⟩
def N__law_same : List PySem.Str := [(PySem.Str.ofString "came"), (PySem.Str.ofString "due"), (PySem.Str.ofString "k")]
/- _law_depths(links, fits): 0=links 1=fits 2=depths 3=code 4=p 5=no 6=yes -/
def F__law_depths : Fn := ⟨7, [false, false], [(.asgO 2 (.bin .mul (.lst [(.un .neg (.con (.int 1)))]) (.blt .len [(.var 1)]))), (.for_ (.n 3) (.rng1 (.blt .len [(.var 1)])) [(.ite (.cmp .gt (.idx (.var 1) (.var 3)) (.con (.int 0))) [(.set 2 [] (.var 3) (.con (.int 0))), (.for_ (.t [(.n 4), (.n 5), (.n 6)]) (.e (.idx (.var 0) (.var 3))) [(.set 2 [] (.var 3) (.blt .max [(.idx (.pth 2 []) (.var 3)), (.bin .add (.con (.int 1)) (.blt .min [(.idx (.pth 2 []) (.var 5)), (.idx (.pth 2 []) (.var 6))]))]))])] [])]), (.ret (.var 2))], false⟩
def N__law_depths : List PySem.Str := [(PySem.Str.ofString "links"), (PySem.Str.ofString "fits"), (PySem.Str.ofString "depths"), (PySem.Str.ofString "code"), (PySem.Str.ofString "p"), (PySem.Str.ofString "no"), (PySem.Str.ofString "yes")]
/- _law_number_of(size, table): 0=size 1=table 2=links -/
def F__law_number_of : Fn := ⟨3, [false, false], [(.asg (.n 2) (.call f__law_links [(.var 0)] [0])), (.ret (.idx (.call f__law_depths [(.var 2), (.call f__law_fits [(.var 2), (.var 1)] [0, 1])] [0, 1]) (.un .neg (.con (.int 1)))))], false⟩
def N__law_number_of : List PySem.Str := [(PySem.Str.ofString "size"), (PySem.Str.ofString "table"), (PySem.Str.ofString "links")]
/- _law_parts(rules, size, table): 0=rules 1=size 2=table 3=links 4=depths 5=p 6=no 7=yes 8=value 9=number -/
def F__law_parts : Fn := ⟨10, [false, false, false], [(.asg (.n 3) (.call f__law_links [(.var 1)] [0])), (.asg (.n 4) (.call f__law_depths [(.var 3), (.call f__law_fits [(.var 3), (.var 2)] [0, 1])] [0, 1])), (.for_ (.t [(.n 5), (.n 6), (.n 7)]) (.e (.idx (.var 3) (.un .neg (.con (.int 1))))) [(.for_ (.t [(.n 8), (.n 9)]) (.e (.lst [(.tup [(.con (.int 0)), (.idx (.var 4) (.var 6))]), (.tup [(.con (.int 1)), (.idx (.var 4) (.var 7))])])) [(.ite (.cmp .ge (.var 9) (.con (.int 0))) [(.ite (.not (.call f__law_same [(.call f_mistake_number [(.mth (.var 0) m_fitting [(.tup [(.tup [(.var 5), (.var 8)])])])] [0]), (.var 9)] [0, 1])) [(.ret (.con (.bl false)))] [])] [])])]), (.ret (.con (.bl true)))], false⟩
def N__law_parts : List PySem.Str := [(PySem.Str.ofString "rules"), (PySem.Str.ofString "size"), (PySem.Str.ofString "table"), (PySem.Str.ofString "links"), (PySem.Str.ofString "depths"), (PySem.Str.ofString "p"), (PySem.Str.ofString "no"), (PySem.Str.ofString "yes"), (PySem.Str.ofString "value"), (PySem.Str.ofString "number")]
/- _law_formed(draw): 0=draw 1=size 2=shape 3=row 4=number 5=k 6=value -/
def F__law_formed : Fn := ⟨7, [true], [(.asg (.n 1) (.idx (.lst [(.con (.int 2)), (.con (.int 3)), (.con (.int 4)), (.con (.int 5)), (.con (.int 1)), (.con (.int 0))]) (.callO f__law_next [(.io 0 []), (.e (.con (.int 6)))] [0, 1]))), (.asg (.n 2) (.callO f__law_next [(.io 0 []), (.e (.con (.int 4)))] [0, 1])), (.ite (.cmp .eq (.var 2) (.con (.int 0))) [(.ret (.lst [(.var 1), (.lc [4] (.n 4) (.rng1 (.bin .shl (.con (.int 1)) (.var 1))) [] (.call f__law_bits [(.var 4), (.var 1)] [0, 1])), (.var 1)]))] []), (.ite (.cmp .eq (.var 2) (.con (.int 1))) [(.ret (.lst [(.var 1), (.lc [5] (.n 5) (.rng1 (.bin .add (.var 1) (.con (.int 1)))) [] (.call f__law_bits [(.bin .sub (.bin .shl (.con (.int 1)) (.var 5)) (.con (.int 1))), (.var 1)] [0, 1])), (.idx (.lst [(.con (.int 0)), (.con (.int 1)), (.con (.int 1)), (.con (.int 2)), (.con (.int 2)), (.con (.int 2))]) (.var 1))]))] []), (.ite (.cmp .eq (.var 2) (.con (.int 2))) [(.ret (.lst [(.var 1), (.bin .add (.lst [(.bin .mul (.tup [(.con (.int 0))]) (.var 1))]) (.lc [5] (.n 5) (.rng1 (.var 1)) [] (.call f__law_bits [(.bin .shl (.con (.int 1)) (.var 5)), (.var 1)] [0, 1]))), (.blt .min [(.var 1), (.con (.int 1))])]))] []), (.asg (.n 3) (.call f__law_bits [(.callO f__law_next [(.io 0 []), (.e (.bin .shl (.con (.int 1)) (.var 1)))] [0, 1]), (.var 1)] [0, 1])), (.ret (.lst [(.var 1), (.lst [(.var 3), (.blt .tuple [(.lc [6] (.n 6) (.e (.var 3)) [] (.bin .sub (.con (.int 1)) (.var 6)))])]), (.blt .min [(.var 1), (.con (.int 1))])]))], false⟩
def N__law_formed : List PySem.Str := [(PySem.Str.ofString "draw"), (PySem.Str.ofString "size"), (PySem.Str.ofString "shape"), (PySem.Str.ofString "row"), (PySem.Str.ofString "number"), (PySem.Str.ofString "k"), (PySem.Str.ofString "value")]
/- _law_all(script): 0=script 1=great 2=draw 3=second 4=number 5=lists 6=made 7=k 8=size 9=table 10=row 11=formed_size 12=formed 13=due 14=there -/
def F__law_all : Fn := ⟨15, [false], [(.asg (.n 1) (.callT f__law_sized (.call f__law_draw [(.var 0), (.con (.int 0))] [0, 1]) [(.con (.int 5)), (.con (.int 32))])), (.asg (.t [(.n 8), (.n 9)]) (.callT f__law_listed (.call f__law_draw [(.var 0), (.con (.int 1))] [0, 1]) [(.con (.int 4)), (.con (.int 16))])), (.asgO 2 (.call f__law_draw [(.var 0), (.con (.int 2))] [0, 1])), (.asgO 3 (.callO f__law_sized [(.io 2 []), (.e (.var 8)), (.e (.blt .len [(.var 9)]))] [0, 1, 2])), (.for_ (.n 4) (.rng1 (.bin .shl (.con (.int 1)) (.var 8))) [(.asg (.n 10) (.call f__law_bits [(.var 4), (.var 8)] [0, 1])), (.ite (.and (.cmp .lt (.blt .len [(.pth 3 [])]) (.blt .len [(.var 9)])) (.cmp .nmem (.var 10) (.pth 3 []))) [(.expr (.mut .append 3 [] [(.var 10)]))] [])]), (.asg (.t [(.n 11), (.n 12), (.n 13)]) (.callO f__law_formed [(.io 2 [])] [0])), (.asg (.n 5) (.lst [(.lst [(.con (.int 5)), (.var 1), (.call f__law_number_of [(.con (.int 5)), (.var 1)] [0, 1])]), (.lst [(.var 8), (.var 9), (.call f__law_number_of [(.var 8), (.var 9)] [0, 1])])])), (.asg (.n 5) (.bin .add (.var 5) (.lst [(.lst [(.var 8), (.var 3), (.call f__law_number_of [(.var 8), (.blt .sorted [(.pth 3 [])])] [0, 1])]), (.lst [(.var 11), (.var 12), (.var 13)])]))), (.asg (.n 6) (.lc [14] (.n 14) (.e (.var 5)) [] (.new c_Rules [(.idx (.var 14) (.con (.int 0))), (.idx (.var 14) (.con (.int 1)))]))), (.for_ (.n 7) (.rng1 (.blt .len [(.var 5)])) [(.ite (.not (.call f__law_same [(.call f_mistake_number [(.idx (.var 6) (.var 7))] [0]), (.idx (.idx (.var 5) (.var 7)) (.con (.int 2)))] [0, 1])) [(.ret (.con (.bl false)))] [])]), (.ite (.or (.not (.call f__law_parts [(.idx (.var 6) (.con (.int 1))), (.var 8), (.var 9)] [0, 1, 2])) (.not (.call f__law_parts [(.idx (.var 6) (.con (.int 2))), (.var 8), (.pth 3 [])] [0, 1, 2]))) [(.ret (.con (.bl false)))] []), (.for_ (.n 7) (.rrng1 (.blt .len [(.var 5)])) [(.ite (.not (.call f__law_same [(.call f_mistake_number [(.idx (.var 6) (.var 7))] [0]), (.idx (.idx (.var 5) (.var 7)) (.con (.int 2)))] [0, 1])) [(.ret (.con (.bl false)))] [])]), (.for_ (.n 7) (.rng1 (.con (.int 2))) [(.ite (.or (.not (.call f__law_same [(.att (.idx (.var 6) (.var 7)) 2), (.blt .tuple [(.idx (.idx (.var 5) (.var 7)) (.con (.int 1)))])] [0, 1])) (.not (.call f__law_same [(.att (.idx (.var 6) (.var 7)) 3), (.idx (.idx (.var 5) (.var 7)) (.con (.int 0)))] [0, 1]))) [(.ret (.con (.bl false)))] [])]), (.ret (.con (.bl true)))], false⟩
def N__law_all : List PySem.Str := [(PySem.Str.ofString "script"), (PySem.Str.ofString "great"), (PySem.Str.ofString "draw"), (PySem.Str.ofString "second"), (PySem.Str.ofString "number"), (PySem.Str.ofString "lists"), (PySem.Str.ofString "made"), (PySem.Str.ofString "k"), (PySem.Str.ofString "size"), (PySem.Str.ofString "table"), (PySem.Str.ofString "row"), (PySem.Str.ofString "formed_size"), (PySem.Str.ofString "formed"), (PySem.Str.ofString "due"), (PySem.Str.ofString "there")]
/- law(script): 0=script -/
def F_law : Fn := ⟨1, [false], [(.try_ [(.ret (.call f__law_all [(.var 0)] [0]))])], false⟩
def N_law : List PySem.Str := [(PySem.Str.ofString "script")]
def fns : List Fn := [F__wall, F_InvalidRules___init__, F_InvalidShown___init__, F_Undefined___init__, F_bit_of, F_mask_of, F_whole_mask, F_yes_mask, F_yes_masks, F_halves_at, F_cuts_of, F_cuts_of_all, F_Parts___init__, F_Parts_sides_at, F_Parts_left_at, F_is_integer, F_is_number, F_is_value, F_is_row, F_depth_below, F_mistake_numbers, F_mistake_number, F_and_of, F_are_rows, F_Rules___init__, F_Rules___eq__, F_Rules___len__, F_Rules_has, F_Rules_look_at_row, F_Rules_seen_at, F_Rules_turned, F_Rules_look_at_size, F_Rules_both, F_Rules_either, F_Rules_unlike, F_Rules_beside, F_Rules_with_rule, F_Rules_without, F_Rules_others, F_Rules_is_closed, F_Rules_is_shown, F_Rules_fitting, F__law_draw, F__law_next, F__law_bits, F__law_odd, F__law_grown, F__law_shaped, F__law_swapped, F__law_sized, F__law_listed, F__law_step, F__law_links, F__law_fits, F__law_same, F__law_depths, F__law_number_of, F__law_parts, F__law_formed, F__law_all, F_law]
def names : List (List PySem.Str) := [N__wall, N_InvalidRules___init__, N_InvalidShown___init__, N_Undefined___init__, N_bit_of, N_mask_of, N_whole_mask, N_yes_mask, N_yes_masks, N_halves_at, N_cuts_of, N_cuts_of_all, N_Parts___init__, N_Parts_sides_at, N_Parts_left_at, N_is_integer, N_is_number, N_is_value, N_is_row, N_depth_below, N_mistake_numbers, N_mistake_number, N_and_of, N_are_rows, N_Rules___init__, N_Rules___eq__, N_Rules___len__, N_Rules_has, N_Rules_look_at_row, N_Rules_seen_at, N_Rules_turned, N_Rules_look_at_size, N_Rules_both, N_Rules_either, N_Rules_unlike, N_Rules_beside, N_Rules_with_rule, N_Rules_without, N_Rules_others, N_Rules_is_closed, N_Rules_is_shown, N_Rules_fitting, N__law_draw, N__law_next, N__law_bits, N__law_odd, N__law_grown, N__law_shaped, N__law_swapped, N__law_sized, N__law_listed, N__law_step, N__law_links, N__law_fits, N__law_same, N__law_depths, N__law_number_of, N__law_parts, N__law_formed, N__law_all, N_law]
def frs : List Nat := [f__law_draw, f__law_sized]
def td : TD where
  fns := [((PySem.Str.ofString "_wall"), f__wall, 1), ((PySem.Str.ofString "bit_of"), f_bit_of, 1), ((PySem.Str.ofString "mask_of"), f_mask_of, 1), ((PySem.Str.ofString "whole_mask"), f_whole_mask, 1), ((PySem.Str.ofString "yes_mask"), f_yes_mask, 2), ((PySem.Str.ofString "yes_masks"), f_yes_masks, 1), ((PySem.Str.ofString "halves_at"), f_halves_at, 2), ((PySem.Str.ofString "cuts_of"), f_cuts_of, 2), ((PySem.Str.ofString "cuts_of_all"), f_cuts_of_all, 2), ((PySem.Str.ofString "is_integer"), f_is_integer, 1), ((PySem.Str.ofString "is_number"), f_is_number, 1), ((PySem.Str.ofString "is_value"), f_is_value, 1), ((PySem.Str.ofString "is_row"), f_is_row, 2), ((PySem.Str.ofString "depth_below"), f_depth_below, 2), ((PySem.Str.ofString "mistake_numbers"), f_mistake_numbers, 1), ((PySem.Str.ofString "mistake_number"), f_mistake_number, 1), ((PySem.Str.ofString "and_of"), f_and_of, 2), ((PySem.Str.ofString "are_rows"), f_are_rows, 2), ((PySem.Str.ofString "_law_draw"), f__law_draw, 2), ((PySem.Str.ofString "_law_next"), f__law_next, 2), ((PySem.Str.ofString "_law_bits"), f__law_bits, 2), ((PySem.Str.ofString "_law_odd"), f__law_odd, 1), ((PySem.Str.ofString "_law_grown"), f__law_grown, 2), ((PySem.Str.ofString "_law_shaped"), f__law_shaped, 3), ((PySem.Str.ofString "_law_swapped"), f__law_swapped, 3), ((PySem.Str.ofString "_law_sized"), f__law_sized, 3), ((PySem.Str.ofString "_law_listed"), f__law_listed, 3), ((PySem.Str.ofString "_law_step"), f__law_step, 1), ((PySem.Str.ofString "_law_links"), f__law_links, 1), ((PySem.Str.ofString "_law_fits"), f__law_fits, 2), ((PySem.Str.ofString "_law_same"), f__law_same, 2), ((PySem.Str.ofString "_law_depths"), f__law_depths, 2), ((PySem.Str.ofString "_law_number_of"), f__law_number_of, 2), ((PySem.Str.ofString "_law_parts"), f__law_parts, 3), ((PySem.Str.ofString "_law_formed"), f__law_formed, 1), ((PySem.Str.ofString "_law_all"), f__law_all, 1), ((PySem.Str.ofString "law"), f_law, 1)]
  kws := [((PySem.Str.ofString "mistake_number"), f_mistake_number, [(PySem.Str.ofString "rules")], [0])]
  cls := [((PySem.Str.ofString "Parts"), c_Parts, f_Parts___init__, 2), ((PySem.Str.ofString "Rules"), c_Rules, f_Rules___init__, 3)]
  mts := [(m_sides_at, (PySem.Str.ofString "sides_at"), 3), (m_left_at, (PySem.Str.ofString "left_at"), 4), (m_has, (PySem.Str.ofString "has"), 2), (m_look_at_row, (PySem.Str.ofString "look_at_row"), 2), (m_seen_at, (PySem.Str.ofString "seen_at"), 2), (m_turned, (PySem.Str.ofString "turned"), 2), (m_look_at_size, (PySem.Str.ofString "look_at_size"), 2), (m_both, (PySem.Str.ofString "both"), 2), (m_either, (PySem.Str.ofString "either"), 2), (m_unlike, (PySem.Str.ofString "unlike"), 2), (m_beside, (PySem.Str.ofString "beside"), 2), (m_with_rule, (PySem.Str.ofString "with_rule"), 2), (m_without, (PySem.Str.ofString "without"), 2), (m_others, (PySem.Str.ofString "others"), 1), (m_is_closed, (PySem.Str.ofString "is_closed"), 1), (m_is_shown, (PySem.Str.ofString "is_shown"), 2), (m_fitting, (PySem.Str.ofString "fitting"), 2)]
  fds := [(0, (PySem.Str.ofString "value")), (1, (PySem.Str.ofString "what")), (2, (PySem.Str.ofString "rows")), (3, (PySem.Str.ofString "size")), (4, (PySem.Str.ofString "yes_at")), (5, (PySem.Str.ofString "whole")), (6, (PySem.Str.ofString "cuts")), (7, (PySem.Str.ofString "rising"))]
  bis := [(PySem.Str.ofString "abs"), (PySem.Str.ofString "all"), (PySem.Str.ofString "bool"), (PySem.Str.ofString "enumerate"), (PySem.Str.ofString "int"), (PySem.Str.ofString "isinstance"), (PySem.Str.ofString "len"), (PySem.Str.ofString "list"), (PySem.Str.ofString "max"), (PySem.Str.ofString "min"), (PySem.Str.ofString "range"), (PySem.Str.ofString "reversed"), (PySem.Str.ofString "set"), (PySem.Str.ofString "sorted"), (PySem.Str.ofString "str"), (PySem.Str.ofString "sum"), (PySem.Str.ofString "tuple"), (PySem.Str.ofString "zip")]
  frs := frs
abbrev fd_value : Nat := 0
abbrev fd_what : Nat := 1
abbrev fd_rows : Nat := 2
abbrev fd_size : Nat := 3
abbrev fd_yes_at : Nat := 4
abbrev fd_whole : Nat := 5
abbrev fd_cuts : Nat := 6
abbrev fd_rising : Nat := 7
def lw : Law := { names := names, fns := fns, cn := [(PySem.Str.ofString "Parts"), (PySem.Str.ofString "Rules")], fl := [(PySem.Str.ofString "value"), (PySem.Str.ofString "what"), (PySem.Str.ofString "rows"), (PySem.Str.ofString "size"), (PySem.Str.ofString "yes_at"), (PySem.Str.ofString "whole"), (PySem.Str.ofString "cuts"), (PySem.Str.ofString "rising")], inits := [(c_Parts, f_Parts___init__), (c_Rules, f_Rules___init__)], lens := [(c_Rules, f_Rules___len__)], mths := [(c_Parts, m_sides_at, f_Parts_sides_at), (c_Parts, m_left_at, f_Parts_left_at), (c_Rules, m_has, f_Rules_has), (c_Rules, m_look_at_row, f_Rules_look_at_row), (c_Rules, m_seen_at, f_Rules_seen_at), (c_Rules, m_turned, f_Rules_turned), (c_Rules, m_look_at_size, f_Rules_look_at_size), (c_Rules, m_both, f_Rules_both), (c_Rules, m_either, f_Rules_either), (c_Rules, m_unlike, f_Rules_unlike), (c_Rules, m_beside, f_Rules_beside), (c_Rules, m_with_rule, f_Rules_with_rule), (c_Rules, m_without, f_Rules_without), (c_Rules, m_others, f_Rules_others), (c_Rules, m_is_closed, f_Rules_is_closed), (c_Rules, m_is_shown, f_Rules_is_shown), (c_Rules, m_fitting, f_Rules_fitting)], frs := frs, wh := 18446744073709551616, td := td }
theorem kw0 : KwRow Hd.fn ((PySem.Str.ofString "mistake_number"), f_mistake_number, [(PySem.Str.ofString "rules")], [0]) := kw_row (d := Hd.d21) (by kernel_rfl) fun kV doc pm an cdv ct ws hl => match ws, hl with
  | [a0], _ => by kernel_rfl
theorem kws_ok : KwsOk lw Hd.fn := kws_of (.cons kw0 (.nil))
-- UNSUP Rules.__eq__: isinstance class
-- UNSUP Rules.both: lc2

theorem allc : allC lw 400 0 lw.names Hd.fn lw.fns = true := by kernel_rfl
theorem rowsc : rowsC lw Hd.fa Hd.fn = true := by kernel_rfl
end Lw
end
section
set_option Elab.async false
set_option linter.all false
set_option maxRecDepth 100000
set_option maxHeartbeats 4000000
namespace Py
open PySem
/-! ### evaluation of the terms: loops and comprehensions -/
theorem compLoop_ok {f : D → Env → R (List D)} {h : D → List D} {G0 : Env} : ∀ ds : List D, (∀ d ∈ ds, f d G0 = .ok G0 (h d)) → compLoop f ds G0 = .ok G0 (ds.flatMap h)
  | [], _ => rfl
  | d :: ds, H => by
    rw [compLoop, H d List.mem_cons_self]
    show (compLoop f ds G0).bind _ = _
    rw [compLoop_ok ds fun e he => H e (List.mem_cons_of_mem _ he)]
    rfl
/-- a loop that ends without a break: I holds of what is to come and of the slots -/
theorem forLoop_inv {asgn : D → Env → R Unit} {body : Env → R Out} (I : List D → Env → Prop) (step : ∀ d ds G, I (d :: ds) G → ∃ G1 G2, asgn d G = .ok G1 () ∧ (body G1 = .ok G2 .next ∨ body G1 = .ok G2 .cont) ∧ I ds G2) :
    ∀ (ds : List D) (G : Env), I ds G → ∃ G', forLoop asgn body ds G = .ok G' .next ∧ I [] G'
  | [], G, h => ⟨G, rfl, h⟩
  | d :: ds, G, h => by
    obtain ⟨G1, G2, e1, e2, i2⟩ := step d ds G h
    obtain ⟨G', e3, i3⟩ := forLoop_inv I step ds G2 i2
    refine ⟨G', ?_, i3⟩
    rw [forLoop, e1]
    show (body G1).bind _ = _
    rcases e2 with e2 | e2 <;> rw [e2] <;> exact e3
/-- .. with a break -/
theorem forLoop_brk {asgn : D → Env → R Unit} {body : Env → R Out} (I : List D → Env → Prop) (J : Env → Prop) (fin : ∀ G, I [] G → J G) (step : ∀ d ds G, I (d :: ds) G → ∃ G1 G2 o, asgn d G = .ok G1 () ∧ body G1 = .ok G2 o ∧ ((o = .next ∧ I ds G2) ∨ (o = .brk ∧ J G2))) :
    ∀ (ds : List D) (G : Env), I ds G → ∃ G', forLoop asgn body ds G = .ok G' .next ∧ J G'
  | [], G, h => ⟨G, rfl, fin G h⟩
  | d :: ds, G, h => by
    obtain ⟨G1, G2, o, e1, e2, i2⟩ := step d ds G h
    rcases i2 with ⟨rfl, i2⟩ | ⟨rfl, i2⟩
    · obtain ⟨G', e3, i3⟩ := forLoop_brk I J fin step ds G2 i2
      refine ⟨G', ?_, i3⟩
      rw [forLoop, e1]
      show (body G1).bind _ = _
      rw [e2]
      exact e3
    · refine ⟨G2, ?_, i2⟩
      rw [forLoop, e1]
      show (body G1).bind _ = _
      rw [e2]
      rfl
theorem getD_get {G : Env} {i : Nat} (h : i < G.length) : G[i]? = some (G.getD i .dead) := by
  rw [List.getD_eq_getElem?_getD, List.getElem?_eq_getElem h]
  rfl
theorem set_getD {G : Env} {i : Nat} (h : i < G.length) : G.set i (G.getD i .dead) = G := by
  apply List.ext_getElem?
  intro j
  rw [List.getElem?_set]
  split
  · rename_i e
    subst e
    exact (getD_get h).symm
  · rfl
/-- [elt for v in it if ..]: one name of its own -/
theorem ev_lc1 {C : Ctx} {orc : Orc} {v : Nat} {it : It} {ifs : List E} {elt : E} {G G1 : Env} {ds : List D} {b : Bool} (p : D → Bool) (h : D → D) (hit : evIt C orc it G = .ok G1 (ds, b)) (hb : (b && !(E.mfL ifs && elt.mf)) = false) (hv : v < G1.length) (hw : (G1.getD v .dead).isOw = false)
    (hf : ∀ d ∈ ds, evIfs C orc ifs (G1.set v (.sh d)) = .ok (G1.set v (.sh d)) (p d)) (he : ∀ d ∈ ds, p d = true → ev C orc elt (G1.set v (.sh d)) = .ok (G1.set v (.sh d)) (h d, false)) (hl : ds.length ≤ szLine) :
    ev C orc (.lc [v] (.n v) it ifs elt) G = .ok G1 (.lst ((ds.filter p).map h), false) := by
  have wv : wipe G1 [v] = G1.set v .dead := rfl
  have loop := compLoop_ok (f := fun d G2 => (asgT (.n v) d G2).bind fun G3 _ => (evIfs C orc ifs G3).bind fun G4 k => if k then (ev C orc elt G4).bind fun G5 x => if x.2 then R.bad else .ok (wipe G5 [v]) [x.1] else .ok (wipe G4 [v]) []) (h := fun d => if p d then [h d] else []) (G0 := wipe G1 [v]) ds fun d hd => by
    have e1 : asgT (.n v) d (wipe G1 [v]) = .ok (G1.set v (.sh d)) () := by
      rw [wv, asgT, List.length_set, if_pos (by simpa using hv), List.set_set]
    have e2 : wipe (G1.set v (.sh d)) [v] = wipe G1 [v] := by
      show (G1.set v (.sh d)).set v .dead = G1.set v .dead
      rw [List.set_set]
    simp only [e1, R.bind, hf d hd]
    cases hp : p d with
    | true => simp only [if_true, he d hd hp, e2, Bool.false_eq_true, if_false]
    | false => simp only [Bool.false_eq_true, if_false, e2]
  rw [ev, hit]
  have ha : anyOw G1 [v] = false := by
    show ((G1.getD v .dead).isOw || false) = false
    rw [hw]
    rfl
  have e3 : ds.flatMap (fun d => if p d then [h d] else []) = (ds.filter p).map h := by
    clear loop hf he hit hl
    induction ds with
    | nil => rfl
    | cons d ds ih =>
      rw [List.flatMap_cons, ih, List.filter_cons]
      split <;> rfl
  have e4 : lenOk ((ds.filter p).map h).length = true := by
    unfold lenOk
    have := List.length_filter_le p ds
    rw [List.length_map]
    simp
    omega
  have e5 : unwipe G1 (wipe G1 [v]) [v] = G1 := by
    show (G1.set v .dead).set v (G1.getD v .dead) = G1
    rw [List.set_set, set_getD hv]
  simp only [R.bind] at loop ⊢
  rw [hb, ha, loop, e3]
  simp only [Bool.or_false, Bool.false_eq_true, if_false, e4, if_true, e5]
section
variable {C : Ctx} {orc : Orc}
theorem rngD (n : Nat) : rangeD 0 n = (List.range n).map fun k : Nat => D.int k := by
  unfold rangeD
  simp
theorem asInt_int (i : Int) : (D.int i).asInt = some i := rfl
theorem ltp_of {n b : Nat} (hb : 0 < b) (h : n < 2 ^ b) : ltp n b = true := by
  unfold ltp
  rw [decide_eq_true_eq]
  cases n with
  | zero => simpa using hb
  | succ n => exact (Nat.log2_lt (by simp)).mpr h
theorem rngOk_nat (s : Nat) (hs : s ≤ 1000000) : rngOk (s : Int) = true := ltp_of (by decide) (by
  show s < 2 ^ 62
  have : (2 : Nat) ^ 62 = 4611686018427387904 := by decide
  omega)
theorem evIt_rng1 {a : E} {G G1 : Env} {s : Nat} {b : Bool} (ha : ev C orc a G = .ok G1 (.int s, b)) (hr : rngOk (s : Int) = true) : evIt C orc (.rng1 a) G = .ok G1 ((List.range s).map fun k : Nat => D.int k, false) := by
  rw [evIt, ha, R.bind, asInt_int, Option.bind_some, if_pos hr, rngD, R.ofO]
/-- [elt for v in it] -/
theorem ev_lc0 {v : Nat} {it : It} {elt : E} {G G1 : Env} {ds : List D} {b : Bool} (h : D → D) (hit : evIt C orc it G = .ok G1 (ds, b)) (hb : (b && !elt.mf) = false) (hv : v < G1.length) (hw : (G1.getD v .dead).isOw = false)
    (he : ∀ d ∈ ds, ev C orc elt (G1.set v (.sh d)) = .ok (G1.set v (.sh d)) (h d, false)) (hl : ds.length ≤ szLine) :
    ev C orc (.lc [v] (.n v) it [] elt) G = .ok G1 (.lst (ds.map h), false) := by
  have := ev_lc1 (ifs := []) (fun _ => true) h hit (by simpa [E.mfL] using hb) hv hw (fun d _ => by rw [evIfs]) (fun d hd _ => he d hd) hl
  rw [List.filter_eq_self.mpr (fun _ _ => rfl)] at this
  exact this
/-- .. over range -/
theorem ev_lcR {v s : Nat} {a elt : E} {G G1 : Env} {b : Bool} (h : Nat → D) (ha : ev C orc a G = .ok G1 (.int s, b)) (hs : s ≤ 1000000) (hv : v < G1.length) (hw : (G1.getD v .dead).isOw = false)
    (he : ∀ k < s, ev C orc elt (G1.set v (.sh (.int k))) = .ok (G1.set v (.sh (.int k))) (h k, false)) :
    ev C orc (.lc [v] (.n v) (.rng1 a) [] elt) G = .ok G1 (.lst ((List.range s).map h), false) := by
  have := ev_lc0 (orc := orc) (C := C) (elt := elt) (v := v) (fun d => match d with | .int k => h k.toNat | _ => .non) (evIt_rng1 ha (rngOk_nat s hs)) (by simp) hv hw (fun d hd => by
    obtain ⟨k, hk, rfl⟩ := List.mem_map.mp hd
    exact he k (List.mem_range.mp hk)) (by rw [List.length_map, List.length_range]; unfold szLine; omega)
  rw [List.map_map] at this
  exact this
end
end Py
end
section
set_option Elab.async false
set_option linter.all false
set_option maxRecDepth 100000
set_option maxHeartbeats 4000000
namespace Py
open PySem
/-! ### more rules of evaluation, and plain facts -/
section
variable {C : Ctx} {orc : Orc}
/-- one turn of a comprehension -/
def lcStep (C : Ctx) (orc : Orc) (own : List Nat) (tg : Tg) (ifs : List E) (elt : E) (d : D) (G2 : Env) : R (List D) :=
  (asgT tg d G2).bind fun G3 _ => (evIfs C orc ifs G3).bind fun G4 k => if k then (ev C orc elt G4).bind fun G5 x => if x.2 then R.bad else .ok (wipe G5 own) [x.1] else .ok (wipe G4 own) []
theorem ev_lcG {own : List Nat} {tg : Tg} {it : It} {ifs : List E} {elt : E} {G G1 : Env} {ds : List D} {b : Bool} (h : D → List D) (hit : evIt C orc it G = .ok G1 (ds, b)) (hb : (b && !(E.mfL ifs && elt.mf)) = false) (ha : anyOw G1 own = false)
    (hs : ∀ d ∈ ds, lcStep C orc own tg ifs elt d (wipe G1 own) = .ok (wipe G1 own) (h d)) (hu : unwipe G1 (wipe G1 own) own = G1) (hl : (ds.flatMap h).length ≤ szLine) :
    ev C orc (.lc own tg it ifs elt) G = .ok G1 (.lst (ds.flatMap h), false) := by
  have loop := compLoop_ok (f := lcStep C orc own tg ifs elt) (h := h) (G0 := wipe G1 own) ds hs
  rw [ev, hit]
  show (if _ then R.bad else R.bind (compLoop (lcStep C orc own tg ifs elt) ds (wipe G1 own)) _) = _
  have e4 : lenOk (ds.flatMap h).length = true := by
    unfold lenOk
    simpa using hl
  rw [loop]
  simp only [hb, ha, Bool.or_false, Bool.false_eq_true, if_false, R.bind_ok, e4, if_true, hu]
theorem compLoop_map {α : Type} {f : D → Env → R (List D)} {g : α → D} {h : α → List D} {G0 : Env} : ∀ l : List α, (∀ a ∈ l, f (g a) G0 = .ok G0 (h a)) → compLoop f (l.map g) G0 = .ok G0 (l.flatMap h)
  | [], _ => rfl
  | d :: ds, H => by
    rw [List.map_cons, compLoop, H d List.mem_cons_self]
    show (compLoop f (ds.map g) G0).bind _ = _
    rw [compLoop_map ds fun e he => H e (List.mem_cons_of_mem _ he)]
    rfl
/-- .. over the images of things -/
theorem ev_lcA {α : Type} {own : List Nat} {tg : Tg} {it : It} {ifs : List E} {elt : E} {G G1 : Env} {b : Bool} (l : List α) (g : α → D) (p : α → Bool) (h : α → D) (hit : evIt C orc it G = .ok G1 (l.map g, b)) (hb : (b && !(E.mfL ifs && elt.mf)) = false) (ha : anyOw G1 own = false)
    (hs : ∀ a ∈ l, lcStep C orc own tg ifs elt (g a) (wipe G1 own) = .ok (wipe G1 own) (if p a then [h a] else [])) (hu : unwipe G1 (wipe G1 own) own = G1) (hl : l.length ≤ 1000000) :
    ev C orc (.lc own tg it ifs elt) G = .ok G1 (.lst ((l.filter p).map h), false) := by
  have loop := compLoop_map (f := lcStep C orc own tg ifs elt) (g := g) (h := fun a => if p a then [h a] else []) (G0 := wipe G1 own) l hs
  have e3 : l.flatMap (fun d => if p d then [h d] else []) = (l.filter p).map h := by
    clear loop hs hit hl
    induction l with
    | nil => rfl
    | cons d ds ih =>
      rw [List.flatMap_cons, ih, List.filter_cons]
      split <;> rfl
  rw [e3] at loop
  rw [ev, hit]
  show (if _ then R.bad else R.bind (compLoop (lcStep C orc own tg ifs elt) (l.map g) (wipe G1 own)) _) = _
  have e4 : lenOk ((l.filter p).map h).length = true := by
    unfold lenOk
    have := List.length_filter_le p l
    rw [List.length_map]
    exact decide_eq_true (by show _ ≤ 16777216; omega)
  rw [loop]
  simp only [hb, ha, Bool.or_false, Bool.false_eq_true, if_false, R.bind_ok, e4, if_true, hu]
/-- .. all of them -/
theorem ev_lcB {α : Type} {own : List Nat} {tg : Tg} {it : It} {elt : E} {G G1 : Env} {b : Bool} (l : List α) (g : α → D) (h : α → D) (hit : evIt C orc it G = .ok G1 (l.map g, b)) (hb : (b && !(E.mfL [] && elt.mf)) = false) (ha : anyOw G1 own = false)
    (hs : ∀ a ∈ l, lcStep C orc own tg [] elt (g a) (wipe G1 own) = .ok (wipe G1 own) [h a]) (hu : unwipe G1 (wipe G1 own) own = G1) (hl : l.length ≤ 1000000) :
    ev C orc (.lc own tg it [] elt) G = .ok G1 (.lst (l.map h), false) := by
  have := ev_lcA (C := C) (orc := orc) l g (fun _ => true) h hit hb ha (fun a h => hs a h) hu hl
  rw [List.filter_eq_self.mpr (fun _ _ => rfl)] at this
  exact this
/-- .. over range, by numbers -/
theorem ev_lcRf {v s : Nat} {a elt : E} {ifs : List E} {G G1 : Env} {b : Bool} (p : Nat → Bool) (h : Nat → D) (ha : ev C orc a G = .ok G1 (.int s, b)) (hs : s ≤ 1000000) (hw : anyOw G1 [v] = false) (hu : unwipe G1 (wipe G1 [v]) [v] = G1)
    (he : ∀ k < s, lcStep C orc [v] (.n v) ifs elt (.int k) (wipe G1 [v]) = .ok (wipe G1 [v]) (if p k then [h k] else [])) :
    ev C orc (.lc [v] (.n v) (.rng1 a) ifs elt) G = .ok G1 (.lst (((List.range s).filter p).map h), false) :=
  ev_lcA (List.range s) (fun k : Nat => D.int k) p h (evIt_rng1 ha (rngOk_nat s hs)) (by simp) hw (fun k hk => he k (List.mem_range.mp hk)) hu (by simpa using hs)
theorem ev_lcRa {v s : Nat} {a elt : E} {G G1 : Env} {b : Bool} (h : Nat → D) (ha : ev C orc a G = .ok G1 (.int s, b)) (hs : s ≤ 1000000) (hw : anyOw G1 [v] = false) (hu : unwipe G1 (wipe G1 [v]) [v] = G1)
    (he : ∀ k < s, lcStep C orc [v] (.n v) [] elt (.int k) (wipe G1 [v]) = .ok (wipe G1 [v]) [h k]) :
    ev C orc (.lc [v] (.n v) (.rng1 a) [] elt) G = .ok G1 (.lst ((List.range s).map h), false) :=
  ev_lcB (List.range s) (fun k : Nat => D.int k) h (evIt_rng1 ha (rngOk_nat s hs)) (by simp) hw (fun k hk => he k (List.mem_range.mp hk)) hu (by simpa using hs)
/-- a for loop over range: an invariant by the number of turns -/
theorem forLoop_rng {asgn : D → Env → R Unit} {body : Env → R Out} (I : Nat → Env → Prop) (n : Nat) (step : ∀ k < n, ∀ G, I k G → ∃ G1 G2, asgn (.int k) G = .ok G1 () ∧ body G1 = .ok G2 .next ∧ I (k + 1) G2) (G : Env) (h : I 0 G) :
    ∃ G', forLoop asgn body ((List.range n).map fun k : Nat => D.int k) G = .ok G' .next ∧ I n G' := by
  have key : ∀ (m k : Nat) (G : Env), k + m = n → I k G → ∃ G', forLoop asgn body ((List.range' k m).map fun k : Nat => D.int k) G = .ok G' .next ∧ I n G' := by
    intro m
    induction m with
    | zero => intro k G e h; exact ⟨G, rfl, (show k = n by omega) ▸ h⟩
    | succ m ih =>
      intro k G e h
      obtain ⟨G1, G2, e1, e2, i2⟩ := step k (by omega) G h
      obtain ⟨G', e3, i3⟩ := ih (k + 1) G2 (by omega) i2
      refine ⟨G', ?_, i3⟩
      rw [List.range'_succ, List.map_cons, forLoop, e1]
      show (body G1).bind _ = _
      rw [e2]
      exact e3
  have := key n 0 G (by omega) h
  rw [List.range_eq_range']
  exact this
/-- the statement -/
theorem evS_for {tg : Tg} {it : It} {body : List S} {G G1 G2 : Env} {ds : List D} {o : Out} (h1 : evIt C orc it G = .ok G1 (ds, false)) (h2 : forLoop (asgT tg) (evSs C orc body) ds G1 = .ok G2 o) : evS C orc (.for_ tg it body) G = .ok G2 o := by
  rw [evS, h1]
  exact h2
theorem evS_forR {tg : Tg} {a : E} {body : List S} {G G1 : Env} {b : Bool} (n : Nat) (I : Nat → Env → Prop) (h1 : ev C orc a G = .ok G1 (.int n, b)) (hn : n ≤ 1000000) (h : I 0 G1)
    (step : ∀ k < n, ∀ G, I k G → ∃ G1 G2, asgT tg (.int k) G = .ok G1 () ∧ evSs C orc body G1 = .ok G2 .next ∧ I (k + 1) G2) : ∃ G2, evS C orc (.for_ tg (.rng1 a) body) G = .ok G2 .next ∧ I n G2 := by
  obtain ⟨G', e, i⟩ := forLoop_rng (asgn := asgT tg) (body := evSs C orc body) I n step G1 h
  exact ⟨G', evS_for (evIt_rng1 h1 (rngOk_nat n hn)) e, i⟩
theorem evSs_next {s : S} {ss : List S} {G G1 : Env} (h : evS C orc s G = .ok G1 .next) : evSs C orc (s :: ss) G = evSs C orc ss G1 := by
  simp only [evSs, h, R.bind]
end
def natsD (ns : List Nat) : List D := ns.map fun n : Nat => D.int n
theorem gInts_map : ∀ l : List Int, gInts (l.map D.int) = some l
  | [] => rfl
  | x :: l => by rw [List.map_cons, gInts, gInts_map l]; rfl
theorem gInts_nats (l : List Nat) : gInts (natsD l) = some (l.map fun n : Nat => (n : Int)) := by
  have : natsD l = (l.map fun n : Nat => (n : Int)).map D.int := by
    unfold natsD
    rw [List.map_map]
    rfl
  rw [this, gInts_map]
theorem atI_nat {xs : List D} {k : Nat} (h : k < xs.length) : atI xs (k : Int) = xs[k]? := by
  unfold atI ixN
  rw [if_pos (by omega), if_pos (by omega)]
  rfl
theorem atI_ints {q : List Int} {k : Nat} (h : k < q.length) : atI (q.map D.int) (k : Int) = some (.int (q.getD k 0)) := by
  rw [atI_nat (by simpa using h), List.getElem?_map, List.getElem?_eq_getElem h, List.getD_eq_getElem?_getD, List.getElem?_eq_getElem h]
  rfl
theorem atI_rows {rs : List (List Int)} {k : Nat} (h : k < rs.length) : atI (rs.map rowD) (k : Int) = some (rowD (rs.getD k [])) := by
  rw [atI_nat (by simpa using h), List.getElem?_map, List.getElem?_eq_getElem h, List.getD_eq_getElem?_getD, List.getElem?_eq_getElem h]
  rfl
theorem eqv_int (i j : Int) : D.eqv (.int i) (.int j) = (i == j) := rfl
theorem eqOkL_ints (n : Nat) : ∀ l : List Int, D.eqOkL n (l.map D.int) = true
  | [] => by cases n <;> rfl
  | x :: l => by cases n <;> simp [D.eqOkL, D.eqOk, eqOkL_ints _ l]
theorem eqvL_ints : ∀ l m : List Int, D.eqvL (l.map D.int) (m.map D.int) = (l == m)
  | [], [] => rfl
  | [], _ :: _ => rfl
  | _ :: _, [] => rfl
  | x :: l, y :: m => by
    rw [List.map_cons, List.map_cons, D.eqvL, eqvL_ints l m, eqv_int]
    rfl
theorem eqd_ints (l m : List Int) : eqd (.tup (l.map D.int)) (.tup (m.map D.int)) = some (l == m) := by
  unfold eqd
  simp [D.eqOk, eqOkL_ints, D.eqv, eqvL_ints]
theorem eqd_int (i j : Int) : eqd (.int i) (.int j) = some (i == j) := by
  unfold eqd
  simp [D.eqOk, D.eqv]
theorem natsD_ints (l : List Nat) : natsD l = (l.map fun n : Nat => (n : Int)).map D.int := by
  unfold natsD
  rw [List.map_map]
  rfl
theorem leaves_leaf : ∀ l : List D, M.leaves (l.map M.leaf) = some l
  | [] => rfl
  | x :: l => by rw [List.map_cons, M.leaves, leaves_leaf l]; rfl
theorem fzL_leaf : ∀ l : List D, M.fzL (l.map M.leaf) = l
  | [] => rfl
  | x :: l => by rw [List.map_cons, M.fzL, fzL_leaf l]; rfl
end Py
namespace Py
open PySem
/-- a for loop over a list, by the number of turns -/
theorem forLoop_ix {asgn : D → Env → R Unit} {body : Env → R Out} (I : Nat → Env → Prop) : ∀ (ds : List D) (j : Nat), (∀ k, (hk : k < ds.length) → ∀ G, I (j + k) G → ∃ G1 G2, asgn ds[k] G = .ok G1 () ∧ body G1 = .ok G2 .next ∧ I (j + k + 1) G2) → ∀ G, I j G → ∃ G', forLoop asgn body ds G = .ok G' .next ∧ I (j + ds.length) G'
  | [], j, _, G, h => ⟨G, rfl, h⟩
  | d :: ds, j, step, G, h => by
    obtain ⟨G1, G2, e1, e2, i2⟩ := step 0 (by simp) G h
    obtain ⟨G', e3, i3⟩ := forLoop_ix I ds (j + 1) (fun k hk G hG => by
      have := step (k + 1) (by simpa using hk) G (by rw [show j + (k + 1) = j + 1 + k by omega]; exact hG)
      rw [show j + (k + 1) + 1 = j + 1 + k + 1 by omega] at this
      simpa using this) G2 i2
    refine ⟨G', ?_, by rw [List.length_cons, show j + (ds.length + 1) = j + 1 + ds.length by omega]; exact i3⟩
    rw [forLoop, show asgn d G = .ok G1 () from e1]
    show (body G1).bind _ = _
    rw [e2]
    exact e3
theorem evS_forL {C : Ctx} {orc : Orc} {tg : Tg} {it : It} {body : List S} {G G1 : Env} {ds : List D} (I : Nat → Env → Prop) (h1 : evIt C orc it G = .ok G1 (ds, false)) (h : I 0 G1)
    (step : ∀ k, (hk : k < ds.length) → ∀ G, I k G → ∃ G1 G2, asgT tg ds[k] G = .ok G1 () ∧ evSs C orc body G1 = .ok G2 .next ∧ I (k + 1) G2) : ∃ G2, evS C orc (.for_ tg it body) G = .ok G2 .next ∧ I ds.length G2 := by
  obtain ⟨G', e, i⟩ := forLoop_ix (asgn := asgT tg) (body := evSs C orc body) I ds 0 (fun k hk G hG => by
    rw [Nat.zero_add] at hG ⊢
    exact step k hk G hG) G1 h
  rw [Nat.zero_add] at i
  exact ⟨G', evS_for h1 e, i⟩
/-- a while loop of n turns -/
theorem whileLoop_ok {c : Env → R Bool} {body : Env → R Out} (I : Nat → Env → Prop) (n : Nat) (step : ∀ k < n, ∀ G, I k G → ∃ G2, c G = .ok G true ∧ body G = .ok G2 .next ∧ I (k + 1) G2) (fin : ∀ G, I n G → c G = .ok G false) :
    ∀ (m k fuel : Nat) (G : Env), k + m = n → m < fuel → I k G → ∃ G', whileLoop c body fuel G = .ok G' .next ∧ I n G'
  | 0, k, fuel + 1, G, e, _, h => by
    have : k = n := by omega
    subst this
    refine ⟨G, ?_, h⟩
    rw [whileLoop, fin G h]
    rfl
  | m + 1, k, fuel + 1, G, e, hf, h => by
    obtain ⟨G2, e1, e2, i2⟩ := step k (by omega) G h
    obtain ⟨G', e3, i3⟩ := whileLoop_ok I n step fin m (k + 1) fuel G2 (by omega) (by omega) i2
    refine ⟨G', ?_, i3⟩
    rw [whileLoop, e1]
    show (body G).bind _ = _
    rw [e2]
    exact e3
theorem evS_while {C : Ctx} {orc : Orc} {c : E} {body : List S} {G : Env} (I : Nat → Env → Prop) (n : Nat) (hn : n < C.wh) (h : I 0 G) (step : ∀ k < n, ∀ G, I k G → ∃ G2, evT C orc c G = .ok G true ∧ evSs C orc body G = .ok G2 .next ∧ I (k + 1) G2) (fin : ∀ G, I n G → evT C orc c G = .ok G false) :
    ∃ G', evS C orc (.while_ c body) G = .ok G' .next ∧ I n G' := by
  obtain ⟨G', e, i⟩ := whileLoop_ok (c := evT C orc c) (body := evSs C orc body) I n step fin n 0 C.wh G (by omega) hn h
  exact ⟨G', by rw [evS]; exact e, i⟩
theorem enumD_map {α : Type} (g : α → D) : ∀ (l : List α) (n : Nat), enumD n (l.map g) = (l.zipIdx n).map fun q => .tup [.int (q.2 : Nat), g q.1]
  | [], _ => rfl
  | x :: l, n => by rw [List.map_cons, enumD, enumD_map g l (n + 1), List.zipIdx_cons, List.map_cons]
end Py
end
section
set_option Elab.async false
set_option linter.all false
set_option maxRecDepth 100000
namespace Py
open PySem
/-! ### sorted rows -/
theorem lexLt_asymm : ∀ x y : List Int, lexLt x y = true → lexLt y x = false
  | [], [], h => by cases h
  | [], _ :: _, _ => rfl
  | _ :: _, [], h => by cases h
  | x :: xs, y :: ys, h => by
    unfold lexLt at h ⊢
    by_cases e : x = y
    · rw [if_pos e] at h
      rw [if_pos e.symm]
      exact lexLt_asymm xs ys h
    · rw [if_neg e] at h
      rw [if_neg (fun h => e h.symm)]
      have := of_decide_eq_true h
      exact decide_eq_false (by omega)
theorem lexLe_total {x y : List Int} (h : lexLe x y = false) : lexLe y x = true := by
  unfold lexLe at h ⊢
  have h : lexLt y x = true := by simpa using h
  rw [lexLt_asymm _ _ h]
  rfl
def Chain : List (List Int) → Prop
  | [] => True
  | [_] => True
  | x :: y :: l => lexLe x y = true ∧ Chain (y :: l)
theorem chain_tail {x : List Int} {l : List (List Int)} (h : Chain (x :: l)) : Chain l := by
  cases l with
  | nil => trivial
  | cons y l => exact h.2
theorem sortRows_chain : ∀ {l : List (List Int)}, Chain l → sortRows l = l
  | [], _ => rfl
  | [x], _ => rfl
  | x :: y :: l, h => by
    rw [sortRows, sortRows_chain (chain_tail h), insRow, if_pos h.1]
theorem insRow_head (x : List Int) : ∀ l : List (List Int), (∃ t, insRow x l = x :: t) ∨ (∃ y t s, l = y :: s ∧ insRow x l = y :: t)
  | [] => .inl ⟨[], rfl⟩
  | y :: ys => by
    unfold insRow
    split
    · exact .inl ⟨_, rfl⟩
    · exact .inr ⟨y, _, ys, rfl, rfl⟩
theorem insRow_chain (x : List Int) : ∀ {l : List (List Int)}, Chain l → Chain (insRow x l)
  | [], _ => trivial
  | y :: ys, h => by
    unfold insRow
    split
    · rename_i e
      exact ⟨e, h⟩
    · rename_i e
      have ih := insRow_chain x (chain_tail h)
      have e : lexLe y x = true := lexLe_total (by simpa using e)
      rcases insRow_head x ys with ⟨t, ht⟩ | ⟨z, t, s, hs, ht⟩
      · rw [ht] at ih ⊢
        exact ⟨e, ih⟩
      · subst hs
        rw [ht] at ih ⊢
        exact ⟨h.1, ih⟩
theorem chain_sort : ∀ l : List (List Int), Chain (sortRows l)
  | [] => trivial
  | x :: l => insRow_chain x (chain_sort l)
theorem mem_insRow {x z : List Int} : ∀ {l : List (List Int)}, z ∈ insRow x l ↔ z = x ∨ z ∈ l
  | [] => by simp [insRow]
  | y :: ys => by
    unfold insRow
    split
    · simp
    · simp [mem_insRow (l := ys)]
      constructor
      · rintro (h | h | h)
        · exact .inr (.inl h)
        · exact .inl h
        · exact .inr (.inr h)
      · rintro (h | h | h)
        · exact .inr (.inl h)
        · exact .inl h
        · exact .inr (.inr h)
theorem mem_sort {z : List Int} : ∀ {l : List (List Int)}, z ∈ sortRows l ↔ z ∈ l
  | [] => Iff.rfl
  | x :: l => by rw [sortRows, mem_insRow, mem_sort (l := l), List.mem_cons]
theorem len_insRow (x : List Int) : ∀ l : List (List Int), (insRow x l).length = l.length + 1
  | [] => rfl
  | y :: ys => by
    unfold insRow
    split
    · rfl
    · rw [List.length_cons, len_insRow x ys]; rfl
theorem len_sort : ∀ l : List (List Int), (sortRows l).length = l.length
  | [] => rfl
  | x :: l => by rw [sortRows, len_insRow, len_sort l]; rfl
theorem nodup_insRow {x : List Int} : ∀ {l : List (List Int)}, l.Nodup → x ∉ l → (insRow x l).Nodup
  | [], _, _ => by simp [insRow]
  | y :: ys, h, hx => by
    have h' := List.nodup_cons.mp h
    unfold insRow
    split
    · exact List.nodup_cons.mpr ⟨hx, h⟩
    · refine List.nodup_cons.mpr ⟨fun hm => ?_, nodup_insRow h'.2 fun hm => hx (List.mem_cons_of_mem _ hm)⟩
      rcases mem_insRow.mp hm with rfl | hm
      · exact hx List.mem_cons_self
      · exact h'.1 hm
theorem nodup_sort : ∀ {l : List (List Int)}, l.Nodup → (sortRows l).Nodup
  | [], _ => List.nodup_nil
  | x :: l, h => nodup_insRow (nodup_sort (List.nodup_cons.mp h).2) fun hm => (List.nodup_cons.mp h).1 (mem_sort.mp hm)
theorem firstMet_nodup : ∀ {l : List (List Int)}, l.Nodup → firstMet l = l
  | [], _ => rfl
  | x :: l, h => by
    have h' := List.nodup_cons.mp h
    rw [firstMet, firstMet_nodup h'.2]
    congr 1
    apply List.filter_eq_self.mpr
    intro a ha
    have : a ≠ x := fun e => h'.1 (e ▸ ha)
    simpa using this
theorem rowsOf_mapR : ∀ l : List (List Int), rowsOf (l.map rowD) = some l
  | [] => rfl
  | x :: l => by
    rw [List.map_cons]
    show (gInts (x.map D.int)).bind _ = _
    rw [gInts_map, rowsOf_mapR l]
    rfl
/-- rows that sorted takes: bits, of one length -/
theorem sortedD_rows {l : List (List Int)} {s : Nat} (h0 : l ≠ []) (h : l.length < 64) (hl : ∀ r ∈ l, r.length = s) (hb : ∀ r ∈ l, ∀ x ∈ r, (0 : Int) ≤ x) (hn : l.Nodup) : sortedD (l.map rowD) = some (.lst ((sortRows l).map rowD)) := by
  cases l with
  | nil => exact absurd rfl h0
  | cons r l =>
    have h1 : gInts ((r :: l).map rowD) = none := rfl
    unfold sortedD
    rw [h1, rowsOf_mapR]
    show (if _ then _ else _) = _
    rw [if_pos]
    cases l with
    | nil => rfl
    | cons r2 l =>
      have hs : 1 ≤ s := by
        apply Nat.one_le_iff_ne_zero.mpr
        intro e
        subst e
        have e1 := List.length_eq_zero_iff.mp (hl r List.mem_cons_self)
        have e2 := List.length_eq_zero_iff.mp (hl r2 (List.mem_cons_of_mem _ List.mem_cons_self))
        exact (List.nodup_cons.mp hn).1 (by rw [e1, e2]; exact List.mem_cons_self)
      have e1 : nnRows (r :: r2 :: l) = true := List.all_eq_true.mpr fun x hx => List.all_eq_true.mpr fun i hi => decide_eq_true (hb x hx i hi)
      have e2 : (r :: r2 :: l).all (fun x => decide (1 ≤ x.length ∧ x.length = ((r :: r2 :: l).headD []).length)) = true := List.all_eq_true.mpr fun x hx => decide_eq_true ⟨by rw [hl x hx]; exact hs, by rw [hl x hx]; exact (hl r List.mem_cons_self).symm⟩
      rw [e1, e2, decide_eq_true h]
      simp
/-- a comprehension that changes things as it goes -/
theorem compLoop_inv {f : D → Env → R (List D)} {I : Env → Prop} {P : D → Prop} : ∀ (ds : List D) (G : Env), I G → (∀ d ∈ ds, ∀ G, I G → ∃ G' x, f d G = .ok G' [x] ∧ I G' ∧ P x) → ∃ G' xs, compLoop f ds G = .ok G' xs ∧ I G' ∧ (∀ x ∈ xs, P x) ∧ xs.length = ds.length
  | [], G, h, _ => ⟨G, [], rfl, h, nofun, rfl⟩
  | d :: ds, G, h, H => by
    obtain ⟨G1, x, e1, i1, p1⟩ := H d List.mem_cons_self G h
    obtain ⟨G2, xs, e2, i2, p2, l2⟩ := compLoop_inv ds G1 i1 fun e he => H e (List.mem_cons_of_mem _ he)
    refine ⟨G2, x :: xs, ?_, i2, ?_, congrArg (· + 1) l2⟩
    · rw [compLoop, e1]
      show (compLoop f ds G1).bind _ = _
      rw [e2]
      rfl
    · intro y hy
      rcases List.mem_cons.mp hy with rfl | hy
      · exact p1
      · exact p2 y hy
theorem ev_lcD {C : Ctx} {orc : Orc} {own : List Nat} {tg : Tg} {it : It} {elt : E} {G G1 : Env} {ds : List D} {b : Bool} (I : Env → Prop) (P : D → Prop) (hit : evIt C orc it G = .ok G1 (ds, b)) (hb : (b && !(E.mfL [] && elt.mf)) = false) (ha : anyOw G1 own = false) (hi : I (wipe G1 own))
    (hs : ∀ d ∈ ds, ∀ G, I G → ∃ G' x, lcStep C orc own tg [] elt d G = .ok G' [x] ∧ I G' ∧ P x) (hl : ds.length ≤ 1000000) :
    ∃ G2 xs, ev C orc (.lc own tg it [] elt) G = .ok (unwipe G1 G2 own) (.lst xs, false) ∧ I G2 ∧ (∀ x ∈ xs, P x) ∧ xs.length = ds.length := by
  obtain ⟨G2, xs, e, i2, p2, l2⟩ := compLoop_inv (f := lcStep C orc own tg [] elt) ds (wipe G1 own) hi hs
  refine ⟨G2, xs, ?_, i2, p2, l2⟩
  rw [ev, hit]
  show (if _ then R.bad else R.bind (compLoop (lcStep C orc own tg [] elt) ds (wipe G1 own)) _) = _
  have e4 : lenOk xs.length = true := by
    rw [l2]
    exact decide_eq_true (by show _ ≤ 16777216; omega)
  rw [e]
  simp only [hb, ha, Bool.or_false, Bool.false_eq_true, if_false, R.bind_ok, e4, if_true]
/-- .. over range -/
theorem ev_lcDr {C : Ctx} {orc : Orc} {v : Nat} {a elt : E} {G G1 : Env} {b : Bool} {n : Nat} (I : Env → Prop) (P : D → Prop) (h1 : ev C orc a G = .ok G1 (.int n, b)) (hn : n ≤ 1000000) (ha : anyOw G1 [v] = false) (hi : I (wipe G1 [v]))
    (hs : ∀ k : Nat, k < n → ∀ G, I G → ∃ G' x, lcStep C orc [v] (.n v) [] elt (.int k) G = .ok G' [x] ∧ I G' ∧ P x) :
    ∃ G2 xs, ev C orc (.lc [v] (.n v) (.rng1 a) [] elt) G = .ok (unwipe G1 G2 [v]) (.lst xs, false) ∧ I G2 ∧ (∀ x ∈ xs, P x) ∧ xs.length = n := by
  have := ev_lcD (C := C) (orc := orc) (own := [v]) (tg := .n v) (elt := elt) I P (evIt_rng1 h1 (rngOk_nat n hn)) (by simp) ha hi (fun d hd G hG => by
    obtain ⟨k, hk, rfl⟩ := List.mem_map.mp hd
    exact hs k (List.mem_range.mp hk) G hG) (by simpa using hn)
  simpa using this
end Py
end
section
set_option Elab.async false
set_option linter.all false
set_option maxRecDepth 100000
namespace Py
open PySem
/-! ### bits of natural numbers -/
theorem bAnd (x y : Nat) : Builtin.bitAnd (x : Int) (y : Int) = ((x &&& y : Nat) : Int) := by
  have h1 : (0 : Int) ≤ x := by omega
  have h2 : (0 : Int) ≤ y := by omega
  unfold Builtin.bitAnd
  rw [decide_eq_true h1, decide_eq_true h2]
  rfl
theorem bAndNot (x y : Nat) : Builtin.bitAnd (x : Int) (Builtin.bitNot (y : Int)) = ((x - (x &&& y) : Nat) : Int) := by
  have h1 : (0 : Int) ≤ x := by omega
  have h2 : ¬ (0 : Int) ≤ Builtin.bitNot (y : Int) := by unfold Builtin.bitNot; omega
  have h3 : Builtin.bitNot (Builtin.bitNot (y : Int)) = y := by unfold Builtin.bitNot; omega
  have h4 : x &&& y ≤ x := Nat.and_le_left
  unfold Builtin.bitAnd
  rw [decide_eq_true h1, decide_eq_false h2]
  show (x : Int) - ((x &&& (Builtin.bitNot (Builtin.bitNot (y : Int))).toNat : Nat) : Int) = _
  rw [h3, Int.toNat_natCast]
  omega
theorem bOr (x y : Nat) : Builtin.bitOr (x : Int) (y : Int) = ((x ||| y : Nat) : Int) := by
  have := L2.bitOr_nn (x := x) (y := y) (by omega) (by omega)
  rw [this]
  simp
theorem bXor32 : ∀ x, x < 32 → ∀ y, y < 32 → Builtin.bitXor ((x : Nat) : Int) ((y : Nat) : Int) = ((x ^^^ y : Nat) : Int) := by
  have h : ((List.range 32).all fun x => (List.range 32).all fun y => decide (Builtin.bitXor ((x : Nat) : Int) ((y : Nat) : Int) = ((x ^^^ y : Nat) : Int))) = true := by decide +kernel
  intro x hx y hy
  exact of_decide_eq_true (List.all_eq_true.mp (List.all_eq_true.mp h x (List.mem_range.mpr hx)) y (List.mem_range.mpr hy))
theorem shlK {n : Nat} (h : n ≤ 1000) : binop .shl (.int 1) (.int n) = some (.int ((2 ^ n : Nat) : Int)) := by
  have h1 : ltp n 19 = true := ltp_of (by decide) (by show n < 524288; omega)
  show (if _ then _ else _) = _
  rw [if_pos]
  · simp
  · simp [h1]; rfl
theorem pow5 {s : Nat} (h : s ≤ 5) : 1 ≤ 2 ^ s ∧ 2 ^ s ≤ 32 := by
  match s, h with
  | 0, _ | 1, _ | 2, _ | 3, _ | 4, _ | 5, _ => decide
theorem nats_of {n : Nat} : ∀ {xs : List D}, (∀ x ∈ xs, ∃ i : Nat, x = .int i ∧ i < n) → ∃ L : List Nat, xs = natsD L ∧ (∀ x ∈ L, x < n)
  | [], _ => ⟨[], rfl, nofun⟩
  | x :: xs, h => by
    obtain ⟨i, rfl, hi⟩ := h x List.mem_cons_self
    obtain ⟨L, rfl, hL⟩ := nats_of fun y hy => h y (List.mem_cons_of_mem _ hy)
    refine ⟨i :: L, rfl, fun y hy => ?_⟩
    rcases List.mem_cons.mp hy with rfl | hy
    · exact hi
    · exact hL y hy
theorem eqOk_nats (n : Nat) (l : List Nat) : D.eqOkL n (natsD l) = true := by rw [natsD_ints]; exact eqOkL_ints n _
theorem eqv_nats (l : List Nat) (x : Nat) : ((natsD l).any fun y => D.eqv y (.int x)) = decide (x ∈ l) := by
  unfold natsD
  rw [List.any_map]
  apply Bool.eq_iff_iff.mpr
  rw [List.any_eq_true, decide_eq_true_iff]
  constructor
  · rintro ⟨y, hy, h⟩
    have h : ((y : Int) == (x : Int)) = true := h
    have := eq_of_beq h
    have : y = x := by omega
    exact this ▸ hy
  · intro h
    exact ⟨x, h, by show ((x : Int) == (x : Int)) = true; exact beq_self_eq_true _⟩
theorem nmem_nats (x : Nat) (l : List Nat) : cmpop .nmem (.int x) (.lst (natsD l)) = some (.bl (decide (x ∉ l))) := by
  have h1 : memOk (.int (x : Int)) (natsD l) = true := by unfold memOk; rw [eqOk_nats]; rfl
  show (if _ then _ else _) = _
  rw [if_pos h1, eqv_nats]
  by_cases h : x ∈ l <;> simp [h]
theorem nmem_natsT (x : Nat) (l : List Nat) : cmpop .nmem (.int x) (.tup (natsD l)) = some (.bl (decide (x ∉ l))) := nmem_nats x l
theorem natsD_len (l : List Nat) : (natsD l).length = l.length := by unfold natsD; rw [List.length_map]
theorem natsD_app (l m : List Nat) : natsD l ++ natsD m = natsD (l ++ m) := by unfold natsD; rw [List.map_append]
def ownN (ns : List Nat) : M := .lst ((natsD ns).map M.leaf)
theorem ownN_app (ns : List Nat) (a : Nat) : M.lst (((natsD ns).map M.leaf) ++ [M.leaf (.int a)]) = ownN (ns ++ [a]) := by
  simp [ownN, natsD]
theorem ownN_fz (ns : List Nat) : (ownN ns).fz = .lst (natsD ns) := by show D.lst (M.fzL _) = _; rw [fzL_leaf]
/-! ### sorted numbers -/
theorem sortInts_cons (x : Int) (l : List Int) : sortInts (x :: l) = insInt x (sortInts l) := rfl
theorem mem_insInt {x z : Int} : ∀ {l : List Int}, z ∈ insInt x l ↔ z = x ∨ z ∈ l
  | [] => by simp [insInt]
  | y :: ys => by
    unfold insInt
    split
    · simp
    · rw [List.mem_cons, mem_insInt (l := ys), List.mem_cons]
      constructor
      · rintro (h | h | h)
        · exact .inr (.inl h)
        · exact .inl h
        · exact .inr (.inr h)
      · rintro (h | h | h)
        · exact .inr (.inl h)
        · exact .inl h
        · exact .inr (.inr h)
theorem mem_sortInts {z : Int} : ∀ {l : List Int}, z ∈ sortInts l ↔ z ∈ l
  | [] => Iff.rfl
  | x :: l => by rw [sortInts_cons, mem_insInt, mem_sortInts (l := l), List.mem_cons]
theorem len_insInt (x : Int) : ∀ l : List Int, (insInt x l).length = l.length + 1
  | [] => rfl
  | y :: ys => by
    unfold insInt
    split
    · rfl
    · rw [List.length_cons, len_insInt x ys]; rfl
theorem len_sortInts : ∀ l : List Int, (sortInts l).length = l.length
  | [] => rfl
  | x :: l => by rw [sortInts_cons, len_insInt, len_sortInts l]; rfl
theorem ins_pw {x : Int} : ∀ {l : List Int}, l.Pairwise (· < ·) → x ∉ l → (insInt x l).Pairwise (· < ·)
  | [], _, _ => by simp [insInt]
  | y :: ys, h, hx => by
    have h' := List.pairwise_cons.mp h
    have hxy : x ≠ y := fun e => hx (e ▸ List.mem_cons_self)
    unfold insInt
    split
    · rename_i c
      refine List.pairwise_cons.mpr ⟨fun z hz => ?_, h⟩
      rcases List.mem_cons.mp hz with rfl | hz
      · omega
      · have := h'.1 z hz; omega
    · rename_i c
      refine List.pairwise_cons.mpr ⟨fun z hz => ?_, ins_pw h'.2 fun m => hx (List.mem_cons_of_mem _ m)⟩
      rcases mem_insInt.mp hz with rfl | hz
      · omega
      · exact h'.1 z hz
theorem sortInts_pw : ∀ {l : List Int}, l.Nodup → (sortInts l).Pairwise (· < ·)
  | [], _ => List.Pairwise.nil
  | x :: l, h => by
    have h' := List.nodup_cons.mp h
    rw [sortInts_cons]
    exact ins_pw (sortInts_pw h'.2) fun m => h'.1 (mem_sortInts.mp m)
/-- sorted, of natural numbers that are unlike -/
theorem sort_nats {l : List Nat} (h : l.Nodup) : ∃ m : List Nat, sortedD (natsD l) = some (.lst (natsD m)) ∧ m.Pairwise (· < ·) ∧ (∀ x, x ∈ m ↔ x ∈ l) ∧ m.length = l.length := by
  have hn : (l.map fun n : Nat => (n : Int)).Nodup := by
    unfold List.Nodup at h ⊢
    rw [List.pairwise_map]
    exact h.imp fun h e => h (by omega)
  have hp := sortInts_pw hn
  have hm : ∀ z, z ∈ sortInts (l.map fun n : Nat => (n : Int)) → 0 ≤ z := fun z hz => by
    obtain ⟨k, _, rfl⟩ := List.mem_map.mp (mem_sortInts.mp hz)
    omega
  refine ⟨(sortInts (l.map fun n : Nat => (n : Int))).map Int.toNat, ?_, ?_, fun x => ?_, by rw [List.length_map, len_sortInts, List.length_map]⟩
  · unfold sortedD
    rw [gInts_nats]
    show some (D.lst ((sortInts _).map D.int)) = _
    congr 2
    unfold natsD
    rw [List.map_map]
    apply List.map_congr_left
    intro z hz
    show D.int z = D.int ((z.toNat : Nat) : Int)
    rw [Int.toNat_of_nonneg (hm z hz)]
  · rw [List.pairwise_map]
    exact (List.Pairwise.and_mem.mp hp).imp fun ⟨ha, hb, hlt⟩ => by
      have := hm _ ha
      have := hm _ hb
      omega
  · constructor
    · intro hx
      obtain ⟨z, hz, rfl⟩ := List.mem_map.mp hx
      obtain ⟨k, hk, rfl⟩ := List.mem_map.mp (mem_sortInts.mp hz)
      simpa using hk
    · intro hx
      exact List.mem_map.mpr ⟨(x : Int), mem_sortInts.mpr (List.mem_map.mpr ⟨x, hx, rfl⟩), by simp⟩
end Py
namespace Py
open PySem
theorem ownN_val (ns : List Nat) : M.val (ownN ns) = (.lst (natsD ns), true) := by show (M.fz (ownN ns), true) = _; rw [ownN_fz]
theorem ownN_isLst (ns : List Nat) : isLst (some (ownN ns)) = true := rfl
theorem ownN_push (ns : List Nat) (a : Nat) (h : ns.length < 16777216) : mutM .append [.int a] (ownN ns) = some (ownN (ns ++ [a]), .non) := by
  show (if decide (((natsD ns).map M.leaf).length < szLine) = true then some (M.lst (((natsD ns).map M.leaf) ++ [M.leaf (.int a)]), D.non) else none) = _
  rw [if_pos (decide_eq_true (by rw [List.length_map, natsD_len]; exact h)), ownN_app]
theorem ownN_ix {ns : List Nat} {k : Nat} (h : k < ns.length) : mIndex (ownN ns) (.int k) = some (.leaf (.int (ns.getD k 0))) := by
  show ((ixN ((natsD ns).map M.leaf).length (k : Int)).bind fun j => ((natsD ns).map M.leaf)[j]?) = _
  have e : ixN ((natsD ns).map M.leaf).length (k : Int) = some k := by
    unfold ixN
    rw [List.length_map, natsD_len, if_pos (by omega), if_pos (by omega)]
    rfl
  rw [e]
  show ((natsD ns).map M.leaf)[k]? = _
  rw [natsD, List.getElem?_map, List.getElem?_map, List.getElem?_eq_getElem h, List.getD_eq_getElem?_getD, List.getElem?_eq_getElem h]
  rfl
theorem getD_mem {ns : List Nat} {k : Nat} (h : k < ns.length) : ns.getD k 0 ∈ ns := by
  rw [List.getD_eq_getElem?_getD, List.getElem?_eq_getElem h]
  exact List.getElem_mem h
theorem own1_nats (ns : List Nat) : own1 (.lst (natsD ns)) = some (ownN ns) := rfl
theorem lenB (xs : List D) : bltin .len [.lst xs] = some (.int xs.length) := rfl
theorem lenBT (xs : List D) : bltin .len [.tup xs] = some (.int xs.length) := rfl
end Py
namespace Py
theorem valL (d : D) : M.val (.leaf d) = (d, false) := rfl
end Py
namespace Py
open PySem
/-- a comprehension over range whose test changes things: some of the numbers, in order -/
theorem compLoop_fil {f : D → Env → R (List D)} {I : Env → Prop} : ∀ (l : List Nat) (G : Env), I G → (∀ k ∈ l, ∀ G, I G → ∃ (G' : Env) (b : Bool), f (.int (k : Nat)) G = .ok G' (if b then [.int (k : Nat)] else []) ∧ I G') →
    ∃ (G' : Env) (ns : List Nat), compLoop f (l.map fun k : Nat => D.int k) G = .ok G' (natsD ns) ∧ I G' ∧ ns.Sublist l
  | [], G, h, _ => ⟨G, [], rfl, h, List.Sublist.refl _⟩
  | k :: l, G, h, H => by
    obtain ⟨G1, b, e1, i1⟩ := H k List.mem_cons_self G h
    obtain ⟨G2, ns, e2, i2, s2⟩ := compLoop_fil l G1 i1 fun j hj => H j (List.mem_cons_of_mem _ hj)
    rw [List.map_cons, compLoop, e1]
    show ∃ G' ns, ((compLoop f (l.map fun k : Nat => D.int k) G1).bind fun G2 r => R.ok G2 ((if b then [D.int (k : Nat)] else []) ++ r)) = _ ∧ _
    rw [e2]
    cases b with
    | true => exact ⟨G2, k :: ns, rfl, i2, s2.cons_cons k⟩
    | false => exact ⟨G2, ns, rfl, i2, s2.cons k⟩
theorem ev_lcFil {C : Ctx} {orc : Orc} {v : Nat} {a elt : E} {ifs : List E} {G G1 : Env} {b : Bool} {n : Nat} (I : Env → Prop) (h1 : ev C orc a G = .ok G1 (.int n, b)) (hn : n ≤ 1000000) (ha : anyOw G1 [v] = false) (hi : I (wipe G1 [v]))
    (hs : ∀ k : Nat, k < n → ∀ G, I G → ∃ (G' : Env) (t : Bool), lcStep C orc [v] (.n v) ifs elt (.int k) G = .ok G' (if t then [.int k] else []) ∧ I G') :
    ∃ (G2 : Env) (ns : List Nat), ev C orc (.lc [v] (.n v) (.rng1 a) ifs elt) G = .ok (unwipe G1 G2 [v]) (.lst (natsD ns), false) ∧ I G2 ∧ ns.Sublist (List.range n) := by
  obtain ⟨G2, ns, e, i2, s2⟩ := compLoop_fil (f := lcStep C orc [v] (.n v) ifs elt) (I := I) (List.range n) (wipe G1 [v]) hi fun k hk => hs k (List.mem_range.mp hk)
  refine ⟨G2, ns, ?_, i2, s2⟩
  rw [ev, evIt_rng1 h1 (rngOk_nat n hn)]
  show (if _ then R.bad else R.bind (compLoop (lcStep C orc [v] (.n v) ifs elt) ((List.range n).map fun k : Nat => D.int k) (wipe G1 [v])) _) = _
  have hl := s2.length_le
  rw [List.length_range] at hl
  have e4 : lenOk (natsD ns).length = true := by
    rw [natsD_len]
    exact decide_eq_true (by show _ ≤ 16777216; omega)
  rw [e]
  simp only [ha, Bool.or_false, Bool.false_and, Bool.false_eq_true, if_false, R.bind_ok, e4, if_true]
end Py
namespace Py
open PySem
theorem erase_map {α β : Type} (f : α → β) : ∀ (l : List α) (j : Nat), (l.map f).eraseIdx j = (l.eraseIdx j).map f
  | [], _ => rfl
  | _ :: _, 0 => rfl
  | x :: l, j + 1 => by
    show f x :: (l.map f).eraseIdx j = f x :: (l.eraseIdx j).map f
    rw [erase_map f l j]
theorem ownN_popAt {l : List Nat} {j : Nat} (h : j < l.length) (hl : l.length ≤ 1000) : mutM .popAt [.int j] (ownN l) = some (ownN (l.eraseIdx j), .int (l.getD j 0)) := by
  show ((ixN ((natsD l).map M.leaf).length (j : Int)).bind fun j => (match ((natsD l).map M.leaf)[j]? with
    | some (.leaf v) => if ltp ((natsD l).map M.leaf).length 30 then some (M.lst (((natsD l).map M.leaf).eraseIdx j), v) else none
    | _ => none)) = _
  have e : ixN ((natsD l).map M.leaf).length (j : Int) = some j := by
    unfold ixN
    rw [List.length_map, natsD_len, if_pos (by omega), if_pos (by omega)]
    rfl
  have e2 : ((natsD l).map M.leaf)[j]? = some (.leaf (.int (l.getD j 0))) := by
    rw [natsD, List.getElem?_map, List.getElem?_map, List.getElem?_eq_getElem h, List.getD_eq_getElem?_getD, List.getElem?_eq_getElem h]
    rfl
  have e3 : ltp ((natsD l).map M.leaf).length 30 = true := ltp_of (by decide) (by rw [List.length_map, natsD_len]; show _ < 1073741824; omega)
  rw [e]
  show (match ((natsD l).map M.leaf)[j]? with
    | some (.leaf v) => if ltp ((natsD l).map M.leaf).length 30 then some (M.lst (((natsD l).map M.leaf).eraseIdx j), v) else none
    | _ => none) = _
  rw [e2]
  show (if ltp ((natsD l).map M.leaf).length 30 = true then _ else _) = _
  rw [if_pos e3]
  unfold ownN natsD
  rw [erase_map, erase_map]
mutual
/-- ints, and tuples of such, so deep -/
def pln : Nat → D → Bool
  | _, .int _ => true
  | n + 1, .tup xs => decide (xs.length ≤ 1000) && plnL n xs
  | _, _ => false
def plnL : Nat → List D → Bool
  | _, [] => true
  | n, x :: xs => pln n x && plnL n xs
end
theorem pln_get {n : Nat} : ∀ {xs : List D} {k : Nat} (h : k < xs.length), plnL n xs = true → pln n xs[k] = true
  | x :: xs, 0, _, h => by rw [plnL, Bool.and_eq_true] at h; exact h.1
  | x :: xs, k + 1, hk, h => by rw [plnL, Bool.and_eq_true] at h; exact pln_get (xs := xs) (by simpa using hk) h.2
theorem pln_ints (n : Nat) (l : List Int) : plnL n (l.map D.int) = true := by
  induction l with
  | nil => cases n <;> rfl
  | cons x l ih => rw [List.map_cons, plnL, ih]; cases n <;> rfl
theorem pln_nats (n : Nat) (l : List Nat) : plnL n (natsD l) = true := by rw [natsD_ints]; exact pln_ints n _
end Py
end
section
set_option Elab.async false
set_option linter.all false
set_option maxRecDepth 100000
namespace Lw
open Py
/-! ### masks -/
def mk : List Bool → Nat
  | [] => 0
  | b :: bs => b.toNat + 2 * mk bs
theorem mk_bit : ∀ (bs : List Bool) (i : Nat), (mk bs).testBit i = bs.getD i false
  | [], i => by simp [mk]
  | b :: bs, 0 => by
    rw [mk, Nat.testBit_zero]
    cases b <;> simp <;> omega
  | b :: bs, i + 1 => by
    rw [mk, Nat.testBit_succ]
    have : (b.toNat + 2 * mk bs) / 2 = mk bs := by cases b <;> simp <;> omega
    rw [this, mk_bit bs i]
    rfl
theorem mk_and : ∀ (bs cs : List Bool), bs.length = cs.length → mk bs &&& mk cs = mk (List.zipWith (· && ·) bs cs) := by
  intro bs cs h
  apply Nat.eq_of_testBit_eq
  intro i
  rw [Nat.testBit_and, mk_bit, mk_bit, mk_bit]
  rw [List.getD_eq_getElem?_getD, List.getD_eq_getElem?_getD, List.getD_eq_getElem?_getD, List.getElem?_zipWith]
  by_cases hi : i < bs.length
  · rw [List.getElem?_eq_getElem hi, List.getElem?_eq_getElem (by omega)]
    rfl
  · rw [List.getElem?_eq_none (by omega), List.getElem?_eq_none (by omega)]
    rfl
theorem mk_sub : ∀ (bs cs : List Bool), bs.length = cs.length → mk (List.zipWith (· && ·) bs cs) ≤ mk bs ∧ mk bs - mk (List.zipWith (· && ·) bs cs) = mk (List.zipWith (fun b c => b && !c) bs cs)
  | [], [], _ => ⟨Nat.le_refl _, rfl⟩
  | b :: bs, c :: cs, h => by
    obtain ⟨h1, h2⟩ := mk_sub bs cs (by simpa using h)
    rw [List.zipWith_cons_cons, List.zipWith_cons_cons, mk, mk, mk, ← h2]
    cases b <;> cases c <;> simp <;> omega
theorem mk_pos : ∀ bs : List Bool, 0 < mk bs ↔ true ∈ bs
  | [] => by simp [mk]
  | b :: bs => by
    rw [mk, List.mem_cons, ← mk_pos bs]
    cases b <;> simp <;> omega
theorem mk_all : ∀ n, mk (List.replicate n true) = 2 ^ n - 1
  | 0 => rfl
  | n + 1 => by
    rw [List.replicate_succ, mk, mk_all n, Nat.pow_succ]
    have : 1 ≤ 2 ^ n := Nat.pow_pos (by decide)
    simp
    omega
theorem mk_lt : ∀ bs : List Bool, mk bs < 2 ^ bs.length
  | [] => by decide
  | b :: bs => by
    have := mk_lt bs
    rw [mk, List.length_cons, Nat.pow_succ]
    cases b <;> simp <;> omega
def orL (l : List Nat) : Nat := l.foldl (fun m i => m ||| 2 ^ i) 0
theorem orL_bit (l : List Nat) : ∀ (m j : Nat), (l.foldl (fun m i => m ||| 2 ^ i) m).testBit j = (m.testBit j || decide (j ∈ l)) := by
  induction l with
  | nil => intro m j; simp
  | cons x l ih =>
    intro m j
    rw [List.foldl_cons, ih, Nat.testBit_or, Nat.testBit_two_pow]
    by_cases h : x = j
    · subst h; simp
    · have h' : ¬ j = x := fun e => h e.symm
      simp [h, h']
theorem orL_mk (bs : List Bool) : orL ((List.range bs.length).filter fun i => bs.getD i false) = mk bs := by
  apply Nat.eq_of_testBit_eq
  intro j
  unfold orL
  rw [orL_bit, mk_bit, Nat.zero_testBit, Bool.false_or]
  apply Bool.eq_iff_iff.mpr
  rw [decide_eq_true_iff, List.mem_filter, List.mem_range]
  constructor
  · exact fun h => h.2
  · intro h
    refine ⟨?_, h⟩
    by_cases hj : j < bs.length
    · exact hj
    · rw [List.getD_eq_getElem?_getD, List.getElem?_eq_none (by omega)] at h
      cases h
/-! ### ladders -/
def pat (i n : Nat) : List Int := List.replicate i 1 ++ List.replicate (n - i) 0
def rowAt (r : List Int) (pts : List Nat) : List Int := pts.map fun p => r.getD p 0
def there (rs : List (List Int)) (pts : List Nat) : List (List Int) := rs.map fun r => rowAt r pts
def okB (rs : List (List Int)) (pts : List Nat) : Bool := (List.range (pts.length + 1)).all fun i => decide (pat i pts.length ∈ there rs pts)
def LV (rs : List (List Int)) (s : Nat) : Nat → List (List Nat)
  | 0 => [[]]
  | k + 1 => (LV rs s k).flatMap fun pts => (((List.range s).filter fun q => decide (q ∉ pts)).map fun p => pts ++ [p]).filter fun g => okB rs g
def bitsOf (rs : List (List Int)) (pts : List Nat) (i : Nat) : List Bool := rs.map fun r => decide (rowAt r pts = pat i pts.length)
def masks (rs : List (List Int)) (pts : List Nat) : List Nat := (List.range (pts.length + 1)).map fun i => mk (bitsOf rs pts i)
def yesM (rs : List (List Int)) (p : Nat) : Nat := mk (rs.map fun r => decide (r.getD p 0 = 1))
theorem pat_len {i n : Nat} (h : i ≤ n) : (pat i n).length = n := by unfold pat; rw [List.length_append, List.length_replicate, List.length_replicate]; omega
theorem rowAt_len (r : List Int) (pts : List Nat) : (rowAt r pts).length = pts.length := by unfold rowAt; rw [List.length_map]
theorem pat_succ0 {i n : Nat} (h : i ≤ n) : pat i (n + 1) = pat i n ++ [0] := by
  unfold pat
  rw [show n + 1 - i = (n - i) + 1 by omega, List.replicate_succ', List.append_assoc]
theorem pat_full (n : Nat) : pat (n + 1) (n + 1) = pat n n ++ [1] := by
  unfold pat
  rw [Nat.sub_self, Nat.sub_self, List.replicate_zero, List.append_nil, List.append_nil, List.replicate_succ']
theorem rowAt_snoc (r : List Int) (pts : List Nat) (p : Nat) : rowAt r (pts ++ [p]) = rowAt r pts ++ [r.getD p 0] := by unfold rowAt; rw [List.map_append]; rfl
theorem bits_len (rs : List (List Int)) (pts : List Nat) (i : Nat) : (bitsOf rs pts i).length = rs.length := by unfold bitsOf; rw [List.length_map]
theorem bit01 {rs : List (List Int)} {s : Nat} (hb : ∀ r ∈ rs, ∀ x ∈ r, x = 0 ∨ x = 1) (hl : ∀ r ∈ rs, r.length = s) {p : Nat} (hp : p < s) {r : List Int} (hr : r ∈ rs) : r.getD p 0 = 0 ∨ r.getD p 0 = 1 := by
  have h := hl r hr
  rw [List.getD_eq_getElem?_getD, List.getElem?_eq_getElem (by omega)]
  exact hb r hr _ (List.getElem_mem _)
section
variable {rs : List (List Int)} {s : Nat} (hb : ∀ r ∈ rs, ∀ x ∈ r, x = 0 ∨ x = 1) (hl : ∀ r ∈ rs, r.length = s)
include hb hl
theorem bits_no {pts : List Nat} {p i : Nat} (hp : p < s) (hi : i ≤ pts.length) : bitsOf rs (pts ++ [p]) i = List.zipWith (fun b c => b && !c) (bitsOf rs pts i) (rs.map fun r => decide (r.getD p 0 = 1)) := by
  unfold bitsOf
  rw [List.zipWith_map, List.zipWith_self]
  apply List.map_congr_left
  intro r hr
  rw [rowAt_snoc, List.length_append, List.length_singleton, pat_succ0 hi]
  have h01 := bit01 hb hl hp hr
  generalize r.getD p 0 = v at *
  have hlen : (rowAt r pts).length = (pat i pts.length).length := by rw [rowAt_len, pat_len hi]
  by_cases h1 : rowAt r pts = pat i pts.length
  · rcases h01 with h0 | h0
    · subst h0; simp [h1]
    · subst h0
      have : ¬ (pat i pts.length ++ [(1 : Int)] = pat i pts.length ++ [0]) := fun e => by
        have := List.append_cancel_left e
        simp at this
      simp [h1, this]
  · have : ¬ (rowAt r pts ++ [v] = pat i pts.length ++ [0]) := fun e => h1 (List.append_inj_left e hlen)
    simp [h1, this]
theorem bits_yes {pts : List Nat} {p : Nat} (hp : p < s) : bitsOf rs (pts ++ [p]) (pts.length + 1) = List.zipWith (· && ·) (bitsOf rs pts pts.length) (rs.map fun r => decide (r.getD p 0 = 1)) := by
  unfold bitsOf
  rw [List.zipWith_map, List.zipWith_self]
  apply List.map_congr_left
  intro r hr
  rw [rowAt_snoc, List.length_append, List.length_singleton, pat_full]
  have hlen : (rowAt r pts).length = (pat pts.length pts.length).length := by rw [rowAt_len, pat_len (Nat.le_refl _)]
  by_cases h1 : rowAt r pts = pat pts.length pts.length
  · by_cases h0 : r.getD p 0 = 1
    · simp [h1, h0]
    · have : ¬ (pat pts.length pts.length ++ [r.getD p 0] = pat pts.length pts.length ++ [1]) := fun e => by
        have := List.append_cancel_left e
        simp at this
        exact h0 (by simpa using this)
      simp [h1, h0, this]
  · have : ¬ (rowAt r pts ++ [r.getD p 0] = pat pts.length pts.length ++ [1]) := fun e => h1 (List.append_inj_left e hlen)
    simp [h1, this]
theorem masks_step {pts : List Nat} {p : Nat} (hp : p < s) : masks rs (pts ++ [p]) = (masks rs pts).map (fun m => m - (m &&& yesM rs p)) ++ [mk (bitsOf rs pts pts.length) &&& yesM rs p] := by
  unfold masks
  rw [List.length_append, List.length_singleton, List.range_succ, List.map_append, List.map_map]
  congr 1
  · apply List.map_congr_left
    intro i hi
    have hi := List.mem_range.mp hi
    have e1 : (bitsOf rs pts i).length = (rs.map fun r => decide (r.getD p 0 = 1)).length := by rw [bits_len, List.length_map]
    show mk (bitsOf rs (pts ++ [p]) i) = mk (bitsOf rs pts i) - (mk (bitsOf rs pts i) &&& yesM rs p)
    rw [bits_no hb hl hp (by omega), yesM, mk_and _ _ e1, (mk_sub _ _ e1).2]
  · have e1 : (bitsOf rs pts pts.length).length = (rs.map fun r => decide (r.getD p 0 = 1)).length := by rw [bits_len, List.length_map]
    show [mk (bitsOf rs (pts ++ [p]) (pts.length + 1))] = _
    rw [bits_yes hb hl hp, yesM, mk_and _ _ e1]
end
theorem masks_pos (rs : List (List Int)) (pts : List Nat) : (∀ m ∈ masks rs pts, 0 < m) ↔ okB rs pts = true := by
  unfold masks okB
  rw [List.all_eq_true]
  constructor
  · intro h i hi
    have := h _ (List.mem_map.mpr ⟨i, hi, rfl⟩)
    rw [mk_pos] at this
    obtain ⟨r, hr, e⟩ := List.mem_map.mp this
    exact decide_eq_true (List.mem_map.mpr ⟨r, hr, of_decide_eq_true e⟩)
  · intro h m hm
    obtain ⟨i, hi, rfl⟩ := List.mem_map.mp hm
    rw [mk_pos]
    obtain ⟨r, hr, e⟩ := List.mem_map.mp (of_decide_eq_true (h i hi))
    exact List.mem_map.mpr ⟨r, hr, decide_eq_true e⟩
theorem ok_pat {rs : List (List Int)} {pts : List Nat} (h : okB rs pts = true) {i : Nat} (hi : i ≤ pts.length) : ∃ r ∈ rs, rowAt r pts = pat i pts.length := by
  unfold okB at h
  have := of_decide_eq_true (List.all_eq_true.mp h i (List.mem_range.mpr (by omega)))
  obtain ⟨r, hr, e⟩ := List.mem_map.mp this
  exact ⟨r, hr, e⟩
theorem ok_new {rs : List (List Int)} {pts : List Nat} {p : Nat} (h : okB rs (pts ++ [p]) = true) : p ∉ pts := by
  intro hp
  obtain ⟨r, hr, e⟩ := ok_pat h (i := pts.length) (by rw [List.length_append]; omega)
  rw [rowAt_snoc, List.length_append, List.length_singleton, pat_succ0 (Nat.le_refl _)] at e
  have hlen : (rowAt r pts).length = (pat pts.length pts.length).length := by rw [rowAt_len, pat_len (Nat.le_refl _)]
  have e1 := List.append_inj_left e hlen
  have e2 : r.getD p 0 = 0 := by simpa using List.append_inj_right e hlen
  have : r.getD p 0 ∈ rowAt r pts := List.mem_map.mpr ⟨p, hp, rfl⟩
  rw [e1, e2] at this
  unfold pat at this
  rw [Nat.sub_self, List.replicate_zero, List.append_nil] at this
  have := List.eq_of_mem_replicate this
  omega
theorem ok_pre {rs : List (List Int)} {pts : List Nat} {p : Nat} (h : okB rs (pts ++ [p]) = true) : okB rs pts = true := by
  unfold okB
  rw [List.all_eq_true]
  intro i hi
  have hi : i ≤ pts.length := by have := List.mem_range.mp hi; omega
  obtain ⟨r, hr, e⟩ := ok_pat h (i := i) (by rw [List.length_append]; omega)
  rw [rowAt_snoc, List.length_append, List.length_singleton, pat_succ0 hi] at e
  exact decide_eq_true (List.mem_map.mpr ⟨r, hr, List.append_inj_left e (by rw [rowAt_len, pat_len hi])⟩)
/-- the step of the program's levels, as that of the law's -/
theorem LV_succ (rs : List (List Int)) (s k : Nat) : LV rs s (k + 1) = (LV rs s k).flatMap fun pts => ((List.range s).filter fun p => okB rs (pts ++ [p])).map fun p => pts ++ [p] := by
  rw [LV]
  congr 1
  funext pts
  rw [List.filter_map, List.filter_filter]
  congr 1
  apply List.filter_congr
  intro p hp
  show (okB rs (pts ++ [p]) && decide (p ∉ pts)) = okB rs (pts ++ [p])
  cases h : okB rs (pts ++ [p]) with
  | false => rfl
  | true => rw [Bool.true_and]; exact decide_eq_true (ok_new h)
theorem LV_mem {rs : List (List Int)} {s : Nat} : ∀ {k : Nat} {pts : List Nat}, pts ∈ LV rs s k → pts.length = k ∧ (∀ p ∈ pts, p < s) ∧ pts.Nodup
  | 0, pts, h => by
    have : pts = [] := by simpa [LV] using h
    subst this
    exact ⟨rfl, nofun, List.nodup_nil⟩
  | k + 1, pts, h => by
    rw [LV_succ] at h
    obtain ⟨q, hq, h⟩ := List.mem_flatMap.mp h
    obtain ⟨p, hp, rfl⟩ := List.mem_map.mp h
    obtain ⟨h1, h2, h3⟩ := LV_mem hq
    have hp' := List.mem_filter.mp hp
    refine ⟨by rw [List.length_append, h1]; rfl, fun x hx => ?_, ?_⟩
    · rcases List.mem_append.mp hx with hx | hx
      · exact h2 x hx
      · rw [List.mem_singleton.mp hx]; exact List.mem_range.mp hp'.1
    · rw [List.nodup_append]
      refine ⟨h3, by simp, fun a ha b hb e => ok_new hp'.2 ?_⟩
      rw [List.mem_singleton.mp hb] at e
      exact e ▸ ha
theorem LV_le {rs : List (List Int)} {s k : Nat} {pts : List Nat} (h : pts ∈ LV rs s k) : k ≤ s := by
  obtain ⟨h1, h2, h3⟩ := LV_mem h
  have := h3.length_le_of_subset (l₂ := List.range s) fun x hx => List.mem_range.mpr (h2 x hx)
  rw [List.length_range] at this
  omega
theorem LV_end (rs : List (List Int)) (s : Nat) : LV rs s (s + 1) = [] := by
  cases h : LV rs s (s + 1) with
  | nil => rfl
  | cons x l => have := LV_le (rs := rs) (s := s) (k := s + 1) (pts := x) (by rw [h]; exact List.mem_cons_self); omega
theorem LV_len (rs : List (List Int)) (s : Nat) : ∀ k, (LV rs s k).length ≤ s ^ k
  | 0 => by simp [LV]
  | k + 1 => by
    rw [LV_succ, List.length_flatMap, Nat.pow_succ]
    have ih := LV_len rs s k
    have key : ∀ l : List (List Nat), (l.map fun pts => (((List.range s).filter fun p => okB rs (pts ++ [p])).map fun p => pts ++ [p]).length).sum ≤ l.length * s := by
      intro l
      induction l with
      | nil => simp
      | cons x l ih =>
        rw [List.map_cons, List.sum_cons, List.length_cons, Nat.succ_mul]
        have := List.length_filter_le (fun p => okB rs (x ++ [p])) (List.range s)
        rw [List.length_range] at this
        rw [List.length_map]
        omega
    exact Nat.le_trans (key _) (Nat.mul_le_mul_right s ih)
/-- a ladder of k steps -/
def Lad (rs : List (List Int)) (s k : Nat) : Prop := ∃ pts : List Nat, pts.length = k ∧ (∀ p ∈ pts, p < s) ∧ okB rs pts = true
theorem lad_LV {rs : List (List Int)} {s : Nat} (h0 : rs ≠ []) : ∀ {k : Nat}, LV rs s k ≠ [] ↔ Lad rs s k := by
  have up : ∀ (k : Nat) (pts : List Nat), pts.length = k → (∀ p ∈ pts, p < s) → okB rs pts = true → pts ∈ LV rs s k := by
    intro k
    induction k with
    | zero =>
      intro pts hl _ _
      rw [List.length_eq_zero_iff.mp hl]
      exact List.mem_singleton.mpr rfl
    | succ k ih =>
      intro pts hl hp ok
      have hne : pts ≠ [] := by intro e; rw [e] at hl; cases hl
      have e := List.dropLast_concat_getLast hne
      rw [← e] at ok ⊢
      have hl' : pts.dropLast.length = k := by rw [List.length_dropLast]; omega
      rw [LV_succ]
      refine List.mem_flatMap.mpr ⟨pts.dropLast, ih _ hl' (fun p hp' => hp p ((List.dropLast_sublist pts).subset hp')) (ok_pre ok), List.mem_map.mpr ⟨pts.getLast hne, List.mem_filter.mpr ⟨List.mem_range.mpr (hp _ (List.getLast_mem hne)), ok⟩, rfl⟩⟩
  have okm : ∀ (k : Nat) (pts : List Nat), pts ∈ LV rs s k → okB rs pts = true := by
    intro k pts h
    cases k with
    | zero =>
      have : pts = [] := by simpa [LV] using h
      subst this
      unfold okB
      rw [List.all_eq_true]
      intro i hi
      have : i = 0 := by have := List.mem_range.mp hi; simpa using this
      subst this
      cases rs with
      | nil => exact absurd rfl h0
      | cons r l => exact decide_eq_true (List.mem_map.mpr ⟨r, List.mem_cons_self, rfl⟩)
    | succ k =>
      rw [LV_succ] at h
      obtain ⟨q, hq, h⟩ := List.mem_flatMap.mp h
      obtain ⟨p, hp, rfl⟩ := List.mem_map.mp h
      exact (List.mem_filter.mp hp).2
  intro k
  constructor
  · intro h
    obtain ⟨pts, l, e⟩ := List.exists_cons_of_ne_nil h
    have hm : pts ∈ LV rs s k := by rw [e]; exact List.mem_cons_self
    exact ⟨pts, (LV_mem hm).1, (LV_mem hm).2.1, okm k pts hm⟩
  · rintro ⟨pts, h1, h2, h3⟩ e
    have := up k pts h1 h2 h3
    rw [e] at this
    cases this
end Lw
namespace Lw
open Py
def encL (rs : List (List Int)) (pts : List Nat) : D := .tup [.tup (natsD pts), .tup (natsD (masks rs pts))]
theorem minL_pos {l : List Nat} (h : l ≠ []) : (0 < minL (l.map fun n : Nat => (n : Int))) ↔ ∀ x ∈ l, 0 < x := by
  cases l with
  | nil => exact absurd rfl h
  | cons x l =>
    rw [List.map_cons]
    unfold minL
    have key : ∀ (l : List Nat) (a : Int), 0 ≤ a → (0 < (l.map fun n : Nat => (n : Int)).foldl (fun a b => if b < a then b else a) a ↔ 0 < a ∧ ∀ x ∈ l, 0 < x) := by
      intro l
      induction l with
      | nil => intro a _; simp
      | cons y l ih =>
        intro a ha
        rw [List.map_cons, List.foldl_cons, ih _ (by split <;> omega)]
        constructor
        · rintro ⟨h1, h2⟩
          split at h1
          · refine ⟨by omega, fun x hx => ?_⟩
            rcases List.mem_cons.mp hx with rfl | hx
            · omega
            · exact h2 x hx
          · refine ⟨h1, fun x hx => ?_⟩
            rcases List.mem_cons.mp hx with rfl | hx
            · omega
            · exact h2 x hx
        · rintro ⟨h1, h2⟩
          have := h2 y List.mem_cons_self
          exact ⟨by split <;> omega, fun x hx => h2 x (List.mem_cons_of_mem _ hx)⟩
    show 0 < List.foldl _ (x : Int) _ ↔ _
    rw [key l x (by omega)]
    constructor
    · rintro ⟨h1, h2⟩ y hy
      rcases List.mem_cons.mp hy with rfl | hy
      · omega
      · exact h2 y hy
    · intro h
      have := h x List.mem_cons_self
      exact ⟨by omega, fun y hy => h y (List.mem_cons_of_mem _ hy)⟩
/-- how many steps the longest ladder has -/
def top (rs : List (List Int)) (s : Nat) : Nat → Nat → Nat
  | 0, k => k
  | f + 1, k => if (LV rs s (k + 1)).isEmpty then k else top rs s f (k + 1)
theorem top_facts (rs : List (List Int)) (s : Nat) : ∀ (f k : Nat), k + f = s → LV rs s k ≠ [] → k ≤ top rs s f k ∧ top rs s f k ≤ s ∧ LV rs s (top rs s f k + 1) = [] ∧ (∀ j, k ≤ j → j ≤ top rs s f k → LV rs s j ≠ [])
  | 0, k, e, h => by
    have : k = s := by omega
    subst this
    exact ⟨Nat.le_refl _, Nat.le_refl _, LV_end rs k, fun j h1 h2 => by
      have h2 : j ≤ k := h2
      rw [show j = k by omega]; exact h⟩
  | f + 1, k, e, h => by
    unfold top
    split
    · rename_i c
      exact ⟨Nat.le_refl _, by omega, List.isEmpty_iff.mp c, fun j h1 h2 => by rw [show j = k by omega]; exact h⟩
    · rename_i c
      have h' : LV rs s (k + 1) ≠ [] := fun z => c (by rw [z]; rfl)
      obtain ⟨a1, a2, a3, a4⟩ := top_facts rs s f (k + 1) (by omega) h'
      refine ⟨by omega, a2, a3, fun j h1 h2 => ?_⟩
      by_cases hj : j = k
      · rw [hj]; exact h
      · exact a4 j (by omega) h2
theorem top_congr {rs rs' : List (List Int)} {s : Nat} (h : ∀ k, LV rs s k ≠ [] ↔ LV rs' s k ≠ []) : ∀ f k, top rs s f k = top rs' s f k
  | 0, k => rfl
  | f + 1, k => by
    unfold top
    have : (LV rs s (k + 1)).isEmpty = (LV rs' s (k + 1)).isEmpty := by
      have := h (k + 1)
      cases h1 : LV rs s (k + 1) <;> cases h2 : LV rs' s (k + 1) <;> simp_all
    rw [this, top_congr h f (k + 1)]
def firstT (bs : List Bool) : Nat := bs.findIdx id
def firstsOf (rs : List (List Int)) (pts : List Nat) : List Nat := (List.range (pts.length + 1)).map fun i => firstT (bitsOf rs pts i)
/-- what both tell -/
def ladD (rs : List (List Int)) (s : Nat) : D := .tup [.tup (natsD ((LV rs s (top rs s s 0)).headD [])), .tup (natsD (firstsOf rs ((LV rs s (top rs s s 0)).headD [])))]
end Lw
namespace Lw
open Py
theorem LV_ok {rs : List (List Int)} {s : Nat} (h0 : rs ≠ []) {k : Nat} {pts : List Nat} (h : pts ∈ LV rs s k) : okB rs pts = true := by
  cases k with
  | zero =>
    have : pts = [] := by simpa [LV] using h
    subst this
    unfold okB
    rw [List.all_eq_true]
    intro i hi
    have : i = 0 := by have := List.mem_range.mp hi; simpa using this
    subst this
    cases rs with
    | nil => exact absurd rfl h0
    | cons r l => exact decide_eq_true (List.mem_map.mpr ⟨r, List.mem_cons_self, rfl⟩)
  | succ k =>
    rw [LV_succ] at h
    obtain ⟨q, hq, h⟩ := List.mem_flatMap.mp h
    obtain ⟨p, hp, rfl⟩ := List.mem_map.mp h
    exact (List.mem_filter.mp hp).2
theorem LV_small (rs : List (List Int)) {s k : Nat} (hs : s ≤ 5) (hk : k ≤ s) : (LV rs s k).length ≤ 3125 := by
  have h1 := LV_len rs s k
  have h2 : s ^ k ≤ 5 ^ k := Nat.pow_le_pow_left hs k
  have h3 : 5 ^ k ≤ 5 ^ 5 := Nat.pow_le_pow_right (by decide) (by omega)
  have : 5 ^ 5 = 3125 := by decide
  omega
theorem masks_nil (rs : List (List Int)) : masks rs [] = [2 ^ rs.length - 1] := by
  unfold masks bitsOf
  have : rs.map (fun r => decide (rowAt r [] = pat 0 ([] : List Nat).length)) = List.replicate rs.length true := by
    rw [List.eq_replicate_iff]
    refine ⟨by simp, fun b hb => ?_⟩
    obtain ⟨r, _, rfl⟩ := List.mem_map.mp hb
    rfl
  show [mk (rs.map fun r => decide (rowAt r [] = pat 0 ([] : List Nat).length))] = _
  rw [this, mk_all]
theorem bit_and (bs : List Bool) (k : Nat) : (mk bs &&& 2 ^ k = 0) ↔ bs.getD k false = false := by
  rw [← mk_bit]
  constructor
  · intro h
    have := congrArg (fun n => Nat.testBit n k) h
    simp only [Nat.testBit_and, Nat.testBit_two_pow_self, Bool.and_true, Nat.zero_testBit] at this
    exact this
  · intro h
    apply Nat.eq_of_testBit_eq
    intro i
    rw [Nat.testBit_and, Nat.testBit_two_pow, Nat.zero_testBit]
    by_cases e : k = i
    · subst e; rw [h]; rfl
    · simp [e]
theorem firstT_lt {bs : List Bool} (h : true ∈ bs) : firstT bs < bs.length := List.findIdx_lt_length_of_exists ⟨true, h, rfl⟩
theorem firstT_at {bs : List Bool} (h : true ∈ bs) : bs.getD (firstT bs) false = true := by
  have := firstT_lt h
  rw [List.getD_eq_getElem?_getD, List.getElem?_eq_getElem this]
  exact List.findIdx_getElem (w := this) (p := id)
theorem firstT_lo {bs : List Bool} {k : Nat} (h : k < firstT bs) : bs.getD k false = false := by
  have hl : k < bs.length := by have := List.findIdx_le_length (p := (id : Bool → Bool)) (xs := bs); unfold firstT at h; omega
  rw [List.getD_eq_getElem?_getD, List.getElem?_eq_getElem hl]
  have := List.not_of_lt_findIdx (p := (id : Bool → Bool)) (xs := bs) h
  simpa using this
end Lw
namespace Lw
open Py
/-! ### places exchanged, all turned -/
def tx (t : Nat) (x : Int) : Int := if t = 0 then x else 1 - x
def mv (ord : List Nat) (t : Nat) (r : List Int) : List Int := ord.map fun p => tx t (r.getD p 0)
theorem tx_bit {t : Nat} {x : Int} (h : x = 0 ∨ x = 1) : tx t x = 0 ∨ tx t x = 1 := by
  unfold tx
  split
  · exact h
  · omega
theorem tx_inj {t : Nat} {x y : Int} (h : tx t x = tx t y) : x = y := by
  unfold tx at h
  split at h
  · exact h
  · omega
theorem mv_get {ord : List Nat} {t : Nat} {r : List Int} {j : Nat} (h : j < ord.length) : (mv ord t r).getD j 0 = tx t (r.getD (ord.getD j 0) 0) := by
  unfold mv
  rw [List.getD_eq_getElem?_getD, List.getElem?_map, List.getElem?_eq_getElem h, List.getD_eq_getElem?_getD (l := ord), List.getElem?_eq_getElem h]
  rfl
theorem pat_rev {i L : Nat} (h : i ≤ L) : (pat (L - i) L).map (fun x => 1 - x) = (pat i L).reverse := by
  unfold pat
  rw [List.map_append, List.map_replicate, List.map_replicate, List.reverse_append, List.reverse_replicate, List.reverse_replicate]
  rw [show L - (L - i) = i by omega]
  rfl
theorem pat_comp {i L : Nat} (h : i ≤ L) : ((pat i L).map (fun x => 1 - x)).reverse = pat (L - i) L := by
  have := pat_rev (i := L - i) (L := L) (by omega)
  rw [show L - (L - i) = i by omega] at this
  rw [this, List.reverse_reverse]
section
variable {ord : List Nat} {s : Nat} (hp : ord.Perm (List.range s))
include hp
theorem ord_len : ord.length = s := by have := hp.length_eq; rwa [List.length_range] at this
theorem ord_lt {j : Nat} (h : j < s) : ord.getD j 0 < s := by
  have hl := ord_len hp
  rw [List.getD_eq_getElem?_getD, List.getElem?_eq_getElem (by omega)]
  exact List.mem_range.mp (hp.mem_iff.mp (List.getElem_mem _))
theorem ord_sur {p : Nat} (h : p < s) : ∃ j, j < s ∧ ord.getD j 0 = p := by
  have hm := hp.mem_iff.mpr (List.mem_range.mpr h)
  obtain ⟨j, hj, e⟩ := List.getElem_of_mem hm
  have hl := ord_len hp
  refine ⟨j, by omega, ?_⟩
  rw [List.getD_eq_getElem?_getD, List.getElem?_eq_getElem hj]
  exact e
theorem mv_inj {t : Nat} {r r' : List Int} (hr : r.length = s) (hr' : r'.length = s) (h : mv ord t r = mv ord t r') : r = r' := by
  apply List.ext_getElem (by omega)
  intro p h1 h2
  obtain ⟨j, hj, e⟩ := ord_sur hp (p := p) (by omega)
  have hl := ord_len hp
  have := congrArg (fun l => l.getD j (0 : Int)) h
  replace this : (mv ord t r).getD j 0 = (mv ord t r').getD j 0 := this
  rw [mv_get (by omega), mv_get (by omega), e] at this
  have := tx_inj this
  rw [List.getD_eq_getElem?_getD, List.getElem?_eq_getElem h1, List.getD_eq_getElem?_getD, List.getElem?_eq_getElem h2] at this
  exact this
theorem row_mv {t : Nat} {r : List Int} : ∀ {pts : List Nat}, (∀ p ∈ pts, p < s) → rowAt (mv ord t r) pts = (rowAt r (pts.map fun j => ord.getD j 0)).map (tx t) := by
  intro pts h
  unfold rowAt
  rw [List.map_map, List.map_map]
  apply List.map_congr_left
  intro j hj
  exact mv_get (by rw [ord_len hp]; exact h j hj)
theorem row_rev (r : List Int) (pts : List Nat) : rowAt r pts.reverse = (rowAt r pts).reverse := by unfold rowAt; rw [List.map_reverse]
/-- a list of points of the list moved is one of the list -/
theorem ok_mv {rs rs' : List (List Int)} {t : Nat} (hrs : ∀ x, x ∈ rs' ↔ ∃ r ∈ rs, mv ord t r = x) {pts : List Nat} (hpt : ∀ p ∈ pts, p < s) :
    okB rs' pts = true ↔ okB rs (if t = 0 then pts.map fun j => ord.getD j 0 else (pts.map fun j => ord.getD j 0).reverse) = true := by
  have e0 : ∀ r, t = 0 → rowAt (mv ord t r) pts = rowAt r (pts.map fun j => ord.getD j 0) := fun r h => by
    rw [row_mv hp hpt]
    have : tx t = id := by funext x; unfold tx; rw [if_pos h]; rfl
    rw [this, List.map_id]
  have e1 : ∀ r, t ≠ 0 → rowAt (mv ord t r) pts = ((rowAt r (pts.map fun j => ord.getD j 0).reverse).map fun x => 1 - x).reverse := fun r h => by
    rw [row_mv hp hpt, row_rev hp, List.map_reverse, List.reverse_reverse]
    have : tx t = fun x => 1 - x := by funext x; unfold tx; rw [if_neg h]
    rw [this]
  unfold okB
  rw [List.all_eq_true, List.all_eq_true]
  by_cases ht : t = 0
  · rw [if_pos ht, List.length_map]
    constructor
    · intro h i hi
      obtain ⟨x, hx, e⟩ := List.mem_map.mp (of_decide_eq_true (h i hi))
      obtain ⟨r, hr, rfl⟩ := (hrs x).mp hx
      rw [e0 r ht] at e
      exact decide_eq_true (List.mem_map.mpr ⟨r, hr, e⟩)
    · intro h i hi
      obtain ⟨r, hr, e⟩ := List.mem_map.mp (of_decide_eq_true (h i hi))
      exact decide_eq_true (List.mem_map.mpr ⟨mv ord t r, (hrs _).mpr ⟨r, hr, rfl⟩, by rw [e0 r ht]; exact e⟩)
  · rw [if_neg ht, List.length_reverse, List.length_map]
    constructor
    · intro h i hi
      have hi' : i ≤ pts.length := by have := List.mem_range.mp hi; omega
      obtain ⟨x, hx, e⟩ := List.mem_map.mp (of_decide_eq_true (h (pts.length - i) (List.mem_range.mpr (by omega))))
      obtain ⟨r, hr, rfl⟩ := (hrs x).mp hx
      rw [e1 r ht] at e
      have e2 := congrArg (fun l : List Int => (l.reverse).map fun x => 1 - x) e
      simp only [List.reverse_reverse, List.map_map] at e2
      have : ((fun x : Int => 1 - x) ∘ fun x => 1 - x) = id := by funext x; show 1 - (1 - x) = x; omega
      rw [this, List.map_id] at e2
      refine decide_eq_true (List.mem_map.mpr ⟨r, hr, ?_⟩)
      rw [e2, List.map_reverse, pat_comp (by omega), show pts.length - (pts.length - i) = i by omega]
    · intro h i hi
      have hi' : i ≤ pts.length := by have := List.mem_range.mp hi; omega
      obtain ⟨r, hr, e⟩ := List.mem_map.mp (of_decide_eq_true (h (pts.length - i) (List.mem_range.mpr (by omega))))
      refine decide_eq_true (List.mem_map.mpr ⟨mv ord t r, (hrs _).mpr ⟨r, hr, rfl⟩, ?_⟩)
      rw [e1 r ht, e, pat_comp (by omega), show pts.length - (pts.length - i) = i by omega]
theorem lad_mv {rs rs' : List (List Int)} {t : Nat} (hrs : ∀ x, x ∈ rs' ↔ ∃ r ∈ rs, mv ord t r = x) (k : Nat) : Lad rs s k ↔ Lad rs' s k := by
  constructor
  · rintro ⟨pts, h1, h2, h3⟩
    have inv : ∃ q : List Nat, q.length = k ∧ (∀ p ∈ q, p < s) ∧ (if t = 0 then q.map fun j => ord.getD j 0 else (q.map fun j => ord.getD j 0).reverse) = pts := by
      have key : ∀ l : List Nat, (∀ p ∈ l, p < s) → ∃ q : List Nat, q.length = l.length ∧ (∀ p ∈ q, p < s) ∧ (q.map fun j => ord.getD j 0) = l := by
        intro l
        induction l with
        | nil => intro _; exact ⟨[], rfl, nofun, rfl⟩
        | cons x l ih =>
          intro h
          obtain ⟨j, hj, e⟩ := ord_sur hp (h x List.mem_cons_self)
          obtain ⟨q, a, b, c⟩ := ih fun p hp => h p (List.mem_cons_of_mem _ hp)
          refine ⟨j :: q, by rw [List.length_cons, a]; rfl, fun p hp => ?_, by rw [List.map_cons, c, e]⟩
          rcases List.mem_cons.mp hp with rfl | hp
          · exact hj
          · exact b p hp
      by_cases ht : t = 0
      · obtain ⟨q, a, b, c⟩ := key pts h2
        exact ⟨q, by omega, b, by rw [if_pos ht]; exact c⟩
      · obtain ⟨q, a, b, c⟩ := key pts.reverse fun p hp => h2 p (List.mem_reverse.mp hp)
        exact ⟨q, by rw [List.length_reverse] at a; omega, b, by rw [if_neg ht, c, List.reverse_reverse]⟩
    obtain ⟨q, a, b, c⟩ := inv
    exact ⟨q, a, b, (ok_mv hp hrs b).mpr (by rw [c]; exact h3)⟩
  · rintro ⟨pts, h1, h2, h3⟩
    refine ⟨_, ?_, ?_, (ok_mv hp hrs h2).mp h3⟩
    · split <;> simp [h1]
    · intro p hpp
      have : p ∈ pts.map fun j => ord.getD j 0 := by
        split at hpp
        · exact hpp
        · exact List.mem_reverse.mp hpp
      obtain ⟨j, hj, rfl⟩ := List.mem_map.mp this
      exact ord_lt hp (h2 j hj)
theorem top_mv {rs rs' : List (List Int)} {t : Nat} (h0 : rs ≠ []) (h0' : rs' ≠ []) (hrs : ∀ x, x ∈ rs' ↔ ∃ r ∈ rs, mv ord t r = x) : top rs' s s 0 = top rs s s 0 :=
  top_congr (fun k => by rw [lad_LV h0', lad_LV h0, lad_mv hp hrs]) s 0
end
theorem erase_perm : ∀ (l : List Nat) (j : Nat), j < l.length → (l.getD j 0 :: l.eraseIdx j).Perm l
  | [], j, h => by simp at h
  | x :: l, 0, _ => List.Perm.refl _
  | x :: l, j + 1, h => by
    have ih := erase_perm l j (by simpa using h)
    show (l.getD j 0 :: x :: l.eraseIdx j).Perm (x :: l)
    exact (List.Perm.swap x (l.getD j 0) (l.eraseIdx j)).trans (ih.cons x)
end Lw
end
section
set_option Elab.async false
set_option linter.all false
set_option maxRecDepth 100000
namespace Lw
open Py
/-! ### full trees that a list fills -/
def sideR (p : Nat) (v : Int) (L : List (List Int)) : List (List Int) := L.filter fun r => decide (r.getD p 0 = v)
def fill (s : Nat) : Nat → List (List Int) → Prop
  | 0, L => L ≠ []
  | d + 1, L => ∃ p, p < s ∧ fill s d (sideR p 0 L) ∧ fill s d (sideR p 1 L)
theorem side_mem {p : Nat} {v : Int} {L : List (List Int)} {r : List Int} : r ∈ sideR p v L ↔ r ∈ L ∧ r.getD p 0 = v := by
  unfold sideR
  rw [List.mem_filter, decide_eq_true_eq]
theorem fill_congr {s : Nat} : ∀ (d : Nat) {L L' : List (List Int)}, (∀ r, r ∈ L ↔ r ∈ L') → fill s d L → fill s d L'
  | 0, L, L', h, f => fun e => f (List.eq_nil_iff_forall_not_mem.mpr fun r hr => by have := (h r).mp hr; rw [e] at this; cases this)
  | d + 1, L, L', h, ⟨p, hp, f0, f1⟩ => ⟨p, hp, fill_congr d (fun r => by rw [side_mem, side_mem, h r]) f0, fill_congr d (fun r => by rw [side_mem, side_mem, h r]) f1⟩
theorem fill_ne {s : Nat} : ∀ {d : Nat} {L : List (List Int)}, fill s d L → L ≠ []
  | 0, L, f => f
  | d + 1, L, ⟨p, _, f0, _⟩ => fun e => by
    have := fill_ne f0
    rw [e] at this
    exact this rfl
theorem fill_down {s : Nat} : ∀ {d : Nat} {L : List (List Int)}, fill s (d + 1) L → fill s d L
  | 0, L, f => fill_ne f
  | d + 1, L, ⟨p, hp, f0, f1⟩ => ⟨p, hp, fill_down f0, fill_down f1⟩
theorem fill_le {s : Nat} {L : List (List Int)} {d : Nat} : ∀ (k : Nat), fill s (d + k) L → fill s d L
  | 0, f => f
  | k + 1, f => fill_le k (fill_down f)
theorem side_len (p : Nat) : ∀ L : List (List Int), (sideR p 0 L).length + (sideR p 1 L).length ≤ L.length
  | [] => Nat.le_refl _
  | r :: L => by
    have ih := side_len p L
    unfold sideR at ih ⊢
    rw [List.filter_cons, List.filter_cons]
    by_cases h0 : r.getD p 0 = 0
    · have h1 : ¬ r.getD p 0 = 1 := by omega
      rw [if_pos (decide_eq_true h0), if_neg (by simpa using h1), List.length_cons, List.length_cons]
      omega
    · rw [if_neg (by simpa using h0)]
      split
      · rw [List.length_cons, List.length_cons]; omega
      · rw [List.length_cons]; omega
theorem fill_card {s : Nat} : ∀ {d : Nat} {L : List (List Int)}, fill s d L → 2 ^ d ≤ L.length
  | 0, L, f => List.length_pos_iff.mpr f
  | d + 1, L, ⟨p, _, f0, f1⟩ => by
    have h0 := fill_card f0
    have h1 := fill_card f1
    have := side_len p L
    rw [Nat.pow_succ]
    omega
def fillB (s : Nat) : Nat → List (List Int) → Bool
  | 0, L => !L.isEmpty
  | d + 1, L => (List.range s).any fun p => fillB s d (sideR p 0 L) && fillB s d (sideR p 1 L)
theorem fillB_iff {s : Nat} : ∀ {d : Nat} {L : List (List Int)}, fillB s d L = true ↔ fill s d L
  | 0, L => by cases L <;> simp [fillB, fill]
  | d + 1, L => by
    unfold fillB fill
    rw [List.any_eq_true]
    constructor
    · rintro ⟨p, hp, h⟩
      rw [Bool.and_eq_true] at h
      exact ⟨p, List.mem_range.mp hp, fillB_iff.mp h.1, fillB_iff.mp h.2⟩
    · rintro ⟨p, hp, h0, h1⟩
      exact ⟨p, List.mem_range.mpr hp, by rw [Bool.and_eq_true]; exact ⟨fillB_iff.mpr h0, fillB_iff.mpr h1⟩⟩
/-- the greatest depth, -1 of no rows -/
structure NumOf (s : Nat) (L : List (List Int)) (m : Int) : Prop where
  lo : -1 ≤ m
  hi : ∀ d : Nat, fill s d L ↔ (d : Int) ≤ m
theorem NumOf.le {s : Nat} {L L' : List (List Int)} {m m' : Int} (h : NumOf s L m) (h' : NumOf s L' m') (e : ∀ r, r ∈ L ↔ r ∈ L') : m ≤ m' := by
  have a := h.lo
  have b := h'.lo
  by_cases z : m = -1
  · omega
  · have f : fill s m.toNat L := (h.hi _).mpr (by omega)
    have := (h'.hi _).mp (fill_congr _ e f)
    omega
theorem NumOf.uniq {s : Nat} {L L' : List (List Int)} {m m' : Int} (h : NumOf s L m) (h' : NumOf s L' m') (e : ∀ r, r ∈ L ↔ r ∈ L') : m = m' :=
  Int.le_antisymm (h.le h' e) (h'.le h fun r => (e r).symm)
theorem NumOf.congr {s : Nat} {L L' : List (List Int)} {m : Int} (h : NumOf s L m) (e : ∀ r, r ∈ L ↔ r ∈ L') : NumOf s L' m :=
  ⟨h.lo, fun d => ⟨fun f => (h.hi d).mp (fill_congr d (fun r => (e r).symm) f), fun f => fill_congr d e ((h.hi d).mpr f)⟩⟩
theorem NumOf.nil (s : Nat) : NumOf s [] (-1) := ⟨by omega, fun d => ⟨fun f => absurd rfl (fill_ne f), fun h => by omega⟩⟩
theorem NumOf.ge {s : Nat} {L : List (List Int)} {m : Int} (h : NumOf s L m) (hL : L ≠ []) : 0 ≤ m := by
  have := (h.hi 0).mp hL
  omega
theorem NumOf.neg {s : Nat} {L : List (List Int)} {m : Int} (h : NumOf s L m) : 0 ≤ m ↔ L ≠ [] := ⟨fun z => (h.hi 0).mpr (by omega), h.ge⟩
theorem NumOf.step {s : Nat} {L : List (List Int)} {m : Int} (hL : L ≠ []) (h0 : 0 ≤ m)
    (h1 : ∀ p, p < s → sideR p 0 L ≠ [] → sideR p 1 L ≠ [] → ∃ a b, NumOf s (sideR p 0 L) a ∧ NumOf s (sideR p 1 L) b ∧ 1 + min a b ≤ m)
    (h2 : m = 0 ∨ ∃ p, p < s ∧ ∃ a b, NumOf s (sideR p 0 L) a ∧ NumOf s (sideR p 1 L) b ∧ m = 1 + min a b) : NumOf s L m := by
  refine ⟨by omega, fun d => ?_⟩
  cases d with
  | zero => exact ⟨fun _ => h0, fun _ => hL⟩
  | succ d =>
    constructor
    · rintro ⟨p, hp, f0, f1⟩
      obtain ⟨a, b, na, nb, hm⟩ := h1 p hp (fill_ne f0) (fill_ne f1)
      have := (na.hi d).mp f0
      have := (nb.hi d).mp f1
      omega
    · intro hd
      rcases h2 with h2 | ⟨p, hp, a, b, na, nb, hm⟩
      · omega
      · exact ⟨p, hp, (na.hi d).mpr (by omega), (nb.hi d).mpr (by omega)⟩
theorem NumOf.of {s m : Nat} {L : List (List Int)} (h1 : fill s m L) (h2 : ¬ fill s (m + 1) L) : NumOf s L m := by
  refine ⟨by omega, fun d => ⟨fun f => ?_, fun h => ?_⟩⟩
  · by_cases z : d ≤ m
    · omega
    · exact absurd (fill_le (d := m + 1) (d - (m + 1)) (by rw [show m + 1 + (d - (m + 1)) = d by omega]; exact f)) h2
  · exact fill_le (d := d) (m - d) (by rw [show d + (m - d) = m by omega]; exact h1)
/-! ### what is known, as a code in base three -/
def dig (c p : Nat) : Nat := c / 3 ^ p % 3
def fitC (s c : Nat) (r : List Int) : Bool := (List.range s).all fun p => decide (dig c p = 2 ∨ ((dig c p : Nat) : Int) = r.getD p 0)
theorem fitC_iff {s c : Nat} {r : List Int} : fitC s c r = true ↔ ∀ p, p < s → dig c p = 2 ∨ ((dig c p : Nat) : Int) = r.getD p 0 := by
  unfold fitC
  rw [List.all_eq_true]
  exact ⟨fun h p hp => of_decide_eq_true (h p (List.mem_range.mpr hp)), fun h p hp => decide_eq_true (h p (List.mem_range.mp hp))⟩
theorem pow3 {s : Nat} (h : s ≤ 5) : 1 ≤ 3 ^ s ∧ 3 ^ s ≤ 243 := by
  have : ∀ s, s ≤ 5 → 1 ≤ 3 ^ s ∧ 3 ^ s ≤ 243 := by decide
  exact this s h
theorem dig_facts : ∀ c, c < 243 → ∀ p, p < 5 → dig c p < 3 ∧ (dig c p = 2 → 2 * 3 ^ p ≤ c ∧ ∀ q, q < 5 → dig (c - 2 * 3 ^ p) q = (if q = p then 0 else dig c q) ∧ dig (c - 3 ^ p) q = if q = p then 1 else dig c q) := by decide +kernel
theorem dig_top : ∀ s, s ≤ 5 → ∀ p, p < s → dig (3 ^ s - 1) p = 2 := by decide
theorem fit_top {s : Nat} (hs : s ≤ 5) (r : List Int) : fitC s (3 ^ s - 1) r = true := fitC_iff.mpr fun p hp => .inl (dig_top s hs p hp)
theorem fit_no {s c p : Nat} (hs : s ≤ 5) (hc : c < 3 ^ s) (hp : p < s) (hd : dig c p = 2) (r : List Int) : fitC s (c - 2 * 3 ^ p) r = (fitC s c r && decide (r.getD p 0 = 0)) := by
  have h243 := (pow3 hs).2
  obtain ⟨_, h⟩ := dig_facts c (by omega) p (by omega)
  obtain ⟨_, h⟩ := h hd
  rw [Bool.eq_iff_iff, Bool.and_eq_true, fitC_iff, fitC_iff, decide_eq_true_eq]
  constructor
  · intro g
    refine ⟨fun q hq => ?_, ?_⟩
    · by_cases e : q = p
      · subst e; exact .inl hd
      · have := g q hq
        rw [(h q (by omega)).1, if_neg e] at this
        exact this
    · have := g p hp
      rw [(h p (by omega)).1, if_pos rfl] at this
      rcases this with z | z
      · omega
      · exact z.symm
  · rintro ⟨g, z⟩ q hq
    rw [(h q (by omega)).1]
    by_cases e : q = p
    · subst e; rw [if_pos rfl]; exact .inr z.symm
    · rw [if_neg e]; exact g q hq
theorem fit_yes {s c p : Nat} (hs : s ≤ 5) (hc : c < 3 ^ s) (hp : p < s) (hd : dig c p = 2) (r : List Int) : fitC s (c - 3 ^ p) r = (fitC s c r && decide (r.getD p 0 = 1)) := by
  have h243 := (pow3 hs).2
  obtain ⟨_, h⟩ := dig_facts c (by omega) p (by omega)
  obtain ⟨_, h⟩ := h hd
  rw [Bool.eq_iff_iff, Bool.and_eq_true, fitC_iff, fitC_iff, decide_eq_true_eq]
  constructor
  · intro g
    refine ⟨fun q hq => ?_, ?_⟩
    · by_cases e : q = p
      · subst e; exact .inl hd
      · have := g q hq
        rw [(h q (by omega)).2, if_neg e] at this
        exact this
    · have := g p hp
      rw [(h p (by omega)).2, if_pos rfl] at this
      rcases this with z | z
      · omega
      · exact z.symm
  · rintro ⟨g, z⟩ q hq
    rw [(h q (by omega)).2]
    by_cases e : q = p
    · subst e; rw [if_pos rfl]; exact .inr z.symm
    · rw [if_neg e]; exact g q hq
/-- the rows that fit -/
def FC (s c : Nat) (L : List (List Int)) : List (List Int) := L.filter (fitC s c)
theorem FC_top {s : Nat} (hs : s ≤ 5) (L : List (List Int)) : FC s (3 ^ s - 1) L = L := List.filter_eq_self.mpr fun r _ => fit_top hs r
theorem filter_side (P : List Int → Bool) (p : Nat) (v : Int) (L : List (List Int)) : sideR p v (L.filter P) = L.filter fun r => P r && decide (r.getD p 0 = v) := by
  unfold sideR
  rw [List.filter_filter]
  exact List.filter_congr fun r _ => Bool.and_comm _ _
theorem FC_no {s c p : Nat} (hs : s ≤ 5) (hc : c < 3 ^ s) (hp : p < s) (hd : dig c p = 2) (L : List (List Int)) : FC s (c - 2 * 3 ^ p) L = sideR p 0 (FC s c L) := by
  unfold FC
  rw [filter_side]
  exact List.filter_congr fun r _ => fit_no hs hc hp hd r
theorem FC_yes {s c p : Nat} (hs : s ≤ 5) (hc : c < 3 ^ s) (hp : p < s) (hd : dig c p = 2) (L : List (List Int)) : FC s (c - 3 ^ p) L = sideR p 1 (FC s c L) := by
  unfold FC
  rw [filter_side]
  exact List.filter_congr fun r _ => fit_yes hs hc hp hd r
theorem FC_fix {s c p : Nat} (hp : p < s) (hd : dig c p ≠ 2) (L : List (List Int)) (h0 : sideR p 0 (FC s c L) ≠ []) (h1 : sideR p 1 (FC s c L) ≠ []) : False := by
  obtain ⟨r, hr⟩ := List.exists_mem_of_ne_nil _ h0
  obtain ⟨q, hq⟩ := List.exists_mem_of_ne_nil _ h1
  rw [side_mem] at hr hq
  have a := fitC_iff.mp (List.mem_filter.mp hr.1).2 p hp
  have b := fitC_iff.mp (List.mem_filter.mp hq.1).2 p hp
  rcases a with a | a
  · exact hd a
  · rcases b with b | b
    · exact hd b
    · rw [hr.2] at a
      rw [hq.2] at b
      omega
/-- the law's step: a free point or none -/
def free (s c : Nat) : List Nat := (List.range s).filter fun p => decide (dig c p = 2)
theorem mem_free {s c p : Nat} : p ∈ free s c ↔ p < s ∧ dig c p = 2 := by
  unfold free
  rw [List.mem_filter, List.mem_range, decide_eq_true_eq]
/-! ### rows of bits -/
def bitRows : Nat → List (List Int)
  | 0 => [[]]
  | s + 1 => (bitRows s).flatMap fun r => [0 :: r, 1 :: r]
theorem mem_bitRows : ∀ {s : Nat} {r : List Int}, r.length = s → (∀ x ∈ r, x = 0 ∨ x = 1) → r ∈ bitRows s
  | 0, [], _, _ => List.mem_singleton.mpr rfl
  | s + 1, x :: r, hl, hb => by
    unfold bitRows
    refine List.mem_flatMap.mpr ⟨r, mem_bitRows (by simpa using hl) fun y hy => hb y (List.mem_cons_of_mem _ hy), ?_⟩
    rcases hb x List.mem_cons_self with rfl | rfl <;> simp
/-- a row's code -/
def cdN (r : List Int) : Nat := ((List.range r.length).map fun p => (r.getD p 0).toNat * 3 ^ p).sum
theorem cd_facts : ∀ s, s ≤ 5 → ∀ r ∈ bitRows s, cdN r < 3 ^ s ∧ ((List.range s).map fun p => r.getD p 0 * ((3 ^ p : Nat) : Int)).sum = ((cdN r : Nat) : Int) ∧ fitC s (cdN r) r = true ∧ (∀ p, p < s → dig (cdN r) p ≠ 2) := by decide +kernel
theorem dig_inj : ∀ s, s ≤ 5 → ∀ r ∈ bitRows s, ∀ c, c < 3 ^ s → (∀ p, p < s → dig c p ≠ 2) → fitC s c r = true → c = cdN r := by decide +kernel
end Lw
end
section
set_option Elab.async false
set_option linter.all false
set_option maxRecDepth 100000
namespace Lw
open Py
/-! ### masks of the rows that a predicate takes -/
def mkP (P : List Int → Bool) (rs : List (List Int)) : Nat := mk (rs.map P)
theorem zip_map {α β γ δ : Type} (f : β → γ → δ) (g : α → β) (h : α → γ) : ∀ l : List α, List.zipWith f (l.map g) (l.map h) = l.map fun x => f (g x) (h x)
  | [] => rfl
  | x :: l => by rw [List.map_cons, List.map_cons, List.zipWith_cons_cons, zip_map f g h l]; rfl
theorem mkP_pos (P : List Int → Bool) (rs : List (List Int)) : 0 < mkP P rs ↔ rs.filter P ≠ [] := by
  unfold mkP
  rw [mk_pos, List.mem_map]
  constructor
  · rintro ⟨r, hr, hP⟩ e
    have : r ∈ rs.filter P := List.mem_filter.mpr ⟨hr, hP⟩
    rw [e] at this
    cases this
  · intro h
    obtain ⟨r, hr⟩ := List.exists_mem_of_ne_nil _ h
    exact ⟨r, (List.mem_filter.mp hr).1, (List.mem_filter.mp hr).2⟩
theorem mkP_all (rs : List (List Int)) : mkP (fun _ => true) rs = 2 ^ rs.length - 1 := by
  unfold mkP
  have : rs.map (fun _ : List Int => true) = List.replicate rs.length true := by
    induction rs with
    | nil => rfl
    | cons r rs ih => rw [List.map_cons, ih, List.length_cons, List.replicate_succ]
  rw [this, mk_all]
theorem mkP_congr {P Q : List Int → Bool} {rs : List (List Int)} (h : ∀ r ∈ rs, P r = Q r) : mkP P rs = mkP Q rs := by
  unfold mkP
  rw [List.map_congr_left h]
theorem mkP_yes (P : List Int → Bool) (rs : List (List Int)) (p : Nat) : mkP P rs &&& yesM rs p = mkP (fun r => P r && decide (r.getD p 0 = 1)) rs := by
  unfold mkP yesM
  rw [mk_and _ _ (by rw [List.length_map, List.length_map]), zip_map]
theorem mkP_no {P : List Int → Bool} {rs : List (List Int)} {p : Nat} (hb : ∀ r ∈ rs, r.getD p 0 = 0 ∨ r.getD p 0 = 1) : mkP P rs - (mkP P rs &&& yesM rs p) = mkP (fun r => P r && decide (r.getD p 0 = 0)) rs := by
  unfold mkP yesM
  have hl : (rs.map P).length = (rs.map fun r => decide (r.getD p 0 = 1)).length := by rw [List.length_map, List.length_map]
  rw [mk_and _ _ hl, (mk_sub _ _ hl).2, zip_map]
  congr 1
  refine List.map_congr_left fun r hr => ?_
  rcases hb r hr with e | e <;> rw [e] <;> simp
/-- the cuts of a part, by its mask -/
def cutsN (rs : List (List Int)) (s m : Nat) : List (Nat × Nat × Nat) := ((List.range s).map fun p => (p, m - (m &&& yesM rs p), m &&& yesM rs p)).filter fun q => decide (0 < q.2.1 ∧ 0 < q.2.2)
theorem mem_cuts {rs : List (List Int)} {s m p n y : Nat} : (p, n, y) ∈ cutsN rs s m ↔ p < s ∧ n = m - (m &&& yesM rs p) ∧ y = m &&& yesM rs p ∧ 0 < n ∧ 0 < y := by
  unfold cutsN
  rw [List.mem_filter, List.mem_map, decide_eq_true_eq]
  constructor
  · rintro ⟨⟨q, hq, e⟩, h1, h2⟩
    simp only [Prod.mk.injEq] at e
    obtain ⟨rfl, rfl, rfl⟩ := e
    exact ⟨List.mem_range.mp hq, rfl, rfl, h1, h2⟩
  · rintro ⟨h1, rfl, rfl, h2, h3⟩
    exact ⟨⟨p, List.mem_range.mpr h1, rfl⟩, h2, h3⟩
theorem cut_lt {rs : List (List Int)} {s m p n y : Nat} (h : (p, n, y) ∈ cutsN rs s m) : n < m ∧ y < m := by
  obtain ⟨_, rfl, rfl, h1, h2⟩ := mem_cuts.mp h
  have : m &&& yesM rs p ≤ m := Nat.and_le_left
  omega
theorem cuts_len (rs : List (List Int)) (s m : Nat) : (cutsN rs s m).length ≤ s := by
  unfold cutsN
  refine Nat.le_trans (List.length_filter_le ..) ?_
  rw [List.length_map, List.length_range]
  exact Nat.le_refl _
/-- a mask of what a code tells -/
def Key (rs : List (List Int)) (s m : Nat) : Prop := ∃ c, c < 3 ^ s ∧ m = mkP (fitC s c) rs
section
variable {rs : List (List Int)} {s : Nat} (hs : s ≤ 5) (hb : ∀ r ∈ rs, ∀ x ∈ r, x = 0 ∨ x = 1) (hl : ∀ r ∈ rs, r.length = s)
include hs hb hl
theorem key_cut {m p n y : Nat} (h : Key rs s m) (hc : (p, n, y) ∈ cutsN rs s m) : Key rs s n ∧ Key rs s y := by
  obtain ⟨c, hc3, rfl⟩ := h
  obtain ⟨hp, rfl, rfl, h1, h2⟩ := mem_cuts.mp hc
  have hbp : ∀ r ∈ rs, r.getD p 0 = 0 ∨ r.getD p 0 = 1 := fun r hr => bit01 hb hl hp hr
  rw [mkP_no hbp] at h1 ⊢
  rw [mkP_yes] at h2 ⊢
  rw [mkP_pos] at h1 h2
  have hd : dig c p = 2 := by
    by_cases hd : dig c p = 2
    · exact hd
    · refine (FC_fix (c := c) (L := rs) hp hd ?_ ?_).elim
      · unfold FC; rw [filter_side]; exact h1
      · unfold FC; rw [filter_side]; exact h2
  have := (dig_facts c (by have := (pow3 hs).2; omega) p (by omega)).2 hd
  exact ⟨⟨c - 2 * 3 ^ p, by omega, mkP_congr fun r _ => (fit_no hs hc3 hp hd r).symm⟩, ⟨c - 3 ^ p, by omega, mkP_congr fun r _ => (fit_yes hs hc3 hp hd r).symm⟩⟩
omit hb hl in
theorem key_whole : Key rs s (2 ^ rs.length - 1) := ⟨3 ^ s - 1, by have := (pow3 hs).1; omega, by rw [← mkP_all]; exact mkP_congr fun r _ => (fit_top hs r).symm⟩
omit hb hl in
theorem keys_le {K : List Nat} (hK : ∀ m ∈ K, Key rs s m) (nd : K.Nodup) : K.length ≤ 243 := by
  have := nd.length_le_of_subset (l₂ := (List.range (3 ^ s)).map fun c => mkP (fitC s c) rs) fun m hm => by
    obtain ⟨c, hc, rfl⟩ := hK m hm
    exact List.mem_map.mpr ⟨c, List.mem_range.mpr hc, rfl⟩
  rw [List.length_map, List.length_range] at this
  exact Nat.le_trans this (pow3 hs).2
/-- what is known of a part by its mask -/
def NumP (rs : List (List Int)) (s m : Nat) (v : Int) : Prop := ∀ P : List Int → Bool, m = mkP P rs → NumOf s (rs.filter P) v
theorem num_step {m : Nat} (hm : 0 < m) {v : Int}
    (h1 : ∀ p n y, (p, n, y) ∈ cutsN rs s m → ∃ a b, NumP rs s n a ∧ NumP rs s y b ∧ 1 + min a b ≤ v)
    (h0 : 0 ≤ v) (h2 : v = 0 ∨ ∃ p n y a b, (p, n, y) ∈ cutsN rs s m ∧ NumP rs s n a ∧ NumP rs s y b ∧ v = 1 + min a b) : NumP rs s m v := by
  intro P hP
  subst hP
  have hbp : ∀ p, p < s → ∀ r ∈ rs, r.getD p 0 = 0 ∨ r.getD p 0 = 1 := fun p hp r hr => bit01 hb hl hp hr
  have sd : ∀ p, p < s → ∀ a b, NumP rs s (mkP P rs - (mkP P rs &&& yesM rs p)) a → NumP rs s (mkP P rs &&& yesM rs p) b → NumOf s (sideR p 0 (rs.filter P)) a ∧ NumOf s (sideR p 1 (rs.filter P)) b := fun p hp a b ha hb2 => by
    rw [filter_side, filter_side]
    exact ⟨ha _ (mkP_no (hbp p hp)), hb2 _ (mkP_yes P rs p)⟩
  refine NumOf.step ((mkP_pos P rs).mp hm) h0 (fun p hp e0 e1 => ?_) ?_
  · rw [filter_side] at e0 e1
    have c : (p, mkP P rs - (mkP P rs &&& yesM rs p), mkP P rs &&& yesM rs p) ∈ cutsN rs s (mkP P rs) := by
      refine mem_cuts.mpr ⟨hp, rfl, rfl, ?_, ?_⟩
      · rw [mkP_no (hbp p hp), mkP_pos]; exact e0
      · rw [mkP_yes, mkP_pos]; exact e1
    obtain ⟨a, b, na, nb, hv⟩ := h1 _ _ _ c
    obtain ⟨s1, s2⟩ := sd p hp a b na nb
    exact ⟨a, b, s1, s2, hv⟩
  · rcases h2 with h2 | ⟨p, n, y, a, b, c, na, nb, hv⟩
    · exact .inl h2
    · obtain ⟨hp, rfl, rfl, _, _⟩ := mem_cuts.mp c
      obtain ⟨s1, s2⟩ := sd p hp a b na nb
      exact .inr ⟨p, hp, a, b, s1, s2, hv⟩
end
end Lw
end
section
set_option Elab.async false
set_option linter.all false
set_option maxRecDepth 100000
namespace Py
/-! ### while loops by a measure; owned dicts by whole numbers -/
theorem whileLoop_m {c : Env → R Bool} {body : Env → R Out} (I : Nat → Env → Prop) (J : Env → Prop)
    (step : ∀ k G, I k G → (c G = .ok G false ∧ J G) ∨ ∃ G1 G2 k', c G = .ok G1 true ∧ body G1 = .ok G2 .next ∧ k' < k ∧ I k' G2) :
    ∀ (fuel k : Nat) (G : Env), k < fuel → I k G → ∃ G', whileLoop c body fuel G = .ok G' .next ∧ J G'
  | 0, k, G, h, _ => absurd h (Nat.not_lt_zero _)
  | fuel + 1, k, G, h, i => by
    rcases step k G i with ⟨e, j⟩ | ⟨G1, G2, k', e1, e2, hk, i2⟩
    · refine ⟨G, ?_, j⟩
      rw [whileLoop, e]
      rfl
    · obtain ⟨G', e3, j⟩ := whileLoop_m I J step fuel k' G2 (by omega) i2
      refine ⟨G', ?_, j⟩
      rw [whileLoop, e1]
      show (body G1).bind _ = _
      rw [e2]
      exact e3
theorem evS_whileM {C : Ctx} {orc : Orc} {c : E} {body : List S} {G : Env} (I : Nat → Env → Prop) (J : Env → Prop) (n : Nat) (hn : n < C.wh) (h : I n G)
    (step : ∀ k G, I k G → (evT C orc c G = .ok G false ∧ J G) ∨ ∃ G1 G2 k', evT C orc c G = .ok G1 true ∧ evSs C orc body G1 = .ok G2 .next ∧ k' < k ∧ I k' G2) :
    ∃ G', evS C orc (.while_ c body) G = .ok G' .next ∧ J G' := by
  obtain ⟨G', e, j⟩ := whileLoop_m (c := evT C orc c) (body := evSs C orc body) I J step C.wh n G hn h
  exact ⟨G', by rw [evS]; exact e, j⟩
def dicP (q : List (Nat × D)) : D := .dic (q.map fun e => .int e.1) (q.map (·.2))
def ownP (q : List (Nat × D)) : M := .dic (q.map fun e => .int e.1) (q.map fun e => .leaf e.2)
theorem ownP_fz (q : List (Nat × D)) : (ownP q).fz = dicP q := by
  show D.dic _ (M.fzL _) = _
  have : (q.map fun e => M.leaf e.2) = (q.map (·.2)).map M.leaf := by rw [List.map_map]; rfl
  rw [this, fzL_leaf]
  rfl
theorem ownP_val (q : List (Nat × D)) : M.val (ownP q) = (dicP q, true) := by show (M.fz (ownP q), true) = _; rw [ownP_fz]
theorem beq_cast (a b : Nat) : (((a : Nat) : Int) == ((b : Nat) : Int)) = (b == a) := by
  rw [Bool.eq_iff_iff, beq_iff_eq, beq_iff_eq]
  omega
theorem dget_P (x : Nat) : ∀ q : List (Nat × D), dget (q.map fun e => .int e.1) (q.map (·.2)) (.int x) = q.lookup x
  | [] => rfl
  | (k, v) :: q => by
    show (if (((k : Nat) : Int) == ((x : Nat) : Int)) = true then some v else dget (q.map fun e => .int e.1) (q.map (·.2)) (.int x)) = _
    rw [dget_P x q, beq_cast, List.lookup_cons]
    cases x == k <;> rfl
theorem mget_P (x : Nat) : ∀ q : List (Nat × D), mIndex.mget (q.map fun e => .int e.1) (q.map fun e => .leaf e.2) (.int x) = (q.lookup x).map .leaf
  | [] => rfl
  | (k, v) :: q => by
    show (if (((k : Nat) : Int) == ((x : Nat) : Int)) = true then some (M.leaf v) else mIndex.mget (q.map fun e => .int e.1) (q.map fun e => .leaf e.2) (.int x)) = _
    rw [mget_P x q, beq_cast, List.lookup_cons]
    cases x == k <;> rfl
theorem ownP_ix (q : List (Nat × D)) (x : Nat) : mIndex (ownP q) (.int x) = (q.lookup x).map .leaf := by
  show (if (D.int x).isKey = true then mIndex.mget (q.map fun e => .int e.1) (q.map fun e => .leaf e.2) (.int x) else none) = _
  rw [if_pos (by rfl), mget_P]
theorem dicP_ix (q : List (Nat × D)) (x : Nat) : index (dicP q) (.int x) = q.lookup x := by
  show (if (D.int x).isKey = true then dget (q.map fun e => .int e.1) (q.map (·.2)) (.int x) else none) = _
  rw [if_pos (by rfl), dget_P]
theorem dicP_nmem (q : List (Nat × D)) (x : Nat) : cmpop .nmem (.int x) (dicP q) = some (.bl (!(q.lookup x).isSome)) := by
  show (if (D.int x).isKey = true then some (D.bl (!(dget (q.map fun e => .int e.1) (q.map (·.2)) (.int x)).isSome)) else none) = _
  rw [if_pos (by rfl), dget_P]
theorem any_P (x : Nat) : ∀ q : List (Nat × D), (q.map fun e => D.int e.1).any (keyEq · (.int x)) = (q.lookup x).isSome
  | [] => rfl
  | (k, v) :: q => by
    rw [List.map_cons, List.any_cons, any_P x q, List.lookup_cons]
    show ((((k : Nat) : Int) == ((x : Nat) : Int)) || _) = _
    rw [beq_cast]
    cases x == k <;> simp
theorem allLeaf_P : ∀ q : List (Nat × D), allLeaf (q.map fun e => .leaf e.2) = true
  | [] => rfl
  | e :: q => allLeaf_P q
theorem ownP_set {q : List (Nat × D)} {x : Nat} (v : D) (h : q.lookup x = none) (hl : q.length < 16777216) : setM (.int x) v (ownP q) = some (ownP (q ++ [(x, v)]), ()) := by
  show (if (true && (allLeaf (q.map fun e => .leaf e.2) && decide ((q.map fun e => D.int e.1).length < szLine))) = true then some (M.dic (mPut (q.map fun e => .int e.1) (q.map fun e => .leaf e.2) (.int x) (.leaf v)).1 (mPut (q.map fun e => .int e.1) (q.map fun e => .leaf e.2) (.int x) (.leaf v)).2, ()) else none) = _
  rw [allLeaf_P, decide_eq_true (by rw [List.length_map]; exact hl), if_pos (by rfl)]
  unfold mPut
  rw [any_P, h]
  simp [ownP]
theorem lkup_map {f : Nat → D} {x : Nat} : ∀ {K : List Nat}, x ∈ K → (K.map fun m => (m, f m)).lookup x = some (f x)
  | k :: K, h => by
    rw [List.map_cons, List.lookup_cons]
    by_cases e : x = k
    · subst e; simp
    · have : (x == k) = false := by simpa using e
      rw [this]
      rcases List.mem_cons.mp h with h | h
      · exact absurd h e
      · exact lkup_map h
theorem lkup_none {β : Type} {x : Nat} : ∀ {q : List (Nat × β)}, (∀ e ∈ q, e.1 ≠ x) → q.lookup x = none
  | [], _ => rfl
  | (k, v) :: q, h => by
    rw [List.lookup_cons]
    have : (x == k) = false := by
      have := h _ List.mem_cons_self
      simpa using fun z => this z.symm
    rw [this]
    exact lkup_none fun e he => h e (List.mem_cons_of_mem _ he)
theorem lkup_some {β : Type} {x : Nat} : ∀ {q : List (Nat × β)}, (∃ e ∈ q, e.1 = x) → ∃ v, q.lookup x = some v ∧ (x, v) ∈ q
  | [], h => by obtain ⟨_, h, _⟩ := h; cases h
  | (k, v) :: q, h => by
    rw [List.lookup_cons]
    by_cases e : x = k
    · subst e; simp
    · have hx : (x == k) = false := by simpa using e
      rw [hx]
      obtain ⟨e0, h1, h2⟩ := h
      rcases List.mem_cons.mp h1 with h1 | h1
      · rw [h1] at h2; exact absurd h2.symm e
      · obtain ⟨v', h3, h4⟩ := lkup_some (x := x) ⟨e0, h1, h2⟩
        exact ⟨v', h3, List.mem_cons_of_mem _ h4⟩
end Py
end
section
set_option Elab.async false
set_option linter.all false
set_option maxRecDepth 100000
set_option maxHeartbeats 4000000
namespace Lw
open Py PySem
variable {C : Py.Ctx}
/-! ### what is looked at; lists of rules -/
theorem c_is_integer (d : Nat) (i : Int) : callN C fns (d + 1) f_is_integer [.sh (.int i)] = .ok [.dead] (.bl true) := by
  show runFn C _ F_is_integer _ = _
  simp [runFn, F_is_integer, ioOk, enter, leave, evSs, evS, evT, evI, ev, evs, evA, evIfs, evSq, evIt, R.bind, R.ofO, readM, readPl, Slot.path, M.path, mIndex, ixN, M.val, M.seq, E.mf, E.mfL, It.mf, cmpop, truth, fl, D.imm, D.immL, bltC, notIns, bltin, index, updPl, M.upd, setM, allLeaf, callOw, outsA, backA, Slot.isOw, D.tyOk, D.hasTy, setSrc, asgT, asgL, own1, isLst, mutM, M.fz, M.fzL, items, D.asInt, binop, eqd, D.eqOk, D.eqv, D.fld, fldGet]
theorem c_is_number (d : Nat) (i : Int) (h : 0 ≤ i) : callN C fns (d + 2) f_is_number [.sh (.int i)] = .ok [.dead] (.bl true) := by
  show runFn C _ F_is_number _ = _
  simp [runFn, F_is_number, ioOk, enter, leave, evSs, evS, evT, evI, ev, evs, evA, evIfs, evSq, evIt, R.bind, R.ofO, readM, readPl, Slot.path, M.path, mIndex, ixN, M.val, M.seq, E.mf, E.mfL, It.mf, cmpop, truth, fl, D.imm, D.immL, bltC, notIns, bltin, index, updPl, M.upd, setM, allLeaf, callOw, outsA, backA, Slot.isOw, D.tyOk, D.hasTy, setSrc, asgT, asgL, own1, isLst, mutM, M.fz, M.fzL, items, D.asInt, binop, eqd, D.eqOk, D.eqv, D.fld, fldGet, c_is_integer, h]
theorem c_is_value (d : Nat) (i : Int) (h : i = 0 ∨ i = 1) : callN C fns (d + 2) f_is_value [.sh (.int i)] = .ok [.dead] (.bl true) := by
  show runFn C _ F_is_value _ = _
  rcases h with rfl | rfl <;> simp [runFn, F_is_value, ioOk, enter, leave, evSs, evS, evT, evI, ev, evs, evA, evIfs, evSq, evIt, R.bind, R.ofO, readM, readPl, Slot.path, M.path, mIndex, ixN, M.val, M.seq, E.mf, E.mfL, It.mf, cmpop, truth, fl, D.imm, D.immL, bltC, notIns, bltin, index, updPl, M.upd, setM, allLeaf, callOw, outsA, backA, Slot.isOw, D.tyOk, D.hasTy, setSrc, asgT, asgL, own1, isLst, mutM, M.fz, M.fzL, items, D.asInt, binop, eqd, D.eqOk, D.eqv, D.fld, fldGet, c_is_integer]
def Bits (q : List Int) : Prop := ∀ x ∈ q, x = 0 ∨ x = 1
theorem c_is_row (d : Nat) (q : List Int) (s : Nat) (hq : Bits q) (hs : q.length = s) (h : s ≤ 1000) : callN C fns (d + 3) f_is_row [.sh (rowD q), .sh (.int s)] = .ok [.dead, .dead] (.bl true) := by
  show runFn C _ F_is_row _ = _
  subst hs
  have e := ev_lc1 (C := C) (orc := callN C fns (d + 2)) (v := 2) (it := .e (.var 0)) (ifs := [.not (.call f_is_value [.var 2] [0])]) (elt := .var 2) (G := [.sh (.tup (q.map D.int)), .sh (.int q.length), .dead]) (G1 := [.sh (.tup (q.map D.int)), .sh (.int q.length), .dead]) (ds := q.map D.int) (b := false) (fun _ => false) id
    (by simp [evSs, evS, evT, evI, ev, evs, evA, evIfs, evSq, evIt, R.bind, R.ofO, readM, readPl, Slot.path, M.path, mIndex, ixN, M.val, M.seq, E.mf, E.mfL, It.mf, cmpop, truth, fl, D.imm, D.immL, bltC, notIns, bltin, index, updPl, M.upd, setM, allLeaf, callOw, outsA, backA, Slot.isOw, D.tyOk, D.hasTy, setSrc, asgT, asgL, own1, isLst, mutM, M.fz, M.fzL, items, D.asInt, binop, eqd, D.eqOk, D.eqv, D.fld, fldGet, rowD]) (by rfl) (by simp) (by rfl) (fun x hx => by
      obtain ⟨i, hi, rfl⟩ := List.mem_map.mp hx
      simp [evSs, evS, evT, evI, ev, evs, evA, evIfs, evSq, evIt, R.bind, R.ofO, readM, readPl, Slot.path, M.path, mIndex, ixN, M.val, M.seq, E.mf, E.mfL, It.mf, cmpop, truth, fl, D.imm, D.immL, bltC, notIns, bltin, index, updPl, M.upd, setM, allLeaf, callOw, outsA, backA, Slot.isOw, D.tyOk, D.hasTy, setSrc, asgT, asgL, own1, isLst, mutM, M.fz, M.fzL, items, D.asInt, binop, eqd, D.eqOk, D.eqv, D.fld, fldGet, c_is_value d i (hq i hi)]) (fun x hx hh => by cases hh) (by rw [List.length_map]; unfold szLine; omega)
  simp [runFn, F_is_row, ioOk, enter, leave, evSs, evS, evT, evI, ev, evs, evA, evIfs, evSq, evIt, R.bind, R.ofO, readM, readPl, Slot.path, M.path, mIndex, ixN, M.val, M.seq, E.mf, E.mfL, It.mf, cmpop, truth, fl, D.imm, D.immL, bltC, notIns, bltin, index, updPl, M.upd, setM, allLeaf, callOw, outsA, backA, Slot.isOw, D.tyOk, D.hasTy, setSrc, asgT, asgL, own1, isLst, mutM, M.fz, M.fzL, items, D.asInt, binop, eqd, D.eqOk, D.eqv, D.fld, fldGet, rowD, ↓e]
def RU (s : Nat) (rs : List (List Int)) : D := .ins c_Rules [fd_size, fd_rows] [.int s, .tup (rs.map rowD)]
@[simp] theorem RU_1 (s : Nat) (rs : List (List Int)) : (RU s rs).fld fd_rows = some (.tup (rs.map rowD)) := rfl
@[simp] theorem RU_2 (s : Nat) (rs : List (List Int)) : (RU s rs).fld fd_size = some (.int s) := rfl
theorem c_len (d : Nat) (s : Nat) (rs : List (List Int)) : callN C fns (d + 1) f_Rules___len__ [.sh (RU s rs)] = .ok [.dead] (.int rs.length) := by
  show runFn C _ F_Rules___len__ _ = _
  simp [runFn, F_Rules___len__, ioOk, enter, leave, evSs, evS, evT, evI, ev, evs, evA, evIfs, evSq, evIt, R.bind, R.ofO, readM, readPl, Slot.path, M.path, mIndex, ixN, M.val, M.seq, E.mf, E.mfL, It.mf, cmpop, truth, fl, D.imm, D.immL, bltC, notIns, bltin, index, updPl, M.upd, setM, allLeaf, callOw, outsA, backA, Slot.isOw, D.tyOk, D.hasTy, setSrc, asgT, asgL, own1, isLst, mutM, M.fz, M.fzL, items, D.asInt, binop, eqd, D.eqOk, D.eqv, D.fld, fldGet, RU]
theorem e_len (hlen : C.lenOf c_Rules = some f_Rules___len__) (d : Nat) (s : Nat) (rs : List (List Int)) (h : rs.length ≤ 1000000) : lenI C (callN C fns (d + 1)) [RU s rs] = some (.int rs.length) := by
  have e := c_len (C := C) d s rs
  unfold RU at *
  have := rngOk_nat rs.length h
  unfold rngOk at this
  simp at this
  simp [lenI, hlen, e, this]
/-- rows that make a list: some, less than 64, of one length, bits, each once, ascending -/
structure Rows (s : Nat) (rs : List (List Int)) : Prop where
  ne : rs ≠ []
  lt : rs.length < 64
  len : ∀ r ∈ rs, r.length = s
  bit : ∀ r ∈ rs, Bits r
  nd : rs.Nodup
  ch : Chain rs
theorem c_are_rows (d s : Nat) (rs : List (List Int)) (h : Rows s rs) (hs : s ≤ 500) : callN C fns (d + 4) f_are_rows [.sh (.int s), .sh (.lst (rs.map rowD))] = .ok [.dead, .dead] (.bl true) := by
  show runFn C _ F_are_rows _ = _
  have h1 := c_is_number (C := C) (d + 1) s (by omega)
  have h0 := h.ne
  have hl := h.lt
  have e := ev_lcA (C := C) (orc := callN C fns (d + 3)) (own := [2]) (tg := .n 2) (it := .e (.var 1)) (ifs := [.not (.call f_is_row [.var 2, .var 0] [0, 1])]) (elt := .var 2) (G := [.sh (.int s), .sh (.lst (rs.map rowD)), .dead]) (G1 := [.sh (.int s), .sh (.lst (rs.map rowD)), .dead]) (b := false)
    rs rowD (fun _ => false) rowD (by simp [evSs, evS, evT, evI, ev, evs, evA, evIfs, evSq, evIt, R.bind, R.ofO, readM, readPl, Slot.path, M.path, mIndex, ixN, M.val, M.seq, E.mf, E.mfL, It.mf, cmpop, truth, fl, D.imm, D.immL, bltC, notIns, bltin, index, updPl, M.upd, setM, allLeaf, callOw, outsA, backA, Slot.isOw, D.tyOk, D.hasTy, setSrc, asgT, asgL, own1, isLst, mutM, M.fz, M.fzL, items, D.asInt, binop, eqd, D.eqOk, D.eqv]) (by rfl) (by rfl) (fun r hr => by
      simp [lcStep, evSs, evS, evT, evI, ev, evs, evA, evIfs, evSq, evIt, R.bind, R.ofO, readM, readPl, Slot.path, M.path, mIndex, ixN, M.val, M.seq, E.mf, E.mfL, It.mf, cmpop, truth, fl, D.imm, D.immL, bltC, notIns, bltin, index, updPl, M.upd, setM, allLeaf, callOw, outsA, backA, Slot.isOw, D.tyOk, D.hasTy, setSrc, asgT, asgL, own1, isLst, mutM, M.fz, M.fzL, items, D.asInt, binop, eqd, D.eqOk, D.eqv, wipe, c_is_row d r s (h.bit r hr) (h.len r hr) (by omega)]) (by rfl) (by omega)
  rw [List.filter_eq_nil_iff.mpr (by simp)] at e
  have h2 : ¬ ((rs.length : Int) = 0) := by
    have := List.length_pos_iff.mpr h0
    omega
  simp [runFn, F_are_rows, ioOk, enter, leave, evSs, evS, evT, evI, ev, evs, evA, evIfs, evSq, evIt, R.bind, R.ofO, readM, readPl, Slot.path, M.path, mIndex, ixN, M.val, M.seq, E.mf, E.mfL, It.mf, cmpop, truth, fl, D.imm, D.immL, bltC, notIns, bltin, updPl, M.upd, setM, allLeaf, callOw, outsA, backA, Slot.isOw, D.tyOk, D.hasTy, setSrc, asgT, asgL, own1, isLst, mutM, M.fz, M.fzL, items, D.asInt, binop, D.eqOk, D.eqv, eqd_int, eqd_ints, ↓e, h1, h2, h0]
theorem c_are_rowsT (d s : Nat) (rs : List (List Int)) (h : Rows s rs) (hs : s ≤ 500) : callN C fns (d + 4) f_are_rows [.sh (.int s), .sh (.tup (rs.map rowD))] = .ok [.dead, .dead] (.bl true) := by
  show runFn C _ F_are_rows _ = _
  have h1 := c_is_number (C := C) (d + 1) s (by omega)
  have h0 := h.ne
  have hl := h.lt
  have e := ev_lcA (C := C) (orc := callN C fns (d + 3)) (own := [2]) (tg := .n 2) (it := .e (.var 1)) (ifs := [.not (.call f_is_row [.var 2, .var 0] [0, 1])]) (elt := .var 2) (G := [.sh (.int s), .sh (.tup (rs.map rowD)), .dead]) (G1 := [.sh (.int s), .sh (.tup (rs.map rowD)), .dead]) (b := false)
    rs rowD (fun _ => false) rowD (by simp [evSs, evS, evT, evI, ev, evs, evA, evIfs, evSq, evIt, R.bind, R.ofO, readM, readPl, Slot.path, M.path, mIndex, ixN, M.val, M.seq, E.mf, E.mfL, It.mf, cmpop, truth, fl, D.imm, D.immL, bltC, notIns, bltin, index, updPl, M.upd, setM, allLeaf, callOw, outsA, backA, Slot.isOw, D.tyOk, D.hasTy, setSrc, asgT, asgL, own1, isLst, mutM, M.fz, M.fzL, items, D.asInt, binop, eqd, D.eqOk, D.eqv]) (by rfl) (by rfl) (fun r hr => by
      simp [lcStep, evSs, evS, evT, evI, ev, evs, evA, evIfs, evSq, evIt, R.bind, R.ofO, readM, readPl, Slot.path, M.path, mIndex, ixN, M.val, M.seq, E.mf, E.mfL, It.mf, cmpop, truth, fl, D.imm, D.immL, bltC, notIns, bltin, index, updPl, M.upd, setM, allLeaf, callOw, outsA, backA, Slot.isOw, D.tyOk, D.hasTy, setSrc, asgT, asgL, own1, isLst, mutM, M.fz, M.fzL, items, D.asInt, binop, eqd, D.eqOk, D.eqv, wipe, c_is_row d r s (h.bit r hr) (h.len r hr) (by omega)]) (by rfl) (by omega)
  rw [List.filter_eq_nil_iff.mpr (by simp)] at e
  have h2 : ¬ ((rs.length : Int) = 0) := by
    have := List.length_pos_iff.mpr h0
    omega
  simp [runFn, F_are_rows, ioOk, enter, leave, evSs, evS, evT, evI, ev, evs, evA, evIfs, evSq, evIt, R.bind, R.ofO, readM, readPl, Slot.path, M.path, mIndex, ixN, M.val, M.seq, E.mf, E.mfL, It.mf, cmpop, truth, fl, D.imm, D.immL, bltC, notIns, bltin, updPl, M.upd, setM, allLeaf, callOw, outsA, backA, Slot.isOw, D.tyOk, D.hasTy, setSrc, asgT, asgL, own1, isLst, mutM, M.fz, M.fzL, items, D.asInt, binop, D.eqOk, D.eqv, eqd_int, eqd_ints, ↓e, h1, h2, h0]
theorem c_init (d s : Nat) (rs : List (List Int)) (h : Rows s rs) (hs : s ≤ 500) : callN C fns (d + 5) f_Rules___init__ [.ow (.ins c_Rules [] []), .sh (.int s), .sh (.lst (rs.map rowD))] = .ok [.ow (.ins c_Rules [fd_size, fd_rows] [.leaf (.int s), .leaf (.tup (rs.map rowD))]), .dead, .dead] .non := by
  show runFn C _ F_Rules___init__ _ = _
  have e := c_are_rows (C := C) d s rs h hs
  have e1 := rowsOf_mapR rs
  have e2 : sortedD ((firstMet rs).map rowD) = some (.lst (rs.map rowD)) := by
    rw [firstMet_nodup h.nd, sortedD_rows h.ne h.lt h.len (fun r hr x hx => by
      rcases h.bit r hr x hx with rfl | rfl <;> omega) h.nd, sortRows_chain h.ch]
  have hl := h.lt
  simp [runFn, F_Rules___init__, ioOk, enter, leave, evSs, evS, evT, evI, ev, evs, evA, evIfs, evSq, evIt, R.bind, R.ofO, readM, readPl, Slot.path, M.path, mIndex, ixN, M.val, M.seq, E.mf, E.mfL, It.mf, cmpop, truth, fl, D.imm, D.immL, bltC, notIns, bltin, index, updPl, M.upd, setM, allLeaf, callOw, outsA, backA, Slot.isOw, D.tyOk, D.hasTy, setSrc, asgT, asgL, own1, isLst, mutM, M.fz, M.fzL, items, D.asInt, binop, eqd, D.eqOk, D.eqv, setSrc, e, e1, e2, hl, fsetM, fldSet]
theorem c_initT (d s : Nat) (rs : List (List Int)) (h : Rows s rs) (hs : s ≤ 500) : callN C fns (d + 5) f_Rules___init__ [.ow (.ins c_Rules [] []), .sh (.int s), .sh (.tup (rs.map rowD))] = .ok [.ow (.ins c_Rules [fd_size, fd_rows] [.leaf (.int s), .leaf (.tup (rs.map rowD))]), .dead, .dead] .non := by
  show runFn C _ F_Rules___init__ _ = _
  have e := c_are_rowsT (C := C) d s rs h hs
  have e1 := rowsOf_mapR rs
  have e2 : sortedD ((firstMet rs).map rowD) = some (.lst (rs.map rowD)) := by
    rw [firstMet_nodup h.nd, sortedD_rows h.ne h.lt h.len (fun r hr x hx => by
      rcases h.bit r hr x hx with rfl | rfl <;> omega) h.nd, sortRows_chain h.ch]
  have hl := h.lt
  simp [runFn, F_Rules___init__, ioOk, enter, leave, evSs, evS, evT, evI, ev, evs, evA, evIfs, evSq, evIt, R.bind, R.ofO, readM, readPl, Slot.path, M.path, mIndex, ixN, M.val, M.seq, E.mf, E.mfL, It.mf, cmpop, truth, fl, D.imm, D.immL, bltC, notIns, bltin, index, updPl, M.upd, setM, allLeaf, callOw, outsA, backA, Slot.isOw, D.tyOk, D.hasTy, setSrc, asgT, asgL, own1, isLst, mutM, M.fz, M.fzL, items, D.asInt, binop, eqd, D.eqOk, D.eqv, setSrc, e, e1, e2, hl, fsetM, fldSet]
theorem M_RU (s : Nat) (rs : List (List Int)) : (M.ins c_Rules [fd_size, fd_rows] [.leaf (.int s), .leaf (.tup (rs.map rowD))]).fz = RU s rs := rfl
theorem evSs_next {orc : Orc} {s : S} {ss : List S} {G G1 : Py.Env} (h : evS C orc s G = .ok G1 .next) : evSs C orc (s :: ss) G = evSs C orc ss G1 := Py.evSs_next h
theorem z_rows {rs : List (List Int)} {a : Nat} (h : a < rs.length) : index (.lst (rs.map rowD)) (.int a) = some (rowD (rs.getD a [])) := atI_rows h
theorem z_rowsT {rs : List (List Int)} {a : Nat} (h : a < rs.length) : index (.tup (rs.map rowD)) (.int a) = some (rowD (rs.getD a [])) := atI_rows h
theorem z_row {r : List Int} {k : Nat} (h : k < r.length) : index (rowD r) (.int k) = some (.int (r.getD k 0)) := atI_ints h
theorem z_lst {r : List Int} {k : Nat} (h : k < r.length) : index (.lst (r.map D.int)) (.int k) = some (.int (r.getD k 0)) := atI_ints h
theorem z_nat {ns : List Nat} {k : Nat} (h : k < ns.length) : index (.lst (natsD ns)) (.int k) = some (.int (ns.getD k 0)) := by
  show atI _ _ = _
  rw [atI_nat (by rw [natsD, List.length_map]; exact h), natsD, List.getElem?_map, List.getElem?_eq_getElem h, List.getD_eq_getElem?_getD, List.getElem?_eq_getElem h]
  rfl
theorem z_natT {ns : List Nat} {k : Nat} (h : k < ns.length) : index (.tup (natsD ns)) (.int k) = some (.int (ns.getD k 0)) := z_nat h
theorem modB {i j : Int} (h : 0 < j) : binop .mod (.int i) (.int j) = some (.int (i % j)) := by
  show (if _ then _ else _) = _
  rw [if_pos (by simp [h])]
theorem fdivB {i j : Int} (h : 0 < j) (h2 : j.natAbs.log2 < 9000) : binop .fdiv (.int i) (.int j) = some (.int (i / j)) := by
  show (if _ then _ else _) = _
  rw [if_pos (by simp [h, h2])]
theorem mulOk_r (i : Int) {j : Int} (h : ltp j.natAbs 64 = true) : mulOk i j = true := by unfold mulOk; rw [h]; simp
theorem getD_len {rs : List (List Int)} {s : Nat} (hrs : ∀ r ∈ rs, r.length = s) {k : Nat} (hk : k < rs.length) : (rs.getD k []).length = s := by
  rw [List.getD_eq_getElem?_getD, List.getElem?_eq_getElem hk]
  exact hrs _ (List.getElem_mem hk)
end Lw
end
section
set_option Elab.async false
set_option linter.all false
set_option maxRecDepth 100000
set_option maxHeartbeats 4000000
namespace Lw
open Py PySem
variable {C : Py.Ctx}
/-! ### the draws of the laws of lists -/
def Dr (m : M) : Prop := ∃ x y z : Int, m = .lst [.leaf (.int x), .leaf (.int y), .leaf (.int z)] ∧ 0 ≤ x ∧ 0 ≤ y ∧ 0 ≤ z
theorem pow18 : binop .pow (.int 10) (.int 18) = some (.int 1000000000000000000) := by rfl
theorem c_draw (cs : List Int) (hcs : cs.length ≤ 1000) (d place : Nat) : ∃ x y z : Int, callN C fns (d + 1) f__law_draw [.sh (.fro (cs.map D.int)), .sh (.int place)] = .ok [.dead, .dead] (.lst [.int x, .int y, .int z]) ∧ 0 ≤ x ∧ 0 ≤ y ∧ 0 ≤ z := by
  have h2 : ∃ c : Int, 0 ≤ c ∧ evSs C (callN C fns d) [.asg (.n 2) (.con (.int 0)), .ite (.cmp .lt (.var 1) (.blt .len [.var 0])) [.asg (.n 2) (.blt .abs [.blt .int [.idx (.var 0) (.var 1)]])] []] [.sh (.fro (cs.map D.int)), .sh (.int place), .dead, .dead] = .ok [.sh (.fro (cs.map D.int)), .sh (.int place), .sh (.int c), .dead] .next := by
    by_cases h : place < cs.length
    · have z : index (.fro (cs.map D.int)) (.int place) = some (.int (cs.getD place 0)) := atI_ints h
      generalize cs.getD place 0 = c at *
      refine ⟨if c < 0 then -c else c, by split <;> omega, ?_⟩
      simp [evSs, evS, evT, evI, ev, evs, evA, evIfs, evSq, evIt, R.bind, R.ofO, readM, readPl, Slot.path, M.path, mIndex, ixN, M.val, M.seq, E.mf, E.mfL, It.mf, cmpop, truth, fl, D.imm, D.immL, bltC, notIns, bltin, updPl, M.upd, setM, allLeaf, callOw, outsA, backA, Slot.isOw, D.tyOk, D.hasTy, setSrc, asgT, asgL, own1, isLst, mutM, M.fz, M.fzL, items, D.asInt, binop, D.eqOk, D.eqv, eqd_int, eqd_ints, h, z]
    · refine ⟨0, by omega, ?_⟩
      simp [evSs, evS, evT, evI, ev, evs, evA, evIfs, evSq, evIt, R.bind, R.ofO, readM, readPl, Slot.path, M.path, mIndex, ixN, M.val, M.seq, E.mf, E.mfL, It.mf, cmpop, truth, fl, D.imm, D.immL, bltC, notIns, bltin, updPl, M.upd, setM, allLeaf, callOw, outsA, backA, Slot.isOw, D.tyOk, D.hasTy, setSrc, asgT, asgL, own1, isLst, mutM, M.fz, M.fzL, items, D.asInt, binop, D.eqOk, D.eqv, eqd_int, eqd_ints, h]
  obtain ⟨c, hc, e2⟩ := h2
  have h3 : ∃ l : Int, 0 ≤ l ∧ evSs C (callN C fns d) [.asg (.n 3) (.con (.int 0)), .ite (.cmp .ge (.var 2) (.bin .pow (.con (.int 10)) (.con (.int 18)))) [.asg (.n 3) (.var 2)] []] [.sh (.fro (cs.map D.int)), .sh (.int place), .sh (.int c), .dead] = .ok [.sh (.fro (cs.map D.int)), .sh (.int place), .sh (.int c), .sh (.int l)] .next := by
    by_cases h : (1000000000000000000 : Int) ≤ c
    · exact ⟨c, hc, by simp [evSs, evS, evT, evI, ev, evs, evA, evIfs, evSq, evIt, R.bind, R.ofO, readM, readPl, Slot.path, M.path, mIndex, ixN, M.val, M.seq, E.mf, E.mfL, It.mf, cmpop, truth, fl, D.imm, D.immL, bltC, notIns, bltin, updPl, M.upd, setM, allLeaf, callOw, outsA, backA, Slot.isOw, D.tyOk, D.hasTy, setSrc, asgT, asgL, own1, isLst, mutM, M.fz, M.fzL, items, D.asInt, D.eqOk, D.eqv, eqd_int, eqd_ints, pow18, h]⟩
    · exact ⟨0, by omega, by simp [evSs, evS, evT, evI, ev, evs, evA, evIfs, evSq, evIt, R.bind, R.ofO, readM, readPl, Slot.path, M.path, mIndex, ixN, M.val, M.seq, E.mf, E.mfL, It.mf, cmpop, truth, fl, D.imm, D.immL, bltC, notIns, bltin, updPl, M.upd, setM, allLeaf, callOw, outsA, backA, Slot.isOw, D.tyOk, D.hasTy, setSrc, asgT, asgL, own1, isLst, mutM, M.fz, M.fzL, items, D.asInt, D.eqOk, D.eqv, eqd_int, eqd_ints, pow18, h]⟩
  obtain ⟨l, hl, e3⟩ := h3
  refine ⟨l, (c * 69621 + place * 7919 + 1) % 2147483647, (c + place * 104729 + 3) % 2147483399, ?_, hl, Int.emod_nonneg _ (by omega), Int.emod_nonneg _ (by omega)⟩
  have n1 := mulOk_r c (j := 69621) (ltp_of (by decide) (by decide))
  have n2 := mulOk_r place (j := 7919) (ltp_of (by decide) (by decide))
  have n3 := mulOk_r place (j := 104729) (ltp_of (by decide) (by decide))
  show runFn C _ F__law_draw _ = _
  have app : ∀ {s1 s2 : S} {ss : List S} {G G1 : Py.Env}, evSs C (callN C fns d) [s1, s2] G = .ok G1 .next → evSs C (callN C fns d) (s1 :: s2 :: ss) G = evSs C (callN C fns d) ss G1 := fun {s1 s2 ss G G1} h => by
    simp only [evSs] at h ⊢
    cases e : evS C (callN C fns d) s1 G with
    | bad => rw [e] at h; cases h
    | ok G2 o =>
      rw [e] at h
      cases o <;> simp only [R.bind] at h ⊢ <;> try (cases h; done)
      cases e2 : evS C (callN C fns d) s2 G2 with
      | bad => rw [e2] at h; cases h
      | ok G3 o =>
        rw [e2] at h
        cases o <;> simp only [R.bind] at h ⊢ <;> cases h
        rfl
  have : evSs C (callN C fns d) F__law_draw.body (enter F__law_draw.n [.sh (.fro (cs.map D.int)), .sh (.int place)]) = .ok [.sh (.fro (cs.map D.int)), .sh (.int place), .sh (.int c), .sh (.int l)] (.ret (.lst [.int l, .int ((c * 69621 + place * 7919 + 1) % 2147483647), .int ((c + place * 104729 + 3) % 2147483399)])) := by
    refine (app e2).trans ((app e3).trans ?_)
    simp [evSs, evS, evT, evI, ev, evs, evA, evIfs, evSq, evIt, R.bind, R.ofO, readM, readPl, Slot.path, M.path, mIndex, ixN, M.val, M.seq, E.mf, E.mfL, It.mf, cmpop, truth, fl, D.imm, D.immL, bltC, notIns, bltin, updPl, M.upd, setM, allLeaf, callOw, outsA, backA, Slot.isOw, D.tyOk, D.hasTy, setSrc, asgT, asgL, own1, isLst, mutM, M.fz, M.fzL, items, D.asInt, binop, D.eqOk, D.eqv, eqd_int, eqd_ints, n1, n2, n3]
  rw [runFn, this]
  simp [F__law_draw, ioOk, leave]
theorem own_dr {x y z : Int} (h1 : 0 ≤ x) (h2 : 0 ≤ y) (h3 : 0 ≤ z) : ∃ m, own1 (.lst [.int x, .int y, .int z]) = some m ∧ Dr m := ⟨_, rfl, x, y, z, rfl, h1, h2, h3⟩
theorem c_next (d many : Nat) (h1 : 1 ≤ many) (h2 : many ≤ 1000000) (m : M) (hm : Dr m) : ∃ (m' : M) (x : Nat), callN C fns (d + 1) f__law_next [.ow m, .sh (.int many)] = .ok [.ow m', .dead] (.int x) ∧ Dr m' ∧ x < many := by
  obtain ⟨x, y, z, rfl, hx, hy, hz⟩ := hm
  have hb : many.log2 < 62 := by
    have := rngOk_nat many h2
    unfold rngOk ltp at this
    exact of_decide_eq_true this
  have m1 := fun i => modB (i := i) (j := (many : Int)) (by omega)
  have m2 := fun i => fdivB (i := i) (j := (many : Int)) (by omega) (by show many.log2 < 9000; omega)
  have fin : ∀ (m' : M) (v : Int), callN C fns (d + 1) f__law_next [.ow (.lst [.leaf (.int x), .leaf (.int y), .leaf (.int z)]), .sh (.int many)] = .ok [.ow m', .dead] (.int (v % many)) → Dr m' → ∃ (m' : M) (x_1 : Nat), callN C fns (d + 1) f__law_next [.ow (.lst [.leaf (.int x), .leaf (.int y), .leaf (.int z)]), .sh (.int many)] = .ok [.ow m', .dead] (.int x_1) ∧ Dr m' ∧ x_1 < many := fun m' v e hd => by
    have h3 := Int.emod_nonneg v (b := (many : Int)) (by omega)
    have h4 := Int.emod_lt_of_pos v (b := (many : Int)) (by omega)
    refine ⟨m', (v % many).toNat, ?_, hd, by omega⟩
    rw [Int.toNat_of_nonneg h3]
    exact e
  by_cases h : 0 < x
  · refine fin (.lst [.leaf (.int (x / many)), .leaf (.int y), .leaf (.int z)]) x ?_ ⟨_, _, _, rfl, Int.ediv_nonneg hx (by omega), hy, hz⟩
    have a1 := m1 x
    have a2 := m2 x
    show runFn C _ F__law_next _ = _
    simp [runFn, F__law_next, ioOk, enter, leave, evSs, evS, evT, evI, ev, evs, evA, evIfs, evSq, evIt, R.bind, R.ofO, readM, readPl, Slot.path, M.path, mIndex, ixN, M.val, M.seq, E.mf, E.mfL, It.mf, cmpop, truth, fl, D.imm, D.immL, bltC, notIns, bltin, updPl, M.upd, setM, allLeaf, callOw, outsA, backA, Slot.isOw, D.tyOk, D.hasTy, setSrc, asgT, asgL, own1, isLst, mutM, M.fz, M.fzL, items, D.asInt, D.eqOk, D.eqv, eqd_int, eqd_ints, h, a1, a2]
  · have n1 := mulOk_r y (j := 48271) (ltp_of (by decide) (by decide))
    have n2 := mulOk_r z (j := 40692) (ltp_of (by decide) (by decide))
    have b1 : binop .mul (.int y) (.int 48271) = some (.int (y * 48271)) := by show (if _ then _ else _) = _; rw [if_pos n1]
    have b2 : binop .mul (.int z) (.int 40692) = some (.int (z * 40692)) := by show (if _ then _ else _) = _; rw [if_pos n2]
    have b3 : ∀ i j : Int, binop .add (.int i) (.int j) = some (.int (i + j)) := fun i j => rfl
    have b4 : ∀ i : Int, binop .mod (.int i) (.int 2147483647) = some (.int (i % 2147483647)) := fun i => modB (by omega)
    have b5 : ∀ i : Int, binop .mod (.int i) (.int 2147483399) = some (.int (i % 2147483399)) := fun i => modB (by omega)
    have b6 : ∀ i : Int, binop .fdiv (.int i) (.int 64) = some (.int (i / 64)) := fun i => fdivB (by omega) (by decide)
    refine fin (.lst [.leaf (.int x), .leaf (.int ((y * 48271 + 11) % 2147483647)), .leaf (.int ((z * 40692 + 7) % 2147483399))]) (((y * 48271 + 11) % 2147483647 + (z * 40692 + 7) % 2147483399) / 64) ?_ ⟨_, _, _, rfl, hx, Int.emod_nonneg _ (by omega), Int.emod_nonneg _ (by omega)⟩
    show runFn C _ F__law_next _ = _
    have a1 := m1 (((y * 48271 + 11) % 2147483647 + (z * 40692 + 7) % 2147483399) / 64)
    simp [runFn, F__law_next, ioOk, enter, leave, evSs, evS, evT, evI, ev, evs, evA, evIfs, evSq, evIt, R.bind, R.ofO, readM, readPl, Slot.path, M.path, mIndex, ixN, M.val, M.seq, E.mf, E.mfL, It.mf, cmpop, truth, fl, D.imm, D.immL, bltC, notIns, bltin, updPl, M.upd, setM, allLeaf, callOw, outsA, backA, Slot.isOw, D.tyOk, D.hasTy, setSrc, asgT, asgL, own1, isLst, mutM, M.fz, M.fzL, items, D.asInt, D.eqOk, D.eqv, eqd_int, eqd_ints, h, b1, b2, b3, b4, b5, b6, a1]
/-- a row's figures, the first point ahead -/
def bb (s n : Nat) : List Int := (List.range s).map fun p => (((n / 2 ^ (s - 1 - p)) % 2 : Nat) : Int)
theorem bb_len (s n : Nat) : (bb s n).length = s := by unfold bb; rw [List.length_map, List.length_range]
theorem bb_ok (s n : Nat) : Bits (bb s n) := by
  intro x hx
  obtain ⟨k, _, rfl⟩ := List.mem_map.mp hx
  omega
theorem c_bits (d s n : Nat) (hs : s ≤ 1000) : callN C fns (d + 1) f__law_bits [.sh (.int n), .sh (.int s)] = .ok [.dead, .dead] (rowD (bb s n)) := by
  show runFn C _ F__law_bits _ = _
  have e2 := ev_lcRa (C := C) (orc := callN C fns d) (G := [.sh (.int n), .sh (.int s), .dead]) (G1 := [.sh (.int n), .sh (.int s), .dead]) (a := .var 1) (s := s) (b := false) (v := 2) (elt := .bin .band (.bin .shr (.var 0) (.bin .sub (.bin .sub (.var 1) (.con (.int 1))) (.var 2))) (.con (.int 1))) (fun p => D.int (((n / 2 ^ (s - 1 - p)) % 2 : Nat) : Int)) (by simp [ev]) (by omega) (by rfl) (by rfl) (fun k hk => by
    have b1 : binop .sub (.int (s : Int)) (.int 1) = some (.int ((s : Int) - 1)) := rfl
    have b2 : binop .sub (.int ((s : Int) - 1)) (.int (k : Int)) = some (.int ((s - 1 - k : Nat) : Int)) := by
      show some (D.int _) = _
      congr 2
      omega
    have b3 : binop .shr (.int (n : Int)) (.int ((s - 1 - k : Nat) : Int)) = some (.int ((n / 2 ^ (s - 1 - k) : Nat) : Int)) := by
      have h0 : decide ((0 : Int) ≤ ((s - 1 - k : Nat) : Int)) = true := decide_eq_true (by omega)
      show (if decide ((0 : Int) ≤ ((s - 1 - k : Nat) : Int)) = true then some (D.int ((n : Int) / 2 ^ ((s - 1 - k : Nat) : Int).toNat)) else none) = _
      rw [if_pos h0, Int.toNat_natCast]
      congr 2
    have b4 : binop .band (.int ((n / 2 ^ (s - 1 - k) : Nat) : Int)) (.int 1) = some (.int ((n / 2 ^ (s - 1 - k) % 2 : Nat) : Int)) := by
      show some (D.int (Builtin.bitAnd _ _)) = _
      rw [PyProof.Rows.bitAnd_m1]
      simp
    generalize ((s - 1 - k : Nat) : Int) = u at *
    generalize ((n / 2 ^ (s - 1 - k) : Nat) : Int) = v at *
    generalize ((n / 2 ^ (s - 1 - k) % 2 : Nat) : Int) = w at *
    simp [lcStep, evSs, evS, evT, evI, ev, evs, evA, evIfs, evSq, evIt, R.bind, R.ofO, readM, readPl, Slot.path, M.path, mIndex, ixN, M.val, M.seq, E.mf, E.mfL, It.mf, cmpop, truth, fl, D.imm, D.immL, bltC, notIns, bltin, updPl, M.upd, setM, allLeaf, callOw, outsA, backA, Slot.isOw, D.tyOk, D.hasTy, setSrc, asgT, asgL, own1, isLst, mutM, M.fz, M.fzL, items, D.asInt, D.eqOk, D.eqv, eqd_int, eqd_ints, wipe, b1, b2, b3, b4])
  have e3 : (List.range s).map (fun p => D.int (((n / 2 ^ (s - 1 - p)) % 2 : Nat) : Int)) = (bb s n).map D.int := by unfold bb; rw [List.map_map]; rfl
  rw [e3] at e2
  simp [F__law_bits, runFn, ioOk, enter, leave, evSs, evS, evT, evI, ev, evs, evA, evIfs, evSq, evIt, R.bind, R.ofO, readM, readPl, Slot.path, M.path, mIndex, ixN, M.val, M.seq, E.mf, E.mfL, It.mf, cmpop, truth, fl, D.imm, D.immL, bltC, notIns, bltin, index, updPl, M.upd, setM, allLeaf, callOw, outsA, backA, Slot.isOw, D.tyOk, D.hasTy, setSrc, asgT, asgL, own1, isLst, mutM, M.fz, M.fzL, items, D.asInt, binop, eqd, D.eqOk, D.eqv, ↓e2, rowD]
theorem c_odd (d n : Nat) : ∃ v : Int, callN C fns (d + 1) f__law_odd [.sh (.int n)] = .ok [.dead] (.int v) := by
  obtain ⟨G2, e, v, x2, rfl⟩ := evS_forR (C := C) (orc := callN C fns d) (tg := .n 2) (a := .con (.int 5)) (body := [.asg (.n 1) (.bin .bxor (.var 1) (.bin .band (.bin .shr (.var 0) (.var 2)) (.con (.int 1))))]) (b := false)
    (G := [.sh (.int n), .sh (.int 0), .dead]) (G1 := [.sh (.int n), .sh (.int 0), .dead]) 5
    (fun k (G : Py.Env) => ∃ (v : Int) (x2 : Slot), G = [.sh (.int n), .sh (.int v), x2]) (by rw [ev]; rfl) (by omega) ⟨0, .dead, rfl⟩ (fun k hk G hG => by
      obtain ⟨v, x2, rfl⟩ := hG
      refine ⟨[.sh (.int n), .sh (.int v), .sh (.int k)], [.sh (.int n), .sh (.int (Builtin.bitXor v (Builtin.bitAnd (n / 2 ^ k) 1))), .sh (.int k)], by simp [asgT], ?_, _, _, rfl⟩
      simp [evSs, evS, evT, evI, ev, evs, evA, evIfs, evSq, evIt, R.bind, R.ofO, readM, readPl, Slot.path, M.path, mIndex, ixN, M.val, M.seq, E.mf, E.mfL, It.mf, cmpop, truth, fl, D.imm, D.immL, bltC, notIns, bltin, updPl, M.upd, setM, allLeaf, callOw, outsA, backA, Slot.isOw, D.tyOk, D.hasTy, setSrc, asgT, asgL, own1, isLst, mutM, M.fz, M.fzL, items, D.asInt, binop, D.eqOk, D.eqv, eqd_int, eqd_ints])
  refine ⟨v, ?_⟩
  show runFn C _ F__law_odd _ = _
  have : evSs C (callN C fns d) F__law_odd.body (enter F__law_odd.n [.sh (.int n)]) = .ok [.sh (.int n), .sh (.int v), x2] (.ret (.int v)) := by
    show evSs C _ F__law_odd.body [.sh (.int n), .dead, .dead] = _
    unfold F__law_odd
    rw [evSs_next (G1 := [.sh (.int n), .sh (.int 0), .dead]) (by simp [evSs, evS, evT, evI, ev, evs, evA, evIfs, evSq, evIt, R.bind, R.ofO, readM, readPl, Slot.path, M.path, mIndex, ixN, M.val, M.seq, E.mf, E.mfL, It.mf, cmpop, truth, fl, D.imm, D.immL, bltC, notIns, bltin, updPl, M.upd, setM, allLeaf, callOw, outsA, backA, Slot.isOw, D.tyOk, D.hasTy, setSrc, asgT, asgL, own1, isLst, mutM, M.fz, M.fzL, items, D.asInt, binop, D.eqOk, D.eqv, eqd_int, eqd_ints])]
    rw [evSs_next e]
    simp [evSs, evS, evT, evI, ev, evs, evA, evIfs, evSq, evIt, R.bind, R.ofO, readM, readPl, Slot.path, M.path, mIndex, ixN, M.val, M.seq, E.mf, E.mfL, It.mf, cmpop, truth, fl, D.imm, D.immL, bltC, notIns, bltin, updPl, M.upd, setM, allLeaf, callOw, outsA, backA, Slot.isOw, D.tyOk, D.hasTy, setSrc, asgT, asgL, own1, isLst, mutM, M.fz, M.fzL, items, D.asInt, binop, D.eqOk, D.eqv, eqd_int, eqd_ints]
  rw [runFn, this]
  simp [F__law_odd, ioOk, leave]
end Lw
end
section
set_option Elab.async false
set_option linter.all false
set_option maxRecDepth 100000
set_option maxHeartbeats 4000000
namespace Lw
open Py PySem
variable {C : Py.Ctx}
def swp (n a b : Nat) : Nat := if n / 2 ^ a % 2 = n / 2 ^ b % 2 then n else n ^^^ 2 ^ a ^^^ 2 ^ b
theorem swp_facts : ∀ s, s ≤ 5 → ∀ a, a < s → ∀ b, b < s → ∀ n, n < 2 ^ s → swp n a b < 2 ^ s ∧ swp (swp n a b) a b = n := by
  have h : ((List.range 6).all fun s => (List.range s).all fun a => (List.range s).all fun b => (List.range (2 ^ s)).all fun n => decide (swp n a b < 2 ^ s ∧ swp (swp n a b) a b = n)) = true := by decide +kernel
  intro s hs a ha b hb n hn
  exact of_decide_eq_true (List.all_eq_true.mp (List.all_eq_true.mp (List.all_eq_true.mp (List.all_eq_true.mp h s (List.mem_range.mpr (by omega))) a (List.mem_range.mpr ha)) b (List.mem_range.mpr hb)) n (List.mem_range.mpr hn))
theorem nodup_map {α β : Type} {f : α → β} {g : β → α} : ∀ {l : List α}, (∀ x ∈ l, g (f x) = x) → l.Nodup → (l.map f).Nodup
  | [], _, _ => List.nodup_nil
  | x :: l, h, n => by
    have n' := List.nodup_cons.mp n
    rw [List.map_cons]
    refine List.nodup_cons.mpr ⟨fun hm => ?_, nodup_map (fun y hy => h y (List.mem_cons_of_mem _ hy)) n'.2⟩
    obtain ⟨y, hy, e⟩ := List.mem_map.mp hm
    have := h x List.mem_cons_self
    rw [← e, h y (List.mem_cons_of_mem _ hy)] at this
    exact n'.1 (this ▸ hy)
theorem pow_lt5 {s a : Nat} (h : a < s) (hs : s ≤ 5) : 2 ^ a < 2 ^ s := Nat.pow_lt_pow_right (by decide) h
theorem xor_lt {s x y : Nat} (hx : x < 2 ^ s) (hy : y < 2 ^ s) : x ^^^ y < 2 ^ s := Nat.xor_lt_two_pow hx hy
theorem xorB {s x y : Nat} (hs : s ≤ 5) (hx : x < 2 ^ s) (hy : y < 2 ^ s) : binop .bxor (.int x) (.int y) = some (.int ((x ^^^ y : Nat) : Int)) := by
  have := (pow5 hs).2
  show some (D.int _) = _
  rw [bXor32 x (by omega) y (by omega)]
theorem bit_at (n a : Nat) : binop .shr (.int n) (.int a) = some (.int ((n / 2 ^ a : Nat) : Int)) := by
  have h0 : decide ((0 : Int) ≤ (a : Int)) = true := decide_eq_true (by omega)
  show (if decide ((0 : Int) ≤ (a : Int)) = true then some (D.int ((n : Int) / 2 ^ (a : Int).toNat)) else none) = _
  rw [if_pos h0, Int.toNat_natCast]
  congr 2
theorem band1 (n : Nat) : binop .band (.int n) (.int 1) = some (.int ((n % 2 : Nat) : Int)) := by
  show some (D.int (Builtin.bitAnd _ _)) = _
  rw [PyProof.Rows.bitAnd_m1]
  congr 2
theorem c_swapped (d s n a b : Nat) (hs : s ≤ 5) (ha : a < s) (hb : b < s) (hn : n < 2 ^ s) : callN C fns (d + 1) f__law_swapped [.sh (.int n), .sh (.int a), .sh (.int b)] = .ok [.dead, .dead, .dead] (.int (swp n a b : Nat)) := by
  show runFn C _ F__law_swapped _ = _
  have p1 := pow_lt5 ha hs
  have p2 := pow_lt5 hb hs
  have a1 := bit_at n a
  have a2 := bit_at n b
  have a3 := band1 (n / 2 ^ a)
  have a4 := band1 (n / 2 ^ b)
  have a5 := shlK (n := a) (by omega)
  have a6 := shlK (n := b) (by omega)
  have a7 := xorB hs hn p1
  have a8 := xorB hs (xor_lt hn p1) p2
  have a9 : cmpop .eq (.int ((n / 2 ^ a % 2 : Nat) : Int)) (.int ((n / 2 ^ b % 2 : Nat) : Int)) = some (.bl (decide (n / 2 ^ a % 2 = n / 2 ^ b % 2))) := by
    show Option.map D.bl (eqd (.int _) (.int _)) = _
    rw [eqd_int]
    show some (D.bl _) = _
    congr 2
    by_cases h : n / 2 ^ a % 2 = n / 2 ^ b % 2
    · rw [h]; simp
    · rw [decide_eq_false h]
      exact beq_eq_false_iff_ne.mpr (by omega)
  unfold swp
  generalize (2 ^ a : Nat) = pa at *
  generalize (2 ^ b : Nat) = pb at *
  generalize (n / pa : Nat) = u at *
  generalize (n / pb : Nat) = v at *
  generalize (u % 2 : Nat) = u2 at *
  generalize (v % 2 : Nat) = v2 at *
  generalize (n ^^^ pa : Nat) = x1 at *
  generalize (x1 ^^^ pb : Nat) = x2 at *
  by_cases h : u2 = v2
  · rw [decide_eq_true h] at a9
    rw [if_pos h]
    simp [runFn, F__law_swapped, ioOk, enter, leave, evSs, evS, evT, evI, ev, evs, evA, evIfs, evSq, evIt, R.bind, R.ofO, readM, readPl, Slot.path, M.path, mIndex, ixN, M.val, M.seq, E.mf, E.mfL, It.mf, truth, fl, D.imm, D.immL, bltC, notIns, bltin, updPl, M.upd, setM, allLeaf, callOw, outsA, backA, Slot.isOw, D.tyOk, D.hasTy, setSrc, asgT, asgL, own1, isLst, mutM, M.fz, M.fzL, items, D.asInt, D.eqOk, D.eqv, eqd_int, eqd_ints, a1, a2, a3, a4, a9]
  · rw [decide_eq_false h] at a9
    rw [if_neg h]
    simp [runFn, F__law_swapped, ioOk, enter, leave, evSs, evS, evT, evI, ev, evs, evA, evIfs, evSq, evIt, R.bind, R.ofO, readM, readPl, Slot.path, M.path, mIndex, ixN, M.val, M.seq, E.mf, E.mfL, It.mf, truth, fl, D.imm, D.immL, bltC, notIns, bltin, updPl, M.upd, setM, allLeaf, callOw, outsA, backA, Slot.isOw, D.tyOk, D.hasTy, setSrc, asgT, asgL, own1, isLst, mutM, M.fz, M.fzL, items, D.asInt, D.eqOk, D.eqv, eqd_int, eqd_ints, a1, a2, a3, a4, a5, a6, a7, a8, a9]
/-- numbers, each once, below 2 ^ s -/
structure Nm (s : Nat) (ns : List Nat) : Prop where
  nd : ns.Nodup
  lt : ∀ x ∈ ns, x < 2 ^ s
theorem Nm.map {s : Nat} {ns : List Nat} {f g : Nat → Nat} (h : Nm s ns) (hf : ∀ x, x < 2 ^ s → f x < 2 ^ s ∧ g (f x) = x) : Nm s (ns.map f) := ⟨nodup_map (g := g) (fun x hx => (hf x (h.lt x hx)).2) h.nd, fun y hy => by
  obtain ⟨x, hx, rfl⟩ := List.mem_map.mp hy
  exact (hf x (h.lt x hx)).1⟩
/-- each once, so few -/
theorem Nm.len {s : Nat} {ns : List Nat} (h : Nm s ns) : ns.length ≤ 2 ^ s := by
  have := h.nd.length_le_of_subset (l₂ := List.range (2 ^ s)) fun x hx => List.mem_range.mpr (h.lt x hx)
  rwa [List.length_range] at this
theorem Nm.range (s : Nat) : Nm s (List.range (2 ^ s)) := ⟨List.nodup_range, fun x hx => List.mem_range.mp hx⟩
theorem Nm.filter {s : Nat} {ns : List Nat} (h : Nm s ns) (p : Nat → Bool) : Nm s (ns.filter p) := ⟨h.nd.filter _, fun x hx => h.lt x (List.mem_filter.mp hx).1⟩
end Lw
end
section
set_option Elab.async false
set_option linter.all false
set_option maxRecDepth 100000
set_option maxHeartbeats 4000000
namespace Lw
open Py PySem
variable {C : Py.Ctx}
theorem ltB (a b : Nat) : cmpop .gt (.int b) (.int a) = some (.bl (decide (a < b))) := by
  show some (D.bl (decide ((a : Int) < (b : Int)))) = _
  congr 2
  exact decide_eq_decide.mpr (by omega)
theorem gtB0 (b : Nat) : cmpop .gt (.int b) (.int 0) = some (.bl (decide (0 < b))) := ltB 0 b
theorem ltB' (a b : Nat) : cmpop .lt (.int a) (.int b) = some (.bl (decide (a < b))) := by
  show some (D.bl (decide ((a : Int) < (b : Int)))) = _
  congr 2
  exact decide_eq_decide.mpr (by omega)
theorem eqB (a b : Nat) : cmpop .eq (.int a) (.int b) = some (.bl (decide (a = b))) := by
  show Option.map D.bl (eqd (.int _) (.int _)) = _
  rw [eqd_int]
  show some (D.bl _) = _
  congr 2
  by_cases h : a = b
  · rw [h]; simp
  · rw [decide_eq_false h]
    exact beq_eq_false_iff_ne.mpr (by omega)
def gB (k : Nat) : S := F__law_grown.body.getD k .pass
def gFor : List S := match gB 1 with
  | .for_ _ _ b => b
  | _ => []
def gfB (k : Nat) : S := gFor.getD k .pass
theorem grown_turn (d s : Nat) (hs : s ≤ 5) (m : M) (hm : Dr m) (ns : List Nat) (h : Nm s ns) (h0 : ns ≠ []) (x3 x4 : Slot) :
    ∃ (m' : M) (ns' : List Nat) (x4' : Slot), Dr m' ∧ Nm s ns' ∧ ns' ≠ [] ∧ evSs C (callN C fns (d + 1)) gFor [.ow m, .sh (.int s), .ow (ownN ns), x3, x4] = .ok [.ow m', .sh (.int s), .ow (ownN ns'), x3, x4'] .next := by
  have hl := List.length_pos_iff.mpr h0
  have hl2 := h.len
  have hp := (pow5 hs).2
  obtain ⟨m1, k1, e1, b1, q1⟩ := c_next (C := C) d ns.length hl (by omega) m hm
  have i1 := ownN_ix q1
  have l1 := h.lt _ (getD_mem q1)
  generalize ns.getD k1 0 = v1 at *
  have nl := natsD_len ns
  have nv := ownN_val ns
  have st1 : evS C (callN C fns (d + 1)) (gfB 0) [.ow m, .sh (.int s), .ow (ownN ns), x3, x4] = .ok [.ow m1, .sh (.int s), .ow (ownN ns), x3, .sh (.int v1)] .next := by
    unfold gfB gFor gB F__law_grown
    simp [evSs, evS, evT, evI, ev, evs, evA, evIfs, evSq, evIt, R.bind, R.ofO, readM, readPl, Slot.path, M.path, ixN, M.seq, E.mf, E.mfL, It.mf, truth, fl, D.imm, D.immL, bltC, notIns, bltin, updPl, M.upd, setM, allLeaf, callOw, outsA, backA, Slot.isOw, D.tyOk, D.hasTy, setSrc, asgT, asgL, own1, M.fz, M.fzL, items, D.asInt, D.eqOk, D.eqv, eqd_int, eqd_ints, valL, lenB, nv, nl, e1, i1]
  -- the number's next
  have st2 : ∃ (m2 : M) (v2 : Nat), Dr m2 ∧ v2 < 2 ^ s ∧ evS C (callN C fns (d + 1)) (gfB 1) [.ow m1, .sh (.int s), .ow (ownN ns), x3, .sh (.int v1)] = .ok [.ow m2, .sh (.int s), .ow (ownN ns), x3, .sh (.int v2)] .next := by
    have other : ∀ m', Dr m' → ∃ (m2 : M) (v2 : Nat), Dr m2 ∧ v2 < 2 ^ s ∧ evSs C (callN C fns (d + 1)) [.asg (.n 4) (.bin .bxor (.bin .bxor (.var 4) (.idx (.pth 2 []) (.callO f__law_next [.io 0 [], .e (.blt .len [.pth 2 []])] [0, 1]))) (.idx (.pth 2 []) (.callO f__law_next [.io 0 [], .e (.blt .len [.pth 2 []])] [0, 1])))] [.ow m', .sh (.int s), .ow (ownN ns), x3, .sh (.int v1)] = .ok [.ow m2, .sh (.int s), .ow (ownN ns), x3, .sh (.int v2)] .next := by
      intro m' hm'
      obtain ⟨m3, k3, e3, b3, q3⟩ := c_next (C := C) d ns.length hl (by omega) m' hm'
      obtain ⟨m4, k4, e4, b4, q4⟩ := c_next (C := C) d ns.length hl (by omega) m3 b3
      have i3 := ownN_ix q3
      have l3 := h.lt _ (getD_mem q3)
      have i4 := ownN_ix q4
      have l4 := h.lt _ (getD_mem q4)
      generalize ns.getD k3 0 = v3 at *
      generalize ns.getD k4 0 = v4 at *
      have x1 := xorB hs l1 l3
      have x2 := xorB hs (xor_lt l1 l3) l4
      refine ⟨m4, v1 ^^^ v3 ^^^ v4, b4, xor_lt (xor_lt l1 l3) l4, ?_⟩
      generalize v1 ^^^ v3 = w1 at *
      generalize w1 ^^^ v4 = w2 at *
      simp [evSs, evS, evT, evI, ev, evs, evA, evIfs, evSq, evIt, R.bind, R.ofO, readM, readPl, Slot.path, M.path, ixN, M.seq, E.mf, E.mfL, It.mf, truth, fl, D.imm, D.immL, bltC, notIns, bltin, updPl, M.upd, setM, allLeaf, callOw, outsA, backA, Slot.isOw, D.tyOk, D.hasTy, setSrc, asgT, asgL, own1, M.fz, M.fzL, items, D.asInt, D.eqOk, D.eqv, eqd_int, eqd_ints, valL, lenB, nv, nl, e3, e4, i3, i4, x1, x2]
    by_cases c0 : 0 < s
    · obtain ⟨m3, k3, e3, b3, q3⟩ := c_next (C := C) d 3 (by omega) (by omega) m1 b1
      have e3 : callN C fns (d + 1) f__law_next [.ow m1, .sh (.int 3)] = _ := e3
      have g0 := gtB0 s
      have g1 := gtB0 k3
      rw [decide_eq_true c0] at g0
      by_cases c1 : 0 < k3
      · rw [decide_eq_true c1] at g1
        obtain ⟨m4, k4, e4, b4, q4⟩ := c_next (C := C) d s (by omega) (by omega) m3 b3
        have p4 := pow_lt5 q4 hs
        have x1 := xorB hs l1 p4
        have x2 := shlK (n := k4) (by omega)
        refine ⟨m4, v1 ^^^ 2 ^ k4, b4, xor_lt l1 p4, ?_⟩
        generalize (2 ^ k4 : Nat) = w0 at *
        generalize v1 ^^^ w0 = w1 at *
        unfold gfB gFor gB F__law_grown
        simp [evSs, evS, evT, evI, ev, evs, evA, evIfs, evSq, evIt, R.bind, R.ofO, readM, readPl, Slot.path, M.path, ixN, M.seq, E.mf, E.mfL, It.mf, truth, fl, D.imm, D.immL, bltC, notIns, bltin, updPl, M.upd, setM, allLeaf, callOw, outsA, backA, Slot.isOw, D.tyOk, D.hasTy, setSrc, asgT, asgL, own1, M.fz, M.fzL, items, D.asInt, D.eqOk, D.eqv, eqd_int, eqd_ints, valL, g0, g1, e3, e4, x1, x2]
      · rw [decide_eq_false c1] at g1
        obtain ⟨m2, v2, b2, l2, e2⟩ := other m3 b3
        refine ⟨m2, v2, b2, l2, ?_⟩
        have hc : evT C (callN C fns (d + 1)) (.and (.cmp .gt (.var 1) (.con (.int 0))) (.cmp .gt (.callO f__law_next [.io 0 [], .e (.con (.int 3))] [0, 1]) (.con (.int 0)))) [.ow m1, .sh (.int s), .ow (ownN ns), x3, .sh (.int v1)] = .ok [.ow m3, .sh (.int s), .ow (ownN ns), x3, .sh (.int v1)] false := by
          simp [evSs, evS, evT, evI, ev, evs, evA, evIfs, evSq, evIt, R.bind, R.ofO, readM, readPl, Slot.path, M.path, ixN, M.seq, E.mf, E.mfL, It.mf, truth, fl, D.imm, D.immL, bltC, notIns, bltin, updPl, M.upd, setM, allLeaf, callOw, outsA, backA, Slot.isOw, D.tyOk, D.hasTy, setSrc, asgT, asgL, own1, M.fz, M.fzL, items, D.asInt, D.eqOk, D.eqv, eqd_int, eqd_ints, valL, g0, g1, e3]
        unfold gfB gFor gB F__law_grown
        simp only [List.getD_cons_succ, List.getD_cons_zero]
        rw [evS, hc]
        exact e2
    · have g0 := gtB0 s
      rw [decide_eq_false c0] at g0
      obtain ⟨m2, v2, b2, l2, e2⟩ := other m1 b1
      refine ⟨m2, v2, b2, l2, ?_⟩
      have hc : evT C (callN C fns (d + 1)) (.and (.cmp .gt (.var 1) (.con (.int 0))) (.cmp .gt (.callO f__law_next [.io 0 [], .e (.con (.int 3))] [0, 1]) (.con (.int 0)))) [.ow m1, .sh (.int s), .ow (ownN ns), x3, .sh (.int v1)] = .ok [.ow m1, .sh (.int s), .ow (ownN ns), x3, .sh (.int v1)] false := by
        simp [evSs, evS, evT, evI, ev, evs, evA, evIfs, evSq, evIt, R.bind, R.ofO, readM, readPl, Slot.path, M.path, ixN, M.seq, E.mf, E.mfL, It.mf, truth, fl, D.imm, D.immL, bltC, notIns, bltin, updPl, M.upd, setM, allLeaf, callOw, outsA, backA, Slot.isOw, D.tyOk, D.hasTy, setSrc, asgT, asgL, own1, M.fz, M.fzL, items, D.asInt, D.eqOk, D.eqv, eqd_int, eqd_ints, valL, g0]
      unfold gfB gFor gB F__law_grown
      simp only [List.getD_cons_succ, List.getD_cons_zero]
      rw [evS, hc]
      exact e2
  obtain ⟨m2, v2, b2, l2, e2⟩ := st2
  have n2 := nmem_nats v2 ns
  have hB : gFor = [gfB 0, gfB 1, gfB 2] := rfl
  by_cases c : v2 ∈ ns
  · rw [show decide (v2 ∉ ns) = false from decide_eq_false (fun h => h c)] at n2
    refine ⟨m2, ns, .sh (.int v2), b2, h, h0, ?_⟩
    rw [hB, evSs_next st1, evSs_next e2]
    unfold gfB gFor gB F__law_grown
    simp [evSs, evS, evT, evI, ev, evs, evA, evIfs, evSq, evIt, R.bind, R.ofO, readM, readPl, Slot.path, M.path, ixN, M.seq, E.mf, E.mfL, It.mf, truth, fl, D.imm, D.immL, bltC, notIns, bltin, updPl, M.upd, setM, allLeaf, callOw, outsA, backA, Slot.isOw, D.tyOk, D.hasTy, setSrc, asgT, asgL, own1, M.fz, M.fzL, items, D.asInt, D.eqOk, D.eqv, eqd_int, eqd_ints, valL, n2, nv]
  · rw [show decide (v2 ∉ ns) = true from decide_eq_true c] at n2
    have pu := ownN_push ns v2 (by omega)
    have il := ownN_isLst ns
    refine ⟨m2, ns ++ [v2], .sh (.int v2), b2, ⟨?_, fun x hx => ?_⟩, by simp, ?_⟩
    · rw [List.nodup_append]
      refine ⟨h.nd, by simp, fun a ha b hb e => c ?_⟩
      rw [List.mem_singleton.mp hb] at e
      exact e ▸ ha
    · rcases List.mem_append.mp hx with hx | hx
      · exact h.lt x hx
      · rw [List.mem_singleton.mp hx]; exact l2
    rw [hB, evSs_next st1, evSs_next e2]
    unfold gfB gFor gB F__law_grown
    simp [evSs, evS, evT, evI, ev, evs, evA, evIfs, evSq, evIt, R.bind, R.ofO, readM, readPl, Slot.path, M.path, ixN, M.seq, E.mf, E.mfL, It.mf, truth, fl, D.imm, D.immL, bltC, notIns, bltin, updPl, M.upd, setM, allLeaf, callOw, outsA, backA, Slot.isOw, D.tyOk, D.hasTy, setSrc, asgT, asgL, own1, M.fz, M.fzL, items, D.asInt, D.eqOk, D.eqv, eqd_int, eqd_ints, valL, n2, nv, pu, il]
theorem c_grown (d s : Nat) (hs : s ≤ 5) (m : M) (hm : Dr m) : ∃ (m' : M) (ns : List Nat), callN C fns (d + 2) f__law_grown [.ow m, .sh (.int s)] = .ok [.ow m', .dead] (.lst (natsD ns)) ∧ Dr m' ∧ Nm s ns := by
  have hp := pow5 hs
  obtain ⟨m1, k1, e1, b1, q1⟩ := c_next (C := C) d (2 ^ s) hp.1 (by omega) m hm
  obtain ⟨m2, k2, e2, b2, q2⟩ := c_next (C := C) d 12 (by omega) (by omega) m1 b1
  have e2 : callN C fns (d + 1) f__law_next [.ow m1, .sh (.int 12)] = _ := e2
  have x2 := shlK (n := s) (by omega)
  have st0 : evS C (callN C fns (d + 1)) (gB 0) [.ow m, .sh (.int s), .dead, .dead, .dead] = .ok [.ow m1, .sh (.int s), .ow (ownN [k1]), .dead, .dead] .next := by
    unfold gB F__law_grown
    generalize ((2 ^ s : Nat) : Int) = w at *
    simp [evSs, evS, evT, evI, ev, evs, evA, evIfs, evSq, evIt, R.bind, R.ofO, readM, readPl, Slot.path, M.path, ixN, M.seq, E.mf, E.mfL, It.mf, truth, fl, D.imm, D.immL, bltC, notIns, bltin, updPl, M.upd, setM, allLeaf, callOw, outsA, backA, Slot.isOw, D.tyOk, D.hasTy, setSrc, asgT, asgL, own1, M.fz, M.fzL, items, D.asInt, D.eqOk, D.eqv, eqd_int, eqd_ints, valL, x2, e1, ownN, natsD]
  obtain ⟨G2, e, m', ns, x3, x4, rfl, b, h, h0⟩ := evS_forR (C := C) (orc := callN C fns (d + 1)) (tg := .n 3) (a := .bin .add (.con (.int 3)) (.callO f__law_next [.io 0 [], .e (.con (.int 12))] [0, 1])) (body := gFor) (b := false)
    (G := [.ow m1, .sh (.int s), .ow (ownN [k1]), .dead, .dead]) (G1 := [.ow m2, .sh (.int s), .ow (ownN [k1]), .dead, .dead]) (3 + k2)
    (fun k (G : Py.Env) => ∃ (m' : M) (ns : List Nat) (x3 x4 : Slot), G = [.ow m', .sh (.int s), .ow (ownN ns), x3, x4] ∧ Dr m' ∧ Nm s ns ∧ ns ≠ []) (by simp [evSs, evS, evT, evI, ev, evs, evA, evIfs, evSq, evIt, R.bind, R.ofO, readM, readPl, Slot.path, M.path, mIndex, ixN, M.val, M.seq, E.mf, E.mfL, It.mf, cmpop, truth, fl, D.imm, D.immL, bltC, notIns, bltin, updPl, M.upd, setM, allLeaf, callOw, outsA, backA, Slot.isOw, D.tyOk, D.hasTy, setSrc, asgT, asgL, own1, isLst, mutM, M.fz, M.fzL, items, D.asInt, binop, D.eqOk, D.eqv, eqd_int, eqd_ints, e2]) (by omega) ⟨m2, [k1], .dead, .dead, rfl, b2, ⟨by simp, fun x hx => by rw [List.mem_singleton.mp hx]; exact q1⟩, by simp⟩ (fun k hk G hG => by
      obtain ⟨m', ns, x3, x4, rfl, b, h, h0⟩ := hG
      obtain ⟨m3, ns', x4', b3, h3, h4, e3⟩ := grown_turn (C := C) d s hs m' b ns h h0 (.sh (.int k)) x4
      exact ⟨[.ow m', .sh (.int s), .ow (ownN ns), .sh (.int k), x4], _, by simp [asgT], e3, m3, ns', _, _, rfl, b3, h3, h4⟩)
  refine ⟨m', ns, ?_, b, h⟩
  have : evSs C (callN C fns (d + 1)) F__law_grown.body (enter F__law_grown.n [.ow m, .sh (.int s)]) = .ok [.ow m', .sh (.int s), .sh (.lst (natsD ns)), x3, x4] (.ret (.lst (natsD ns))) := by
    show evSs C _ [gB 0, gB 1, gB 2] [.ow m, .sh (.int s), .dead, .dead, .dead] = _
    rw [evSs_next st0]
    refine (evSs_next e).trans ?_
    unfold gB F__law_grown
    simp [evSs, evS, ev, R.bind, ownN_fz]
  show runFn C _ F__law_grown _ = _
  rw [runFn, this]
  simp [F__law_grown, ioOk, leave]
end Lw
end
section
set_option Elab.async false
set_option linter.all false
set_option maxRecDepth 100000
set_option maxHeartbeats 4000000
namespace Lw
open Py PySem
variable {C : Py.Ctx}
def shB (k : Nat) : S := F__law_shaped.body.getD k .pass
theorem steps_facts : ∀ s, s ≤ 5 → Nm s ((List.range (s + 1)).map fun k => 2 ^ k - 1) ∧ Nm s (0 :: (List.range s).map fun k => 2 ^ k) := by
  intro s hs
  match s, hs with
  | 0, _ | 1, _ | 2, _ | 3, _ | 4, _ | 5, _ => exact ⟨⟨by decide, by decide⟩, ⟨by decide, by decide⟩⟩
theorem eq0 (sh k : Nat) (h : sh ≠ k) : cmpop .eq (.int sh) (.int k) = some (.bl false) := by rw [eqB, decide_eq_false h]
theorem eq1 (k : Nat) : cmpop .eq (.int k) (.int k) = some (.bl true) := by rw [eqB, decide_eq_true rfl]
theorem c_shaped (d s sh : Nat) (hs : s ≤ 5) (m : M) (hm : Dr m) : ∃ (m' : M) (ns : List Nat), callN C fns (d + 3) f__law_shaped [.ow m, .sh (.int sh), .sh (.int s)] = .ok [.ow m', .dead, .dead] (.lst (natsD ns)) ∧ Dr m' ∧ Nm s ns := by
  have hp := pow5 hs
  have x2 := shlK (n := s) (by omega)
  suffices H : ∃ (m' : M) (ns : List Nat) (x1 x2 x3 x4 x5 x6 x7 : Slot), evSs C (callN C fns (d + 2)) F__law_shaped.body [.ow m, .sh (.int sh), .sh (.int s), .dead, .dead, .dead, .dead, .dead] = .ok [.ow m', x1, x2, x3, x4, x5, x6, x7] (.ret (.lst (natsD ns))) ∧ Dr m' ∧ Nm s ns by
    obtain ⟨m', ns, x1, x2, x3, x4, x5, x6, x7, e, b, h⟩ := H
    refine ⟨m', ns, ?_, b, h⟩
    have : evSs C (callN C fns (d + 2)) F__law_shaped.body (enter F__law_shaped.n [.ow m, .sh (.int sh), .sh (.int s)]) = _ := e
    show runFn C _ F__law_shaped _ = _
    rw [runFn, this]
    simp [F__law_shaped, ioOk, leave]
  have hB : F__law_shaped.body = [shB 0, shB 1, shB 2, shB 3, shB 4, shB 5, shB 6, shB 7] := rfl
  have g0 : evS C (callN C fns (d + 2)) (shB 0) [.ow m, .sh (.int sh), .sh (.int s), .dead, .dead, .dead, .dead, .dead] = .ok [.ow m, .sh (.int sh), .sh (.int s), .sh (.int ((2 ^ s : Nat) : Int)), .dead, .dead, .dead, .dead] .next := by
    unfold shB F__law_shaped
    generalize ((2 ^ s : Nat) : Int) = w at *
    simp [evSs, evS, evT, evI, ev, evs, evA, evIfs, evSq, evIt, R.bind, R.ofO, readM, readPl, Slot.path, M.path, ixN, M.seq, E.mf, E.mfL, It.mf, truth, fl, D.imm, D.immL, bltC, notIns, bltin, updPl, M.upd, setM, allLeaf, callOw, outsA, backA, Slot.isOw, D.tyOk, D.hasTy, setSrc, asgT, asgL, own1, M.fz, M.fzL, items, D.asInt, D.eqOk, D.eqv, eqd_int, eqd_ints, valL, x2]
  rw [hB, evSs_next g0]
  have skip : ∀ k : Nat, sh ≠ k → evT C (callN C fns (d + 2)) (.cmp .eq (.var 1) (.con (.int k))) [.ow m, .sh (.int sh), .sh (.int s), .sh (.int ((2 ^ s : Nat) : Int)), .dead, .dead, .dead, .dead] = .ok [.ow m, .sh (.int sh), .sh (.int s), .sh (.int ((2 ^ s : Nat) : Int)), .dead, .dead, .dead, .dead] false := fun k hk => by
    have := eq0 sh k hk
    generalize ((2 ^ s : Nat) : Int) = w at *
    simp [evSs, evS, evT, evI, ev, evs, evA, evIfs, evSq, evIt, R.bind, R.ofO, readM, readPl, Slot.path, M.path, ixN, M.seq, E.mf, E.mfL, It.mf, truth, fl, D.imm, D.immL, bltC, notIns, bltin, updPl, M.upd, setM, allLeaf, callOw, outsA, backA, Slot.isOw, D.tyOk, D.hasTy, setSrc, asgT, asgL, own1, M.fz, M.fzL, items, D.asInt, D.eqOk, D.eqv, eqd_int, eqd_ints, valL, this]
  have take : ∀ k : Nat, sh = k → evT C (callN C fns (d + 2)) (.cmp .eq (.var 1) (.con (.int k))) [.ow m, .sh (.int sh), .sh (.int s), .sh (.int ((2 ^ s : Nat) : Int)), .dead, .dead, .dead, .dead] = .ok [.ow m, .sh (.int sh), .sh (.int s), .sh (.int ((2 ^ s : Nat) : Int)), .dead, .dead, .dead, .dead] true := fun k hk => by
    subst hk
    have := eq1 sh
    generalize ((2 ^ s : Nat) : Int) = w at *
    simp [evSs, evS, evT, evI, ev, evs, evA, evIfs, evSq, evIt, R.bind, R.ofO, readM, readPl, Slot.path, M.path, ixN, M.seq, E.mf, E.mfL, It.mf, truth, fl, D.imm, D.immL, bltC, notIns, bltin, updPl, M.upd, setM, allLeaf, callOw, outsA, backA, Slot.isOw, D.tyOk, D.hasTy, setSrc, asgT, asgL, own1, M.fz, M.fzL, items, D.asInt, D.eqOk, D.eqv, eqd_int, eqd_ints, valL, this]
  have no : ∀ (k : Nat) (a : List S), sh ≠ k → evS C (callN C fns (d + 2)) (.ite (.cmp .eq (.var 1) (.con (.int k))) a []) [.ow m, .sh (.int sh), .sh (.int s), .sh (.int ((2 ^ s : Nat) : Int)), .dead, .dead, .dead, .dead] = .ok [.ow m, .sh (.int sh), .sh (.int s), .sh (.int ((2 ^ s : Nat) : Int)), .dead, .dead, .dead, .dead] .next := fun k a hk => by
    rw [evS, skip k hk]
    rfl
  have yes : ∀ (k : Nat) (a : List S) (ss : List S) (G : Py.Env) (v : D), sh = k → evSs C (callN C fns (d + 2)) a [.ow m, .sh (.int sh), .sh (.int s), .sh (.int ((2 ^ s : Nat) : Int)), .dead, .dead, .dead, .dead] = .ok G (.ret v) → evSs C (callN C fns (d + 2)) (.ite (.cmp .eq (.var 1) (.con (.int k))) a [] :: ss) [.ow m, .sh (.int sh), .sh (.int s), .sh (.int ((2 ^ s : Nat) : Int)), .dead, .dead, .dead, .dead] = .ok G (.ret v) := fun k a ss G v hk ha => by
    rw [evSs, evS, take k hk]
    show (R.bind (evSs C (callN C fns (d + 2)) a _) _) = _
    rw [ha]
    rfl
  by_cases c0 : sh = 0
  · refine ⟨m, List.range (2 ^ s), .sh (.int sh), .sh (.int s), .sh (.int ((2 ^ s : Nat) : Int)), .dead, .dead, .dead, .dead, yes 0 _ _ _ _ c0 ?_, hm, Nm.range s⟩
    have l1 : ltp (2 ^ s) 24 = true := ltp_of (by decide) (by show _ < 16777216; omega)
    have r1 := rngD (2 ^ s)
    show evSs C (callN C fns (d + 2)) [.ret (.lrng (.var 3))] _ = _
    unfold natsD
    rw [← r1]
    have n1 : (((2 ^ s : Nat) : Int)).natAbs = 2 ^ s := Int.natAbs_natCast _
    rw [← n1] at l1
    generalize ((2 ^ s : Nat) : Int) = w at *
    simp [evSs, evS, evT, evI, ev, evs, evA, evIfs, evSq, evIt, R.bind, R.ofO, readM, readPl, Slot.path, M.path, ixN, M.seq, E.mf, E.mfL, It.mf, truth, fl, D.imm, D.immL, bltC, notIns, bltin, updPl, M.upd, setM, allLeaf, callOw, outsA, backA, Slot.isOw, D.tyOk, D.hasTy, setSrc, asgT, asgL, own1, M.fz, M.fzL, items, D.asInt, D.eqOk, D.eqv, eqd_int, eqd_ints, valL, l1]
  rw [evSs_next (s := shB 1) (no 0 _ c0)]
  by_cases c1 : sh = 1
  · have e := ev_lcRa (C := C) (orc := callN C fns (d + 2)) (v := 7) (s := s + 1) (a := .bin .add (.var 2) (.con (.int 1))) (elt := .bin .sub (.bin .shl (.con (.int 1)) (.var 7)) (.con (.int 1))) (b := false)
      (G := [.ow m, .sh (.int sh), .sh (.int s), .sh (.int ((2 ^ s : Nat) : Int)), .dead, .dead, .dead, .dead]) (G1 := [.ow m, .sh (.int sh), .sh (.int s), .sh (.int ((2 ^ s : Nat) : Int)), .dead, .dead, .dead, .dead]) (fun k => .int ((2 ^ k - 1 : Nat) : Int))
      (by simp [evSs, evS, evT, evI, ev, evs, evA, evIfs, evSq, evIt, R.bind, R.ofO, readM, readPl, Slot.path, M.path, mIndex, ixN, M.val, M.seq, E.mf, E.mfL, It.mf, cmpop, truth, fl, D.imm, D.immL, bltC, notIns, bltin, updPl, M.upd, setM, allLeaf, callOw, outsA, backA, Slot.isOw, D.tyOk, D.hasTy, setSrc, asgT, asgL, own1, isLst, mutM, M.fz, M.fzL, items, D.asInt, binop, D.eqOk, D.eqv, eqd_int, eqd_ints]) (by omega) (by rfl) (by rfl) (fun k hk => by
        have y1 := shlK (n := k) (by omega)
        have y0 : 1 ≤ 2 ^ k := Nat.pow_pos (by decide)
        have y2 : binop .sub (.int ((2 ^ k : Nat) : Int)) (.int 1) = some (.int ((2 ^ k - 1 : Nat) : Int)) := by
          show some (D.int _) = _
          congr 2
          omega
        generalize ((2 ^ k - 1 : Nat) : Int) = w1 at *
        generalize ((2 ^ k : Nat) : Int) = w2 at *
        generalize ((2 ^ s : Nat) : Int) = w at *
        simp [lcStep, evSs, evS, evT, evI, ev, evs, evA, evIfs, evSq, evIt, R.bind, R.ofO, readM, readPl, Slot.path, M.path, ixN, M.seq, E.mf, E.mfL, It.mf, truth, fl, D.imm, D.immL, bltC, notIns, bltin, updPl, M.upd, setM, allLeaf, callOw, outsA, backA, Slot.isOw, D.tyOk, D.hasTy, setSrc, asgT, asgL, own1, M.fz, M.fzL, items, D.asInt, D.eqOk, D.eqv, eqd_int, eqd_ints, valL, wipe, y1, y2])
    have e3 : (List.range (s + 1)).map (fun k => D.int ((2 ^ k - 1 : Nat) : Int)) = natsD ((List.range (s + 1)).map fun k => 2 ^ k - 1) := by unfold natsD; rw [List.map_map]; rfl
    rw [e3] at e
    refine ⟨m, _, .sh (.int sh), .sh (.int s), .sh (.int ((2 ^ s : Nat) : Int)), .dead, .dead, .dead, .dead, yes 1 _ _ _ _ c1 ?_, hm, (steps_facts s hs).1⟩
    simp only [evSs, evS, ↓e, R.bind]
    simp
  rw [evSs_next (s := shB 2) (no 1 _ c1)]
  by_cases c2 : sh = 2
  · have e := ev_lcRa (C := C) (orc := callN C fns (d + 2)) (v := 7) (s := s) (a := .var 2) (elt := .bin .shl (.con (.int 1)) (.var 7)) (b := false)
      (G := [.ow m, .sh (.int sh), .sh (.int s), .sh (.int ((2 ^ s : Nat) : Int)), .dead, .dead, .dead, .dead]) (G1 := [.ow m, .sh (.int sh), .sh (.int s), .sh (.int ((2 ^ s : Nat) : Int)), .dead, .dead, .dead, .dead]) (fun k => .int ((2 ^ k : Nat) : Int))
      (by simp [evSs, evS, evT, evI, ev, evs, evA, evIfs, evSq, evIt, R.bind, R.ofO, readM, readPl, Slot.path, M.path, mIndex, ixN, M.val, M.seq, E.mf, E.mfL, It.mf, cmpop, truth, fl, D.imm, D.immL, bltC, notIns, bltin, updPl, M.upd, setM, allLeaf, callOw, outsA, backA, Slot.isOw, D.tyOk, D.hasTy, setSrc, asgT, asgL, own1, isLst, mutM, M.fz, M.fzL, items, D.asInt, binop, D.eqOk, D.eqv, eqd_int, eqd_ints]) (by omega) (by rfl) (by rfl) (fun k hk => by
        have y1 := shlK (n := k) (by omega)
        generalize ((2 ^ k : Nat) : Int) = w2 at *
        generalize ((2 ^ s : Nat) : Int) = w at *
        simp [lcStep, evSs, evS, evT, evI, ev, evs, evA, evIfs, evSq, evIt, R.bind, R.ofO, readM, readPl, Slot.path, M.path, ixN, M.seq, E.mf, E.mfL, It.mf, truth, fl, D.imm, D.immL, bltC, notIns, bltin, updPl, M.upd, setM, allLeaf, callOw, outsA, backA, Slot.isOw, D.tyOk, D.hasTy, setSrc, asgT, asgL, own1, M.fz, M.fzL, items, D.asInt, D.eqOk, D.eqv, eqd_int, eqd_ints, valL, wipe, y1])
    have e3 : (List.range s).map (fun k => D.int ((2 ^ k : Nat) : Int)) = natsD ((List.range s).map fun k => 2 ^ k) := by unfold natsD; rw [List.map_map]; rfl
    rw [e3] at e
    have hb : binop .add (.lst [.int 0]) (.lst (natsD ((List.range s).map fun k => 2 ^ k))) = some (.lst (natsD (0 :: (List.range s).map fun k => 2 ^ k))) := by
      show (if _ then _ else _) = _
      rw [if_pos (show lenOk _ = true from decide_eq_true (by rw [natsD_len, List.length_map, List.length_range]; show _ ≤ 16777216; simp; omega))]
      rfl
    refine ⟨m, _, .sh (.int sh), .sh (.int s), .sh (.int ((2 ^ s : Nat) : Int)), .dead, .dead, .dead, .dead, yes 2 _ _ _ _ c2 ?_, hm, (steps_facts s hs).2⟩
    generalize natsD ((List.range s).map fun k => 2 ^ k) = Z at *
    generalize ((2 ^ s : Nat) : Int) = w at *
    simp [evSs, evS, evT, evI, ev, evs, evA, evIfs, evSq, evIt, R.bind, R.ofO, readM, readPl, Slot.path, M.path, ixN, M.seq, E.mf, E.mfL, It.mf, truth, fl, D.imm, D.immL, bltC, notIns, bltin, updPl, M.upd, setM, allLeaf, callOw, outsA, backA, Slot.isOw, D.tyOk, D.hasTy, setSrc, asgT, asgL, own1, M.fz, M.fzL, items, D.asInt, D.eqOk, D.eqv, eqd_int, eqd_ints, valL, ↓e, hb]
  rw [evSs_next (s := shB 3) (no 2 _ c2)]
  by_cases c3 : sh = 3
  · obtain ⟨m1, k1, e1, b1, q1⟩ := c_next (C := C) (d + 1) 2 (by omega) (by omega) m hm
    have e1 : callN C fns (d + 2) f__law_next [.ow m, .sh (.int 2)] = _ := e1
    have od : ∀ n : Nat, ∃ v : Int, callN C fns (d + 2) f__law_odd [.sh (.int n)] = .ok [.dead] (.int v) := fun n => c_odd (C := C) (d + 1) n
    have e := ev_lcRf (C := C) (orc := callN C fns (d + 2)) (v := 7) (s := 2 ^ s) (a := .var 3) (ifs := [.cmp .eq (.call f__law_odd [.var 7] [0]) (.var 4)]) (elt := .var 7) (b := false)
      (G := [.ow m1, .sh (.int sh), .sh (.int s), .sh (.int ((2 ^ s : Nat) : Int)), .sh (.int k1), .dead, .dead, .dead]) (G1 := [.ow m1, .sh (.int sh), .sh (.int s), .sh (.int ((2 ^ s : Nat) : Int)), .sh (.int k1), .dead, .dead, .dead]) (fun k => (od k).choose == (k1 : Int)) (fun k => .int k)
      (by generalize ((2 ^ s : Nat) : Int) = w at *; simp [evSs, evS, evT, evI, ev, evs, evA, evIfs, evSq, evIt, R.bind, R.ofO, readM, readPl, Slot.path, M.path, mIndex, ixN, M.val, M.seq, E.mf, E.mfL, It.mf, cmpop, truth, fl, D.imm, D.immL, bltC, notIns, bltin, updPl, M.upd, setM, allLeaf, callOw, outsA, backA, Slot.isOw, D.tyOk, D.hasTy, setSrc, asgT, asgL, own1, isLst, mutM, M.fz, M.fzL, items, D.asInt, binop, D.eqOk, D.eqv, eqd_int, eqd_ints]) (by omega) (by rfl) (by rfl) (fun k hk => by
        have y1 := (od k).choose_spec
        generalize (od k).choose = v at *
        generalize ((2 ^ s : Nat) : Int) = w at *
        by_cases hh : v = (k1 : Int) <;> simp [lcStep, evSs, evS, evT, evI, ev, evs, evA, evIfs, evSq, evIt, R.bind, R.ofO, readM, readPl, Slot.path, M.path, mIndex, ixN, M.val, M.seq, E.mf, E.mfL, It.mf, cmpop, truth, fl, D.imm, D.immL, bltC, notIns, bltin, updPl, M.upd, setM, allLeaf, callOw, outsA, backA, Slot.isOw, D.tyOk, D.hasTy, setSrc, asgT, asgL, own1, isLst, mutM, M.fz, M.fzL, items, D.asInt, binop, D.eqOk, D.eqv, eqd_int, eqd_ints, wipe, y1, hh])
    refine ⟨m1, _, .sh (.int sh), .sh (.int s), .sh (.int ((2 ^ s : Nat) : Int)), .sh (.int k1), .dead, .dead, .dead, yes 3 _ _ _ _ c3 ?_, b1, (Nm.range s).filter fun k => (od k).choose == (k1 : Int)⟩
    rw [evSs_next (G1 := [.ow m1, .sh (.int sh), .sh (.int s), .sh (.int ((2 ^ s : Nat) : Int)), .sh (.int k1), .dead, .dead, .dead]) (by
      generalize ((2 ^ s : Nat) : Int) = w at *
      simp [evSs, evS, evT, evI, ev, evs, evA, evIfs, evSq, evIt, R.bind, R.ofO, readM, readPl, Slot.path, M.path, ixN, M.seq, E.mf, E.mfL, It.mf, truth, fl, D.imm, D.immL, bltC, notIns, bltin, updPl, M.upd, setM, allLeaf, callOw, outsA, backA, Slot.isOw, D.tyOk, D.hasTy, setSrc, asgT, asgL, own1, M.fz, M.fzL, items, D.asInt, D.eqOk, D.eqv, eqd_int, eqd_ints, valL, e1])]
    simp only [evSs, evS, ↓e, R.bind]
    simp [natsD]
  rw [evSs_next (s := shB 4) (no 3 _ c3)]
  by_cases c4 : sh = 4
  · obtain ⟨m1, k1, e1, b1, q1⟩ := c_next (C := C) (d + 1) (2 ^ s) hp.1 (by omega) m hm
    obtain ⟨m2, k2, e2, b2, q2⟩ := c_next (C := C) (d + 1) (2 ^ s) hp.1 (by omega) m1 b1
    have e := ev_lcRf (C := C) (orc := callN C fns (d + 2)) (v := 7) (s := 2 ^ s) (a := .var 3) (ifs := [.or (.cmp .eq (.bin .band (.var 7) (.var 5)) (.var 7)) (.cmp .eq (.bin .band (.var 7) (.var 6)) (.var 7))]) (elt := .var 7) (b := false)
      (G := [.ow m2, .sh (.int sh), .sh (.int s), .sh (.int ((2 ^ s : Nat) : Int)), .dead, .sh (.int k1), .sh (.int k2), .dead]) (G1 := [.ow m2, .sh (.int sh), .sh (.int s), .sh (.int ((2 ^ s : Nat) : Int)), .dead, .sh (.int k1), .sh (.int k2), .dead]) (fun k => decide (k &&& k1 = k) || decide (k &&& k2 = k)) (fun k => .int k)
      (by generalize ((2 ^ s : Nat) : Int) = w at *; simp [evSs, evS, evT, evI, ev, evs, evA, evIfs, evSq, evIt, R.bind, R.ofO, readM, readPl, Slot.path, M.path, mIndex, ixN, M.val, M.seq, E.mf, E.mfL, It.mf, cmpop, truth, fl, D.imm, D.immL, bltC, notIns, bltin, updPl, M.upd, setM, allLeaf, callOw, outsA, backA, Slot.isOw, D.tyOk, D.hasTy, setSrc, asgT, asgL, own1, isLst, mutM, M.fz, M.fzL, items, D.asInt, binop, D.eqOk, D.eqv, eqd_int, eqd_ints]) (by omega) (by rfl) (by rfl) (fun k hk => by
        have y1 : binop .band (.int (k : Nat)) (.int (k1 : Nat)) = some (.int ((k &&& k1 : Nat) : Int)) := by show some (D.int _) = _; rw [bAnd]
        have y2 : binop .band (.int (k : Nat)) (.int (k2 : Nat)) = some (.int ((k &&& k2 : Nat) : Int)) := by show some (D.int _) = _; rw [bAnd]
        have y3 := eqB (k &&& k1) k
        have y4 := eqB (k &&& k2) k
        generalize (k &&& k1 : Nat) = u1 at *
        generalize (k &&& k2 : Nat) = u2 at *
        generalize ((2 ^ s : Nat) : Int) = w at *
        show _ = R.ok _ (if (decide (u1 = k) || decide (u2 = k)) = true then _ else _)
        generalize decide (u1 = k) = p1 at *
        generalize decide (u2 = k) = p2 at *
        cases p1 <;> cases p2 <;> simp [lcStep, evSs, evS, evT, evI, ev, evs, evA, evIfs, evSq, evIt, R.bind, R.ofO, readM, readPl, Slot.path, M.path, ixN, M.seq, E.mf, E.mfL, It.mf, truth, fl, D.imm, D.immL, bltC, notIns, bltin, updPl, M.upd, setM, allLeaf, callOw, outsA, backA, Slot.isOw, D.tyOk, D.hasTy, setSrc, asgT, asgL, own1, M.fz, M.fzL, items, D.asInt, D.eqOk, D.eqv, eqd_int, eqd_ints, valL, wipe, y1, y2, y3, y4])
    refine ⟨m2, _, .sh (.int sh), .sh (.int s), .sh (.int ((2 ^ s : Nat) : Int)), .dead, .sh (.int k1), .sh (.int k2), .dead, yes 4 _ _ _ _ c4 ?_, b2, (Nm.range s).filter fun k => decide (k &&& k1 = k) || decide (k &&& k2 = k)⟩
    rw [evSs_next (G1 := [.ow m1, .sh (.int sh), .sh (.int s), .sh (.int ((2 ^ s : Nat) : Int)), .dead, .sh (.int k1), .dead, .dead]) (by
      generalize ((2 ^ s : Nat) : Int) = w at *
      simp [evSs, evS, evT, evI, ev, evs, evA, evIfs, evSq, evIt, R.bind, R.ofO, readM, readPl, Slot.path, M.path, ixN, M.seq, E.mf, E.mfL, It.mf, truth, fl, D.imm, D.immL, bltC, notIns, bltin, updPl, M.upd, setM, allLeaf, callOw, outsA, backA, Slot.isOw, D.tyOk, D.hasTy, setSrc, asgT, asgL, own1, M.fz, M.fzL, items, D.asInt, D.eqOk, D.eqv, eqd_int, eqd_ints, valL, e1])]
    rw [evSs_next (G1 := [.ow m2, .sh (.int sh), .sh (.int s), .sh (.int ((2 ^ s : Nat) : Int)), .dead, .sh (.int k1), .sh (.int k2), .dead]) (by
      generalize ((2 ^ s : Nat) : Int) = w at *
      simp [evSs, evS, evT, evI, ev, evs, evA, evIfs, evSq, evIt, R.bind, R.ofO, readM, readPl, Slot.path, M.path, ixN, M.seq, E.mf, E.mfL, It.mf, truth, fl, D.imm, D.immL, bltC, notIns, bltin, updPl, M.upd, setM, allLeaf, callOw, outsA, backA, Slot.isOw, D.tyOk, D.hasTy, setSrc, asgT, asgL, own1, M.fz, M.fzL, items, D.asInt, D.eqOk, D.eqv, eqd_int, eqd_ints, valL, e2])]
    simp only [evSs, evS, ↓e, R.bind]
    simp [natsD]
  rw [evSs_next (s := shB 5) (no 4 _ c4)]
  have lt7 : cmpop .lt (.int (sh : Nat)) (.int 7) = some (.bl (decide (sh < 7))) := ltB' sh 7
  by_cases c7 : sh < 7
  · rw [decide_eq_true c7] at lt7
    obtain ⟨m1, ns, e1, b1, h1⟩ := c_grown (C := C) d s hs m hm
    refine ⟨m1, ns, .sh (.int sh), .sh (.int s), .sh (.int ((2 ^ s : Nat) : Int)), .dead, .dead, .dead, .dead, ?_, b1, h1⟩
    unfold shB F__law_shaped
    generalize ((2 ^ s : Nat) : Int) = w at *
    simp [evSs, evS, evT, evI, ev, evs, evA, evIfs, evSq, evIt, R.bind, R.ofO, readM, readPl, Slot.path, M.path, ixN, M.seq, E.mf, E.mfL, It.mf, truth, fl, D.imm, D.immL, bltC, notIns, bltin, updPl, M.upd, setM, allLeaf, callOw, outsA, backA, Slot.isOw, D.tyOk, D.hasTy, setSrc, asgT, asgL, own1, M.fz, M.fzL, items, D.asInt, D.eqOk, D.eqv, eqd_int, eqd_ints, valL, lt7, e1]
  · rw [decide_eq_false c7] at lt7
    obtain ⟨G2, ns, e, ⟨m2, b2, rfl⟩, sl⟩ := ev_lcFil (C := C) (orc := callN C fns (d + 2)) (v := 7) (n := 2 ^ s) (a := .var 3) (ifs := [.cmp .eq (.callO f__law_next [.io 0 [], .e (.con (.int 2))] [0, 1]) (.con (.int 1))]) (elt := .var 7) (b := false)
      (G := [.ow m, .sh (.int sh), .sh (.int s), .sh (.int ((2 ^ s : Nat) : Int)), .dead, .dead, .dead, .dead]) (G1 := [.ow m, .sh (.int sh), .sh (.int s), .sh (.int ((2 ^ s : Nat) : Int)), .dead, .dead, .dead, .dead])
      (fun G => ∃ m2, Dr m2 ∧ G = [.ow m2, .sh (.int sh), .sh (.int s), .sh (.int ((2 ^ s : Nat) : Int)), .dead, .dead, .dead, .dead])
      (by generalize ((2 ^ s : Nat) : Int) = w at *; simp [evSs, evS, evT, evI, ev, evs, evA, evIfs, evSq, evIt, R.bind, R.ofO, readM, readPl, Slot.path, M.path, mIndex, ixN, M.val, M.seq, E.mf, E.mfL, It.mf, cmpop, truth, fl, D.imm, D.immL, bltC, notIns, bltin, updPl, M.upd, setM, allLeaf, callOw, outsA, backA, Slot.isOw, D.tyOk, D.hasTy, setSrc, asgT, asgL, own1, isLst, mutM, M.fz, M.fzL, items, D.asInt, binop, D.eqOk, D.eqv, eqd_int, eqd_ints]) (by omega) (by rfl) ⟨m, hm, rfl⟩ (fun k hk G hG => by
        obtain ⟨m1, b1, rfl⟩ := hG
        obtain ⟨m2, k1, e1, b2, q1⟩ := c_next (C := C) (d + 1) 2 (by omega) (by omega) m1 b1
        have e1 : callN C fns (d + 2) f__law_next [.ow m1, .sh (.int 2)] = _ := e1
        have y3 : cmpop .eq (.int (k1 : Nat)) (.int 1) = some (.bl (decide (k1 = 1))) := eqB k1 1
        refine ⟨[.ow m2, .sh (.int sh), .sh (.int s), .sh (.int ((2 ^ s : Nat) : Int)), .dead, .dead, .dead, .dead], decide (k1 = 1), ?_, m2, b2, rfl⟩
        generalize ((2 ^ s : Nat) : Int) = w at *
        by_cases h : k1 = 1
        · rw [decide_eq_true h] at y3 ⊢
          simp [lcStep, evSs, evS, evT, evI, ev, evs, evA, evIfs, evSq, evIt, R.bind, R.ofO, readM, readPl, Slot.path, M.path, ixN, M.seq, E.mf, E.mfL, It.mf, truth, fl, D.imm, D.immL, bltC, notIns, bltin, updPl, M.upd, setM, allLeaf, callOw, outsA, backA, Slot.isOw, D.tyOk, D.hasTy, setSrc, asgT, asgL, own1, M.fz, M.fzL, items, D.asInt, D.eqOk, D.eqv, eqd_int, eqd_ints, valL, wipe, e1, y3]
        · rw [decide_eq_false h] at y3 ⊢
          simp [lcStep, evSs, evS, evT, evI, ev, evs, evA, evIfs, evSq, evIt, R.bind, R.ofO, readM, readPl, Slot.path, M.path, ixN, M.seq, E.mf, E.mfL, It.mf, truth, fl, D.imm, D.immL, bltC, notIns, bltin, updPl, M.upd, setM, allLeaf, callOw, outsA, backA, Slot.isOw, D.tyOk, D.hasTy, setSrc, asgT, asgL, own1, M.fz, M.fzL, items, D.asInt, D.eqOk, D.eqv, eqd_int, eqd_ints, valL, wipe, e1, y3])
    refine ⟨m2, ns, .sh (.int sh), .sh (.int s), .sh (.int ((2 ^ s : Nat) : Int)), .dead, .dead, .dead, .dead, ?_, b2, ⟨sl.nodup List.nodup_range, fun x hx => List.mem_range.mp (sl.subset hx)⟩⟩
    rw [evSs_next (G1 := [.ow m, .sh (.int sh), .sh (.int s), .sh (.int ((2 ^ s : Nat) : Int)), .dead, .dead, .dead, .dead]) (by
      unfold shB F__law_shaped
      generalize ((2 ^ s : Nat) : Int) = w at *
      simp [evSs, evS, evT, evI, ev, evs, evA, evIfs, evSq, evIt, R.bind, R.ofO, readM, readPl, Slot.path, M.path, ixN, M.seq, E.mf, E.mfL, It.mf, truth, fl, D.imm, D.immL, bltC, notIns, bltin, updPl, M.upd, setM, allLeaf, callOw, outsA, backA, Slot.isOw, D.tyOk, D.hasTy, setSrc, asgT, asgL, own1, M.fz, M.fzL, items, D.asInt, D.eqOk, D.eqv, eqd_int, eqd_ints, valL, lt7])]
    unfold shB F__law_shaped
    simp only [List.getD_cons_succ, List.getD_cons_zero, evSs, evS, ↓e, R.bind]
    simp [unwipe]
end Lw
end
section
set_option Elab.async false
set_option linter.all false
set_option maxRecDepth 100000
set_option maxHeartbeats 4000000
namespace Lw
open Py PySem
variable {C : Py.Ctx}
def szB (k : Nat) : S := F__law_sized.body.getD k .pass
def szFor : List S := match szB 1 with
  | .ite _ [.for_ _ _ b] _ => b
  | _ => []
theorem swap_map (d s a b : Nat) (hs : s ≤ 5) (ha : a < s) (hb : b < s) (ns : List Nat) (h : Nm s ns) (m : M) (x2 x4 x5 x6 : Slot) :
    ev C (callN C fns (d + 3)) (.lc [9] (.n 9) (.e (.var 3)) [] (.call f__law_swapped [.var 9, .var 7, .var 8] [0, 1, 2])) [.ow m, .sh (.int s), x2, .sh (.lst (natsD ns)), x4, x5, x6, .sh (.int a), .sh (.int b), .dead] = .ok [.ow m, .sh (.int s), x2, .sh (.lst (natsD ns)), x4, x5, x6, .sh (.int a), .sh (.int b), .dead] (.lst (natsD (ns.map fun n => swp n a b)), false) := by
  have hl := h.len
  have hp := (pow5 hs).2
  have e := ev_lcB (C := C) (orc := callN C fns (d + 3)) (own := [9]) (tg := .n 9) (it := .e (.var 3)) (elt := .call f__law_swapped [.var 9, .var 7, .var 8] [0, 1, 2]) (G := [.ow m, .sh (.int s), x2, .sh (.lst (natsD ns)), x4, x5, x6, .sh (.int a), .sh (.int b), .dead]) (G1 := [.ow m, .sh (.int s), x2, .sh (.lst (natsD ns)), x4, x5, x6, .sh (.int a), .sh (.int b), .dead]) (b := false)
    ns (fun n : Nat => D.int n) (fun n => .int (swp n a b : Nat)) (by simp [evSs, evS, evT, evI, ev, evs, evA, evIfs, evSq, evIt, R.bind, R.ofO, readM, readPl, Slot.path, M.path, mIndex, ixN, M.val, M.seq, E.mf, E.mfL, It.mf, cmpop, truth, fl, D.imm, D.immL, bltC, notIns, bltin, index, updPl, M.upd, setM, allLeaf, callOw, outsA, backA, Slot.isOw, D.tyOk, D.hasTy, setSrc, asgT, asgL, own1, isLst, mutM, M.fz, M.fzL, items, D.asInt, binop, eqd, D.eqOk, D.eqv, natsD]) (by rfl) (by rfl) (fun n hn => by
      have e1 := c_swapped (C := C) (d + 2) s n a b hs ha hb (h.lt n hn)
      simp [lcStep, evSs, evS, evT, evI, ev, evs, evA, evIfs, evSq, evIt, R.bind, R.ofO, readM, readPl, Slot.path, M.path, ixN, M.seq, E.mf, E.mfL, It.mf, truth, fl, D.imm, D.immL, bltC, notIns, bltin, updPl, M.upd, setM, allLeaf, callOw, outsA, backA, Slot.isOw, D.tyOk, D.hasTy, setSrc, asgT, asgL, own1, M.fz, M.fzL, items, D.asInt, D.eqOk, D.eqv, eqd_int, eqd_ints, valL, wipe, e1]) (by rfl) (by omega)
  rw [e]
  unfold natsD
  rw [List.map_map]
  rfl
theorem xor_map (d s t : Nat) (hs : s ≤ 5) (ht : t < 2 ^ s) (ns : List Nat) (h : Nm s ns) (m : M) (x1 x2 x4 x6 x7 x8 : Slot) :
    ev C (callN C fns (d + 3)) (.lc [9] (.n 9) (.e (.var 3)) [] (.bin .bxor (.var 9) (.var 5))) [.ow m, x1, x2, .sh (.lst (natsD ns)), x4, .sh (.int t), x6, x7, x8, .dead] = .ok [.ow m, x1, x2, .sh (.lst (natsD ns)), x4, .sh (.int t), x6, x7, x8, .dead] (.lst (natsD (ns.map fun n => n ^^^ t)), false) := by
  have hl := h.len
  have hp := (pow5 hs).2
  have e := ev_lcB (C := C) (orc := callN C fns (d + 3)) (own := [9]) (tg := .n 9) (it := .e (.var 3)) (elt := .bin .bxor (.var 9) (.var 5)) (G := [.ow m, x1, x2, .sh (.lst (natsD ns)), x4, .sh (.int t), x6, x7, x8, .dead]) (G1 := [.ow m, x1, x2, .sh (.lst (natsD ns)), x4, .sh (.int t), x6, x7, x8, .dead]) (b := false)
    ns (fun n : Nat => D.int n) (fun n => .int (n ^^^ t : Nat)) (by simp [evSs, evS, evT, evI, ev, evs, evA, evIfs, evSq, evIt, R.bind, R.ofO, readM, readPl, Slot.path, M.path, mIndex, ixN, M.val, M.seq, E.mf, E.mfL, It.mf, cmpop, truth, fl, D.imm, D.immL, bltC, notIns, bltin, index, updPl, M.upd, setM, allLeaf, callOw, outsA, backA, Slot.isOw, D.tyOk, D.hasTy, setSrc, asgT, asgL, own1, isLst, mutM, M.fz, M.fzL, items, D.asInt, binop, eqd, D.eqOk, D.eqv, natsD]) (by rfl) (by rfl) (fun n hn => by
      have e1 := xorB hs (h.lt n hn) ht
      generalize (n ^^^ t : Nat) = w at *
      simp [lcStep, evSs, evS, evT, evI, ev, evs, evA, evIfs, evSq, evIt, R.bind, R.ofO, readM, readPl, Slot.path, M.path, ixN, M.seq, E.mf, E.mfL, It.mf, truth, fl, D.imm, D.immL, bltC, notIns, bltin, updPl, M.upd, setM, allLeaf, callOw, outsA, backA, Slot.isOw, D.tyOk, D.hasTy, setSrc, asgT, asgL, own1, M.fz, M.fzL, items, D.asInt, D.eqOk, D.eqv, eqd_int, eqd_ints, valL, wipe, e1]) (by rfl) (by omega)
  rw [e]
  unfold natsD
  rw [List.map_map]
  rfl
theorem xor_back {s t : Nat} (ht : t < 2 ^ s) : ∀ x, x < 2 ^ s → x ^^^ t < 2 ^ s ∧ (x ^^^ t) ^^^ t = x := fun x hx => ⟨xor_lt hx ht, by rw [Nat.xor_assoc, Nat.xor_self, Nat.xor_zero]⟩
/-- ascending numbers -/
structure Sz (s most : Nat) (ns : List Nat) : Prop where
  ne : ns ≠ []
  le : ns.length ≤ most
  lt : ∀ x ∈ ns, x < 2 ^ s
  pw : ns.Pairwise (· < ·)
theorem sz1 (d s : Nat) (hs : s ≤ 5) (m : M) (hm : Dr m) (x2 : Slot) (ns : List Nat) (h : Nm s ns) : ∃ (m' : M) (ns' : List Nat) (x4 x7 x8 : Slot), Dr m' ∧ Nm s ns' ∧ evS C (callN C fns (d + 3)) (szB 1) [.ow m, .sh (.int s), x2, .sh (.lst (natsD ns)), .dead, .dead, .dead, .dead, .dead, .dead] = .ok [.ow m', .sh (.int s), x2, .sh (.lst (natsD ns')), x4, .dead, .dead, x7, x8, .dead] .next := by
  have g1 : cmpop .gt (.int (s : Nat)) (.int 1) = some (.bl (decide (1 < s))) := ltB 1 s
  by_cases c : 1 < s
  · rw [decide_eq_true c] at g1
    obtain ⟨G2, e, m', ns', x4, x7, x8, rfl, b, h'⟩ := evS_forR (C := C) (orc := callN C fns (d + 3)) (tg := .n 4) (a := .con (.int 2)) (body := szFor) (b := false)
      (G := [.ow m, .sh (.int s), x2, .sh (.lst (natsD ns)), .dead, .dead, .dead, .dead, .dead, .dead]) (G1 := [.ow m, .sh (.int s), x2, .sh (.lst (natsD ns)), .dead, .dead, .dead, .dead, .dead, .dead]) 2
      (fun k (G : Py.Env) => ∃ (m' : M) (ns' : List Nat) (x4 x7 x8 : Slot), G = [.ow m', .sh (.int s), x2, .sh (.lst (natsD ns')), x4, .dead, .dead, x7, x8, .dead] ∧ Dr m' ∧ Nm s ns') (by rw [ev]; rfl) (by omega) ⟨m, ns, .dead, .dead, .dead, rfl, hm, h⟩ (fun k hk G hG => by
        obtain ⟨m1, ns1, x4, x7, x8, rfl, b1, h1⟩ := hG
        obtain ⟨m2, a, e2, b2, q2⟩ := c_next (C := C) (d + 2) s (by omega) (by omega) m1 b1
        obtain ⟨m3, b, e3, b3, q3⟩ := c_next (C := C) (d + 2) s (by omega) (by omega) m2 b2
        have e4 := swap_map (C := C) d s a b hs q2 q3 ns1 h1 m3 x2 (.sh (.int k)) .dead .dead
        refine ⟨[.ow m1, .sh (.int s), x2, .sh (.lst (natsD ns1)), .sh (.int k), .dead, .dead, x7, x8, .dead], [.ow m3, .sh (.int s), x2, .sh (.lst (natsD (ns1.map fun n => swp n a b))), .sh (.int k), .dead, .dead, .sh (.int a), .sh (.int b), .dead], by simp [asgT], ?_, m3, _, _, _, _, rfl, b3, h1.map (f := fun n => swp n a b) (g := fun n => swp n a b) fun x hx => swp_facts s hs a q2 b q3 x hx⟩
        unfold szFor szB F__law_sized
        simp only [List.getD_cons_succ, List.getD_cons_zero]
        rw [evSs_next (G1 := [.ow m2, .sh (.int s), x2, .sh (.lst (natsD ns1)), .sh (.int k), .dead, .dead, .sh (.int a), x8, .dead]) (by simp [evSs, evS, evT, evI, ev, evs, evA, evIfs, evSq, evIt, R.bind, R.ofO, readM, readPl, Slot.path, M.path, ixN, M.seq, E.mf, E.mfL, It.mf, truth, fl, D.imm, D.immL, bltC, notIns, bltin, updPl, M.upd, setM, allLeaf, callOw, outsA, backA, Slot.isOw, D.tyOk, D.hasTy, setSrc, asgT, asgL, own1, M.fz, M.fzL, items, D.asInt, D.eqOk, D.eqv, eqd_int, eqd_ints, valL, e2])]
        rw [evSs_next (G1 := [.ow m3, .sh (.int s), x2, .sh (.lst (natsD ns1)), .sh (.int k), .dead, .dead, .sh (.int a), .sh (.int b), .dead]) (by simp [evSs, evS, evT, evI, ev, evs, evA, evIfs, evSq, evIt, R.bind, R.ofO, readM, readPl, Slot.path, M.path, ixN, M.seq, E.mf, E.mfL, It.mf, truth, fl, D.imm, D.immL, bltC, notIns, bltin, updPl, M.upd, setM, allLeaf, callOw, outsA, backA, Slot.isOw, D.tyOk, D.hasTy, setSrc, asgT, asgL, own1, M.fz, M.fzL, items, D.asInt, D.eqOk, D.eqv, eqd_int, eqd_ints, valL, e3])]
        simp only [evSs, evS, ↓e4, R.bind]
        simp [asgT])
    refine ⟨m', ns', x4, x7, x8, b, h', ?_⟩
    have hc : evT C (callN C fns (d + 3)) (.cmp .gt (.var 1) (.con (.int 1))) [.ow m, .sh (.int s), x2, .sh (.lst (natsD ns)), .dead, .dead, .dead, .dead, .dead, .dead] = .ok [.ow m, .sh (.int s), x2, .sh (.lst (natsD ns)), .dead, .dead, .dead, .dead, .dead, .dead] true := by simp [evSs, evS, evT, evI, ev, evs, evA, evIfs, evSq, evIt, R.bind, R.ofO, readM, readPl, Slot.path, M.path, ixN, M.seq, E.mf, E.mfL, It.mf, truth, fl, D.imm, D.immL, bltC, notIns, bltin, updPl, M.upd, setM, allLeaf, callOw, outsA, backA, Slot.isOw, D.tyOk, D.hasTy, setSrc, asgT, asgL, own1, M.fz, M.fzL, items, D.asInt, D.eqOk, D.eqv, eqd_int, eqd_ints, valL, g1]
    show evS C _ (.ite (.cmp .gt (.var 1) (.con (.int 1))) [.for_ (.n 4) (.rng1 (.con (.int 2))) szFor] []) _ = _
    rw [evS, hc]
    show evSs C _ [_] _ = _
    rw [evSs_next e]
    rfl
  · rw [decide_eq_false c] at g1
    refine ⟨m, ns, .dead, .dead, .dead, hm, h, ?_⟩
    unfold szB F__law_sized
    simp [evSs, evS, evT, evI, ev, evs, evA, evIfs, evSq, evIt, R.bind, R.ofO, readM, readPl, Slot.path, M.path, ixN, M.seq, E.mf, E.mfL, It.mf, truth, fl, D.imm, D.immL, bltC, notIns, bltin, updPl, M.upd, setM, allLeaf, callOw, outsA, backA, Slot.isOw, D.tyOk, D.hasTy, setSrc, asgT, asgL, own1, M.fz, M.fzL, items, D.asInt, D.eqOk, D.eqv, eqd_int, eqd_ints, valL, g1]
theorem sz2 (d s : Nat) (hs : s ≤ 5) (m : M) (hm : Dr m) (x2 x4 x7 x8 : Slot) (ns : List Nat) (h : Nm s ns) : ∃ (m' : M) (ns' : List Nat) (x5 : Slot), Dr m' ∧ Nm s ns' ∧ ns' ≠ [] ∧ evS C (callN C fns (d + 3)) (szB 2) [.ow m, .sh (.int s), x2, .sh (.lst (natsD ns)), x4, .dead, .dead, x7, x8, .dead] = .ok [.ow m', .sh (.int s), x2, .sh (.lst (natsD ns')), x4, x5, .dead, x7, x8, .dead] .next := by
  have hp := pow5 hs
  have inner : ∀ m1, Dr m1 → ∃ (m' : M) (ns' : List Nat) (x5 : Slot), Dr m' ∧ Nm s ns' ∧ ns' ≠ [] ∧ evSs C (callN C fns (d + 3)) (match szB 2 with | .ite _ b _ => b | _ => []) [.ow m1, .sh (.int s), x2, .sh (.lst (natsD ns)), x4, .dead, .dead, x7, x8, .dead] = .ok [.ow m', .sh (.int s), x2, .sh (.lst (natsD ns')), x4, x5, .dead, x7, x8, .dead] .next := by
    intro m1 b1
    obtain ⟨m2, t, e2, b2, q2⟩ := c_next (C := C) (d + 2) (2 ^ s) hp.1 (by omega) m1 b1
    have e3 := xor_map (C := C) d s t hs q2 ns h m2 (.sh (.int s)) x2 x4 .dead x7 x8
    have h3 : Nm s (ns.map fun n => n ^^^ t) := h.map (f := fun n => n ^^^ t) (g := fun n => n ^^^ t) (xor_back q2)
    have x2s := shlK (n := s) (by omega)
    have s1 : evS C (callN C fns (d + 3)) (.asg (.n 5) (.callO f__law_next [.io 0 [], .e (.bin .shl (.con (.int 1)) (.var 1))] [0, 1])) [.ow m1, .sh (.int s), x2, .sh (.lst (natsD ns)), x4, .dead, .dead, x7, x8, .dead] = .ok [.ow m2, .sh (.int s), x2, .sh (.lst (natsD ns)), x4, .sh (.int t), .dead, x7, x8, .dead] .next := by
      generalize ((2 ^ s : Nat) : Int) = w at *
      simp [evSs, evS, evT, evI, ev, evs, evA, evIfs, evSq, evIt, R.bind, R.ofO, readM, readPl, Slot.path, M.path, ixN, M.seq, E.mf, E.mfL, It.mf, truth, fl, D.imm, D.immL, bltC, notIns, bltin, updPl, M.upd, setM, allLeaf, callOw, outsA, backA, Slot.isOw, D.tyOk, D.hasTy, setSrc, asgT, asgL, own1, M.fz, M.fzL, items, D.asInt, D.eqOk, D.eqv, eqd_int, eqd_ints, valL, x2s, e2]
    have s2 : evS C (callN C fns (d + 3)) (.asg (.n 3) (.lc [9] (.n 9) (.e (.var 3)) [] (.bin .bxor (.var 9) (.var 5)))) [.ow m2, .sh (.int s), x2, .sh (.lst (natsD ns)), x4, .sh (.int t), .dead, x7, x8, .dead] = .ok [.ow m2, .sh (.int s), x2, .sh (.lst (natsD (ns.map fun n => n ^^^ t))), x4, .sh (.int t), .dead, x7, x8, .dead] .next := by
      simp only [evS, ↓e3, R.bind]
      simp [asgT]
    generalize ns.map (fun n => n ^^^ t) = ns3 at *
    have nl := natsD_len ns3
    have y0 : cmpop .eq (.int (ns3.length : Nat)) (.int 0) = some (.bl (decide (ns3.length = 0))) := eqB ns3.length 0
    by_cases c : ns3.length = 0
    · rw [decide_eq_true c] at y0
      refine ⟨m2, [t], .sh (.int t), b2, ⟨by simp, fun x hx => by rw [List.mem_singleton.mp hx]; exact q2⟩, by simp, ?_⟩
      unfold szB F__law_sized
      simp only [List.getD_cons_succ, List.getD_cons_zero]
      rw [evSs_next s1, evSs_next s2]
      simp [evSs, evS, evT, evI, ev, evs, evA, evIfs, evSq, evIt, R.bind, R.ofO, readM, readPl, Slot.path, M.path, ixN, M.seq, E.mf, E.mfL, It.mf, truth, fl, D.imm, D.immL, bltC, notIns, bltin, updPl, M.upd, setM, allLeaf, callOw, outsA, backA, Slot.isOw, D.tyOk, D.hasTy, setSrc, asgT, asgL, own1, M.fz, M.fzL, items, D.asInt, D.eqOk, D.eqv, eqd_int, eqd_ints, valL, nl, y0, natsD]
    · rw [decide_eq_false c] at y0
      refine ⟨m2, ns3, .sh (.int t), b2, h3, fun e => c (by rw [e]; rfl), ?_⟩
      unfold szB F__law_sized
      simp only [List.getD_cons_succ, List.getD_cons_zero]
      rw [evSs_next s1, evSs_next s2]
      simp [evSs, evS, evT, evI, ev, evs, evA, evIfs, evSq, evIt, R.bind, R.ofO, readM, readPl, Slot.path, M.path, ixN, M.seq, E.mf, E.mfL, It.mf, truth, fl, D.imm, D.immL, bltC, notIns, bltin, updPl, M.upd, setM, allLeaf, callOw, outsA, backA, Slot.isOw, D.tyOk, D.hasTy, setSrc, asgT, asgL, own1, M.fz, M.fzL, items, D.asInt, D.eqOk, D.eqv, eqd_int, eqd_ints, valL, nl, y0]
  have nl := natsD_len ns
  have y0 : cmpop .eq (.int (ns.length : Nat)) (.int 0) = some (.bl (decide (ns.length = 0))) := eqB ns.length 0
  have hform : szB 2 = .ite (.or (.cmp .eq (.blt .len [.var 3]) (.con (.int 0))) (.cmp .eq (.callO f__law_next [.io 0 [], .e (.con (.int 3))] [0, 1]) (.con (.int 0)))) (match szB 2 with | .ite _ b _ => b | _ => []) [] := rfl
  by_cases c : ns.length = 0
  · rw [decide_eq_true c] at y0
    obtain ⟨m', ns', x5, b', h', n', e⟩ := inner m hm
    refine ⟨m', ns', x5, b', h', n', ?_⟩
    have hc : evT C (callN C fns (d + 3)) (.or (.cmp .eq (.blt .len [.var 3]) (.con (.int 0))) (.cmp .eq (.callO f__law_next [.io 0 [], .e (.con (.int 3))] [0, 1]) (.con (.int 0)))) [.ow m, .sh (.int s), x2, .sh (.lst (natsD ns)), x4, .dead, .dead, x7, x8, .dead] = .ok [.ow m, .sh (.int s), x2, .sh (.lst (natsD ns)), x4, .dead, .dead, x7, x8, .dead] true := by simp [evSs, evS, evT, evI, ev, evs, evA, evIfs, evSq, evIt, R.bind, R.ofO, readM, readPl, Slot.path, M.path, ixN, M.seq, E.mf, E.mfL, It.mf, truth, fl, D.imm, D.immL, bltC, notIns, bltin, updPl, M.upd, setM, allLeaf, callOw, outsA, backA, Slot.isOw, D.tyOk, D.hasTy, setSrc, asgT, asgL, own1, M.fz, M.fzL, items, D.asInt, D.eqOk, D.eqv, eqd_int, eqd_ints, valL, lenB, nl, y0]
    rw [hform, evS, hc]
    exact e
  · rw [decide_eq_false c] at y0
    obtain ⟨m1, k1, e1, b1, q1⟩ := c_next (C := C) (d + 2) 3 (by omega) (by omega) m hm
    have e1 : callN C fns (d + 3) f__law_next [.ow m, .sh (.int 3)] = _ := e1
    have y1 : cmpop .eq (.int (k1 : Nat)) (.int 0) = some (.bl (decide (k1 = 0))) := eqB k1 0
    by_cases c1 : k1 = 0
    · rw [decide_eq_true c1] at y1
      obtain ⟨m', ns', x5, b', h', n', e⟩ := inner m1 b1
      refine ⟨m', ns', x5, b', h', n', ?_⟩
      have hc : evT C (callN C fns (d + 3)) (.or (.cmp .eq (.blt .len [.var 3]) (.con (.int 0))) (.cmp .eq (.callO f__law_next [.io 0 [], .e (.con (.int 3))] [0, 1]) (.con (.int 0)))) [.ow m, .sh (.int s), x2, .sh (.lst (natsD ns)), x4, .dead, .dead, x7, x8, .dead] = .ok [.ow m1, .sh (.int s), x2, .sh (.lst (natsD ns)), x4, .dead, .dead, x7, x8, .dead] true := by simp [evSs, evS, evT, evI, ev, evs, evA, evIfs, evSq, evIt, R.bind, R.ofO, readM, readPl, Slot.path, M.path, ixN, M.seq, E.mf, E.mfL, It.mf, truth, fl, D.imm, D.immL, bltC, notIns, bltin, updPl, M.upd, setM, allLeaf, callOw, outsA, backA, Slot.isOw, D.tyOk, D.hasTy, setSrc, asgT, asgL, own1, M.fz, M.fzL, items, D.asInt, D.eqOk, D.eqv, eqd_int, eqd_ints, valL, lenB, nl, y0, e1, y1]
      rw [hform, evS, hc]
      exact e
    · rw [decide_eq_false c1] at y1
      refine ⟨m1, ns, .dead, b1, h, fun e => c (by rw [e]; rfl), ?_⟩
      unfold szB F__law_sized
      simp [evSs, evS, evT, evI, ev, evs, evA, evIfs, evSq, evIt, R.bind, R.ofO, readM, readPl, Slot.path, M.path, ixN, M.seq, E.mf, E.mfL, It.mf, truth, fl, D.imm, D.immL, bltC, notIns, bltin, updPl, M.upd, setM, allLeaf, callOw, outsA, backA, Slot.isOw, D.tyOk, D.hasTy, setSrc, asgT, asgL, own1, M.fz, M.fzL, items, D.asInt, D.eqOk, D.eqv, eqd_int, eqd_ints, valL, lenB, nl, y0, e1, y1]
end Lw
end
section
set_option Elab.async false
set_option linter.all false
set_option maxRecDepth 100000
set_option maxHeartbeats 4000000
namespace Lw
open Py PySem
variable {C : Py.Ctx}
def rowsN (s : Nat) (ns : List Nat) : List (List Int) := ns.map (bb s)
theorem bb_lex : ∀ s, s ≤ 5 → ∀ n, n < 2 ^ s → ∀ m, m < 2 ^ s → n < m → Py.lexLt (bb s n) (bb s m) = true := by
  have h : ((List.range 6).all fun s => (List.range (2 ^ s)).all fun n => (List.range (2 ^ s)).all fun m => decide (n < m → Py.lexLt (bb s n) (bb s m) = true)) = true := by decide +kernel
  intro s hs n hn m hm
  exact of_decide_eq_true (List.all_eq_true.mp (List.all_eq_true.mp (List.all_eq_true.mp h s (List.mem_range.mpr (by omega))) n (List.mem_range.mpr hn)) m (List.mem_range.mpr hm))
theorem lexLt_irrefl : ∀ x : List Int, Py.lexLt x x = false
  | [] => rfl
  | a :: x => by unfold Py.lexLt; rw [if_pos rfl]; exact lexLt_irrefl x
theorem chain_pw : ∀ {l : List (List Int)}, l.Pairwise (fun x y => Py.lexLt x y = true) → Chain l
  | [], _ => trivial
  | [_], _ => trivial
  | x :: y :: l, h => by
    have h' := List.pairwise_cons.mp h
    refine ⟨?_, chain_pw h'.2⟩
    unfold Py.lexLe
    rw [lexLt_asymm _ _ (h'.1 y List.mem_cons_self)]
    rfl
theorem Sz.rows {s most : Nat} {ns : List Nat} (hs : s ≤ 5) (h : Sz s most ns) (hm : most < 64) : Rows s (rowsN s ns) := by
  have pw : (rowsN s ns).Pairwise (fun x y => Py.lexLt x y = true) := by
    unfold rowsN
    rw [List.pairwise_map]
    exact (List.Pairwise.and_mem.mp h.pw).imp fun ⟨ha, hb, hlt⟩ => bb_lex s hs _ (h.lt _ ha) _ (h.lt _ hb) hlt
  refine ⟨by simpa [rowsN] using h.ne, by have := h.le; unfold rowsN; rw [List.length_map]; omega, fun r hr => ?_, fun r hr => ?_, ?_, chain_pw pw⟩
  · obtain ⟨n, _, rfl⟩ := List.mem_map.mp hr
    exact bb_len s n
  · obtain ⟨n, _, rfl⟩ := List.mem_map.mp hr
    exact bb_ok s n
  · exact pw.imp fun hlt e => by rw [e, lexLt_irrefl] at hlt; cases hlt
theorem sz34 (d s most : Nat) (hs : s ≤ 5) (h1 : 1 ≤ most) (m : M) (hm : Dr m) (x4 x5 x7 x8 : Slot) (ns : List Nat) (h : Nm s ns) (h0 : ns ≠ []) : ∃ (m' : M) (ns' : List Nat) (x6 : Slot), Dr m' ∧ Sz s most ns' ∧
    evSs C (callN C fns (d + 3)) [szB 3, szB 4, szB 5] [.ow m, .sh (.int s), .sh (.int most), .sh (.lst (natsD ns)), x4, x5, .dead, x7, x8, .dead] = .ok [.ow m', .sh (.int s), .sh (.int most), .sh (.lst (natsD ns')), x4, x5, x6, x7, x8, .dead] (.ret (.lst ((rowsN s ns').map rowD))) := by
  have hl := h.len
  have hp := (pow5 hs).2
  obtain ⟨ms, e1, pw, mem, len⟩ := sort_nats h.nd
  have fin : ∀ (m' : M) (l : List Nat) (x6 : Slot), Dr m' → Sz s most l → l.length ≤ 40 → evSs C (callN C fns (d + 3)) [szB 5] [.ow m', .sh (.int s), .sh (.int most), .sh (.lst (natsD l)), x4, x5, x6, x7, x8, .dead] = .ok [.ow m', .sh (.int s), .sh (.int most), .sh (.lst (natsD l)), x4, x5, x6, x7, x8, .dead] (.ret (.lst ((rowsN s l).map rowD))) := by
    intro m' l x6 b hl ll
    have e := ev_lcB (C := C) (orc := callN C fns (d + 3)) (own := [9]) (tg := .n 9) (it := .e (.var 3)) (elt := .call f__law_bits [.var 9, .var 1] [0, 1]) (G := [.ow m', .sh (.int s), .sh (.int most), .sh (.lst (natsD l)), x4, x5, x6, x7, x8, .dead]) (G1 := [.ow m', .sh (.int s), .sh (.int most), .sh (.lst (natsD l)), x4, x5, x6, x7, x8, .dead]) (b := false)
      l (fun n : Nat => D.int n) (fun n => rowD (bb s n)) (by simp [evSs, evS, evT, evI, ev, evs, evA, evIfs, evSq, evIt, R.bind, R.ofO, readM, readPl, Slot.path, M.path, mIndex, ixN, M.val, M.seq, E.mf, E.mfL, It.mf, cmpop, truth, fl, D.imm, D.immL, bltC, notIns, bltin, index, updPl, M.upd, setM, allLeaf, callOw, outsA, backA, Slot.isOw, D.tyOk, D.hasTy, setSrc, asgT, asgL, own1, isLst, mutM, M.fz, M.fzL, items, D.asInt, binop, eqd, D.eqOk, D.eqv, natsD]) (by rfl) (by rfl) (fun n hn => by
        have e1 := c_bits (C := C) (d + 2) s n (by omega)
        simp [lcStep, evSs, evS, evT, evI, ev, evs, evA, evIfs, evSq, evIt, R.bind, R.ofO, readM, readPl, Slot.path, M.path, ixN, M.seq, E.mf, E.mfL, It.mf, truth, fl, D.imm, D.immL, bltC, notIns, bltin, updPl, M.upd, setM, allLeaf, callOw, outsA, backA, Slot.isOw, D.tyOk, D.hasTy, setSrc, asgT, asgL, own1, M.fz, M.fzL, items, D.asInt, D.eqOk, D.eqv, eqd_int, eqd_ints, valL, wipe, e1]) (by rfl) (by omega)
    have e3 : l.map (fun n => rowD (bb s n)) = (rowsN s l).map rowD := by unfold rowsN; rw [List.map_map]; rfl
    rw [e3] at e
    unfold szB F__law_sized
    simp only [List.getD_cons_succ, List.getD_cons_zero, evSs, evS, ↓e, R.bind]
    simp
  have st3 : evS C (callN C fns (d + 3)) (szB 3) [.ow m, .sh (.int s), .sh (.int most), .sh (.lst (natsD ns)), x4, x5, .dead, x7, x8, .dead] = .ok [.ow m, .sh (.int s), .sh (.int most), .sh (.lst (natsD ms)), x4, x5, .dead, x7, x8, .dead] .next := by
    have e1' : bltin .sorted [.lst (natsD ns)] = some (.lst (natsD ms)) := e1
    unfold szB F__law_sized
    simp [evS, ev, evs, R.bind, R.ofO, E.mf, E.mfL, bltC, notIns, e1', fl, asgT]
  have nl := natsD_len ms
  have g1 : cmpop .gt (.int (ms.length : Nat)) (.int (most : Nat)) = some (.bl (decide (most < ms.length))) := ltB most ms.length
  by_cases c : most < ms.length
  · rw [decide_eq_true c] at g1
    obtain ⟨m1, k1, e2, b1, q1⟩ := c_next (C := C) (d + 2) (ms.length - most + 1) (by omega) (by omega) m hm
    have zs : Sz s most ((ms.drop k1).take most) := by
      have sub : ((ms.drop k1).take most).Sublist ms := (List.take_sublist _ _).trans (List.drop_sublist _ _)
      refine ⟨?_, ?_, fun x hx => h.lt x ((mem x).mp (sub.subset hx)), pw.sublist sub⟩
      · intro e
        have := congrArg List.length e
        rw [List.length_take, List.length_drop] at this
        simp at this
        omega
      · rw [List.length_take]; omega
    have b1' : binop .sub (.int (ms.length : Nat)) (.int (most : Nat)) = some (.int ((ms.length - most : Nat) : Int)) := by
      show some (D.int _) = _
      congr 2
      omega
    have b2' : binop .add (.int ((ms.length - most : Nat) : Int)) (.int 1) = some (.int ((ms.length - most + 1 : Nat) : Int)) := by
      show some (D.int _) = _
      congr 2
    have b3' : binop .add (.int (k1 : Nat)) (.int (most : Nat)) = some (.int ((k1 + most : Nat) : Int)) := by
      show some (D.int _) = _
      congr 2
    have sl : slice (.lst (natsD ms)) (some (k1 : Int)) (some ((k1 + most : Nat) : Int)) = some (.lst (natsD ((ms.drop k1).take most))) := by
      show some (D.lst (cutD (natsD ms) _ _)) = _
      congr 2
      unfold cutD sIx
      have n1 : ¬ ((k1 : Int) < 0) := by omega
      have n2 : ¬ (((k1 + most : Nat) : Int) < 0) := by omega
      show ((natsD ms).drop (if (k1 : Int) < 0 then _ else _)).take ((if ((k1 + most : Nat) : Int) < 0 then _ else _) - (if (k1 : Int) < 0 then _ else _)) = _
      rw [if_neg n1, if_neg n2, nl, Int.toNat_natCast, Int.toNat_natCast, Nat.min_eq_left (by omega), Nat.min_eq_left (by omega), show k1 + most - k1 = most by omega]
      unfold natsD
      rw [List.map_take, List.map_drop]
    have st4 : evS C (callN C fns (d + 3)) (szB 4) [.ow m, .sh (.int s), .sh (.int most), .sh (.lst (natsD ms)), x4, x5, .dead, x7, x8, .dead] = .ok [.ow m1, .sh (.int s), .sh (.int most), .sh (.lst (natsD ((ms.drop k1).take most))), x4, x5, .sh (.int k1), x7, x8, .dead] .next := by
      generalize ((ms.length - most + 1 : Nat) : Int) = w1 at *
      generalize ((ms.length - most : Nat) : Int) = w2 at *
      generalize ((k1 + most : Nat) : Int) = w3 at *
      unfold szB F__law_sized
      simp [evSs, evS, evT, evI, ev, evs, evA, evIfs, evSq, evIt, R.bind, R.ofO, readM, readPl, Slot.path, M.path, ixN, M.seq, E.mf, E.mfL, It.mf, truth, fl, D.imm, D.immL, bltC, notIns, bltin, updPl, M.upd, setM, allLeaf, callOw, outsA, backA, Slot.isOw, D.tyOk, D.hasTy, setSrc, asgT, asgL, own1, M.fz, M.fzL, items, D.asInt, D.eqOk, D.eqv, eqd_int, eqd_ints, valL, lenB, nl, g1, b1', b2', e2, b3', sl]
    refine ⟨m1, (ms.drop k1).take most, .sh (.int k1), b1, zs, ?_⟩
    rw [evSs_next st3, evSs_next st4]
    exact fin m1 _ _ b1 zs (by rw [List.length_take, List.length_drop]; omega)
  · rw [decide_eq_false c] at g1
    have zs : Sz s most ms := ⟨fun e => h0 (by rw [e] at len; exact List.length_eq_zero_iff.mp len.symm), by omega, fun x hx => h.lt x ((mem x).mp hx), pw⟩
    have st4 : evS C (callN C fns (d + 3)) (szB 4) [.ow m, .sh (.int s), .sh (.int most), .sh (.lst (natsD ms)), x4, x5, .dead, x7, x8, .dead] = .ok [.ow m, .sh (.int s), .sh (.int most), .sh (.lst (natsD ms)), x4, x5, .dead, x7, x8, .dead] .next := by
      unfold szB F__law_sized
      simp [evSs, evS, evT, evI, ev, evs, evA, evIfs, evSq, evIt, R.bind, R.ofO, readM, readPl, Slot.path, M.path, ixN, M.seq, E.mf, E.mfL, It.mf, truth, fl, D.imm, D.immL, bltC, notIns, bltin, updPl, M.upd, setM, allLeaf, callOw, outsA, backA, Slot.isOw, D.tyOk, D.hasTy, setSrc, asgT, asgL, own1, M.fz, M.fzL, items, D.asInt, D.eqOk, D.eqv, eqd_int, eqd_ints, valL, lenB, nl, g1]
    refine ⟨m, ms, .dead, hm, zs, ?_⟩
    rw [evSs_next st3, evSs_next st4]
    exact fin m _ _ hm zs (by omega)
theorem c_sized (d s most : Nat) (hs : s ≤ 5) (h1 : 1 ≤ most) (m : M) (hm : Dr m) : ∃ (m' : M) (ns : List Nat), callN C fns (d + 4) f__law_sized [.ow m, .sh (.int s), .sh (.int most)] = .ok [.ow m', .dead, .dead] (.lst ((rowsN s ns).map rowD)) ∧ Dr m' ∧ Sz s most ns := by
  obtain ⟨m1, k1, e1, b1, q1⟩ := c_next (C := C) (d + 2) 11 (by omega) (by omega) m hm
  have e1 : callN C fns (d + 3) f__law_next [.ow m, .sh (.int 11)] = _ := e1
  obtain ⟨m2, n2, e2, b2, h2⟩ := c_shaped (C := C) d s k1 hs m1 b1
  obtain ⟨m3, n3, x4, x7, x8, b3, h3, e3⟩ := sz1 (C := C) d s hs m2 b2 (.sh (.int most)) n2 h2
  obtain ⟨m4, n4, x5, b4, h4, h40, e4⟩ := sz2 (C := C) d s hs m3 b3 (.sh (.int most)) x4 x7 x8 n3 h3
  obtain ⟨m5, n5, x6, b5, h5, e5⟩ := sz34 (C := C) d s most hs h1 m4 b4 x4 x5 x7 x8 n4 h4 h40
  refine ⟨m5, n5, ?_, b5, h5⟩
  have : evSs C (callN C fns (d + 3)) F__law_sized.body (enter F__law_sized.n [.ow m, .sh (.int s), .sh (.int most)]) = .ok [.ow m5, .sh (.int s), .sh (.int most), .sh (.lst (natsD n5)), x4, x5, x6, x7, x8, .dead] (.ret (.lst ((rowsN s n5).map rowD))) := by
    show evSs C _ [szB 0, szB 1, szB 2, szB 3, szB 4, szB 5] [.ow m, .sh (.int s), .sh (.int most), .dead, .dead, .dead, .dead, .dead, .dead, .dead] = _
    rw [evSs_next (G1 := [.ow m2, .sh (.int s), .sh (.int most), .sh (.lst (natsD n2)), .dead, .dead, .dead, .dead, .dead, .dead]) (by
      unfold szB F__law_sized
      simp [evSs, evS, evT, evI, ev, evs, evA, evIfs, evSq, evIt, R.bind, R.ofO, readM, readPl, Slot.path, M.path, ixN, M.seq, E.mf, E.mfL, It.mf, truth, fl, D.imm, D.immL, bltC, notIns, bltin, updPl, M.upd, setM, allLeaf, callOw, outsA, backA, Slot.isOw, D.tyOk, D.hasTy, setSrc, asgT, asgL, own1, M.fz, M.fzL, items, D.asInt, D.eqOk, D.eqv, eqd_int, eqd_ints, valL, e1, e2])]
    rw [evSs_next e3, evSs_next e4]
    exact e5
  show runFn C _ F__law_sized _ = _
  rw [runFn, this]
  simp [F__law_sized, ioOk, leave]
theorem lsizes : ∀ x, x < 10 → [3, 4, 5, 2, 3, 4, 1, 3, 2, 0].getD x 0 ≤ 5 := by decide
theorem c_listed (d w most : Nat) (h1 : 1 ≤ most) (m : M) (hm : Dr m) : ∃ (m' : M) (s : Nat) (ns : List Nat), callN C fns (d + 5) f__law_listed [.ow m, .sh (.int w), .sh (.int most)] = .ok [.ow m', .dead, .dead] (.lst [.int s, .lst ((rowsN s ns).map rowD)]) ∧ Dr m' ∧ s ≤ 5 ∧ s ≤ w ∧ Sz s most ns := by
  obtain ⟨m1, x, e1, b1, q1⟩ := c_next (C := C) (d + 3) 10 (by omega) (by omega) m hm
  have e1 : callN C fns (d + 4) f__law_next [.ow m, .sh (.int 10)] = _ := e1
  have z : index (.lst [.int 3, .int 4, .int 5, .int 2, .int 3, .int 4, .int 1, .int 3, .int 2, .int 0]) (.int x) = some (.int ([3, 4, 5, 2, 3, 4, 1, 3, 2, 0].getD x 0 : Nat)) := z_nat (ns := [3, 4, 5, 2, 3, 4, 1, 3, 2, 0]) q1
  have hle := lsizes x q1
  generalize [3, 4, 5, 2, 3, 4, 1, 3, 2, 0].getD x 0 = s0 at *
  obtain ⟨m2, ns, e2, b2, h2⟩ := c_sized (C := C) d (min w s0) most (by omega) h1 m1 b1
  have zm : bltin .min [.int (w : Nat), .int (s0 : Nat)] = some (.int ((min w s0 : Nat) : Int)) := by
    show some (D.int (if (s0 : Int) < (w : Int) then (s0 : Int) else (w : Int))) = _
    congr 2
    split <;> omega
  refine ⟨m2, min w s0, ns, ?_, b2, by omega, by omega, h2⟩
  generalize rowsN (min w s0) ns = rr at *
  generalize ((min w s0 : Nat) : Int) = u at *
  show runFn C _ F__law_listed _ = _
  simp [runFn, F__law_listed, ioOk, enter, leave, evSs, evS, ev, evs, evA, R.bind, R.ofO, E.mf, E.mfL, bltC, notIns, callOw, outsA, backA, Slot.isOw, fl, D.imm, e1, z, zm, e2, asgT]
end Lw
end
section
set_option Elab.async false
set_option linter.all false
set_option maxRecDepth 100000
set_option maxHeartbeats 4000000
namespace Lw
open Py PySem
variable {C : Py.Ctx}
theorem c_same : ∀ (n : Nat) (x : D), pln n x = true → ∀ d, callN C fns (d + n + 1) f__law_same [.sh x, .sh x] = .ok [.dead, .dead] (.bl true) := by
  have base : ∀ (i : Int) (d : Nat), callN C fns (d + 1) f__law_same [.sh (.int i), .sh (.int i)] = .ok [.dead, .dead] (.bl true) := fun i d => by
    show runFn C _ F__law_same _ = _
    simp [runFn, F__law_same, ioOk, enter, leave, evSs, evS, evT, evI, ev, evs, evA, evIfs, evSq, evIt, R.bind, R.ofO, readM, readPl, Slot.path, M.path, mIndex, ixN, M.val, M.seq, E.mf, E.mfL, It.mf, cmpop, truth, fl, D.imm, D.immL, bltC, notIns, bltin, updPl, M.upd, setM, allLeaf, callOw, outsA, backA, Slot.isOw, D.tyOk, D.hasTy, setSrc, asgT, asgL, own1, isLst, mutM, M.fz, M.fzL, items, D.asInt, binop, D.eqOk, D.eqv, eqd_int, eqd_ints]
  intro n
  induction n with
  | zero =>
    intro x h d
    cases x <;> first | (cases h; done) | skip
    exact base _ d
  | succ n ih =>
    intro x h d
    cases x <;> first | (cases h; done) | skip
    case int i => exact base i (d + (n + 1))
    case tup xs =>
      rw [pln, Bool.and_eq_true] at h
      obtain ⟨h1, h2⟩ := h
      have h1 := of_decide_eq_true h1
      show runFn C (callN C fns (d + (n + 1))) F__law_same _ = _
      obtain ⟨G2, e, x2, rfl⟩ := evS_forR (C := C) (orc := callN C fns (d + (n + 1))) (tg := .n 2) (a := .blt .len [.var 1]) (body := [.ite (.not (.call f__law_same [.idx (.var 0) (.var 2), .idx (.var 1) (.var 2)] [0, 1])) [.ret (.con (.bl false))] []]) (b := false)
        (G := [.sh (.tup xs), .sh (.tup xs), .dead]) (G1 := [.sh (.tup xs), .sh (.tup xs), .dead]) xs.length
        (fun k (G : Py.Env) => ∃ x2 : Slot, G = [.sh (.tup xs), .sh (.tup xs), x2]) (by simp [evSs, evS, evT, evI, ev, evs, evA, evIfs, evSq, evIt, R.bind, R.ofO, readM, readPl, Slot.path, M.path, mIndex, ixN, M.val, M.seq, E.mf, E.mfL, It.mf, cmpop, truth, fl, D.imm, D.immL, bltC, notIns, bltin, updPl, M.upd, setM, allLeaf, callOw, outsA, backA, Slot.isOw, D.tyOk, D.hasTy, setSrc, asgT, asgL, own1, isLst, mutM, M.fz, M.fzL, items, D.asInt, binop, D.eqOk, D.eqv, eqd_int, eqd_ints]) (by omega) ⟨.dead, rfl⟩ (fun k hk G hG => by
          obtain ⟨x2, rfl⟩ := hG
          have e1 := ih xs[k] (pln_get hk h2) d
          have z : index (.tup xs) (.int k) = some xs[k] := by
            show atI _ _ = _
            rw [atI_nat hk, List.getElem?_eq_getElem hk]
          generalize xs[k] = y at *
          refine ⟨[.sh (.tup xs), .sh (.tup xs), .sh (.int k)], [.sh (.tup xs), .sh (.tup xs), .sh (.int k)], by simp [asgT], ?_, _, rfl⟩
          have e1 : callN C fns (d + (n + 1)) f__law_same [.sh y, .sh y] = .ok [.dead, .dead] (.bl true) := e1
          simp [evSs, evS, evT, evI, ev, evs, evA, evIfs, evSq, evIt, R.bind, R.ofO, readM, readPl, Slot.path, M.path, ixN, M.seq, E.mf, E.mfL, It.mf, truth, fl, D.imm, D.immL, bltC, notIns, updPl, M.upd, setM, allLeaf, callOw, outsA, backA, Slot.isOw, D.tyOk, D.hasTy, setSrc, asgT, asgL, own1, M.fz, M.fzL, items, D.asInt, D.eqOk, D.eqv, eqd_int, eqd_ints, valL, lenB, lenBT, z, e1])
      have eq1 : cmpop .ne (.int (xs.length : Nat)) (.int (xs.length : Nat)) = some (.bl false) := by
        show Option.map (fun k => D.bl (!k)) (eqd (.int (xs.length : Nat)) (.int (xs.length : Nat))) = _
        rw [eqd_int]
        simp
      have : evSs C (callN C fns (d + (n + 1))) F__law_same.body (enter F__law_same.n [.sh (.tup xs), .sh (.tup xs)]) = .ok [.sh (.tup xs), .sh (.tup xs), x2] (.ret (.bl true)) := by
        show evSs C _ F__law_same.body [.sh (.tup xs), .sh (.tup xs), .dead] = _
        have inner : evSs C (callN C fns (d + (n + 1))) [.ite (.or (.not (.isi (.var 0) [.tuple])) (.cmp .ne (.blt .len [.var 0]) (.blt .len [.var 1]))) [.ret (.con (.bl false))] [], .for_ (.n 2) (.rng1 (.blt .len [.var 1])) [.ite (.not (.call f__law_same [.idx (.var 0) (.var 2), .idx (.var 1) (.var 2)] [0, 1])) [.ret (.con (.bl false))] []], .ret (.con (.bl true))] [.sh (.tup xs), .sh (.tup xs), .dead] = .ok [.sh (.tup xs), .sh (.tup xs), x2] (.ret (.bl true)) := by
          rw [evSs_next (G1 := [.sh (.tup xs), .sh (.tup xs), .dead]) (by simp [evSs, evS, evT, evI, ev, evs, evA, evIfs, evSq, evIt, R.bind, R.ofO, readM, readPl, Slot.path, M.path, ixN, M.seq, E.mf, E.mfL, It.mf, truth, fl, D.imm, D.immL, bltC, notIns, updPl, M.upd, setM, allLeaf, callOw, outsA, backA, Slot.isOw, D.tyOk, D.hasTy, setSrc, asgT, asgL, own1, M.fz, M.fzL, items, D.asInt, D.eqOk, D.eqv, eqd_int, eqd_ints, valL, lenB, lenBT, eq1])]
          rw [evSs_next e]
          simp [evSs, evS, evT, evI, ev, evs, evA, evIfs, evSq, evIt, R.bind, R.ofO, readM, readPl, Slot.path, M.path, ixN, M.seq, E.mf, E.mfL, It.mf, truth, fl, D.imm, D.immL, bltC, notIns, updPl, M.upd, setM, allLeaf, callOw, outsA, backA, Slot.isOw, D.tyOk, D.hasTy, setSrc, asgT, asgL, own1, M.fz, M.fzL, items, D.asInt, D.eqOk, D.eqv, eqd_int, eqd_ints, valL, lenB, lenBT]
        have hc : evT C (callN C fns (d + (n + 1))) (.isi (.var 1) [.tuple]) [.sh (.tup xs), .sh (.tup xs), .dead] = .ok [.sh (.tup xs), .sh (.tup xs), .dead] true := by simp [evSs, evS, evT, evI, ev, evs, evA, evIfs, evSq, evIt, R.bind, R.ofO, readM, readPl, Slot.path, M.path, ixN, M.seq, E.mf, E.mfL, It.mf, truth, fl, D.imm, D.immL, bltC, notIns, updPl, M.upd, setM, allLeaf, callOw, outsA, backA, Slot.isOw, D.tyOk, D.hasTy, setSrc, asgT, asgL, own1, M.fz, M.fzL, items, D.asInt, D.eqOk, D.eqv, eqd_int, eqd_ints, valL, lenB, lenBT]
        unfold F__law_same
        rw [evSs, evS, hc]
        show R.bind (evSs C _ _ _) _ = _
        rw [inner]
        rfl
      rw [runFn, this]
      simp [F__law_same, ioOk, leave]
theorem pln_rows (rs : List (List Int)) (s : Nat) (hl : ∀ r ∈ rs, r.length = s) (hs : s ≤ 1000) (hn : rs.length ≤ 1000) : pln 2 (.tup (rs.map rowD)) = true := by
  rw [pln, Bool.and_eq_true]
  refine ⟨decide_eq_true (by rw [List.length_map]; exact hn), ?_⟩
  clear hn
  induction rs with
  | nil => rfl
  | cons r rs ih =>
    rw [List.map_cons, plnL, ih fun r h => hl r (List.mem_cons_of_mem _ h), Bool.and_true]
    show (decide ((r.map D.int).length ≤ 1000) && plnL 0 (r.map D.int)) = true
    rw [pln_ints, decide_eq_true (by rw [List.length_map, hl r List.mem_cons_self]; exact hs)]
    rfl
end Lw
end
section
set_option Elab.async false
set_option linter.all false
set_option maxRecDepth 100000
set_option maxHeartbeats 4000000
namespace Lw
open Py PySem
variable {C : Py.Ctx}
theorem c_bit_of (d n : Nat) (h : n ≤ 1000) : callN C fns (d + 1) f_bit_of [.sh (.int n)] = .ok [.dead] (.int ((2 ^ n : Nat) : Int)) := by
  show runFn C _ F_bit_of _ = _
  have e := shlK h
  generalize ((2 ^ n : Nat) : Int) = w at *
  simp [runFn, F_bit_of, ioOk, enter, leave, evSs, evS, evT, evI, ev, evs, evA, evIfs, evSq, evIt, R.bind, R.ofO, readM, readPl, Slot.path, M.path, ixN, M.seq, E.mf, E.mfL, It.mf, truth, fl, D.imm, D.immL, bltC, notIns, bltin, updPl, M.upd, setM, allLeaf, callOw, outsA, backA, Slot.isOw, D.tyOk, D.hasTy, setSrc, asgT, asgL, own1, M.fz, M.fzL, items, D.asInt, D.eqOk, D.eqv, eqd_int, eqd_ints, valL, e]
theorem borB (x y : Nat) : binop .bor (.int x) (.int y) = some (.int ((x ||| y : Nat) : Int)) := by show some (D.int _) = _; rw [bOr]
theorem bandB (x y : Nat) : binop .band (.int x) (.int y) = some (.int ((x &&& y : Nat) : Int)) := by show some (D.int _) = _; rw [bAnd]
theorem c_mask_of (d : Nat) (l : List Nat) (h : ∀ x ∈ l, x ≤ 1000) : callN C fns (d + 2) f_mask_of [.sh (.lst (natsD l))] = .ok [.dead] (.int (orL l : Nat)) := by
  obtain ⟨G2, e, x2, rfl⟩ := evS_forL (C := C) (orc := callN C fns (d + 1)) (tg := .n 2) (it := .e (.var 0)) (body := [.asg (.n 1) (.bin .bor (.var 1) (.call f_bit_of [.var 2] [0]))]) (G := [.sh (.lst (natsD l)), .sh (.int 0), .dead]) (G1 := [.sh (.lst (natsD l)), .sh (.int 0), .dead]) (ds := natsD l)
    (fun k (G : Py.Env) => ∃ x2 : Slot, G = [.sh (.lst (natsD l)), .sh (.int (orL (l.take k) : Nat)), x2]) (by simp [evSs, evS, evT, evI, ev, evs, evA, evIfs, evSq, evIt, R.bind, R.ofO, readM, readPl, Slot.path, M.path, mIndex, ixN, M.val, M.seq, E.mf, E.mfL, It.mf, cmpop, truth, fl, D.imm, D.immL, bltC, notIns, bltin, index, updPl, M.upd, setM, allLeaf, callOw, outsA, backA, Slot.isOw, D.tyOk, D.hasTy, setSrc, asgT, asgL, own1, isLst, mutM, M.fz, M.fzL, items, D.asInt, binop, eqd, D.eqOk, D.eqv]) ⟨.dead, rfl⟩ (fun k hk G hG => by
      obtain ⟨x2, rfl⟩ := hG
      have hk' : k < l.length := by rw [natsD_len] at hk; exact hk
      have ek : (natsD l)[k] = .int (l[k] : Nat) := by simp [natsD]
      have e1 := c_bit_of (C := C) d l[k] (h _ (List.getElem_mem hk'))
      have e2 := borB (orL (l.take k)) (2 ^ l[k])
      have e3 : orL (l.take (k + 1)) = orL (l.take k) ||| 2 ^ l[k] := by
        unfold orL
        rw [List.take_succ_eq_append_getElem hk', List.foldl_append]
        rfl
      refine ⟨[.sh (.lst (natsD l)), .sh (.int (orL (l.take k) : Nat)), .sh (.int (l[k] : Nat))], [.sh (.lst (natsD l)), .sh (.int (orL (l.take (k + 1)) : Nat)), .sh (.int (l[k] : Nat))], by rw [ek]; simp [asgT], ?_, _, rfl⟩
      rw [e3]
      generalize l[k] = x at *
      generalize orL (l.take k) = m at *
      generalize ((m ||| 2 ^ x : Nat) : Int) = w1 at *
      generalize ((2 ^ x : Nat) : Int) = w2 at *
      simp [evSs, evS, evT, evI, ev, evs, evA, evIfs, evSq, evIt, R.bind, R.ofO, readM, readPl, Slot.path, M.path, ixN, M.seq, E.mf, E.mfL, It.mf, truth, fl, D.imm, D.immL, bltC, notIns, bltin, updPl, M.upd, setM, allLeaf, callOw, outsA, backA, Slot.isOw, D.tyOk, D.hasTy, setSrc, asgT, asgL, own1, M.fz, M.fzL, items, D.asInt, D.eqOk, D.eqv, eqd_int, eqd_ints, valL, e1, e2])
  rw [natsD_len, List.take_length] at e
  show runFn C _ F_mask_of _ = _
  have : evSs C (callN C fns (d + 1)) F_mask_of.body (enter F_mask_of.n [.sh (.lst (natsD l))]) = .ok [.sh (.lst (natsD l)), .sh (.int (orL l : Nat)), x2] (.ret (.int (orL l : Nat))) := by
    show evSs C _ F_mask_of.body [.sh (.lst (natsD l)), .dead, .dead] = _
    unfold F_mask_of
    rw [evSs_next (G1 := [.sh (.lst (natsD l)), .sh (.int 0), .dead]) (by simp [evSs, evS, evT, evI, ev, evs, evA, evIfs, evSq, evIt, R.bind, R.ofO, readM, readPl, Slot.path, M.path, ixN, M.seq, E.mf, E.mfL, It.mf, truth, fl, D.imm, D.immL, bltC, notIns, bltin, updPl, M.upd, setM, allLeaf, callOw, outsA, backA, Slot.isOw, D.tyOk, D.hasTy, setSrc, asgT, asgL, own1, M.fz, M.fzL, items, D.asInt, D.eqOk, D.eqv, eqd_int, eqd_ints, valL])]
    rw [evSs_next e]
    simp [evSs, evS, evT, evI, ev, evs, evA, evIfs, evSq, evIt, R.bind, R.ofO, readM, readPl, Slot.path, M.path, ixN, M.seq, E.mf, E.mfL, It.mf, truth, fl, D.imm, D.immL, bltC, notIns, bltin, updPl, M.upd, setM, allLeaf, callOw, outsA, backA, Slot.isOw, D.tyOk, D.hasTy, setSrc, asgT, asgL, own1, M.fz, M.fzL, items, D.asInt, D.eqOk, D.eqv, eqd_int, eqd_ints, valL]
  rw [runFn, this]
  simp [F_mask_of, ioOk, leave]
variable (hlen : C.lenOf c_Rules = some f_Rules___len__)
include hlen in
theorem c_whole (d s : Nat) (rs : List (List Int)) (h : rs.length ≤ 1000) : callN C fns (d + 2) f_whole_mask [.sh (RU s rs)] = .ok [.dead] (.int (2 ^ rs.length - 1 : Nat)) := by
  show runFn C _ F_whole_mask _ = _
  have e1 := e_len hlen d s rs (by omega)
  have e2 := c_bit_of (C := C) d rs.length h
  have hp : 1 ≤ 2 ^ rs.length := Nat.pow_pos (by decide)
  have e3 : binop .sub (.int ((2 ^ rs.length : Nat) : Int)) (.int 1) = some (.int (2 ^ rs.length - 1 : Nat)) := by
    show some (D.int _) = _
    congr 2
    omega
  have e4 : bltC C (callN C fns (d + 1)) .len ([RU s rs], false) = some (.int rs.length, false) := by
    unfold bltC
    rw [if_neg (by unfold RU; simp [notIns]), e1]
    rfl
  generalize ((2 ^ rs.length - 1 : Nat) : Int) = w1 at *
  generalize ((2 ^ rs.length : Nat) : Int) = w2 at *
  simp [runFn, F_whole_mask, ioOk, enter, leave, evSs, evS, ev, evs, R.bind, R.ofO, E.mf, E.mfL, fl, D.imm, e4, e2, e3]
theorem enum_rows (rs : List (List Int)) : enumD 0 (rs.map rowD) = (List.range rs.length).map fun i : Nat => D.tup [.int i, rowD (rs.getD i [])] := by
  rw [enumD_map]
  apply List.ext_getElem
  · simp
  · intro i h1 h2
    simp at h1 h2
    simp [List.getElem?_eq_getElem h1]
theorem c_yes_mask (d s p : Nat) (rs : List (List Int)) (h : rs.length ≤ 1000) (hl : ∀ r ∈ rs, r.length = s) (hp : p < s) : callN C fns (d + 3) f_yes_mask [.sh (RU s rs), .sh (.int p)] = .ok [.dead, .dead] (.int (yesM rs p : Nat)) := by
  show runFn C _ F_yes_mask _ = _
  have e := ev_lcA (C := C) (orc := callN C fns (d + 2)) (own := [2, 3]) (tg := .t [.n 2, .n 3]) (it := .enum (.att (.var 0) fd_rows)) (ifs := [.cmp .eq (.idx (.var 3) (.var 1)) (.con (.int 1))]) (elt := .var 2) (b := false)
    (G := [.sh (RU s rs), .sh (.int p), .dead, .dead]) (G1 := [.sh (RU s rs), .sh (.int p), .dead, .dead]) (List.range rs.length) (fun i : Nat => .tup [.int i, rowD (rs.getD i [])]) (fun i => decide ((rs.getD i []).getD p 0 = 1)) (fun i : Nat => .int i)
    (by rw [← enum_rows]; simp [evSs, evS, evT, evI, ev, evs, evA, evIfs, evSq, evIt, R.bind, R.ofO, readM, readPl, Slot.path, M.path, mIndex, ixN, M.val, M.seq, E.mf, E.mfL, It.mf, cmpop, truth, fl, D.imm, D.immL, bltC, notIns, bltin, index, updPl, M.upd, setM, allLeaf, callOw, outsA, backA, Slot.isOw, D.tyOk, D.hasTy, setSrc, asgT, asgL, own1, isLst, mutM, M.fz, M.fzL, items, D.asInt, binop, eqd, D.eqOk, D.eqv]) (by rfl) (by rfl) (fun i hi => by
      have z := z_row (r := rs.getD i []) (k := p) (by rw [getD_len hl (List.mem_range.mp hi)]; exact hp)
      generalize rs.getD i [] = r at *
      by_cases hh : r.getD p 0 = 1 <;> (generalize r.getD p 0 = u at *; simp [lcStep, evSs, evS, evT, evI, ev, evs, evA, evIfs, evSq, evIt, R.bind, R.ofO, readM, readPl, Slot.path, M.path, mIndex, ixN, M.val, M.seq, E.mf, E.mfL, It.mf, cmpop, truth, fl, D.imm, D.immL, bltC, notIns, bltin, updPl, M.upd, setM, allLeaf, callOw, outsA, backA, Slot.isOw, D.tyOk, D.hasTy, setSrc, asgT, asgL, own1, isLst, mutM, M.fz, M.fzL, items, D.asInt, binop, D.eqOk, D.eqv, eqd_int, eqd_ints, wipe, z, hh])) (by rfl) (by rw [List.length_range]; omega)
  have e2 : ((List.range rs.length).filter fun i => decide ((rs.getD i []).getD p 0 = 1)) = ((List.range (rs.map fun r => decide (r.getD p 0 = 1)).length).filter fun i => (rs.map fun r => decide (r.getD p 0 = 1)).getD i false) := by
    rw [List.length_map]
    apply List.filter_congr
    intro i hi
    have hi := List.mem_range.mp hi
    rw [List.getD_eq_getElem?_getD (l := List.map _ rs), List.getElem?_map, List.getElem?_eq_getElem hi, List.getD_eq_getElem?_getD (l := rs), List.getElem?_eq_getElem hi]
    rfl
  have e3 := c_mask_of (C := C) d ((List.range rs.length).filter fun i => decide ((rs.getD i []).getD p 0 = 1)) (fun x hx => by have := List.mem_range.mp (List.mem_filter.mp hx).1; omega)
  rw [e2, orL_mk] at e3
  rw [e2] at e
  have e4 : ((List.range (rs.map fun r => decide (r.getD p 0 = 1)).length).filter fun i => (rs.map fun r => decide (r.getD p 0 = 1)).getD i false).map (fun i : Nat => D.int i) = natsD ((List.range (rs.map fun r => decide (r.getD p 0 = 1)).length).filter fun i => (rs.map fun r => decide (r.getD p 0 = 1)).getD i false) := rfl
  rw [e4] at e
  unfold yesM
  generalize (List.range (rs.map fun r => decide (r.getD p 0 = 1)).length).filter (fun i => (rs.map fun r => decide (r.getD p 0 = 1)).getD i false) = L at *
  simp [runFn, F_yes_mask, ioOk, enter, leave, evSs, evS, evT, evI, ev, evs, evA, evIfs, evSq, evIt, R.bind, R.ofO, readM, readPl, Slot.path, M.path, mIndex, ixN, M.val, M.seq, E.mf, E.mfL, It.mf, cmpop, truth, fl, D.imm, D.immL, bltC, notIns, bltin, index, updPl, M.upd, setM, allLeaf, callOw, outsA, backA, Slot.isOw, D.tyOk, D.hasTy, setSrc, asgT, asgL, own1, isLst, mutM, M.fz, M.fzL, items, D.asInt, binop, eqd, D.eqOk, D.eqv, ↓e, e3]
theorem c_yes_masks (d s : Nat) (rs : List (List Int)) (h : rs.length ≤ 1000) (hl : ∀ r ∈ rs, r.length = s) (hs : s ≤ 1000) : callN C fns (d + 4) f_yes_masks [.sh (RU s rs)] = .ok [.dead] (.tup (natsD ((List.range s).map (yesM rs)))) := by
  show runFn C _ F_yes_masks _ = _
  have e := ev_lcRa (C := C) (orc := callN C fns (d + 3)) (v := 1) (s := s) (a := .att (.var 0) fd_size) (elt := .call f_yes_mask [.var 0, .var 1] [0, 1]) (G := [.sh (RU s rs), .dead]) (G1 := [.sh (RU s rs), .dead]) (b := false)
    (fun k => .int (yesM rs k : Nat)) (by simp [evSs, evS, evT, evI, ev, evs, evA, evIfs, evSq, evIt, R.bind, R.ofO, readM, readPl, Slot.path, M.path, mIndex, ixN, M.val, M.seq, E.mf, E.mfL, It.mf, cmpop, truth, fl, D.imm, D.immL, bltC, notIns, bltin, index, updPl, M.upd, setM, allLeaf, callOw, outsA, backA, Slot.isOw, D.tyOk, D.hasTy, setSrc, asgT, asgL, own1, isLst, mutM, M.fz, M.fzL, items, D.asInt, binop, eqd, D.eqOk, D.eqv]) (by omega) (by rfl) (by rfl) (fun k hk => by
      simp [lcStep, evSs, evS, evT, evI, ev, evs, evA, evIfs, evSq, evIt, R.bind, R.ofO, readM, readPl, Slot.path, M.path, mIndex, ixN, M.val, M.seq, E.mf, E.mfL, It.mf, cmpop, truth, fl, D.imm, D.immL, bltC, notIns, bltin, index, updPl, M.upd, setM, allLeaf, callOw, outsA, backA, Slot.isOw, D.tyOk, D.hasTy, setSrc, asgT, asgL, own1, isLst, mutM, M.fz, M.fzL, items, D.asInt, binop, eqd, D.eqOk, D.eqv, wipe, c_yes_mask d s k rs h hl hk])
  have e3 : (List.range s).map (fun k => D.int (yesM rs k : Nat)) = natsD ((List.range s).map (yesM rs)) := by unfold natsD; rw [List.map_map]; rfl
  rw [e3] at e
  simp [runFn, F_yes_masks, ioOk, enter, leave, evSs, evS, evT, evI, ev, evs, evA, evIfs, evSq, evIt, R.bind, R.ofO, readM, readPl, Slot.path, M.path, mIndex, ixN, M.val, M.seq, E.mf, E.mfL, It.mf, cmpop, truth, fl, D.imm, D.immL, bltC, notIns, bltin, index, updPl, M.upd, setM, allLeaf, callOw, outsA, backA, Slot.isOw, D.tyOk, D.hasTy, setSrc, asgT, asgL, own1, isLst, mutM, M.fz, M.fzL, items, D.asInt, binop, eqd, D.eqOk, D.eqv, ↓e]
theorem c_halves (d m y : Nat) : callN C fns (d + 1) f_halves_at [.sh (.int m), .sh (.int y)] = .ok [.dead, .dead] (.tup [.int (m - (m &&& y) : Nat), .int (m &&& y : Nat)]) := by
  show runFn C _ F_halves_at _ = _
  have e1 := bandB m y
  have e2 : binop .band (.int m) (.int (Builtin.bitNot (y : Int))) = some (.int (m - (m &&& y) : Nat)) := by show some (D.int _) = _; rw [bAndNot]
  generalize ((m - (m &&& y) : Nat) : Int) = w1 at *
  generalize ((m &&& y : Nat) : Int) = w2 at *
  simp [runFn, F_halves_at, ioOk, enter, leave, evSs, evS, evT, evI, ev, evs, evA, evIfs, evSq, evIt, R.bind, R.ofO, readM, readPl, Slot.path, M.path, ixN, M.seq, E.mf, E.mfL, It.mf, truth, fl, D.imm, D.immL, bltC, notIns, bltin, updPl, M.upd, setM, allLeaf, callOw, outsA, backA, Slot.isOw, D.tyOk, D.hasTy, setSrc, asgT, asgL, own1, M.fz, M.fzL, items, D.asInt, D.eqOk, D.eqv, eqd_int, eqd_ints, valL, unop, e1, e2]
theorem ys_enum (rs : List (List Int)) (s : Nat) : enumD 0 (natsD ((List.range s).map (yesM rs))) = (List.range s).map fun i : Nat => D.tup [.int i, .int (yesM rs i : Nat)] := by
  unfold natsD
  rw [List.map_map, enumD_map]
  apply List.ext_getElem
  · simp
  · intro i h1 h2
    simp
def ownL (ds : List D) : M := .lst (ds.map M.leaf)
theorem ownL_val (ds : List D) : M.val (ownL ds) = (.lst ds, true) := by show (D.lst (M.fzL _), true) = _; rw [fzL_leaf]
theorem ownL_fz (ds : List D) : (ownL ds).fz = .lst ds := by show D.lst (M.fzL _) = _; rw [fzL_leaf]
theorem ownL_isLst (ds : List D) : isLst (some (ownL ds)) = true := rfl
theorem ownL_push (ds : List D) (v : D) (h : ds.length < 16777216) : mutM .append [v] (ownL ds) = some (ownL (ds ++ [v]), .non) := by
  show (if decide ((ds.map M.leaf).length < szLine) = true then some (M.lst ((ds.map M.leaf) ++ [M.leaf v]), D.non) else none) = _
  rw [if_pos (decide_eq_true (by rw [List.length_map]; exact h))]
  simp [ownL]
end Lw
end
section
set_option Elab.async false
set_option linter.all false
set_option maxRecDepth 100000
set_option maxHeartbeats 4000000
namespace Lw
open Py PySem
variable {C : Py.Ctx}
def cutD (q : Nat × Nat × Nat) : D := .tup [.int q.1, .int q.2.1, .int q.2.2]
def cutsD (rs : List (List Int)) (s m : Nat) : D := .tup ((cutsN rs s m).map cutD)
theorem cutsN_succ (rs : List (List Int)) (k m : Nat) : cutsN rs (k + 1) m = cutsN rs k m ++ (if 0 < m - (m &&& yesM rs k) ∧ 0 < m &&& yesM rs k then [(k, m - (m &&& yesM rs k), m &&& yesM rs k)] else []) := by
  unfold cutsN
  rw [List.range_succ, List.map_append, List.filter_append]
  congr 1
  show List.filter _ [(k, m - (m &&& yesM rs k), m &&& yesM rs k)] = _
  by_cases h : 0 < m - (m &&& yesM rs k) ∧ 0 < m &&& yesM rs k
  · rw [if_pos h]
    exact List.filter_cons_of_pos (p := fun q : Nat × Nat × Nat => decide (0 < q.2.1 ∧ 0 < q.2.2)) (decide_eq_true h)
  · rw [if_neg h]
    exact List.filter_cons_of_neg (p := fun q : Nat × Nat × Nat => decide (0 < q.2.1 ∧ 0 < q.2.2)) (by rw [decide_eq_true_eq]; exact h)
def coIn : List S := match F_cuts_of.body.getD 1 .pass with
  | .for_ _ _ b => b
  | _ => []
theorem co_turn (d k m y : Nat) (acc : List D) (ha : acc.length < 1000) (x1 x5 x6 : Slot) :
    evSs C (callN C fns (d + 1)) coIn [.sh (.int m), x1, .ow (ownL acc), .sh (.int k), .sh (.int y), x5, x6] = .ok [.sh (.int m), x1, .ow (ownL (acc ++ (if 0 < m - (m &&& y) ∧ 0 < m &&& y then [cutD (k, m - (m &&& y), m &&& y)] else []))), .sh (.int k), .sh (.int y), .sh (.int (m - (m &&& y) : Nat)), .sh (.int (m &&& y : Nat))] .next := by
  have e1 := c_halves (C := C) d m y
  have g1 := gtB0 (m - (m &&& y))
  have g2 := gtB0 (m &&& y)
  have pu := ownL_push acc (cutD (k, m - (m &&& y), m &&& y)) (by omega)
  have il := ownL_isLst acc
  unfold cutD at pu ⊢
  dsimp only at pu ⊢
  by_cases c1 : 0 < m - (m &&& y)
  · by_cases c2 : 0 < m &&& y
    · rw [if_pos ⟨c1, c2⟩]
      rw [decide_eq_true c1] at g1
      rw [decide_eq_true c2] at g2
      generalize ((m - (m &&& y) : Nat) : Int) = w1 at *
      generalize ((m &&& y : Nat) : Int) = w2 at *
      unfold coIn F_cuts_of
      simp [evSs, evS, evT, evI, ev, evs, evA, evIfs, evSq, evIt, R.bind, R.ofO, readM, readPl, Slot.path, M.path, ixN, M.seq, E.mf, E.mfL, It.mf, truth, fl, D.imm, D.immL, bltC, notIns, updPl, M.upd, setM, allLeaf, callOw, outsA, backA, Slot.isOw, D.tyOk, D.hasTy, setSrc, asgT, asgL, own1, M.fz, M.fzL, items, D.asInt, D.eqOk, D.eqv, eqd_int, eqd_ints, valL, lenB, lenBT, asgT, asgL, e1, g1, g2, pu, il]
    · rw [if_neg (fun z => c2 z.2)]
      rw [decide_eq_true c1] at g1
      rw [decide_eq_false c2] at g2
      generalize ((m - (m &&& y) : Nat) : Int) = w1 at *
      generalize ((m &&& y : Nat) : Int) = w2 at *
      unfold coIn F_cuts_of
      simp [evSs, evS, evT, evI, ev, evs, evA, evIfs, evSq, evIt, R.bind, R.ofO, readM, readPl, Slot.path, M.path, ixN, M.seq, E.mf, E.mfL, It.mf, truth, fl, D.imm, D.immL, bltC, notIns, updPl, M.upd, setM, allLeaf, callOw, outsA, backA, Slot.isOw, D.tyOk, D.hasTy, setSrc, asgT, asgL, own1, M.fz, M.fzL, items, D.asInt, D.eqOk, D.eqv, eqd_int, eqd_ints, valL, lenB, lenBT, asgT, asgL, e1, g1, g2]
  · rw [if_neg (fun z => c1 z.1)]
    rw [decide_eq_false c1] at g1
    generalize ((m - (m &&& y) : Nat) : Int) = w1 at *
    generalize ((m &&& y : Nat) : Int) = w2 at *
    unfold coIn F_cuts_of
    simp [evSs, evS, evT, evI, ev, evs, evA, evIfs, evSq, evIt, R.bind, R.ofO, readM, readPl, Slot.path, M.path, ixN, M.seq, E.mf, E.mfL, It.mf, truth, fl, D.imm, D.immL, bltC, notIns, updPl, M.upd, setM, allLeaf, callOw, outsA, backA, Slot.isOw, D.tyOk, D.hasTy, setSrc, asgT, asgL, own1, M.fz, M.fzL, items, D.asInt, D.eqOk, D.eqv, eqd_int, eqd_ints, valL, lenB, lenBT, asgT, asgL, e1, g1]
def ysD (rs : List (List Int)) (s : Nat) : D := .tup (natsD ((List.range s).map (yesM rs)))
theorem c_cuts_of (d m s : Nat) (rs : List (List Int)) (hs : s ≤ 500) : callN C fns (d + 2) f_cuts_of [.sh (.int m), .sh (ysD rs s)] = .ok [.dead, .dead] (cutsD rs s m) := by
  have en := ys_enum rs s
  obtain ⟨G2, e, x3, x4, x5, x6, rfl⟩ := evS_forL (C := C) (orc := callN C fns (d + 1)) (tg := .t [.n 3, .n 4]) (it := .enum (.var 1)) (body := coIn) (G := [.sh (.int m), .sh (ysD rs s), .ow (ownL []), .dead, .dead, .dead, .dead]) (G1 := [.sh (.int m), .sh (ysD rs s), .ow (ownL []), .dead, .dead, .dead, .dead])
    (ds := (List.range s).map fun i : Nat => D.tup [.int i, .int (yesM rs i : Nat)]) (fun k (G : Py.Env) => ∃ x3 x4 x5 x6 : Slot, G = [.sh (.int m), .sh (ysD rs s), .ow (ownL ((cutsN rs k m).map cutD)), x3, x4, x5, x6])
    (by rw [← en]; simp [evIt, evSq, ev, R.bind, R.ofO, items, ysD]) ⟨_, _, _, _, rfl⟩ (fun k hk G hG => by
      obtain ⟨x3, x4, x5, x6, rfl⟩ := hG
      have hks : k < s := by simpa using hk
      have hlen := cuts_len rs k m
      refine ⟨[.sh (.int m), .sh (ysD rs s), .ow (ownL ((cutsN rs k m).map cutD)), .sh (.int k), .sh (.int (yesM rs k : Nat)), x5, x6], _, by
        rw [List.getElem_map, List.getElem_range]
        simp [asgT, asgL], co_turn (C := C) d k m (yesM rs k) _ (by rw [List.length_map]; omega) _ x5 x6, .sh (.int k), .sh (.int (yesM rs k : Nat)), .sh (.int (m - (m &&& yesM rs k) : Nat)), .sh (.int (m &&& yesM rs k : Nat)), ?_⟩
      rw [cutsN_succ, List.map_append]
      split <;> rfl)
  rw [List.length_map, List.length_range] at e
  have fz := ownL_fz ((cutsN rs ((List.range s).map fun i : Nat => D.tup [.int i, .int (yesM rs i : Nat)]).length m).map cutD)
  rw [List.length_map, List.length_range] at fz
  have : evSs C (callN C fns (d + 1)) F_cuts_of.body (enter F_cuts_of.n [.sh (.int m), .sh (ysD rs s)]) = .ok [.sh (.int m), .sh (ysD rs s), .sh (.lst ((cutsN rs s m).map cutD)), x3, x4, x5, x6] (.ret (cutsD rs s m)) := by
    show evSs C _ [.asgO 2 (.lst []), .for_ (.t [.n 3, .n 4]) (.enum (.var 1)) coIn, .ret (.blt .tuple [.var 2])] [.sh (.int m), .sh (ysD rs s), .dead, .dead, .dead, .dead, .dead] = _
    rw [evSs_next (G1 := [.sh (.int m), .sh (ysD rs s), .ow (ownL []), .dead, .dead, .dead, .dead]) (by simp [evSs, evS, evT, evI, ev, evs, evA, evIfs, evSq, evIt, R.bind, R.ofO, readM, readPl, Slot.path, M.path, ixN, M.seq, E.mf, E.mfL, It.mf, truth, fl, D.imm, D.immL, bltC, notIns, updPl, M.upd, setM, allLeaf, callOw, outsA, backA, Slot.isOw, D.tyOk, D.hasTy, setSrc, asgT, asgL, own1, M.fz, M.fzL, items, D.asInt, D.eqOk, D.eqv, eqd_int, eqd_ints, valL, lenB, lenBT, ownL])]
    rw [evSs_next e]
    simp [evSs, evS, ev, evs, R.bind, R.ofO, bltC, notIns, bltin, fl, fz, cutsD]
  show runFn C _ F_cuts_of _ = _
  rw [runFn, this]
  simp [F_cuts_of, ioOk, leave]
end Lw
end
section
set_option Elab.async false
set_option linter.all false
set_option maxRecDepth 100000
set_option maxHeartbeats 4000000
namespace Lw
open Py PySem
variable {C : Py.Ctx}
theorem ownN_pop (W : List Nat) (m : Nat) : mutM .pop [] (ownN (W ++ [m])) = some (ownN W, .int m) := by
  have : ownN (W ++ [m]) = .lst ((natsD W).map M.leaf ++ [M.leaf (.int m)]) := (ownN_app W m).symm
  rw [this]
  unfold mutM
  simp [ownN]
structure CA (rs : List (List Int)) (s : Nat) (K W : List Nat) : Prop where
  nd : K.Nodup
  key : ∀ m, m ∈ K ∨ m ∈ W → Key rs s m ∧ 0 < m
  cl : ∀ m, m ∈ K → ∀ p n y, (p, n, y) ∈ cutsN rs s m → (n ∈ K ∨ n ∈ W) ∧ (y ∈ K ∨ y ∈ W)
  wh : 2 ^ rs.length - 1 ∈ K ∨ 2 ^ rs.length - 1 ∈ W
def pushW (l : List (Nat × Nat × Nat)) : List Nat := l.flatMap fun q => [q.2.1, q.2.2]
theorem pushW_len : ∀ l : List (Nat × Nat × Nat), (pushW l).length = 2 * l.length
  | [] => rfl
  | q :: l => by
    show ([q.2.1, q.2.2] ++ pushW l).length = _
    have := pushW_len l
    simp only [List.length_append, List.length_cons, List.length_nil]
    omega
theorem mem_pushW {x : Nat} {l : List (Nat × Nat × Nat)} : x ∈ pushW l ↔ ∃ p n y, (p, n, y) ∈ l ∧ (x = n ∨ x = y) := by
  unfold pushW
  rw [List.mem_flatMap]
  constructor
  · rintro ⟨⟨p, n, y⟩, h, hx⟩
    refine ⟨p, n, y, h, ?_⟩
    simpa using hx
  · rintro ⟨p, n, y, h, hx⟩
    exact ⟨(p, n, y), h, by simpa using hx⟩
theorem CA.old {rs : List (List Int)} {s m : Nat} {K W : List Nat} (h : CA rs s K (W ++ [m])) (hm : m ∈ K) : CA rs s K W := by
  have f : ∀ x, x ∈ K ∨ x ∈ W ++ [m] → x ∈ K ∨ x ∈ W := fun x hx => by
    rcases hx with hx | hx
    · exact .inl hx
    · rcases List.mem_append.mp hx with hx | hx
      · exact .inr hx
      · rw [List.mem_singleton.mp hx]; exact .inl hm
  exact ⟨h.nd, fun x hx => h.key x (hx.imp id fun z => List.mem_append.mpr (.inl z)), fun x hx p n y hc => ⟨f _ (h.cl x hx p n y hc).1, f _ (h.cl x hx p n y hc).2⟩, f _ h.wh⟩
section
variable {rs : List (List Int)} {s : Nat} (hs : s ≤ 5) (hb : ∀ r ∈ rs, ∀ x ∈ r, x = 0 ∨ x = 1) (hl : ∀ r ∈ rs, r.length = s)
include hs hb hl
theorem CA.new {m : Nat} {K W : List Nat} (h : CA rs s K (W ++ [m])) (hm : m ∉ K) : CA rs s (K ++ [m]) (W ++ pushW (cutsN rs s m)) := by
  have f : ∀ x, x ∈ K ∨ x ∈ W ++ [m] → x ∈ K ++ [m] ∨ x ∈ W ++ pushW (cutsN rs s m) := fun x hx => by
    rcases hx with hx | hx
    · exact .inl (List.mem_append.mpr (.inl hx))
    · rcases List.mem_append.mp hx with hx | hx
      · exact .inr (List.mem_append.mpr (.inl hx))
      · exact .inl (List.mem_append.mpr (.inr hx))
  have km := h.key m (.inr (List.mem_append.mpr (.inr (List.mem_singleton.mpr rfl))))
  refine ⟨List.nodup_append.mpr ⟨h.nd, by simp, fun a ha b hb e => ?_⟩, fun x hx => ?_, fun x hx p n y hc => ?_, f _ h.wh⟩
  · rw [List.mem_singleton.mp hb] at e
    exact hm (e ▸ ha)
  · rcases hx with hx | hx
    · rcases List.mem_append.mp hx with hx | hx
      · exact h.key x (.inl hx)
      · rw [List.mem_singleton.mp hx]; exact km
    · rcases List.mem_append.mp hx with hx | hx
      · exact h.key x (.inr (List.mem_append.mpr (.inl hx)))
      · obtain ⟨p, n, y, hc, e⟩ := mem_pushW.mp hx
        have kc := key_cut hs hb hl km.1 hc
        have ⟨_, _, _, h1, h2⟩ := mem_cuts.mp hc
        rcases e with e | e
        · rw [e]; exact ⟨kc.1, h1⟩
        · rw [e]; exact ⟨kc.2, h2⟩
  · rcases List.mem_append.mp hx with hx | hx
    · exact ⟨f _ (h.cl x hx p n y hc).1, f _ (h.cl x hx p n y hc).2⟩
    · rw [List.mem_singleton.mp hx] at hc
      exact ⟨.inr (List.mem_append.mpr (.inr (mem_pushW.mpr ⟨p, n, y, hc, .inl rfl⟩))), .inr (List.mem_append.mpr (.inr (mem_pushW.mpr ⟨p, n, y, hc, .inr rfl⟩)))⟩
end
def dicC (rs : List (List Int)) (s : Nat) (K : List Nat) : List (Nat × D) := K.map fun m => (m, cutsD rs s m)
theorem dicC_none {rs : List (List Int)} {s m : Nat} {K : List Nat} (h : m ∉ K) : (dicC rs s K).lookup m = none := lkup_none fun e he => by
  obtain ⟨x, hx, rfl⟩ := List.mem_map.mp he
  exact fun z => h (z ▸ hx)
theorem dicC_some {rs : List (List Int)} {s m : Nat} {K : List Nat} (h : m ∈ K) : (dicC rs s K).lookup m = some (cutsD rs s m) := lkup_map h
def caW : List S := match F_cuts_of_all.body.getD 2 .pass with
  | .while_ _ b => b
  | _ => []
def caF : S := match caW.getD 1 .pass with
  | .ite _ a _ => a.getD 1 .pass
  | _ => .pass
theorem ca_for (d m s : Nat) (rs : List (List Int)) (hs : s ≤ 5) (K W : List Nat) (hm : m ∈ K) (hW : W.length ≤ 100000) (x0 x1 x5 x6 x7 : Slot) :
    ∃ y5 y6 y7, evS C (callN C fns (d + 2)) caF [x0, x1, .ow (ownP (dicC rs s K)), .ow (ownN W), .sh (.int m), x5, x6, x7] = .ok [x0, x1, .ow (ownP (dicC rs s K)), .ow (ownN (W ++ pushW (cutsN rs s m))), .sh (.int m), y5, y6, y7] .next := by
  have ix := ownP_ix (dicC rs s K) m
  rw [dicC_some hm] at ix
  have vl : items (cutsD rs s m) = some ((cutsN rs s m).map cutD) := rfl
  have im : D.imm (cutsD rs s m) = true := by
    show D.immL ((cutsN rs s m).map cutD) = true
    induction cutsN rs s m with
    | nil => rfl
    | cons q l ih => rw [List.map_cons]; show ((D.imm (cutD q)) && _) = true; rw [ih]; rfl
  have hlen := cuts_len rs s m
  generalize cutsN rs s m = L at *
  obtain ⟨G2, e, x5', x6', x7', rfl⟩ := evS_forL (C := C) (orc := callN C fns (d + 2)) (tg := .t [.n 5, .n 6, .n 7]) (it := .e (.idx (.pth 2 []) (.var 4))) (body := [.expr (.mut .append 3 [] [.var 6]), .expr (.mut .append 3 [] [.var 7])])
    (G := [x0, x1, .ow (ownP (dicC rs s K)), .ow (ownN W), .sh (.int m), x5, x6, x7]) (G1 := [x0, x1, .ow (ownP (dicC rs s K)), .ow (ownN W), .sh (.int m), x5, x6, x7]) (ds := L.map cutD)
    (fun k (G : Py.Env) => ∃ x5 x6 x7 : Slot, G = [x0, x1, .ow (ownP (dicC rs s K)), .ow (ownN (W ++ pushW (L.take k))), .sh (.int m), x5, x6, x7])
    (by
      generalize cutsD rs s m = Z at *
      simp [evIt, evSq, ev, R.bind, R.ofO, E.mf, readM, Slot.path, M.path, ix, valL, vl]) ⟨x5, x6, x7, by simp [pushW]⟩ (fun k hk G hG => by
      obtain ⟨x5, x6, x7, rfl⟩ := hG
      have hkl : k < L.length := by simpa using hk
      have et : L.take (k + 1) = L.take k ++ [L[k]] := List.take_succ_eq_append_getElem hkl
      have ep : pushW (L.take (k + 1)) = pushW (L.take k) ++ [L[k].2.1, L[k].2.2] := by
        rw [et]; unfold pushW; rw [List.flatMap_append]; rfl
      have lt : (W ++ pushW (L.take k)).length ≤ 100020 := by
        rw [List.length_append, pushW_len, List.length_take]; omega
      refine ⟨[x0, x1, .ow (ownP (dicC rs s K)), .ow (ownN (W ++ pushW (L.take k))), .sh (.int m), .sh (.int L[k].1), .sh (.int L[k].2.1), .sh (.int L[k].2.2)], [x0, x1, .ow (ownP (dicC rs s K)), .ow (ownN (W ++ pushW (L.take (k + 1)))), .sh (.int m), .sh (.int L[k].1), .sh (.int L[k].2.1), .sh (.int L[k].2.2)], by
        rw [List.getElem_map]
        simp [asgT, asgL, cutD], ?_, _, _, _, rfl⟩
      rw [ep, ← List.append_assoc]
      generalize W ++ pushW (L.take k) = V at *
      have p1 := ownN_push V L[k].2.1 (by omega)
      have p2 := ownN_push (V ++ [L[k].2.1]) L[k].2.2 (by rw [List.length_append]; show V.length + 1 < _; omega)
      have i1 := ownN_isLst V
      have i2 := ownN_isLst (V ++ [L[k].2.1])
      have ea : V ++ [L[k].2.1, L[k].2.2] = V ++ [L[k].2.1] ++ [L[k].2.2] := by rw [List.append_assoc]; rfl
      rw [ea]
      generalize L[k].2.1 = n at *
      generalize L[k].2.2 = y at *
      generalize L[k].1 = p at *
      simp [evSs, evS, evT, evI, ev, evs, evA, evIfs, evSq, evIt, R.bind, R.ofO, readM, readPl, Slot.path, M.path, ixN, M.seq, E.mf, E.mfL, It.mf, truth, fl, D.imm, D.immL, bltC, notIns, updPl, M.upd, setM, allLeaf, callOw, outsA, backA, Slot.isOw, D.tyOk, D.hasTy, setSrc, asgT, asgL, own1, M.fz, M.fzL, items, D.asInt, D.eqOk, D.eqv, eqd_int, eqd_ints, valL, lenB, lenBT, p1, p2, i1, i2])
  rw [List.length_map, List.take_length] at e
  exact ⟨_, _, _, e⟩
section
variable {rs : List (List Int)} {s : Nat} (hs : s ≤ 5) (hb : ∀ r ∈ rs, ∀ x ∈ r, x = 0 ∨ x = 1) (hl : ∀ r ∈ rs, r.length = s) (h0 : rs ≠ []) (hwh : 100000 < C.wh)
include hs hb hl in
theorem ca_turn (d : Nat) (K W : List Nat) (m : Nat) (h : CA rs s K (W ++ [m])) (hW : W.length ≤ 10000) (x4 x5 x6 x7 : Slot) (x0 : Slot) :
    ∃ (K' W' : List Nat) (y4 y5 y6 y7 : Slot), evSs C (callN C fns (d + 2)) caW [x0, .sh (ysD rs s), .ow (ownP (dicC rs s K)), .ow (ownN (W ++ [m])), x4, x5, x6, x7] = .ok [x0, .sh (ysD rs s), .ow (ownP (dicC rs s K')), .ow (ownN W'), y4, y5, y6, y7] .next ∧ CA rs s K' W' ∧
      ((K' = K ∧ W' = W) ∨ (K'.length = K.length + 1 ∧ W'.length ≤ W.length + 10)) := by
  have pp := ownN_pop W m
  have i1 := ownN_isLst (W ++ [m])
  have st0 : evS C (callN C fns (d + 2)) (caW.getD 0 .pass) [x0, .sh (ysD rs s), .ow (ownP (dicC rs s K)), .ow (ownN (W ++ [m])), x4, x5, x6, x7] = .ok [x0, .sh (ysD rs s), .ow (ownP (dicC rs s K)), .ow (ownN W), .sh (.int m), x5, x6, x7] .next := by
    unfold caW F_cuts_of_all
    simp [evSs, evS, evT, evI, ev, evs, evA, evIfs, evSq, evIt, R.bind, R.ofO, readM, readPl, Slot.path, M.path, ixN, M.seq, E.mf, E.mfL, It.mf, truth, fl, D.imm, D.immL, bltC, notIns, updPl, M.upd, setM, allLeaf, callOw, outsA, backA, Slot.isOw, D.tyOk, D.hasTy, setSrc, asgT, asgL, own1, M.fz, M.fzL, items, D.asInt, D.eqOk, D.eqv, eqd_int, eqd_ints, valL, lenB, lenBT, pp, i1]
  have nm := dicP_nmem (dicC rs s K) m
  have vv := ownP_val (dicC rs s K)
  by_cases hm : m ∈ K
  · refine ⟨K, W, .sh (.int m), x5, x6, x7, ?_, h.old hm, .inl ⟨rfl, rfl⟩⟩
    rw [dicC_some hm] at nm
    show evSs C _ [caW.getD 0 .pass, caW.getD 1 .pass] _ = _
    rw [evSs_next st0]
    generalize dicC rs s K = Q at *
    unfold caW F_cuts_of_all
    simp [evSs, evS, evT, ev, R.bind, R.ofO, E.mf, readPl, readM, Slot.path, M.path, fl, D.imm, truth, vv, nm]
  · rw [dicC_none hm] at nm
    have hn := h.new hs hb hl hm
    have kl := keys_le hs (K := K) (fun x hx => (h.key x (.inl hx)).1) h.nd
    have sm := ownP_set (q := dicC rs s K) (x := m) (cutsD rs s m) (dicC_none hm) (by unfold dicC; rw [List.length_map]; omega)
    have e1 := c_cuts_of (C := C) d m s rs (by omega)
    have e2 : dicC rs s K ++ [(m, cutsD rs s m)] = dicC rs s (K ++ [m]) := by unfold dicC; rw [List.map_append]; rfl
    rw [e2] at sm
    obtain ⟨y5, y6, y7, e3⟩ := ca_for (C := C) d m s rs hs (K ++ [m]) W (List.mem_append.mpr (.inr (List.mem_singleton.mpr rfl))) (by omega) x0 (.sh (ysD rs s)) x5 x6 x7
    have cl := cuts_len rs s m
    refine ⟨K ++ [m], W ++ pushW (cutsN rs s m), .sh (.int m), y5, y6, y7, ?_, hn, .inr ⟨by rw [List.length_append]; rfl, by rw [List.length_append, pushW_len]; omega⟩⟩
    show evSs C _ [caW.getD 0 .pass, .ite (.cmp .nmem (.var 4) (.pth 2 [])) [.set 2 [] (.var 4) (.call f_cuts_of [.var 4, .var 1] [0, 1]), caF] []] _ = _
    rw [evSs_next st0]
    generalize dicC rs s K = Q at *
    generalize dicC rs s (K ++ [m]) = Q' at *
    generalize cutsD rs s m = Z at *
    generalize ysD rs s = Y at *
    generalize W ++ pushW (cutsN rs s m) = V at *
    have st1 : evS C (callN C fns (d + 2)) (.set 2 [] (.var 4) (.call f_cuts_of [.var 4, .var 1] [0, 1])) [x0, .sh Y, .ow (ownP Q), .ow (ownN W), .sh (.int m), x5, x6, x7] = .ok [x0, .sh Y, .ow (ownP Q'), .ow (ownN W), .sh (.int m), x5, x6, x7] .next := by
      simp [evS, ev, evs, R.bind, R.ofO, E.mf, E.mfL, readM, Slot.path, M.path, updPl, M.upd, fl, e1, sm]
    have st2 : evSs C (callN C fns (d + 2)) [.set 2 [] (.var 4) (.call f_cuts_of [.var 4, .var 1] [0, 1]), caF] [x0, .sh Y, .ow (ownP Q), .ow (ownN W), .sh (.int m), x5, x6, x7] = .ok [x0, .sh Y, .ow (ownP Q'), .ow (ownN V), .sh (.int m), y5, y6, y7] .next := by
      rw [evSs_next st1, evSs_next e3]
      rfl
    simp [evSs, evS, evT, ev, R.bind, R.ofO, E.mf, readPl, readM, Slot.path, M.path, fl, D.imm, truth, vv, nm, ↓st2]
include hs hb hl h0 hwh in
theorem c_cuts_all (d : Nat) : ∃ K, callN C fns (d + 3) f_cuts_of_all [.sh (.int (2 ^ rs.length - 1 : Nat)), .sh (ysD rs s)] = .ok [.dead, .dead] (dicP (dicC rs s K)) ∧ CA rs s K [] := by
  have hw0 : 0 < 2 ^ rs.length - 1 := by
    have := List.length_pos_iff.mpr h0
    have : 2 ^ 1 ≤ 2 ^ rs.length := Nat.pow_le_pow_right (by decide) this
    omega
  have kw := key_whole (rs := rs) hs
  generalize hW0 : 2 ^ rs.length - 1 = w at *
  have ca0 : CA rs s [] [w] := ⟨List.nodup_nil, fun m hm => by
    rcases hm with hm | hm
    · cases hm
    · rw [List.mem_singleton.mp hm]; exact ⟨kw, hw0⟩, fun m hm => (by cases hm), by rw [hW0]; exact .inr (List.mem_singleton.mpr rfl)⟩
  obtain ⟨G', e, K, y4, y5, y6, y7, rfl, hK⟩ := evS_whileM (C := C) (orc := callN C fns (d + 2)) (c := .cmp .gt (.blt .len [.pth 3 []]) (.con (.int 0))) (body := caW) (G := [.sh (.int w), .sh (ysD rs s), .ow (ownP (dicC rs s [])), .ow (ownN [w]), .dead, .dead, .dead, .dead])
    (fun k (G : Py.Env) => ∃ (K W : List Nat) (x4 x5 x6 x7 : Slot), G = [.sh (.int w), .sh (ysD rs s), .ow (ownP (dicC rs s K)), .ow (ownN W), x4, x5, x6, x7] ∧ CA rs s K W ∧ k = 11 * (243 - K.length) + W.length ∧ W.length ≤ 10 * K.length + 1)
    (fun (G : Py.Env) => ∃ (K : List Nat) (x4 x5 x6 x7 : Slot), G = [.sh (.int w), .sh (ysD rs s), .ow (ownP (dicC rs s K)), .ow (ownN []), x4, x5, x6, x7] ∧ CA rs s K []) 2674 (by omega) ⟨[], [w], .dead, .dead, .dead, .dead, rfl, ca0, rfl, by show 1 ≤ 10 * 0 + 1; omega⟩ (fun k G hG => by
      obtain ⟨K, W, x4, x5, x6, x7, rfl, hca, hk, hW⟩ := hG
      have kl := keys_le hs (K := K) (fun x hx => (hca.key x (.inl hx)).1) hca.nd
      have vv := ownN_val W
      have gt := gtB0 W.length
      have nl := natsD_len W
      have tst : evT C (callN C fns (d + 2)) (.cmp .gt (.blt .len [.pth 3 []]) (.con (.int 0))) [.sh (.int w), .sh (ysD rs s), .ow (ownP (dicC rs s K)), .ow (ownN W), x4, x5, x6, x7] = .ok [.sh (.int w), .sh (ysD rs s), .ow (ownP (dicC rs s K)), .ow (ownN W), x4, x5, x6, x7] (decide (0 < W.length)) := by
        generalize decide (0 < W.length) = b at *
        simp [evT, ev, evs, R.bind, R.ofO, E.mf, E.mfL, readPl, readM, Slot.path, M.path, bltC, notIns, fl, D.imm, truth, vv, lenB, nl, gt]
      rcases List.eq_nil_or_concat W with hn | ⟨W0, m, hn⟩
      · left
        subst hn
        exact ⟨tst, K, x4, x5, x6, x7, rfl, hca⟩
      · right
        rw [List.concat_eq_append] at hn
        have hl0 : 0 < W.length := by rw [hn, List.length_append]; exact Nat.succ_pos _
        have hl1 : W.length = W0.length + 1 := by rw [hn, List.length_append]; rfl
        rw [decide_eq_true hl0] at tst
        rw [hn] at hca tst ⊢
        obtain ⟨K', W', y4, y5, y6, y7, e1, hca', hd⟩ := ca_turn (C := C) hs hb hl d K W0 m hca (by omega) x4 x5 x6 x7 (.sh (.int w))
        have kl' := keys_le hs (K := K') (fun x hx => (hca'.key x (.inl hx)).1) hca'.nd
        refine ⟨_, _, 11 * (243 - K'.length) + W'.length, tst, e1, ?_, K', W', y4, y5, y6, y7, rfl, hca', rfl, ?_⟩
        · rcases hd with ⟨rfl, rfl⟩ | ⟨h1, h2⟩ <;> omega
        · rcases hd with ⟨rfl, rfl⟩ | ⟨h1, h2⟩ <;> omega)
  refine ⟨K, ?_, hK⟩
  have fz := ownP_fz (dicC rs s K)
  have : evSs C (callN C fns (d + 2)) F_cuts_of_all.body (enter F_cuts_of_all.n [.sh (.int w), .sh (ysD rs s)]) = .ok [.sh (.int w), .sh (ysD rs s), .sh (dicP (dicC rs s K)), .ow (ownN []), y4, y5, y6, y7] (.ret (dicP (dicC rs s K))) := by
    show evSs C _ [.asgO 2 .dic0, .asgO 3 (.lst [.var 0]), .while_ (.cmp .gt (.blt .len [.pth 3 []]) (.con (.int 0))) caW, .ret (.var 2)] [.sh (.int w), .sh (ysD rs s), .dead, .dead, .dead, .dead, .dead, .dead] = _
    rw [evSs_next (G1 := [.sh (.int w), .sh (ysD rs s), .ow (ownP (dicC rs s [])), .dead, .dead, .dead, .dead, .dead]) (by simp [evS, ev, R.bind, own1, ownP, dicC])]
    rw [evSs_next (G1 := [.sh (.int w), .sh (ysD rs s), .ow (ownP (dicC rs s [])), .ow (ownN [w]), .dead, .dead, .dead, .dead]) (by simp [evS, ev, evs, R.bind, own1, ownN, natsD, E.mfL])]
    rw [evSs_next e]
    simp [evSs, evS, ev, R.bind, fz]
  show runFn C _ F_cuts_of_all _ = _
  rw [runFn, this]
  simp [F_cuts_of_all, ioOk, leave]
end
end Lw
end
section
set_option Elab.async false
set_option linter.all false
set_option maxRecDepth 100000
set_option maxHeartbeats 4000000
namespace Lw
open Py PySem
variable {C : Py.Ctx}
theorem keys_sort {K : List Nat} (h : K.Nodup) : ∃ ri : List Nat, intsD (sortInts (K.map fun n : Nat => (n : Int))) = natsD ri ∧ ri.Pairwise (· < ·) ∧ (∀ x, x ∈ ri ↔ x ∈ K) ∧ ri.length = K.length := by
  obtain ⟨ri, e, h1, h2, h3⟩ := sort_nats h
  refine ⟨ri, ?_, h1, h2, h3⟩
  unfold sortedD at e
  rw [gInts_nats] at e
  simpa using e
def PAD (rs : List (List Int)) (s : Nat) (K ri : List Nat) : D := .ins c_Parts [fd_yes_at, fd_whole, fd_cuts, fd_rising] [ysD rs s, .int (2 ^ rs.length - 1 : Nat), dicP (dicC rs s K), .tup (natsD ri)]
theorem dicC_keys (rs : List (List Int)) (s : Nat) (K : List Nat) : dicP (dicC rs s K) = .dic (natsD K) (K.map (cutsD rs s)) := by
  unfold dicP dicC natsD
  rw [List.map_map, List.map_map]
  rfl
section
variable {rs : List (List Int)} {s : Nat} (hs : s ≤ 5) (hb : ∀ r ∈ rs, ∀ x ∈ r, x = 0 ∨ x = 1) (hl : ∀ r ∈ rs, r.length = s) (h0 : rs ≠ []) (hn : rs.length ≤ 60) (hwh : 100000 < C.wh) (hlen : C.lenOf c_Rules = some f_Rules___len__)
include hs hb hl h0 hn hwh hlen in
theorem c_parts (d : Nat) : ∃ K ri, callN C fns (d + 5) f_Parts___init__ [.ow (.ins c_Parts [] []), .sh (RU s rs)] = .ok [.ow (.ins c_Parts [fd_yes_at, fd_whole, fd_cuts, fd_rising] [.leaf (ysD rs s), .leaf (.int (2 ^ rs.length - 1 : Nat)), .leaf (dicP (dicC rs s K)), .leaf (.tup (natsD ri))]), .dead] .non ∧
    CA rs s K [] ∧ ri.Pairwise (· < ·) ∧ (∀ x, x ∈ ri ↔ x ∈ K) ∧ ri.length = K.length := by
  have e1 := c_yes_masks (C := C) d s rs (by omega) hl (by omega)
  have e2 := c_whole (C := C) hlen (d + 2) s rs (by omega)
  obtain ⟨K, e3, hK⟩ := c_cuts_all (C := C) hs hb hl h0 hwh (d + 1)
  obtain ⟨ri, e4, h1, h2, h3⟩ := keys_sort hK.nd
  refine ⟨K, ri, ?_, hK, h1, h2, h3⟩
  replace e1 : callN C fns (d + 4) f_yes_masks [.sh (RU s rs)] = .ok [.dead] (ysD rs s) := e1
  rw [dicC_keys] at *
  have e5 := gInts_nats K
  generalize ((2 ^ rs.length - 1 : Nat) : Int) = w at *
  generalize ysD rs s = Y at *
  generalize RU s rs = X at *
  generalize K.map (cutsD rs s) = V at *
  generalize natsD K = KD at *
  generalize natsD ri = RD at *
  show runFn C _ F_Parts___init__ _ = _
  simp [runFn, F_Parts___init__, ioOk, enter, leave, evSs, evS, ev, evs, R.bind, R.ofO, E.mf, E.mfL, readPl, readM, Slot.path, M.path, M.fld, fldGet, M.val, M.fz, updPl, M.upd, fsetM, fldSet, allLeaf, fl, D.imm, bltC, notIns, bltin, e1, e2, e3, e4, e5]
end
end Lw
end
section
set_option Elab.async false
set_option linter.all false
set_option maxRecDepth 100000
set_option maxHeartbeats 4000000
namespace Lw
open Py PySem
variable {C : Py.Ctx}
/-- numbers by masks -/
def qD (q : List (Nat × Int)) : List (Nat × D) := q.map fun e => (e.1, D.int e.2)
def vq (q : List (Nat × Int)) (x : Nat) : Int := (q.lookup x).getD 0
theorem qD_at {q : List (Nat × Int)} {x : Nat} (h : ∃ e ∈ q, e.1 = x) : (qD q).lookup x = some (.int (vq q x)) ∧ (x, vq q x) ∈ q := by
  obtain ⟨v, e1, m⟩ := lkup_some h
  have hv : vq q x = v := by unfold vq; rw [e1]; rfl
  rw [hv]
  refine ⟨?_, m⟩
  clear h m hv
  induction q with
  | nil => cases e1
  | cons e q ih =>
    unfold qD
    rw [List.map_cons, List.lookup_cons]
    rw [List.lookup_cons] at e1
    cases hx : x == e.1
    · rw [hx] at e1
      exact ih e1
    · rw [hx] at e1
      cases e1
      rfl
theorem qD_none {q : List (Nat × Int)} {x : Nat} (h : ∀ e ∈ q, e.1 ≠ x) : (qD q).lookup x = none := lkup_none fun e he => by
  obtain ⟨e0, h1, rfl⟩ := List.mem_map.mp he
  exact h e0 h1
theorem minB (i j : Int) : bltin .min [.int i, .int j] = some (.int (min i j)) := by
  show some (D.int (if j < i then j else i)) = _
  congr 2
  split <;> omega
theorem maxB (i j : Int) : bltin .max [.int i, .int j] = some (.int (max i j)) := by
  show some (D.int (if j > i then j else i)) = _
  congr 2
  split <;> omega
theorem c_depth_below (d : Nat) (q : List (Nat × Int)) (p n y : Nat) (a b : Int) (hn : (qD q).lookup n = some (.int a)) (hy : (qD q).lookup y = some (.int b)) : callN C fns (d + 1) f_depth_below [.sh (dicP (qD q)), .sh (cutD (p, n, y))] = .ok [.dead, .dead] (.int (min a b)) := by
  have e1 := dicP_ix (qD q) n
  have e2 := dicP_ix (qD q) y
  rw [hn] at e1
  rw [hy] at e2
  have i1 : index (cutD (p, n, y)) (.int 1) = some (.int n) := rfl
  have i2 : index (cutD (p, n, y)) (.int 2) = some (.int y) := rfl
  have mb := minB a b
  generalize cutD (p, n, y) = Z at *
  generalize dicP (qD q) = Q at *
  show runFn C _ F_depth_below _ = _
  simp [runFn, F_depth_below, ioOk, enter, leave, evSs, evS, ev, evs, R.bind, R.ofO, E.mf, E.mfL, bltC, notIns, fl, D.imm, e1, e2, i1, i2, mb]
def mnIn : List S := match F_mistake_numbers.body.getD 1 .pass with
  | .for_ _ _ b => b
  | _ => []
/-- a list's greatest, 0 of none -/
def mx0 (ns : List Int) : Int := if ns.isEmpty then 0 else maxL ns
theorem mx0_facts {ns : List Int} : (∀ x ∈ ns, x ≤ mx0 ns) ∧ ((ns = [] ∧ mx0 ns = 0) ∨ mx0 ns ∈ ns) := by
  unfold mx0
  cases ns with
  | nil => exact ⟨fun x h => (by cases h), .inl ⟨rfl, rfl⟩⟩
  | cons x xs =>
    obtain ⟨h1, h2⟩ := maxL_of (x := x) (xs := xs)
    exact ⟨h2, .inr h1⟩
theorem mn_turn (d m s : Nat) (rs : List (List Int)) (hs : s ≤ 5) (K ri : List Nat) (hm : m ∈ K) (q : List (Nat × Int)) (hq : q.length ≤ 1000) (hq2 : ∀ e ∈ q, e.1 ≠ m)
    (hk : ∀ p n y, (p, n, y) ∈ cutsN rs s m → (∃ e ∈ q, e.1 = n) ∧ ∃ e ∈ q, e.1 = y) (x3 : Slot) :
    ∃ y3, evSs C (callN C fns (d + 1)) mnIn [.sh (PAD rs s K ri), .ow (ownP (qD q)), .sh (.int m), x3, .dead] = .ok [.sh (PAD rs s K ri), .ow (ownP (qD (q ++ [(m, mx0 ((cutsN rs s m).map fun c => 1 + min (vq q c.2.1) (vq q c.2.2)))]))), .sh (.int m), y3, .dead] .next := by
  have f1 : (PAD rs s K ri).fld fd_cuts = some (dicP (dicC rs s K)) := rfl
  have ix := dicP_ix (dicC rs s K) m
  rw [dicC_some hm] at ix
  have vv := ownP_val (qD q)
  have cl := cuts_len rs s m
  have e := ev_lcB (C := C) (orc := callN C fns (d + 1)) (own := [4]) (tg := .n 4) (it := .e (.idx (.att (.var 0) fd_cuts) (.var 2))) (elt := .bin .add (.con (.int 1)) (.call f_depth_below [.pth 1 [], .var 4] [0, 1])) (b := false)
    (G := [.sh (PAD rs s K ri), .ow (ownP (qD q)), .sh (.int m), x3, .dead]) (G1 := [.sh (PAD rs s K ri), .ow (ownP (qD q)), .sh (.int m), x3, .dead]) (cutsN rs s m) cutD (fun c => .int (1 + min (vq q c.2.1) (vq q c.2.2)))
    (by
      have it : items (cutsD rs s m) = some ((cutsN rs s m).map cutD) := rfl
      generalize cutsD rs s m = Z at *
      generalize dicP (dicC rs s K) = Q at *
      generalize PAD rs s K ri = P at *
      simp [evIt, evSq, ev, R.bind, R.ofO, E.mf, fl, D.imm, f1, ix, it]) (by rfl) (by rfl) (fun c hc => by
      obtain ⟨p, n, y⟩ := c
      obtain ⟨k1, k2⟩ := hk p n y hc
      have e1 := c_depth_below (C := C) d q p n y _ _ (qD_at k1).1 (qD_at k2).1
      have ad : binop .add (.int 1) (.int (min (vq q n) (vq q y))) = some (.int (1 + min (vq q n) (vq q y))) := rfl
      dsimp only
      generalize min (vq q n) (vq q y) = w at *
      generalize cutD (p, n, y) = Z at *
      generalize PAD rs s K ri = P at *
      generalize dicP (qD q) = Q at *
      simp [lcStep, evIfs, ev, evs, R.bind, R.ofO, E.mf, E.mfL, readPl, readM, Slot.path, M.path, fl, D.imm, asgT, wipe, vv, e1, ad]) (by rfl) (by omega)
  have em : (cutsN rs s m).map (fun c => D.int (1 + min (vq q c.2.1) (vq q c.2.2))) = ((cutsN rs s m).map fun c => 1 + min (vq q c.2.1) (vq q c.2.2)).map D.int := by rw [List.map_map]; rfl
  rw [em] at e
  generalize ((cutsN rs s m).map fun c => 1 + min (vq q c.2.1) (vq q c.2.2)) = ns at *
  have gi := gInts_map ns
  have st := ownP_set (q := qD q) (x := m) (.int (mx0 ns)) (qD_none hq2) (by unfold qD; rw [List.length_map]; omega)
  have e2 : qD q ++ [(m, D.int (mx0 ns))] = qD (q ++ [(m, mx0 ns)]) := by unfold qD; rw [List.map_append]; rfl
  rw [e2] at st
  refine ⟨.sh (.lst (ns.map D.int)), ?_⟩
  generalize qD (q ++ [(m, mx0 ns)]) = Q' at *
  generalize qD q = Q at *
  generalize PAD rs s K ri = P at *
  show evSs C _ [.asg (.n 3) (.lc [4] (.n 4) (.e (.idx (.att (.var 0) fd_cuts) (.var 2))) [] (.bin .add (.con (.int 1)) (.call f_depth_below [.pth 1 [], .var 4] [0, 1]))), .set 1 [] (.var 2) (.maxD true (.var 3) 0)] _ = _
  rw [evSs_next (G1 := [.sh P, .ow (ownP Q), .sh (.int m), .sh (.lst (ns.map D.int)), .dead]) (by
    rw [evS, e]
    simp [R.bind, asgT])]
  unfold mx0 at st
  simp only [List.isEmpty_iff] at st
  simp [evSs, evS, ev, R.bind, R.ofO, E.mf, readM, Slot.path, M.path, updPl, M.upd, gi, st]
theorem take_lt {ri : List Nat} (h : ri.Pairwise (· < ·)) {k : Nat} (hk : k < ri.length) {x : Nat} (hx : x ∈ ri) (hl : x < ri[k]) : x ∈ ri.take k := by
  obtain ⟨i, hi, rfl⟩ := List.mem_iff_getElem.mp hx
  have : i < k := by
    rcases Nat.lt_trichotomy i k with z | z | z
    · exact z
    · subst z; omega
    · have := List.pairwise_iff_getElem.mp h k i hk hi z
      omega
  exact List.mem_iff_getElem.mpr ⟨i, by rw [List.length_take]; omega, by rw [List.getElem_take]⟩
section
variable {rs : List (List Int)} {s : Nat} (hs : s ≤ 5) (hb : ∀ r ∈ rs, ∀ x ∈ r, x = 0 ∨ x = 1) (hl : ∀ r ∈ rs, r.length = s) (h0 : rs ≠ []) (hn : rs.length ≤ 60) (hwh : 100000 < C.wh) (hlen : C.lenOf c_Rules = some f_Rules___len__) (hinP : C.init c_Parts = some f_Parts___init__)
include hs hb hl in
theorem c_numbers (d : Nat) (K ri : List Nat) (hK : CA rs s K []) (h1 : ri.Pairwise (· < ·)) (h2 : ∀ x, x ∈ ri ↔ x ∈ K) (h3 : ri.length = K.length) : ∃ q : List (Nat × Int), callN C fns (d + 2) f_mistake_numbers [.sh (PAD rs s K ri)] = .ok [.dead] (dicP (qD q)) ∧ q.map (·.1) = ri ∧ ∀ e ∈ q, NumP rs s e.1 e.2 := by
  have kl := keys_le hs (K := K) (fun x hx => (hK.key x (.inl hx)).1) hK.nd
  obtain ⟨G2, e, q, x2, x3, rfl, hq1, hq2⟩ := evS_forL (C := C) (orc := callN C fns (d + 1)) (tg := .n 2) (it := .e (.att (.var 0) fd_rising)) (body := mnIn) (G := [.sh (PAD rs s K ri), .ow (ownP (qD [])), .dead, .dead, .dead]) (G1 := [.sh (PAD rs s K ri), .ow (ownP (qD [])), .dead, .dead, .dead]) (ds := natsD ri)
    (fun k (G : Py.Env) => ∃ (q : List (Nat × Int)) (x2 x3 : Slot), G = [.sh (PAD rs s K ri), .ow (ownP (qD q)), x2, x3, .dead] ∧ q.map (·.1) = ri.take k ∧ ∀ e ∈ q, NumP rs s e.1 e.2)
    (by
      have f1 : (PAD rs s K ri).fld fd_rising = some (.tup (natsD ri)) := rfl
      generalize PAD rs s K ri = P at *
      simp [evIt, evSq, ev, R.bind, R.ofO, fl, f1, items]) ⟨[], .dead, .dead, rfl, rfl, fun e he => (by cases he)⟩ (fun k hk G hG => by
      obtain ⟨q, x2, x3, rfl, hq1, hq2⟩ := hG
      have hkl : k < ri.length := by rw [natsD_len] at hk; exact hk
      have ek : (natsD ri)[k] = .int (ri[k] : Nat) := by simp [natsD]
      have hmr : ri[k] ∈ ri := List.getElem_mem hkl
      have hm : ri[k] ∈ K := (h2 _).mp hmr
      have hql : q.length = k := by
        have := congrArg List.length hq1
        rw [List.length_map, List.length_take] at this
        omega
      have hne : ∀ e ∈ q, e.1 ≠ ri[k] := fun e he z => by
        have : e.1 ∈ ri.take k := by rw [← hq1]; exact List.mem_map.mpr ⟨e, he, rfl⟩
        obtain ⟨i, hi, hx⟩ := List.mem_iff_getElem.mp this
        rw [List.length_take] at hi
        rw [List.getElem_take] at hx
        have := List.pairwise_iff_getElem.mp h1 i k (by omega) hkl (by omega)
        omega
      have hsub : ∀ p n y, (p, n, y) ∈ cutsN rs s ri[k] → (∃ e ∈ q, e.1 = n) ∧ ∃ e ∈ q, e.1 = y := fun p n y hc => by
        obtain ⟨c1, c2⟩ := hK.cl _ hm p n y hc
        have ⟨l1, l2⟩ := cut_lt hc
        have f : ∀ z, (z ∈ K ∨ z ∈ ([] : List Nat)) → z < ri[k] → ∃ e ∈ q, e.1 = z := fun z hz hlt => by
          rcases hz with hz | hz
          · have := take_lt h1 hkl ((h2 z).mpr hz) hlt
            rw [← hq1] at this
            obtain ⟨e, he, e2⟩ := List.mem_map.mp this
            exact ⟨e, he, e2⟩
          · cases hz
        exact ⟨f n c1 l1, f y c2 l2⟩
      obtain ⟨y3, e⟩ := mn_turn (C := C) d ri[k] s rs hs K ri hm q (by omega) hne hsub x3
      refine ⟨[.sh (PAD rs s K ri), .ow (ownP (qD q)), .sh (.int (ri[k] : Nat)), x3, .dead], _, by rw [ek]; simp [asgT], e, q ++ [(ri[k], mx0 ((cutsN rs s ri[k]).map fun c => 1 + min (vq q c.2.1) (vq q c.2.2)))], .sh (.int (ri[k] : Nat)), y3, rfl, ?_, fun e0 he0 => ?_⟩
      · rw [List.map_append, hq1, List.take_succ_eq_append_getElem hkl]
        rfl
      · rcases List.mem_append.mp he0 with he0 | he0
        · exact hq2 e0 he0
        · rw [List.mem_singleton.mp he0]
          have hv : ∀ p n y, (p, n, y) ∈ cutsN rs s ri[k] → NumP rs s n (vq q n) ∧ NumP rs s y (vq q y) := fun p n y hc => by
            obtain ⟨k1, k2⟩ := hsub p n y hc
            exact ⟨hq2 _ (qD_at k1).2, hq2 _ (qD_at k2).2⟩
          obtain ⟨g1, g2⟩ := mx0_facts (ns := (cutsN rs s ri[k]).map fun c => 1 + min (vq q c.2.1) (vq q c.2.2))
          have lo : ∀ p n y, (p, n, y) ∈ cutsN rs s ri[k] → 0 ≤ 1 + min (vq q n) (vq q y) := fun p n y hc => by
            obtain ⟨a, b⟩ := hv p n y hc
            have ⟨_, hn, hy, n0, y0⟩ := mem_cuts.mp hc
            obtain ⟨c, _, ec⟩ := (key_cut hs hb hl (hK.key _ (.inl hm)).1 hc).1
            obtain ⟨c', _, ec'⟩ := (key_cut hs hb hl (hK.key _ (.inl hm)).1 hc).2
            have := (a _ ec).lo
            have := (b _ ec').lo
            omega
          refine num_step hs hb hl (hK.key _ (.inl hm)).2 (fun p n y hc => ?_) ?_ ?_
          · obtain ⟨a, b⟩ := hv p n y hc
            exact ⟨_, _, a, b, g1 _ (List.mem_map.mpr ⟨(p, n, y), hc, rfl⟩)⟩
          · rcases g2 with ⟨_, g2⟩ | g2
            · show 0 ≤ mx0 _; rw [g2]; exact Int.le_refl _
            · obtain ⟨⟨p, n, y⟩, hc, ee⟩ := List.mem_map.mp g2
              show 0 ≤ mx0 _
              rw [← ee]
              exact lo p n y hc
          · rcases g2 with ⟨_, g2⟩ | g2
            · exact .inl g2
            · obtain ⟨⟨p, n, y⟩, hc, ee⟩ := List.mem_map.mp g2
              obtain ⟨a, b⟩ := hv p n y hc
              exact .inr ⟨p, n, y, _, _, hc, a, b, ee.symm⟩)
  rw [natsD_len, List.take_length] at hq1
  refine ⟨q, ?_, hq1, hq2⟩
  have fz := ownP_fz (qD q)
  have : evSs C (callN C fns (d + 1)) F_mistake_numbers.body (enter F_mistake_numbers.n [.sh (PAD rs s K ri)]) = .ok [.sh (PAD rs s K ri), .sh (dicP (qD q)), x2, x3, .dead] (.ret (dicP (qD q))) := by
    show evSs C _ [.asgO 1 .dic0, .for_ (.n 2) (.e (.att (.var 0) fd_rising)) mnIn, .ret (.var 1)] [.sh (PAD rs s K ri), .dead, .dead, .dead, .dead] = _
    rw [evSs_next (G1 := [.sh (PAD rs s K ri), .ow (ownP (qD [])), .dead, .dead, .dead]) (by simp [evS, ev, R.bind, own1, ownP, qD])]
    rw [evSs_next e]
    simp [evSs, evS, ev, R.bind, fz]
  show runFn C _ F_mistake_numbers _ = _
  rw [runFn, this]
  simp [F_mistake_numbers, ioOk, leave]
include hs hb hl h0 hn hwh hlen hinP in
theorem c_mistake_number (d : Nat) : ∃ v : Int, callN C fns (d + 6) f_mistake_number [.sh (RU s rs)] = .ok [.dead] (.int v) ∧ NumOf s rs v := by
  obtain ⟨K, ri, e1, hK, h1, h2, h3⟩ := c_parts (C := C) hs hb hl h0 hn hwh hlen d
  obtain ⟨q, e2, hq1, hq2⟩ := c_numbers (C := C) hs hb hl (d + 3) K ri hK h1 h2 h3
  have hw : 2 ^ rs.length - 1 ∈ ri := (h2 _).mpr (by
    rcases hK.wh with z | z
    · exact z
    · cases z)
  have hwq : ∃ e ∈ q, e.1 = 2 ^ rs.length - 1 := by
    rw [← hq1] at hw
    obtain ⟨e, he, z⟩ := List.mem_map.mp hw
    exact ⟨e, he, z⟩
  obtain ⟨q1, q2⟩ := qD_at hwq
  have nv := hq2 _ q2 (fun _ => true) (mkP_all rs).symm
  rw [List.filter_eq_self.mpr (fun _ _ => rfl)] at nv
  have ix := dicP_ix (qD q) (2 ^ rs.length - 1)
  rw [q1] at ix
  refine ⟨_, ?_, nv⟩
  have fP : (PAD rs s K ri).fld fd_whole = some (.int (2 ^ rs.length - 1 : Nat)) := rfl
  have hf : (M.ins c_Parts [fd_yes_at, fd_whole, fd_cuts, fd_rising] [.leaf (ysD rs s), .leaf (.int (2 ^ rs.length - 1 : Nat)), .leaf (dicP (dicC rs s K)), .leaf (.tup (natsD ri))]).fz = PAD rs s K ri := rfl
  replace e2 : callN C fns (d + 5) f_mistake_numbers [.sh (PAD rs s K ri)] = .ok [.dead] (dicP (qD q)) := e2
  dsimp only at ix ⊢
  generalize (vq q (2 ^ rs.length - 1)) = w at *
  generalize ((2 ^ rs.length - 1 : Nat) : Int) = z at *
  generalize (M.ins c_Parts [fd_yes_at, fd_whole, fd_cuts, fd_rising] [.leaf (ysD rs s), .leaf (.int z), .leaf (dicP (dicC rs s K)), .leaf (.tup (natsD ri))]) = mm at *
  generalize PAD rs s K ri = P at *
  generalize dicP (qD q) = Q at *
  generalize RU s rs = X at *
  show runFn C _ F_mistake_number _ = _
  simp [runFn, F_mistake_number, ioOk, enter, leave, evSs, evS, ev, evs, R.bind, R.ofO, E.mf, E.mfL, fl, D.imm, asgT, hinP, e1, hf, fP, e2, ix]
end
end Lw
end
section
set_option Elab.async false
set_option linter.all false
set_option maxRecDepth 100000
set_option maxHeartbeats 4000000
namespace Lw
open Py PySem
variable {C : Py.Ctx}
theorem c_step (d p : Nat) (h : p ≤ 5) : callN C fns (d + 1) f__law_step [.sh (.int p)] = .ok [.dead] (.int (3 ^ p : Nat)) := by
  have z : index (.lst [.int 1, .int 3, .int 9, .int 27, .int 81, .int 243]) (.int p) = some (.int ([1, 3, 9, 27, 81, 243].getD p 0 : Nat)) := z_nat (ns := [1, 3, 9, 27, 81, 243]) (by show p < 6; omega)
  have e : ∀ p, p ≤ 5 → [1, 3, 9, 27, 81, 243].getD p 0 = 3 ^ p := by decide
  rw [e p h] at z
  generalize ((3 ^ p : Nat) : Int) = w at *
  show runFn C _ F__law_step _ = _
  simp [runFn, F__law_step, ioOk, enter, leave, evSs, evS, ev, evs, R.bind, R.ofO, E.mf, E.mfL, fl, D.imm, z]
def lnkD (c p : Nat) : D := .tup [.int p, .int (c - 2 * 3 ^ p : Nat), .int (c - 3 ^ p : Nat)]
def lnkL (s c : Nat) : D := .lst ((free s c).map (lnkD c))
def lnks (s : Nat) : List D := (List.range (3 ^ s)).map (lnkL s)
def lkIn : List S := match F__law_links.body.getD 1 .pass with
  | .for_ _ _ b => b
  | _ => []
theorem lk_turn (d s c : Nat) (hs : s ≤ 5) (hc : c < 3 ^ s) (acc : List D) (ha : acc.length < 1000) (x3 : Slot) :
    ∃ y3, evSs C (callN C fns (d + 1)) lkIn [.sh (.int s), .ow (ownL acc), .sh (.int c), x3, .dead] = .ok [.sh (.int s), .ow (ownL (acc ++ [lnkL s c])), .sh (.int c), y3, .dead] .next := by
  have h243 := (pow3 hs).2
  refine ⟨.sh (.lst (natsD (free s c))), ?_⟩
  have e1 := ev_lcRf (C := C) (orc := callN C fns (d + 1)) (v := 4) (s := s) (a := .var 0) (elt := .var 4) (ifs := [.cmp .eq (.bin .mod (.blt .int [.bin .fdiv (.var 2) (.call f__law_step [.var 4] [0])]) (.con (.int 3))) (.con (.int 2))]) (b := false)
    (G := [.sh (.int s), .ow (ownL acc), .sh (.int c), x3, .dead]) (G1 := [.sh (.int s), .ow (ownL acc), .sh (.int c), x3, .dead]) (fun p => decide (dig c p = 2)) (fun p : Nat => .int p) (by simp [ev]) (by omega) (by rfl) (by rfl) (fun p hp => by
      have st := c_step (C := C) d p (by omega)
      have p3 : 1 ≤ 3 ^ p ∧ 3 ^ p ≤ 243 := pow3 (by omega)
      have fd : binop .fdiv (.int c) (.int (3 ^ p : Nat)) = some (.int ((c / 3 ^ p : Nat) : Int)) := by
        rw [fdivB (by omega) (by
          show ((3 ^ p : Nat) : Int).natAbs.log2 < 9000
          rw [Int.natAbs_natCast]
          exact Nat.lt_of_le_of_lt (Nat.log2_le_self _) (by omega))]
        congr 2
      have md : binop .mod (.int ((c / 3 ^ p : Nat) : Int)) (.int 3) = some (.int ((dig c p : Nat) : Int)) := by
        rw [modB (by omega)]
        congr 2
      have eq := eqB (dig c p) 2
      replace eq : cmpop .eq (.int ((dig c p : Nat) : Int)) (.int 2) = some (.bl (decide (dig c p = 2))) := eq
      generalize ((3 ^ p : Nat) : Int) = w1 at *
      generalize ((c / 3 ^ p : Nat) : Int) = w2 at *
      generalize ((dig c p : Nat) : Int) = w3 at *
      generalize decide (dig c p = 2) = b at *
      cases b <;> simp [lcStep, evIfs, evT, ev, evs, R.bind, R.ofO, E.mf, E.mfL, bltC, notIns, bltin, fl, D.imm, truth, asgT, wipe, st, fd, md, eq])
  have e1 : ev C (callN C fns (d + 1)) _ _ = R.ok _ (.lst (natsD (free s c)), false) := e1
  have fl5 : (free s c).length ≤ s := by unfold free; exact Nat.le_trans (List.length_filter_le ..) (by rw [List.length_range]; exact Nat.le_refl _)
  have e2 := ev_lcB (C := C) (orc := callN C fns (d + 1)) (own := [4]) (tg := .n 4) (it := .e (.var 3)) (elt := .tup [.var 4, .bin .sub (.var 2) (.bin .mul (.con (.int 2)) (.call f__law_step [.var 4] [0])), .bin .sub (.var 2) (.call f__law_step [.var 4] [0])]) (b := false)
    (G := [.sh (.int s), .ow (ownL acc), .sh (.int c), .sh (.lst (natsD (free s c))), .dead]) (G1 := [.sh (.int s), .ow (ownL acc), .sh (.int c), .sh (.lst (natsD (free s c))), .dead]) (free s c) (fun p : Nat => .int p) (lnkD c)
    (by simp [evIt, evSq, ev, R.bind, R.ofO, items, natsD]) (by rfl) (by rfl) (fun p hp => by
      obtain ⟨hps, hd⟩ := mem_free.mp hp
      have st := c_step (C := C) d p (by omega)
      have p3 : 1 ≤ 3 ^ p ∧ 3 ^ p ≤ 243 := pow3 (by omega)
      have hle := ((dig_facts c (by omega) p (by omega)).2 hd).1
      have ml : binop .mul (.int 2) (.int (3 ^ p : Nat)) = some (.int ((2 * 3 ^ p : Nat) : Int)) := by
        show (if mulOk 2 ((3 ^ p : Nat) : Int) = true then some (D.int (2 * ((3 ^ p : Nat) : Int))) else none) = _
        rw [if_pos (by unfold mulOk; rw [show ltp (2 : Int).natAbs 64 = true from by decide]; rfl)]
        congr 2
      have s1 : binop .sub (.int c) (.int ((2 * 3 ^ p : Nat) : Int)) = some (.int ((c - 2 * 3 ^ p : Nat) : Int)) := by
        show some (D.int _) = _
        congr 2
        omega
      have s2 : binop .sub (.int c) (.int ((3 ^ p : Nat) : Int)) = some (.int ((c - 3 ^ p : Nat) : Int)) := by
        show some (D.int _) = _
        congr 2
        omega
      unfold lnkD
      generalize ((3 ^ p : Nat) : Int) = w1 at *
      generalize ((2 * 3 ^ p : Nat) : Int) = w2 at *
      generalize ((c - 2 * 3 ^ p : Nat) : Int) = w3 at *
      generalize ((c - 3 ^ p : Nat) : Int) = w4 at *
      simp [lcStep, evIfs, ev, evs, R.bind, R.ofO, E.mf, E.mfL, fl, D.imm, asgT, wipe, st, ml, s1, s2]) (by rfl) (by omega)
  have pu := ownL_push acc (lnkL s c) (by omega)
  have il := ownL_isLst acc
  replace e2 : ev C (callN C fns (d + 1)) _ _ = R.ok _ (lnkL s c, false) := e2
  show evSs C _ [.asg (.n 3) _, .expr (.mut .append 1 [] [_])] _ = _
  rw [evSs_next (G1 := [.sh (.int s), .ow (ownL acc), .sh (.int c), .sh (.lst (natsD (free s c))), .dead]) (by
    rw [evS, e1]
    simp [R.bind, asgT])]
  rw [evSs, evS, ev]
  simp only [evs]
  rw [e2]
  simp [evSs, R.bind, R.ofO, E.mfL, updPl, M.upd, readM, Slot.path, M.path, il, pu]
theorem c_links (d s : Nat) (hs : s ≤ 5) : callN C fns (d + 2) f__law_links [.sh (.int s)] = .ok [.dead] (.lst (lnks s)) := by
  have h243 := (pow3 hs).2
  obtain ⟨G2, e, x2, x3, rfl⟩ := evS_forR (C := C) (orc := callN C fns (d + 1)) (tg := .n 2) (a := .call f__law_step [.var 0] [0]) (body := lkIn) (b := false) (G := [.sh (.int s), .ow (ownL []), .dead, .dead, .dead]) (G1 := [.sh (.int s), .ow (ownL []), .dead, .dead, .dead]) (3 ^ s)
    (fun k (G : Py.Env) => ∃ x2 x3 : Slot, G = [.sh (.int s), .ow (ownL ((List.range k).map (lnkL s))), x2, x3, .dead]) (by
      have st := c_step (C := C) d s hs
      generalize ((3 ^ s : Nat) : Int) = w1 at *
      simp [ev, evs, R.bind, E.mfL, fl, D.imm, st]) (by omega) ⟨_, _, rfl⟩ (fun k hk G hG => by
      obtain ⟨x2, x3, rfl⟩ := hG
      obtain ⟨y3, e⟩ := lk_turn (C := C) d s k hs hk ((List.range k).map (lnkL s)) (by rw [List.length_map, List.length_range]; omega) x3
      refine ⟨[.sh (.int s), .ow (ownL ((List.range k).map (lnkL s))), .sh (.int k), x3, .dead], _, by simp [asgT], e, .sh (.int k), y3, ?_⟩
      rw [List.range_succ, List.map_append]
      rfl)
  have fz := ownL_fz (lnks s)
  have : evSs C (callN C fns (d + 1)) F__law_links.body (enter F__law_links.n [.sh (.int s)]) = .ok [.sh (.int s), .sh (.lst (lnks s)), x2, x3, .dead] (.ret (.lst (lnks s))) := by
    show evSs C _ [.asgO 1 (.lst []), .for_ (.n 2) (.rng1 (.call f__law_step [.var 0] [0])) lkIn, .ret (.var 1)] [.sh (.int s), .dead, .dead, .dead, .dead] = _
    rw [evSs_next (G1 := [.sh (.int s), .ow (ownL []), .dead, .dead, .dead]) (by simp [evS, ev, evs, R.bind, own1, ownL])]
    rw [evSs_next e]
    show evSs C _ _ [_, .ow (ownL (lnks s)), _, _, _] = _
    simp [evSs, evS, ev, R.bind, fz]
  show runFn C _ F__law_links _ = _
  rw [runFn, this]
  simp [F__law_links, ioOk, leave]
end Lw
end
section
set_option Elab.async false
set_option linter.all false
set_option maxRecDepth 100000
set_option maxHeartbeats 4000000
namespace Lw
open Py PySem
variable {C : Py.Ctx}
def ownI (ns : List Int) : M := .lst ((ns.map D.int).map M.leaf)
theorem ownI_fz (ns : List Int) : (ownI ns).fz = .lst (ns.map D.int) := by show D.lst (M.fzL _) = _; rw [fzL_leaf]
theorem ownI_ix {ns : List Int} {k : Nat} (h : k < ns.length) : mIndex (ownI ns) (.int k) = some (.leaf (.int (ns.getD k 0))) := by
  show (ixN ((ns.map D.int).map M.leaf).length (k : Int)).bind (fun j => ((ns.map D.int).map M.leaf)[j]?) = _
  have : ixN ((ns.map D.int).map M.leaf).length (k : Int) = some k := by
    unfold ixN
    rw [if_pos (by omega), if_pos (by rw [List.length_map, List.length_map]; omega), Int.toNat_natCast]
  rw [this]
  show ((ns.map D.int).map M.leaf)[k]? = _
  rw [List.getElem?_map, List.getElem?_map, List.getElem?_eq_getElem h, List.getD_eq_getElem?_getD, List.getElem?_eq_getElem h]
  rfl
theorem allLeaf_map : ∀ l : List D, allLeaf (l.map M.leaf) = true
  | [] => rfl
  | _ :: l => allLeaf_map l
theorem ownI_set {ns : List Int} {k : Nat} (v : Int) (h : k < ns.length) : setM (.int k) (.int v) (ownI ns) = some (ownI (ns.set k v), ()) := by
  show (if allLeaf ((ns.map D.int).map M.leaf) = true then (ixN ((ns.map D.int).map M.leaf).length (k : Int)).map (fun j => (M.lst (((ns.map D.int).map M.leaf).set j (.leaf (.int v))), ())) else none) = _
  have : ixN ((ns.map D.int).map M.leaf).length (k : Int) = some k := by
    unfold ixN
    rw [if_pos (by omega), if_pos (by rw [List.length_map, List.length_map]; omega), Int.toNat_natCast]
  rw [if_pos (allLeaf_map _), this]
  show some (M.lst _, ()) = some (M.lst _, ())
  congr 2
  congr 1
  rw [List.map_set, List.map_set]
theorem setD {ns : List Int} {k : Nat} {v : Int} (h : k < ns.length) (c : Nat) : (ns.set k v).getD c 0 = if c = k then v else ns.getD c 0 := by
  rw [List.getD_eq_getElem?_getD, List.getD_eq_getElem?_getD, List.getElem?_set]
  by_cases e : k = c
  · subst e; rw [if_pos rfl, if_pos rfl, if_pos h]; rfl
  · rw [if_neg e, if_neg (fun z => e z.symm)]
theorem ownRep (v : Int) (n : Nat) (h : n ≤ 1000) : ∃ d, binop .mul (.lst [.int v]) (.int n) = some d ∧ own1 d = some (ownI (List.replicate n v)) ∧ d.imm = false := by
  refine ⟨.lst ((List.replicate n v).map D.int), ?_, rfl, rfl⟩
  show (if (ltp ((n : Nat) : Int).natAbs 30 && lenOk ([D.int v].length * ((n : Nat) : Int).toNat)) = true then some (D.lst (rep ((n : Nat) : Int).toNat [D.int v])) else none) = _
  rw [Int.natAbs_natCast, Int.toNat_natCast, ltp_of (by decide) (by show n < 1073741824; omega)]
  have : lenOk ([D.int v].length * n) = true := decide_eq_true (by show 1 * n ≤ 16777216; omega)
  rw [this, if_pos (by rfl)]
  congr 2
  unfold rep
  induction n with
  | zero => rfl
  | succ n ih =>
    rw [List.replicate_succ, List.replicate_succ, List.map_cons, List.flatten_cons, ih (by omega)]
    · rfl
    exact decide_eq_true (by show 1 * n ≤ 16777216; omega)
theorem repD (v : Int) {n c : Nat} (h : c < n) : (List.replicate n v).getD c 0 = v := by
  rw [List.getD_eq_getElem?_getD, List.getElem?_replicate, if_pos h]; rfl
theorem slice1 (xs : List D) : slice (.lst xs) none (some 1) = some (.lst (xs.take 1)) := by
  show some (D.lst (Py.cutD xs none (some 1))) = _
  congr 2
  unfold Py.cutD sIx
  cases xs with
  | nil => rfl
  | cons x xs =>
    show ((x :: xs).drop 0).take ((if (1 : Int) < 0 then _ else _) - 0) = _
    rw [if_neg (by decide), List.drop_zero]
    congr 1
end Lw
end
section
set_option Elab.async false
set_option linter.all false
set_option maxRecDepth 100000
set_option maxHeartbeats 4000000
namespace Lw
open Py PySem
variable {C : Py.Ctx}
theorem lnks_ix {s c : Nat} (h : c < 3 ^ s) : index (.lst (lnks s)) (.int c) = some (lnkL s c) := by
  show atI (lnks s) _ = _
  rw [atI_nat (by unfold lnks; rw [List.length_map, List.length_range]; exact h)]
  unfold lnks
  rw [List.getElem?_map, List.getElem?_range h]
  rfl
theorem lnks_len (s : Nat) : (lnks s).length = 3 ^ s := by unfold lnks; rw [List.length_map, List.length_range]
def ftIn (j : Nat) : List S := match F__law_fits.body.getD j .pass with
  | .for_ _ _ b => b
  | _ => []
def ftF : S := (ftIn 2).getD 0 .pass
section
variable {tab : List (List Int)} {s : Nat} (hs : s ≤ 5) (hb : ∀ r ∈ tab, ∀ x ∈ r, x = 0 ∨ x = 1) (hl : ∀ r ∈ tab, r.length = s)
/-- so far: by the rows' own codes -/
structure F1 (s : Nat) (rs : List (List Int)) (ns : List Int) : Prop where
  len : ns.length = 3 ^ s
  nn : ∀ c, c < 3 ^ s → 0 ≤ ns.getD c 0
  at_ : ∀ c, c < 3 ^ s → (0 < ns.getD c 0 ↔ ∃ r ∈ rs, cdN r = c)
/-- so far: by what fits, below k -/
structure F2 (s k : Nat) (rs : List (List Int)) (ns : List Int) : Prop where
  len : ns.length = 3 ^ s
  nn : ∀ c, c < 3 ^ s → 0 ≤ ns.getD c 0
  lo : ∀ c, c < 3 ^ s → c < k → (0 < ns.getD c 0 ↔ FC s c rs ≠ [])
  hi : ∀ c, c < 3 ^ s → k ≤ c → (0 < ns.getD c 0 ↔ ∃ r ∈ rs, cdN r = c)
include hs hb hl in
theorem ft1 (d : Nat) (r : List Int) (hr : r ∈ tab) (x0 x1 x4 x6 x7 : Slot) (ns : List Int) (hns : ns.length = 3 ^ s) :
    evSs C (callN C fns (d + 1)) (ftIn 1) [x0, x1, .ow (ownI ns), .sh (rowD r), x4, .dead, x6, x7] = .ok [x0, x1, .ow (ownI (ns.set (cdN r) 1)), .sh (rowD r), x4, .dead, x6, x7] .next := by
  have hmem := mem_bitRows (hl r hr) (hb r hr)
  obtain ⟨c1, c2, _, _⟩ := cd_facts s hs r hmem
  have hlen := hl r hr
  have e := ev_lcRa (C := C) (orc := callN C fns (d + 1)) (v := 5) (s := s) (a := .blt .len [.var 3]) (elt := .bin .mul (.idx (.var 3) (.var 5)) (.call f__law_step [.var 5] [0])) (b := false)
    (G := [x0, x1, .ow (ownI ns), .sh (rowD r), x4, .dead, x6, x7]) (G1 := [x0, x1, .ow (ownI ns), .sh (rowD r), x4, .dead, x6, x7]) (fun p => .int (r.getD p 0 * ((3 ^ p : Nat) : Int))) (by
      simp [ev, evs, R.bind, R.ofO, E.mfL, bltC, notIns, fl, D.imm, rowD, lenBT, hlen]) (by omega) (by rfl) (by rfl) (fun p hp => by
      have z := z_row (r := r) (k := p) (by omega)
      have st := c_step (C := C) d p (by omega)
      have p3 : 1 ≤ 3 ^ p ∧ 3 ^ p ≤ 243 := pow3 (by omega)
      have ml : binop .mul (.int (r.getD p 0)) (.int (3 ^ p : Nat)) = some (.int (r.getD p 0 * ((3 ^ p : Nat) : Int))) := by
        show (if mulOk (r.getD p 0) ((3 ^ p : Nat) : Int) = true then some (D.int _) else none) = _
        rw [if_pos (mulOk_r _ (by rw [Int.natAbs_natCast]; exact ltp_of (by decide) (by show _ < 18446744073709551616; omega)))]
      generalize rowD r = R1 at *
      generalize ((3 ^ p : Nat) : Int) = w1 at *
      generalize r.getD p 0 = w2 at *
      generalize w2 * w1 = w3 at *
      simp [lcStep, evIfs, ev, evs, R.bind, R.ofO, E.mf, E.mfL, fl, D.imm, asgT, wipe, z, st, ml])
  have em : (List.range s).map (fun p => D.int (r.getD p 0 * ((3 ^ p : Nat) : Int))) = ((List.range s).map fun p => r.getD p 0 * ((3 ^ p : Nat) : Int)).map D.int := by rw [List.map_map]; rfl
  rw [em] at e
  have gi := gInts_map ((List.range s).map fun p => r.getD p 0 * ((3 ^ p : Nat) : Int))
  have sm : bltin .sum [.lst (((List.range s).map fun p => r.getD p 0 * ((3 ^ p : Nat) : Int)).map D.int)] = some (.int (cdN r : Nat)) := by
    show (gInts _).map _ = _
    rw [gi]
    show some (D.int _) = _
    rw [c2]
  have st := ownI_set (ns := ns) (k := cdN r) 1 (by omega)
  generalize ((List.range s).map fun p => r.getD p 0 * ((3 ^ p : Nat) : Int)).map D.int = Z at *
  show evSs C _ [.set 2 [] (.blt .sum [_]) (.con (.int 1))] _ = _
  have ek : ev C (callN C fns (d + 1)) (.blt .sum [.lc [5] (.n 5) (.rng1 (.blt .len [.var 3])) [] (.bin .mul (.idx (.var 3) (.var 5)) (.call f__law_step [.var 5] [0]))]) [x0, x1, .ow (ownI ns), .sh (rowD r), x4, .dead, x6, x7] = .ok [x0, x1, .ow (ownI ns), .sh (rowD r), x4, .dead, x6, x7] (.int (cdN r : Nat), false) := by
    rw [ev, evs, e]
    simp [evs, R.bind, R.ofO, E.mfL, bltC, notIns, fl, D.imm, sm]
  rw [evSs, evS, ev]
  simp only [R.bind]
  have mfk : E.mf (.blt .sum [.lc [5] (.n 5) (.rng1 (.blt .len [.var 3])) [] (.bin .mul (.idx (.var 3) (.var 5)) (.call f__law_step [.var 5] [0]))]) = true := by rfl
  rw [mfk]
  simp [evSs, readM, Slot.path, M.path, ek, R.bind, updPl, M.upd, st]
include hs hb hl in
theorem F2_free {k : Nat} {ns : List Int} {c p : Nat} (h : F2 s k tab ns) (hc : c < 3 ^ s) (hk : k = c) (hp : p < s) (hd : dig c p = 2) : F2 s (k + 1) tab (ns.set c (ns.getD (c - 2 * 3 ^ p) 0 + ns.getD (c - 3 ^ p) 0)) := by
  subst hk
  have h243 := (pow3 hs).2
  have hle := ((dig_facts k (by omega) p (by omega)).2 hd).1
  have p3 : 1 ≤ 3 ^ p ∧ 3 ^ p ≤ 243 := pow3 (by omega)
  have hlen : k < ns.length := by rw [h.len]; exact hc
  have n1 := h.nn (k - 2 * 3 ^ p) (by omega)
  have n2 := h.nn (k - 3 ^ p) (by omega)
  have f1 := h.lo (k - 2 * 3 ^ p) (by omega) (by omega)
  have f2 := h.lo (k - 3 ^ p) (by omega) (by omega)
  rw [FC_no hs hc hp hd] at f1
  rw [FC_yes hs hc hp hd] at f2
  refine ⟨by rw [List.length_set]; exact h.len, fun c hc' => ?_, fun c hc' hk => ?_, fun c hc' hk => ?_⟩
  · rw [setD hlen]
    split
    · omega
    · exact h.nn c hc'
  · rw [setD hlen]
    split
    · rename_i e
      subst e
      constructor
      · intro z
        have : 0 < ns.getD (c - 2 * 3 ^ p) 0 ∨ 0 < ns.getD (c - 3 ^ p) 0 := by omega
        rcases this with z | z
        · obtain ⟨r, hr⟩ := List.exists_mem_of_ne_nil _ (f1.mp z)
          exact List.ne_nil_of_mem (side_mem.mp hr).1
        · obtain ⟨r, hr⟩ := List.exists_mem_of_ne_nil _ (f2.mp z)
          exact List.ne_nil_of_mem (side_mem.mp hr).1
      · intro z
        obtain ⟨r, hr⟩ := List.exists_mem_of_ne_nil _ z
        have hrt : r ∈ tab := (List.mem_filter.mp hr).1
        rcases bit01 hb hl hp hrt with e | e
        · have := f1.mpr (List.ne_nil_of_mem (side_mem.mpr ⟨hr, e⟩))
          omega
        · have := f2.mpr (List.ne_nil_of_mem (side_mem.mpr ⟨hr, e⟩))
          omega
    · exact h.lo c hc' (by omega)
  · rw [setD hlen, if_neg (by omega)]
    exact h.hi c hc' (by omega)
include hs hb hl in
theorem F2_fix {k : Nat} {ns : List Int} (h : F2 s k tab ns) (hk : k < 3 ^ s) (hf : free s k = []) : F2 s (k + 1) tab ns := by
  refine ⟨h.len, h.nn, fun c hc hck => ?_, fun c hc hck => h.hi c hc (by omega)⟩
  by_cases e : c = k
  · subst e
    rw [h.hi c hc (Nat.le_refl _)]
    have nf : ∀ p, p < s → dig c p ≠ 2 := fun p hp z => by
      have : p ∈ free s c := mem_free.mpr ⟨hp, z⟩
      rw [hf] at this
      cases this
    constructor
    · rintro ⟨r, hr, rfl⟩
      obtain ⟨_, _, c3, _⟩ := cd_facts s hs r (mem_bitRows (hl r hr) (hb r hr))
      exact List.ne_nil_of_mem (List.mem_filter.mpr ⟨hr, c3⟩)
    · intro z
      obtain ⟨r, hr⟩ := List.exists_mem_of_ne_nil _ z
      obtain ⟨h1, h2⟩ := List.mem_filter.mp hr
      exact ⟨r, h1, (dig_inj s hs r (mem_bitRows (hl r h1) (hb r h1)) c hc nf h2).symm⟩
  · exact h.lo c hc (by omega)
include hs hb hl in
theorem ft2 (d k : Nat) (hk : k < 3 ^ s) (ns : List Int) (h : F2 s k tab ns) (x1 x3 x5 x6 x7 : Slot) :
    ∃ ns' y5 y6 y7, evSs C (callN C fns (d + 1)) (ftIn 2) [.sh (.lst (lnks s)), x1, .ow (ownI ns), x3, .sh (.int k), x5, x6, x7] = .ok [.sh (.lst (lnks s)), x1, .ow (ownI ns'), x3, .sh (.int k), y5, y6, y7] .next ∧ F2 s (k + 1) tab ns' := by
  have h243 := (pow3 hs).2
  have ix := lnks_ix hk
  have sl := slice1 ((free s k).map (lnkD k))
  have it : evIt C (callN C fns (d + 1)) (.e (.sli (.idx (.var 0) (.var 4)) (.con .non) (.con (.int 1)))) [.sh (.lst (lnks s)), x1, .ow (ownI ns), x3, .sh (.int k), x5, x6, x7] = .ok [.sh (.lst (lnks s)), x1, .ow (ownI ns), x3, .sh (.int k), x5, x6, x7] (((free s k).map (lnkD k)).take 1, false) := by
    unfold lnkL at ix
    generalize lnks s = L at *
    generalize (free s k).map (lnkD k) = Z at *
    simp [evIt, evSq, ev, evI, D.asInt, R.bind, R.ofO, E.mf, fl, items, ix, sl]
  cases hf : free s k with
  | nil =>
    refine ⟨ns, x5, x6, x7, ?_, F2_fix hs hb hl h hk hf⟩
    rw [hf] at it
    have := evS_for (C := C) (orc := callN C fns (d + 1)) (tg := .t [.n 5, .n 6, .n 7]) (body := [.set 2 [] (.var 4) (.bin .add (.idx (.pth 2 []) (.var 6)) (.idx (.pth 2 []) (.var 7)))]) (G2 := [.sh (.lst (lnks s)), x1, .ow (ownI ns), x3, .sh (.int k), x5, x6, x7]) (o := .next) it (by rfl)
    exact (evSs_next (ss := []) this).trans rfl
  | cons p rest =>
    have hpm : p ∈ free s k := by rw [hf]; exact List.mem_cons_self
    obtain ⟨hp, hd⟩ := mem_free.mp hpm
    have hle := ((dig_facts k (by omega) p (by omega)).2 hd).1
    have p3 : 1 ≤ 3 ^ p ∧ 3 ^ p ≤ 243 := pow3 (by omega)
    refine ⟨ns.set k (ns.getD (k - 2 * 3 ^ p) 0 + ns.getD (k - 3 ^ p) 0), .sh (.int p), .sh (.int (k - 2 * 3 ^ p : Nat)), .sh (.int (k - 3 ^ p : Nat)), ?_, F2_free hs hb hl h hk rfl hp hd⟩
    rw [hf] at it
    have i1 := ownI_ix (ns := ns) (k := k - 2 * 3 ^ p) (by rw [h.len]; omega)
    have i2 := ownI_ix (ns := ns) (k := k - 3 ^ p) (by rw [h.len]; omega)
    have st := ownI_set (ns := ns) (k := k) (ns.getD (k - 2 * 3 ^ p) 0 + ns.getD (k - 3 ^ p) 0) (by rw [h.len]; exact hk)
    have ad : binop .add (.int (ns.getD (k - 2 * 3 ^ p) 0)) (.int (ns.getD (k - 3 ^ p) 0)) = some (.int (ns.getD (k - 2 * 3 ^ p) 0 + ns.getD (k - 3 ^ p) 0)) := rfl
    have := evS_for (C := C) (orc := callN C fns (d + 1)) (tg := .t [.n 5, .n 6, .n 7]) (body := [.set 2 [] (.var 4) (.bin .add (.idx (.pth 2 []) (.var 6)) (.idx (.pth 2 []) (.var 7)))]) (G2 := [.sh (.lst (lnks s)), x1, .ow (ownI (ns.set k (ns.getD (k - 2 * 3 ^ p) 0 + ns.getD (k - 3 ^ p) 0))), x3, .sh (.int k), .sh (.int p), .sh (.int (k - 2 * 3 ^ p : Nat)), .sh (.int (k - 3 ^ p : Nat))]) (o := .next) it (by
      show forLoop _ _ [lnkD k p] _ = _
      unfold lnkD
      generalize ns.set k (ns.getD (k - 2 * 3 ^ p) 0 + ns.getD (k - 3 ^ p) 0) = ns' at *
      generalize ns.getD (k - 2 * 3 ^ p) 0 + ns.getD (k - 3 ^ p) 0 = w5 at *
      generalize ns.getD (k - 2 * 3 ^ p) 0 = w1 at *
      generalize ns.getD (k - 3 ^ p) 0 = w2 at *
      generalize ((k - 2 * 3 ^ p : Nat) : Int) = w3 at *
      generalize ((k - 3 ^ p : Nat) : Int) = w4 at *
      generalize lnks s = L at *
      simp [forLoop, asgT, asgL, evSs, evS, ev, R.bind, R.ofO, E.mf, readM, Slot.path, M.path, updPl, M.upd, fl, D.imm, valL, i1, i2, ad, st])
    exact (evSs_next (ss := []) this).trans rfl
include hs hb hl in
theorem c_fits (d : Nat) (hn : tab.length ≤ 1000) : ∃ ns : List Int, callN C fns (d + 2) f__law_fits [.sh (.lst (lnks s)), .sh (.lst (tab.map rowD))] = .ok [.dead, .dead] (.lst (ns.map D.int)) ∧ ns.length = 3 ^ s ∧ (∀ c, c < 3 ^ s → (0 < ns.getD c 0 ↔ FC s c tab ≠ [])) := by
  have h243 := (pow3 hs).2
  have ll := lnks_len s
  obtain ⟨G1, e1, x3, x6, x7, ns1, rfl, h1⟩ := evS_forL (C := C) (orc := callN C fns (d + 1)) (tg := .n 3) (it := .e (.var 1)) (body := ftIn 1) (G := [.sh (.lst (lnks s)), .sh (.lst (tab.map rowD)), .ow (ownI (List.replicate (3 ^ s) 0)), .dead, .dead, .dead, .dead, .dead]) (G1 := [.sh (.lst (lnks s)), .sh (.lst (tab.map rowD)), .ow (ownI (List.replicate (3 ^ s) 0)), .dead, .dead, .dead, .dead, .dead]) (ds := tab.map rowD)
    (fun k (G : Py.Env) => ∃ (x3 x6 x7 : Slot) (ns : List Int), G = [.sh (.lst (lnks s)), .sh (.lst (tab.map rowD)), .ow (ownI ns), x3, .dead, .dead, x6, x7] ∧ F1 s (tab.take k) ns)
    (by simp [evIt, evSq, ev, R.bind, R.ofO, items]) ⟨.dead, .dead, .dead, _, rfl, ⟨List.length_replicate, fun c hc => by rw [repD 0 hc]; exact Int.le_refl _, fun c hc => by rw [repD 0 hc]; simp⟩⟩ (fun k hk G hG => by
      obtain ⟨x3, x6, x7, ns, rfl, h⟩ := hG
      have hkl : k < tab.length := by simpa using hk
      have hmem : tab[k] ∈ tab := List.getElem_mem hkl
      obtain ⟨c1, _, _, _⟩ := cd_facts s hs tab[k] (mem_bitRows (hl _ hmem) (hb _ hmem))
      have e := ft1 (C := C) hs hb hl d tab[k] hmem (.sh (.lst (lnks s))) (.sh (.lst (tab.map rowD))) .dead x6 x7 ns h.len
      refine ⟨[.sh (.lst (lnks s)), .sh (.lst (tab.map rowD)), .ow (ownI ns), .sh (rowD tab[k]), .dead, .dead, x6, x7], _, by rw [List.getElem_map]; simp [asgT], e, .sh (rowD tab[k]), x6, x7, _, rfl, ?_⟩
      have hlen : cdN tab[k] < ns.length := by rw [h.len]; exact c1
      refine ⟨by rw [List.length_set]; exact h.len, fun c hc => ?_, fun c hc => ?_⟩
      · rw [setD hlen]
        split
        · decide
        · exact h.nn c hc
      · rw [setD hlen, List.take_succ_eq_append_getElem hkl]
        split
        · rename_i e
          exact ⟨fun _ => ⟨tab[k], List.mem_append.mpr (.inr (List.mem_singleton.mpr rfl)), e.symm⟩, fun _ => by decide⟩
        · rename_i e
          rw [h.at_ c hc]
          constructor
          · rintro ⟨r, hr, z⟩
            exact ⟨r, List.mem_append.mpr (.inl hr), z⟩
          · rintro ⟨r, hr, z⟩
            rcases List.mem_append.mp hr with hr | hr
            · exact ⟨r, hr, z⟩
            · rw [List.mem_singleton.mp hr] at z
              exact absurd z.symm e)
  rw [List.length_map, List.take_length] at h1
  obtain ⟨G2, e2, x4, x5, x6', x7', ns2, rfl, h2⟩ := evS_forR (C := C) (orc := callN C fns (d + 1)) (tg := .n 4) (a := .blt .len [.var 0]) (body := ftIn 2) (b := false) (G := [.sh (.lst (lnks s)), .sh (.lst (tab.map rowD)), .ow (ownI ns1), x3, .dead, .dead, x6, x7]) (G1 := [.sh (.lst (lnks s)), .sh (.lst (tab.map rowD)), .ow (ownI ns1), x3, .dead, .dead, x6, x7]) (3 ^ s)
    (fun k (G : Py.Env) => ∃ (x4 x5 x6 x7 : Slot) (ns : List Int), G = [.sh (.lst (lnks s)), .sh (.lst (tab.map rowD)), .ow (ownI ns), x3, x4, x5, x6, x7] ∧ F2 s k tab ns)
    (by
      generalize lnks s = L at *
      simp [ev, evs, R.bind, R.ofO, E.mfL, bltC, notIns, fl, D.imm, lenB, ll]) (by omega) ⟨_, _, _, _, ns1, rfl, ⟨h1.len, h1.nn, fun c _ hc => absurd hc (Nat.not_lt_zero _), fun c hc _ => h1.at_ c hc⟩⟩ (fun k hk G hG => by
      obtain ⟨x4, x5, x6, x7, ns, rfl, h⟩ := hG
      obtain ⟨ns', y5, y6, y7, e, h'⟩ := ft2 (C := C) hs hb hl d k hk ns h (.sh (.lst (tab.map rowD))) x3 x5 x6 x7
      exact ⟨[.sh (.lst (lnks s)), .sh (.lst (tab.map rowD)), .ow (ownI ns), x3, .sh (.int k), x5, x6, x7], _, by simp [asgT], e, .sh (.int k), y5, y6, y7, ns', rfl, h'⟩)
  refine ⟨ns2, ?_, h2.len, fun c hc => h2.lo c hc hc⟩
  obtain ⟨dd, m1, m2, m3⟩ := ownRep 0 (3 ^ s) (by omega)
  have fz := ownI_fz ns2
  have : evSs C (callN C fns (d + 1)) F__law_fits.body (enter F__law_fits.n [.sh (.lst (lnks s)), .sh (.lst (tab.map rowD))]) = .ok [.sh (.lst (lnks s)), .sh (.lst (tab.map rowD)), .sh (.lst (ns2.map D.int)), x3, x4, x5, x6', x7'] (.ret (.lst (ns2.map D.int))) := by
    show evSs C _ [.asgO 2 (.bin .mul (.lst [.con (.int 0)]) (.blt .len [.var 0])), .for_ (.n 3) (.e (.var 1)) (ftIn 1), .for_ (.n 4) (.rng1 (.blt .len [.var 0])) (ftIn 2), .ret (.var 2)] [.sh (.lst (lnks s)), .sh (.lst (tab.map rowD)), .dead, .dead, .dead, .dead, .dead, .dead] = _
    rw [evSs_next (G1 := [.sh (.lst (lnks s)), .sh (.lst (tab.map rowD)), .ow (ownI (List.replicate (3 ^ s) 0)), .dead, .dead, .dead, .dead, .dead]) (by
      generalize lnks s = L at *
      rw [← ll] at m1 m2 ⊢
      simp [evS, ev, evs, R.bind, R.ofO, E.mf, E.mfL, bltC, notIns, fl, D.imm, lenB, m1, m2])]
    rw [evSs_next e1, evSs_next e2]
    simp [evSs, evS, ev, R.bind, fz]
  show runFn C _ F__law_fits _ = _
  rw [runFn, this]
  simp [F__law_fits, ioOk, leave]
end
end Lw
end
section
set_option Elab.async false
set_option linter.all false
set_option maxRecDepth 100000
set_option maxHeartbeats 4000000
namespace Lw
open Py PySem
variable {C : Py.Ctx}
theorem minBi (i j : Int) : bltin .min [.int i, .int j] = some (.int (min i j)) := by
  show some (D.int (if j < i then j else i)) = _
  congr 2
  split <;> omega
theorem maxBi (i j : Int) : bltin .max [.int i, .int j] = some (.int (max i j)) := by
  show some (D.int (if j > i then j else i)) = _
  congr 2
  split <;> omega
def dpIn : List S := match F__law_depths.body.getD 1 .pass with
  | .for_ _ _ b => b
  | _ => []
def dpYes : List S := match dpIn.getD 0 .pass with
  | .ite _ a _ => a
  | _ => []
theorem lnk_len (s c : Nat) : (free s c).length ≤ s := by unfold free; exact Nat.le_trans (List.length_filter_le ..) (by rw [List.length_range]; exact Nat.le_refl _)
/-- what stands for code k behind j of its points -/
structure DJ (ns : List Int) (k : Nat) (fs : List Nat) (v : Int) : Prop where
  nn : 0 ≤ v
  ge : ∀ p ∈ fs, 1 + min (ns.getD (k - 2 * 3 ^ p) 0) (ns.getD (k - 3 ^ p) 0) ≤ v
  eq : v = 0 ∨ ∃ p ∈ fs, v = 1 + min (ns.getD (k - 2 * 3 ^ p) 0) (ns.getD (k - 3 ^ p) 0)
theorem dp_for (d s k : Nat) (hs : s ≤ 5) (hk : k < 3 ^ s) (ns : List Int) (hlen : ns.length = 3 ^ s) (x1 x4 x5 x6 : Slot) :
    ∃ v y4 y5 y6, evSs C (callN C fns d) dpYes [.sh (.lst (lnks s)), x1, .ow (ownI ns), .sh (.int k), x4, x5, x6] = .ok [.sh (.lst (lnks s)), x1, .ow (ownI (ns.set k v)), .sh (.int k), y4, y5, y6] .next ∧ DJ ns k (free s k) v := by
  have h243 := (pow3 hs).2
  have ix := lnks_ix hk
  have fl5 := lnk_len s k
  obtain ⟨G2, e, v, y4, y5, y6, rfl, hv⟩ := evS_forL (C := C) (orc := callN C fns d) (tg := .t [.n 4, .n 5, .n 6]) (it := .e (.idx (.var 0) (.var 3))) (body := [.set 2 [] (.var 3) (.blt .max [.idx (.pth 2 []) (.var 3), .bin .add (.con (.int 1)) (.blt .min [.idx (.pth 2 []) (.var 5), .idx (.pth 2 []) (.var 6)])])])
    (G := [.sh (.lst (lnks s)), x1, .ow (ownI (ns.set k 0)), .sh (.int k), x4, x5, x6]) (G1 := [.sh (.lst (lnks s)), x1, .ow (ownI (ns.set k 0)), .sh (.int k), x4, x5, x6]) (ds := (free s k).map (lnkD k))
    (fun j (G : Py.Env) => ∃ (v : Int) (x4 x5 x6 : Slot), G = [.sh (.lst (lnks s)), x1, .ow (ownI (ns.set k v)), .sh (.int k), x4, x5, x6] ∧ DJ ns k ((free s k).take j) v)
    (by
      unfold lnkL at ix
      generalize lnks s = L at *
      generalize (free s k).map (lnkD k) = Z at *
      simp [evIt, evSq, ev, R.bind, R.ofO, E.mf, fl, items, ix]) ⟨0, x4, x5, x6, rfl, ⟨Int.le_refl _, fun p hp => (by cases hp), .inl rfl⟩⟩ (fun j hj G hG => by
      obtain ⟨v, x4, x5, x6, rfl, h⟩ := hG
      have hjl : j < (free s k).length := by simpa using hj
      have hpm : (free s k)[j] ∈ free s k := List.getElem_mem hjl
      obtain ⟨hp, hd⟩ := mem_free.mp hpm
      have et : (free s k).take (j + 1) = (free s k).take j ++ [(free s k)[j]] := List.take_succ_eq_append_getElem hjl
      rw [List.getElem_map, et]
      generalize (free s k)[j] = p at *
      have hle := ((dig_facts k (by omega) p (by omega)).2 hd).1
      have p3 : 1 ≤ 3 ^ p ∧ 3 ^ p ≤ 243 := pow3 (by omega)
      have hkl : k < ns.length := by omega
      have sl : (ns.set k v).length = 3 ^ s := by rw [List.length_set]; exact hlen
      have i0 := ownI_ix (ns := ns.set k v) (k := k) (by omega)
      have i1 := ownI_ix (ns := ns.set k v) (k := k - 2 * 3 ^ p) (by omega)
      have i2 := ownI_ix (ns := ns.set k v) (k := k - 3 ^ p) (by omega)
      rw [setD hkl, if_pos rfl] at i0
      rw [setD hkl, if_neg (by omega)] at i1
      rw [setD hkl, if_neg (by omega)] at i2
      have st := ownI_set (ns := ns.set k v) (k := k) (max v (1 + min (ns.getD (k - 2 * 3 ^ p) 0) (ns.getD (k - 3 ^ p) 0))) (by omega)
      rw [List.set_set] at st
      have mn := minBi (ns.getD (k - 2 * 3 ^ p) 0) (ns.getD (k - 3 ^ p) 0)
      have ad : binop .add (.int 1) (.int (min (ns.getD (k - 2 * 3 ^ p) 0) (ns.getD (k - 3 ^ p) 0))) = some (.int (1 + min (ns.getD (k - 2 * 3 ^ p) 0) (ns.getD (k - 3 ^ p) 0))) := rfl
      have mx := maxBi v (1 + min (ns.getD (k - 2 * 3 ^ p) 0) (ns.getD (k - 3 ^ p) 0))
      refine ⟨[.sh (.lst (lnks s)), x1, .ow (ownI (ns.set k v)), .sh (.int k), .sh (.int p), .sh (.int (k - 2 * 3 ^ p : Nat)), .sh (.int (k - 3 ^ p : Nat))], [.sh (.lst (lnks s)), x1, .ow (ownI (ns.set k (max v (1 + min (ns.getD (k - 2 * 3 ^ p) 0) (ns.getD (k - 3 ^ p) 0))))), .sh (.int k), .sh (.int p), .sh (.int (k - 2 * 3 ^ p : Nat)), .sh (.int (k - 3 ^ p : Nat))], by
        unfold lnkD
        generalize ((k - 2 * 3 ^ p : Nat) : Int) = w3 at *
        generalize ((k - 3 ^ p : Nat) : Int) = w4 at *
        simp [asgT, asgL], ?_, max v (1 + min (ns.getD (k - 2 * 3 ^ p) 0) (ns.getD (k - 3 ^ p) 0)), _, _, _, rfl, ?_⟩
      · generalize max v (1 + min (ns.getD (k - 2 * 3 ^ p) 0) (ns.getD (k - 3 ^ p) 0)) = w6 at *
        generalize 1 + min (ns.getD (k - 2 * 3 ^ p) 0) (ns.getD (k - 3 ^ p) 0) = w5 at *
        generalize min (ns.getD (k - 2 * 3 ^ p) 0) (ns.getD (k - 3 ^ p) 0) = w7 at *
        generalize ns.getD (k - 2 * 3 ^ p) 0 = w1 at *
        generalize ns.getD (k - 3 ^ p) 0 = w2 at *
        generalize ((k - 2 * 3 ^ p : Nat) : Int) = w3 at *
        generalize ((k - 3 ^ p : Nat) : Int) = w4 at *
        generalize lnks s = L at *
        simp [evSs, evS, ev, evs, R.bind, R.ofO, E.mf, E.mfL, readM, Slot.path, M.path, updPl, M.upd, bltC, notIns, fl, D.imm, valL, i0, i1, i2, mn, ad, mx, st]
      · refine ⟨by have := h.nn; omega, fun q hq => ?_, ?_⟩
        · rcases List.mem_append.mp hq with hq | hq
          · have := h.ge q hq; omega
          · rw [List.mem_singleton.mp hq]; omega
        · by_cases z : v ≤ 1 + min (ns.getD (k - 2 * 3 ^ p) 0) (ns.getD (k - 3 ^ p) 0)
          · exact .inr ⟨p, List.mem_append.mpr (.inr (List.mem_singleton.mpr rfl)), by omega⟩
          · have ev : max v (1 + min (ns.getD (k - 2 * 3 ^ p) 0) (ns.getD (k - 3 ^ p) 0)) = v := by omega
            rw [ev]
            exact h.eq.imp id fun ⟨q, hq, z⟩ => ⟨q, List.mem_append.mpr (.inl hq), z⟩)
  rw [List.length_map, List.take_length] at hv
  have st0 := ownI_set (ns := ns) (k := k) 0 (by omega)
  refine ⟨v, y4, y5, y6, ?_, hv⟩
  have s0 : evS C (callN C fns d) (.set 2 [] (.var 3) (.con (.int 0))) [.sh (.lst (lnks s)), x1, .ow (ownI ns), .sh (.int k), x4, x5, x6] = .ok [.sh (.lst (lnks s)), x1, .ow (ownI (ns.set k 0)), .sh (.int k), x4, x5, x6] .next := by
    simp [evS, ev, R.bind, E.mf, readM, Slot.path, M.path, updPl, M.upd, st0]
  refine (evSs_next s0).trans ((evSs_next (ss := []) e).trans rfl)
section
variable {tab : List (List Int)} {s : Nat} (hs : s ≤ 5) (hb : ∀ r ∈ tab, ∀ x ∈ r, x = 0 ∨ x = 1) (hl : ∀ r ∈ tab, r.length = s)
/-- the numbers of the codes below k -/
structure DK (s k : Nat) (tab : List (List Int)) (ns : List Int) : Prop where
  len : ns.length = 3 ^ s
  lo : ∀ c, c < 3 ^ s → c < k → NumOf s (FC s c tab) (ns.getD c 0)
  hi : ∀ c, c < 3 ^ s → k ≤ c → ns.getD c 0 = -1
theorem DK_set {k : Nat} {ns : List Int} {v : Int} (h : DK s k tab ns) (hk : k < 3 ^ s) (hv : NumOf s (FC s k tab) v) : DK s (k + 1) tab (ns.set k v) := by
  have hkl : k < ns.length := by rw [h.len]; exact hk
  refine ⟨by rw [List.length_set]; exact h.len, fun c hc hck => ?_, fun c hc hck => ?_⟩
  · rw [setD hkl]
    split
    · rename_i e; rw [e]; exact hv
    · exact h.lo c hc (by omega)
  · rw [setD hkl, if_neg (by omega)]
    exact h.hi c hc (by omega)
include hs in
theorem DJ_num {k : Nat} {ns : List Int} {v : Int} (h : DK s k tab ns) (hk : k < 3 ^ s) (hne : FC s k tab ≠ []) (hj : DJ ns k (free s k) v) : NumOf s (FC s k tab) v := by
  have h243 := (pow3 hs).2
  have both : ∀ p, p ∈ free s k → NumOf s (sideR p 0 (FC s k tab)) (ns.getD (k - 2 * 3 ^ p) 0) ∧ NumOf s (sideR p 1 (FC s k tab)) (ns.getD (k - 3 ^ p) 0) := fun p hp => by
    obtain ⟨hps, hd⟩ := mem_free.mp hp
    have hle := ((dig_facts k (by omega) p (by omega)).2 hd).1
    have p3 : 1 ≤ 3 ^ p ∧ 3 ^ p ≤ 243 := pow3 (by omega)
    rw [← FC_no hs hk hps hd, ← FC_yes hs hk hps hd]
    exact ⟨h.lo _ (by omega) (by omega), h.lo _ (by omega) (by omega)⟩
  refine NumOf.step hne hj.nn (fun p hp e0 e1 => ?_) ?_
  · have hf : p ∈ free s k := by
      by_cases hd : dig k p = 2
      · exact mem_free.mpr ⟨hp, hd⟩
      · exact (FC_fix hp hd tab e0 e1).elim
    exact ⟨_, _, (both p hf).1, (both p hf).2, hj.ge p hf⟩
  · rcases hj.eq with z | ⟨p, hp, z⟩
    · exact .inl z
    · exact .inr ⟨p, (mem_free.mp hp).1, _, _, (both p hp).1, (both p hp).2, z⟩
include hs in
theorem c_depths (d : Nat) (fv : List Int) (hfl : fv.length = 3 ^ s) (hf : ∀ c, c < 3 ^ s → (0 < fv.getD c 0 ↔ FC s c tab ≠ [])) :
    ∃ ns : List Int, callN C fns (d + 1) f__law_depths [.sh (.lst (lnks s)), .sh (.lst (fv.map D.int))] = .ok [.dead, .dead] (.lst (ns.map D.int)) ∧ ns.length = 3 ^ s ∧ ∀ c, c < 3 ^ s → NumOf s (FC s c tab) (ns.getD c 0) := by
  have h243 := (pow3 hs).2
  have lf : (fv.map D.int).length = 3 ^ s := by rw [List.length_map]; exact hfl
  obtain ⟨dd, m1, m2, m3⟩ := ownRep (-1) (3 ^ s) (by omega)
  obtain ⟨G2, e, x3, x4, x5, x6, ns, rfl, h⟩ := evS_forR (C := C) (orc := callN C fns d) (tg := .n 3) (a := .blt .len [.var 1]) (body := dpIn) (b := false) (G := [.sh (.lst (lnks s)), .sh (.lst (fv.map D.int)), .ow (ownI (List.replicate (3 ^ s) (-1))), .dead, .dead, .dead, .dead]) (G1 := [.sh (.lst (lnks s)), .sh (.lst (fv.map D.int)), .ow (ownI (List.replicate (3 ^ s) (-1))), .dead, .dead, .dead, .dead]) (3 ^ s)
    (fun k (G : Py.Env) => ∃ (x3 x4 x5 x6 : Slot) (ns : List Int), G = [.sh (.lst (lnks s)), .sh (.lst (fv.map D.int)), .ow (ownI ns), x3, x4, x5, x6] ∧ DK s k tab ns)
    (by
      generalize fv.map D.int = L at *
      simp [ev, evs, R.bind, R.ofO, E.mfL, bltC, notIns, fl, D.imm, lenB, lf]) (by omega) ⟨_, _, _, _, _, rfl, ⟨List.length_replicate, fun c _ hc => absurd hc (Nat.not_lt_zero _), fun c hc _ => repD (-1) hc⟩⟩ (fun k hk G hG => by
      obtain ⟨x3, x4, x5, x6, ns, rfl, h⟩ := hG
      have z := z_lst (r := fv) (k := k) (by omega)
      by_cases hne : FC s k tab = []
      · have hg : cmpop .gt (.int (fv.getD k 0)) (.int 0) = some (.bl false) := by
          show some (D.bl (decide (0 < fv.getD k 0))) = _
          rw [decide_eq_false (fun q => (hf k hk).mp q hne)]
        refine ⟨[.sh (.lst (lnks s)), .sh (.lst (fv.map D.int)), .ow (ownI ns), .sh (.int k), x4, x5, x6], [.sh (.lst (lnks s)), .sh (.lst (fv.map D.int)), .ow (ownI ns), .sh (.int k), x4, x5, x6], by simp [asgT], ?_, .sh (.int k), x4, x5, x6, ns, rfl, ?_⟩
        · generalize fv.getD k 0 = w at *
          generalize lnks s = L at *
          generalize fv.map D.int = L2 at *
          unfold dpIn F__law_depths
          simp [evSs, evS, evT, ev, R.bind, R.ofO, E.mf, fl, D.imm, truth, z, hg]
        · refine ⟨h.len, fun c hc hck => ?_, fun c hc hck => h.hi c hc (by omega)⟩
          by_cases e : c = k
          · rw [e, hne, h.hi k hk (Nat.le_refl _)]; exact NumOf.nil s
          · exact h.lo c hc (by omega)
      · have hg : cmpop .gt (.int (fv.getD k 0)) (.int 0) = some (.bl true) := by
          show some (D.bl (decide (0 < fv.getD k 0))) = _
          rw [decide_eq_true ((hf k hk).mpr hne)]
        obtain ⟨v, y4, y5, y6, e, hj⟩ := dp_for (C := C) d s k hs hk ns h.len (.sh (.lst (fv.map D.int))) x4 x5 x6
        refine ⟨[.sh (.lst (lnks s)), .sh (.lst (fv.map D.int)), .ow (ownI ns), .sh (.int k), x4, x5, x6], [.sh (.lst (lnks s)), .sh (.lst (fv.map D.int)), .ow (ownI (ns.set k v)), .sh (.int k), y4, y5, y6], by simp [asgT], ?_, .sh (.int k), y4, y5, y6, _, rfl, DK_set h hk (DJ_num hs h hk hne hj)⟩
        show evSs C _ [.ite (.cmp .gt (.idx (.var 1) (.var 3)) (.con (.int 0))) dpYes []] _ = _
        generalize fv.getD k 0 = w at *
        generalize lnks s = L at *
        generalize fv.map D.int = L2 at *
        generalize ns.set k v = ns' at *
        simp [evSs, evS, evT, ev, R.bind, R.ofO, E.mf, fl, D.imm, truth, z, hg, e])
  refine ⟨ns, ?_, h.len, fun c hc => h.lo c hc hc⟩
  have fz := ownI_fz ns
  have : evSs C (callN C fns d) F__law_depths.body (enter F__law_depths.n [.sh (.lst (lnks s)), .sh (.lst (fv.map D.int))]) = .ok [.sh (.lst (lnks s)), .sh (.lst (fv.map D.int)), .sh (.lst (ns.map D.int)), x3, x4, x5, x6] (.ret (.lst (ns.map D.int))) := by
    show evSs C _ [.asgO 2 (.bin .mul (.lst [.un .neg (.con (.int 1))]) (.blt .len [.var 1])), .for_ (.n 3) (.rng1 (.blt .len [.var 1])) dpIn, .ret (.var 2)] [.sh (.lst (lnks s)), .sh (.lst (fv.map D.int)), .dead, .dead, .dead, .dead, .dead] = _
    rw [evSs_next (G1 := [.sh (.lst (lnks s)), .sh (.lst (fv.map D.int)), .ow (ownI (List.replicate (3 ^ s) (-1))), .dead, .dead, .dead, .dead]) (by
      generalize fv.map D.int = L at *
      rw [← lf] at m1 m2 ⊢
      simp [evS, ev, evs, R.bind, R.ofO, E.mf, E.mfL, bltC, notIns, fl, D.imm, lenB, unop, m1, m2])]
    rw [evSs_next e]
    simp [evSs, evS, ev, R.bind, fz]
  show runFn C _ F__law_depths _ = _
  rw [runFn, this]
  simp [F__law_depths, ioOk, leave]
theorem z_end {l : List Int} (h : l ≠ []) : index (.lst (l.map D.int)) (.int (-1)) = some (.int (l.getD (l.length - 1) 0)) := by
  show atI (l.map D.int) (-1) = _
  have hl : 0 < l.length := List.length_pos_iff.mpr h
  unfold atI
  have : ixN (l.map D.int).length (-1) = some (l.length - 1) := by
    unfold ixN
    rw [if_neg (by omega), if_pos (by rw [List.length_map]; omega), List.length_map]
    congr 1
    omega
  rw [this]
  show (l.map D.int)[l.length - 1]? = _
  rw [List.getElem?_map, List.getElem?_eq_getElem (by omega), List.getD_eq_getElem?_getD, List.getElem?_eq_getElem (by omega)]
  rfl
end
end Lw
end
section
set_option Elab.async false
set_option linter.all false
set_option maxRecDepth 100000
set_option maxHeartbeats 4000000
namespace Lw
open Py PySem
variable {C : Py.Ctx}
/-! ### lists of rules of rows in any order -/
structure Raw (s : Nat) (rs : List (List Int)) : Prop where
  ne : rs ≠ []
  lt : rs.length < 64
  len : ∀ r ∈ rs, r.length = s
  bit : ∀ r ∈ rs, Bits r
theorem mem_firstMet {z : List Int} : ∀ {l : List (List Int)}, z ∈ firstMet l ↔ z ∈ l
  | [] => Iff.rfl
  | x :: l => by
    rw [firstMet, List.mem_cons, List.mem_cons, List.mem_filter, mem_firstMet (l := l)]
    by_cases e : z = x
    · subst e; simp
    · simp [e]
theorem nodup_firstMet : ∀ l : List (List Int), (firstMet l).Nodup
  | [] => List.nodup_nil
  | x :: l => by
    rw [firstMet]
    refine List.nodup_cons.mpr ⟨fun h => ?_, (nodup_firstMet l).filter _⟩
    have := (List.mem_filter.mp h).2
    simp at this
theorem len_firstMet : ∀ l : List (List Int), (firstMet l).length ≤ l.length
  | [] => Nat.le_refl _
  | x :: l => by
    rw [firstMet, List.length_cons, List.length_cons]
    have := List.length_filter_le (fun y => !(y == x)) (firstMet l)
    have := len_firstMet l
    omega
def canon (rs : List (List Int)) : List (List Int) := sortRows (firstMet rs)
theorem mem_canon {rs : List (List Int)} {r : List Int} : r ∈ canon rs ↔ r ∈ rs := by unfold canon; rw [mem_sort, mem_firstMet]
theorem Raw.rows {s : Nat} {rs : List (List Int)} (h : Raw s rs) : Rows s (canon rs) := by
  refine ⟨fun e => ?_, ?_, fun r hr => h.len r (mem_canon.mp hr), fun r hr => h.bit r (mem_canon.mp hr), nodup_sort (nodup_firstMet rs), chain_sort _⟩
  · obtain ⟨r, hr⟩ := List.exists_mem_of_ne_nil _ h.ne
    have := mem_canon.mpr hr
    rw [e] at this
    cases this
  · unfold canon
    rw [len_sort]
    exact Nat.lt_of_le_of_lt (len_firstMet rs) h.lt
theorem c_are_rowsU (d s : Nat) (rs : List (List Int)) (h : Raw s rs) (hs : s ≤ 500) : callN C fns (d + 4) f_are_rows [.sh (.int s), .sh (.lst (rs.map rowD))] = .ok [.dead, .dead] (.bl true) := by
  show runFn C _ F_are_rows _ = _
  have h1 := c_is_number (C := C) (d + 1) s (by omega)
  have h0 := h.ne
  have hl := h.lt
  have e := ev_lcA (C := C) (orc := callN C fns (d + 3)) (own := [2]) (tg := .n 2) (it := .e (.var 1)) (ifs := [.not (.call f_is_row [.var 2, .var 0] [0, 1])]) (elt := .var 2) (G := [.sh (.int s), .sh (.lst (rs.map rowD)), .dead]) (G1 := [.sh (.int s), .sh (.lst (rs.map rowD)), .dead]) (b := false)
    rs rowD (fun _ => false) rowD (by simp [evSs, evS, evT, evI, ev, evs, evA, evIfs, evSq, evIt, R.bind, R.ofO, readM, readPl, Slot.path, M.path, mIndex, ixN, M.val, M.seq, E.mf, E.mfL, It.mf, cmpop, truth, fl, D.imm, D.immL, bltC, notIns, bltin, index, updPl, M.upd, setM, allLeaf, callOw, outsA, backA, Slot.isOw, D.tyOk, D.hasTy, setSrc, asgT, asgL, own1, isLst, mutM, M.fz, M.fzL, items, D.asInt, binop, eqd, D.eqOk, D.eqv]) (by rfl) (by rfl) (fun r hr => by
      simp [lcStep, evSs, evS, evT, evI, ev, evs, evA, evIfs, evSq, evIt, R.bind, R.ofO, readM, readPl, Slot.path, M.path, mIndex, ixN, M.val, M.seq, E.mf, E.mfL, It.mf, cmpop, truth, fl, D.imm, D.immL, bltC, notIns, bltin, index, updPl, M.upd, setM, allLeaf, callOw, outsA, backA, Slot.isOw, D.tyOk, D.hasTy, setSrc, asgT, asgL, own1, isLst, mutM, M.fz, M.fzL, items, D.asInt, binop, eqd, D.eqOk, D.eqv, wipe, c_is_row d r s (h.bit r hr) (h.len r hr) (by omega)]) (by rfl) (by omega)
  rw [List.filter_eq_nil_iff.mpr (by simp)] at e
  have h2 : ¬ ((rs.length : Int) = 0) := by
    have := List.length_pos_iff.mpr h0
    omega
  simp [runFn, F_are_rows, ioOk, enter, leave, evSs, evS, evT, evI, ev, evs, evA, evIfs, evSq, evIt, R.bind, R.ofO, readM, readPl, Slot.path, M.path, mIndex, ixN, M.val, M.seq, E.mf, E.mfL, It.mf, cmpop, truth, fl, D.imm, D.immL, bltC, notIns, bltin, updPl, M.upd, setM, allLeaf, callOw, outsA, backA, Slot.isOw, D.tyOk, D.hasTy, setSrc, asgT, asgL, own1, isLst, mutM, M.fz, M.fzL, items, D.asInt, binop, D.eqOk, D.eqv, eqd_int, eqd_ints, ↓e, h1, h2, h0]
theorem c_initU (d s : Nat) (rs : List (List Int)) (h : Raw s rs) (hs : s ≤ 500) : callN C fns (d + 5) f_Rules___init__ [.ow (.ins c_Rules [] []), .sh (.int s), .sh (.lst (rs.map rowD))] = .ok [.ow (.ins c_Rules [fd_size, fd_rows] [.leaf (.int s), .leaf (.tup ((canon rs).map rowD))]), .dead, .dead] .non := by
  show runFn C _ F_Rules___init__ _ = _
  have e := c_are_rowsU (C := C) d s rs h hs
  have e1 := rowsOf_mapR rs
  have e2 : sortedD ((firstMet rs).map rowD) = some (.lst ((canon rs).map rowD)) :=
    sortedD_rows (l := firstMet rs) (s := s) (fun z => by
      obtain ⟨r, hr⟩ := List.exists_mem_of_ne_nil _ h.ne
      have := mem_firstMet.mpr hr
      rw [z] at this
      cases this) (Nat.lt_of_le_of_lt (len_firstMet rs) h.lt) (fun r hr => h.len r (mem_firstMet.mp hr)) (fun r hr x hx => by
      rcases h.bit r (mem_firstMet.mp hr) x hx with rfl | rfl <;> omega) (nodup_firstMet rs)
  have hl := h.lt
  simp [runFn, F_Rules___init__, ioOk, enter, leave, evSs, evS, evT, evI, ev, evs, evA, evIfs, evSq, evIt, R.bind, R.ofO, readM, readPl, Slot.path, M.path, mIndex, ixN, M.val, M.seq, E.mf, E.mfL, It.mf, cmpop, truth, fl, D.imm, D.immL, bltC, notIns, bltin, index, updPl, M.upd, setM, allLeaf, callOw, outsA, backA, Slot.isOw, D.tyOk, D.hasTy, setSrc, asgT, asgL, own1, isLst, mutM, M.fz, M.fzL, items, D.asInt, binop, eqd, D.eqOk, D.eqv, setSrc, e, e1, e2, hl, fsetM, fldSet]
theorem eqBi (i j : Int) : cmpop .eq (.int i) (.int j) = some (.bl (decide (i = j))) := by
  show (eqd (.int i) (.int j)).map D.bl = _
  rw [eqd_int]
  show some (D.bl _) = _
  congr 2
/-! ### the rules that fit one answer -/
def shD (p : Nat) (v : Int) : D := .tup [.tup [.int p, .int v]]
theorem c_is_shown (d s : Nat) (rs : List (List Int)) (p : Nat) (v : Int) (hp : p < s) (hv : v = 0 ∨ v = 1) : callN C fns (d + 3) f_Rules_is_shown [.sh (RU s rs), .sh (shD p v)] = .ok [.dead, .dead] (.bl true) := by
  have e1 := c_is_integer (C := C) (d + 1) p
  have e2 := c_is_value (C := C) d v hv
  have g1 : cmpop .lt (.int (-1)) (.int p) = some (.bl true) := by
    show some (D.bl (decide _)) = _
    rw [decide_eq_true (by omega)]
  have g2 := ltB' p s
  rw [decide_eq_true hp] at g2
  have i0 : index (.tup [.int p, .int v]) (.int 0) = some (.int p) := rfl
  have i1 : index (.tup [.int p, .int v]) (.int 1) = some (.int v) := rfl
  have ln : bltin .len [.tup [.int (p : Int), .int v]] = some (.int 2) := rfl
  have ne : cmpop .ne (.int 2) (.int 2) = some (.bl false) := rfl
  have f1 := RU_2 s rs
  have ty : D.hasTy (.tup [.int (p : Int), .int v]) .tuple = true := rfl
  have tk : D.tyOk (.tup [.int (p : Int), .int v]) = true := rfl
  have im : D.imm (.tup [.int (p : Int), .int v]) = true := rfl
  unfold shD
  show runFn C _ F_Rules_is_shown _ = _
  generalize ((p : Nat) : Int) = w at *
  generalize RU s rs = X at *
  simp [runFn, F_Rules_is_shown, ioOk, enter, leave, evSs, evS, evT, evIt, evSq, ev, evs, R.bind, R.ofO, E.mf, E.mfL, forLoop, asgT, bltC, notIns, fl, D.imm, truth, items, unop, D.tyOk, D.hasTy, e1, e2, g1, g2, i0, i1, ln, ne, f1]
theorem c_fitting (d s : Nat) (rs : List (List Int)) (h : Rows s rs) (hs : s ≤ 500) (p : Nat) (v : Int) (hp : p < s) (hv : v = 0 ∨ v = 1) (hne : sideR p v rs ≠ []) (hini : C.init c_Rules = some f_Rules___init__) (hmS : C.mth c_Rules m_is_shown = some f_Rules_is_shown) :
    callN C fns (d + 6) f_Rules_fitting [.sh (RU s rs), .sh (shD p v)] = .ok [.dead, .dead] (RU s (canon (sideR p v rs))) ∧ Rows s (canon (sideR p v rs)) := by
  have hraw : Raw s (sideR p v rs) := ⟨hne, Nat.lt_of_le_of_lt (List.length_filter_le ..) h.lt, fun r hr => h.len r (side_mem.mp hr).1, fun r hr => h.bit r (side_mem.mp hr).1⟩
  refine ⟨?_, hraw.rows⟩
  have hlt := h.lt
  have e0 := c_is_shown (C := C) (d + 2) s rs p v hp hv
  have inner : ∀ r, r ∈ rs → ev C (callN C fns (d + 5)) (.lc [4, 5] (.t [.n 4, .n 5]) (.e (.var 1)) [] (.cmp .eq (.idx (.var 3) (.var 4)) (.var 5))) [.sh (RU s rs), .sh (shD p v), .dead, .sh (rowD r), .dead, .dead] = .ok [.sh (RU s rs), .sh (shD p v), .dead, .sh (rowD r), .dead, .dead] (.lst [.bl (decide (r.getD p 0 = v))], false) := fun r hr => by
    have z := z_row (r := r) (k := p) (by rw [h.len r hr]; exact hp)
    have eq : cmpop .eq (.int (r.getD p 0)) (.int v) = some (.bl (decide (r.getD p 0 = v))) := by
      exact eqBi _ _
    have e := ev_lcB (C := C) (orc := callN C fns (d + 5)) (own := [4, 5]) (tg := .t [.n 4, .n 5]) (it := .e (.var 1)) (elt := .cmp .eq (.idx (.var 3) (.var 4)) (.var 5)) (b := false) (G := [.sh (RU s rs), .sh (shD p v), .dead, .sh (rowD r), .dead, .dead]) (G1 := [.sh (RU s rs), .sh (shD p v), .dead, .sh (rowD r), .dead, .dead])
      [()] (fun _ => .tup [.int p, .int v]) (fun _ => .bl (decide (r.getD p 0 = v))) (by
        generalize RU s rs = X at *
        simp [evIt, evSq, ev, R.bind, R.ofO, items, shD]) (by rfl) (by rfl) (fun _ _ => by
        generalize RU s rs = X at *
        generalize rowD r = R1 at *
        generalize decide (r.getD p 0 = v) = b at *
        generalize r.getD p 0 = w at *
        simp [lcStep, evIfs, ev, R.bind, R.ofO, E.mf, fl, D.imm, asgT, asgL, wipe, z, eq]) (by rfl) (by decide)
    exact e
  have e := ev_lcA (C := C) (orc := callN C fns (d + 5)) (own := [3]) (tg := .n 3) (it := .e (.att (.var 0) fd_rows)) (ifs := [.blt .all [.lc [4, 5] (.t [.n 4, .n 5]) (.e (.var 1)) [] (.cmp .eq (.idx (.var 3) (.var 4)) (.var 5))]]) (elt := .var 3) (b := false)
    (G := [.sh (RU s rs), .sh (shD p v), .dead, .dead, .dead, .dead]) (G1 := [.sh (RU s rs), .sh (shD p v), .dead, .dead, .dead, .dead]) rs rowD (fun r => decide (r.getD p 0 = v)) rowD (by
      have f1 := RU_1 s rs
      generalize RU s rs = X at *
      simp [evIt, evSq, ev, R.bind, R.ofO, items, fl, f1]) (by rfl) (by rfl) (fun r hr => by
      have e1 := inner r hr
      generalize RU s rs = X at *
      generalize rowD r = R1 at *
      generalize shD p v = Y at *
      generalize decide (r.getD p 0 = v) = b at *
      cases b <;> simp [lcStep, evIfs, evT, ev, evs, ↓e1, R.bind, R.ofO, E.mf, E.mfL, bltC, notIns, bltin, gBools, fl, D.imm, truth, asgT, wipe]) (by rfl) (by omega)
  replace e : ev C (callN C fns (d + 5)) _ _ = R.ok _ (.lst ((sideR p v rs).map rowD), false) := e
  have i1 := c_initU (C := C) d s (sideR p v rs) hraw hs
  have hln : ¬ (((sideR p v rs).length : Int) = 0) := by
    have := List.length_pos_iff.mpr hne
    omega
  have f2 := RU_2 s rs
  have y := M_RU s (canon (sideR p v rs))
  have hmS' := hmS
  have ln : bltin .len [.lst ((sideR p v rs).map rowD)] = some (.int (sideR p v rs).length) := by
    show some (D.int _) = _
    rw [List.length_map]
  have nq : cmpop .eq (.int (sideR p v rs).length) (.int 0) = some (.bl false) := by
    rw [eqBi, decide_eq_false hln]
  have hins : ∃ ids vs, RU s rs = .ins c_Rules ids vs := ⟨_, _, rfl⟩
  obtain ⟨ids, vs, hX⟩ := hins
  have : evSs C (callN C fns (d + 5)) F_Rules_fitting.body (enter F_Rules_fitting.n [.sh (RU s rs), .sh (shD p v)]) = .ok [.sh (RU s rs), .sh (shD p v), .sh (.lst ((sideR p v rs).map rowD)), .dead, .dead, .dead] (.ret (RU s (canon (sideR p v rs)))) := by
    show evSs C _ [.ite (.not (.mth (.var 0) m_is_shown [.var 1])) [.raise] [], .asg (.n 2) (.lc [3] (.n 3) (.e (.att (.var 0) fd_rows)) [.blt .all [.lc [4, 5] (.t [.n 4, .n 5]) (.e (.var 1)) [] (.cmp .eq (.idx (.var 3) (.var 4)) (.var 5))]] (.var 3)), .ite (.cmp .eq (.blt .len [.var 2]) (.con (.int 0))) [.raise] [], .ret (.new c_Rules [.att (.var 0) fd_size, .var 2])] [.sh (RU s rs), .sh (shD p v), .dead, .dead, .dead, .dead] = _
    rw [evSs_next (G1 := [.sh (RU s rs), .sh (shD p v), .dead, .dead, .dead, .dead]) (by
      rw [hX] at e0 ⊢
      generalize shD p v = Y at *
      simp [evSs, evS, evT, ev, evs, R.bind, R.ofO, E.mfL, fl, D.imm, truth, hmS, e0])]
    rw [evSs_next (G1 := [.sh (RU s rs), .sh (shD p v), .sh (.lst ((sideR p v rs).map rowD)), .dead, .dead, .dead]) (by
      rw [evS, e]
      simp [R.bind, asgT])]
    generalize RU s (canon (sideR p v rs)) = Z at *
    generalize (sideR p v rs).map rowD = T at *
    generalize ((sideR p v rs).length : Int) = w at *
    generalize RU s rs = X at *
    generalize shD p v = Y at *
    simp [evSs, evS, evT, ev, evs, R.bind, R.ofO, E.mf, E.mfL, bltC, notIns, fl, D.imm, truth, hini, f2, ln, nq, i1, y]
  show runFn C _ F_Rules_fitting _ = _
  rw [runFn, this]
  simp [F_Rules_fitting, ioOk, leave]
end Lw
end
section
set_option Elab.async false
set_option linter.all false
set_option maxRecDepth 100000
set_option maxHeartbeats 4000000
namespace Lw
open Py PySem
variable {C : Py.Ctx}
section
variable {tab : List (List Int)} {s : Nat} (hs : s ≤ 5) (hb : ∀ r ∈ tab, ∀ x ∈ r, x = 0 ∨ x = 1) (hl : ∀ r ∈ tab, r.length = s)
include hs hb hl in
theorem c_number_of (d : Nat) (hn : tab.length ≤ 1000) : ∃ v : Int, callN C fns (d + 3) f__law_number_of [.sh (.int s), .sh (.lst (tab.map rowD))] = .ok [.dead, .dead] (.int v) ∧ NumOf s tab v := by
  have h1 := (pow3 hs).1
  have e1 := c_links (C := C) d s hs
  obtain ⟨fv, e2, f1, f2⟩ := c_fits (C := C) hs hb hl d hn
  obtain ⟨ns, e3, g1, g2⟩ := c_depths (C := C) (tab := tab) hs (d + 1) fv f1 f2
  have z := z_end (l := ns) (fun e => by rw [e] at g1; simp at g1; omega)
  rw [g1] at z
  have nv := g2 (3 ^ s - 1) (by omega)
  rw [FC_top hs] at nv
  refine ⟨_, ?_, nv⟩
  generalize ns.getD (3 ^ s - 1) 0 = w at *
  generalize lnks s = L at *
  generalize tab.map rowD = T at *
  generalize fv.map D.int = FV at *
  generalize ns.map D.int = NS at *
  show runFn C _ F__law_number_of _ = _
  simp [runFn, F__law_number_of, ioOk, enter, leave, evSs, evS, ev, evs, R.bind, R.ofO, E.mf, E.mfL, fl, D.imm, asgT, unop, e1, e2, e3, z]
end
end Lw
end
section
set_option Elab.async false
set_option linter.all false
set_option maxRecDepth 100000
set_option maxHeartbeats 4000000
namespace Lw
open Py PySem
variable {C : Py.Ctx}
theorem z_endD {xs : List D} (h : xs ≠ []) : index (.lst xs) (.int (-1)) = xs[xs.length - 1]? := by
  show atI xs (-1) = _
  have hl : 0 < xs.length := List.length_pos_iff.mpr h
  unfold atI
  have : ixN xs.length (-1) = some (xs.length - 1) := by
    unfold ixN
    rw [if_neg (by omega), if_pos (by omega)]
    congr 1
    omega
  rw [this]
  rfl
theorem lnks_end (s : Nat) (hs : s ≤ 5) : index (.lst (lnks s)) (.int (-1)) = some (lnkL s (3 ^ s - 1)) := by
  have h1 := (pow3 hs).1
  rw [z_endD (fun e => by have := lnks_len s; rw [e] at this; simp at this; omega), lnks_len]
  unfold lnks
  rw [List.getElem?_map, List.getElem?_range (by omega)]
  rfl
def lpOut : List S := match F__law_parts.body.getD 2 .pass with
  | .for_ _ _ b => b
  | _ => []
def lpIn : List S := match lpOut.getD 0 .pass with
  | .for_ _ _ b => b
  | _ => []
theorem geB0 (n : Int) : cmpop .ge (.int n) (.int 0) = some (.bl (decide (0 ≤ n))) := rfl
section
variable {rs : List (List Int)} {s : Nat} (hs : s ≤ 5) (h : Rows s rs) (hn : rs.length ≤ 60) (hwh : 100000 < C.wh) (hlen : C.lenOf c_Rules = some f_Rules___len__) (hini : C.init c_Rules = some f_Rules___init__) (hinP : C.init c_Parts = some f_Parts___init__)
  (hmS : C.mth c_Rules m_is_shown = some f_Rules_is_shown) (hmF : C.mth c_Rules m_fitting = some f_Rules_fitting)
include hs h hn hwh hlen hini hinP hmS hmF in
theorem lp_in (d p : Nat) (v n : Int) (hp : p < s) (hv : v = 0 ∨ v = 1) (hN : NumOf s (sideR p v rs) n) (x1 x2 x3 x4 x6 x7 : Slot) :
    evSs C (callN C fns (d + 6)) lpIn [.sh (RU s rs), x1, x2, x3, x4, .sh (.int p), x6, x7, .sh (.int v), .sh (.int n)] = .ok [.sh (RU s rs), x1, x2, x3, x4, .sh (.int p), x6, x7, .sh (.int v), .sh (.int n)] .next := by
  have g := geB0 n
  by_cases z : 0 ≤ n
  · rw [decide_eq_true z] at g
    have hne := hN.neg.mp z
    obtain ⟨e1, hR⟩ := c_fitting (C := C) d s rs h (by omega) p v hp hv hne hini hmS
    have hl60 : (canon (sideR p v rs)).length ≤ 60 := by
      unfold canon
      rw [len_sort]
      refine Nat.le_trans (len_firstMet _) (Nat.le_trans (List.length_filter_le ..) hn)
    obtain ⟨w, e2, hw⟩ := c_mistake_number (C := C) hs hR.bit hR.len hR.ne hl60 hwh hlen hinP d
    have hwn : w = n := hw.uniq hN fun r => mem_canon
    subst hwn
    have e3 : callN C fns (d + 6) f__law_same [.sh (.int w), .sh (.int w)] = .ok [.dead, .dead] (.bl true) := c_same (C := C) 0 (.int w) rfl (d + 5)
    obtain ⟨ids, vs, hX⟩ : ∃ ids vs, RU s rs = .ins c_Rules ids vs := ⟨_, _, rfl⟩
    unfold shD at e1
    generalize RU s (canon (sideR p v rs)) = Z at *
    rw [hX] at e1 ⊢
    unfold lpIn lpOut F__law_parts
    simp [evSs, evS, evT, ev, evs, R.bind, R.ofO, E.mf, E.mfL, fl, D.imm, truth, g, hmF, e1, e2, e3]
  · rw [decide_eq_false z] at g
    unfold lpIn lpOut F__law_parts
    generalize RU s rs = X at *
    simp [evSs, evS, evT, ev, evs, R.bind, R.ofO, E.mf, E.mfL, fl, D.imm, truth, g]
include hs h hn hwh hlen hini hinP hmS hmF in
theorem c_law_parts (d : Nat) (tab : List (List Int)) (hb : ∀ r ∈ tab, ∀ x ∈ r, x = 0 ∨ x = 1) (hl : ∀ r ∈ tab, r.length = s) (hmem : ∀ r, r ∈ tab ↔ r ∈ rs) (ht : tab.length ≤ 1000) :
    callN C fns (d + 7) f__law_parts [.sh (RU s rs), .sh (.int s), .sh (.lst (tab.map rowD))] = .ok [.dead, .dead, .dead] (.bl true) := by
  have h1 := (pow3 hs).1
  have h243 := (pow3 hs).2
  have e1 := c_links (C := C) (d + 4) s hs
  obtain ⟨fv, e2, f1, f2⟩ := c_fits (C := C) hs hb hl (d + 4) ht
  obtain ⟨ns, e3, g1, g2⟩ := c_depths (C := C) (tab := tab) hs (d + 5) fv f1 f2
  have le := lnks_end s hs
  have sd : ∀ p, p < s → NumOf s (sideR p 0 rs) (ns.getD (3 ^ s - 1 - 2 * 3 ^ p) 0) ∧ NumOf s (sideR p 1 rs) (ns.getD (3 ^ s - 1 - 3 ^ p) 0) ∧ 3 ^ s - 1 - 2 * 3 ^ p < ns.length ∧ 3 ^ s - 1 - 3 ^ p < ns.length := fun p hp => by
    have hd := dig_top s hs p hp
    have p3 := pow3 (s := p) (by omega)
    have a := g2 (3 ^ s - 1 - 2 * 3 ^ p) (by omega)
    have b := g2 (3 ^ s - 1 - 3 ^ p) (by omega)
    rw [FC_no hs (by omega) hp hd, FC_top hs] at a
    rw [FC_yes hs (by omega) hp hd, FC_top hs] at b
    have cg : ∀ v r, r ∈ sideR p v tab ↔ r ∈ sideR p v rs := fun v r => by rw [side_mem, side_mem, hmem r]
    exact ⟨a.congr (cg 0), b.congr (cg 1), by omega, by omega⟩
  obtain ⟨G2, e4, x5, x6, x7, x8, x9, rfl⟩ := evS_forL (C := C) (orc := callN C fns (d + 6)) (tg := .t [.n 5, .n 6, .n 7]) (it := .e (.idx (.var 3) (.un .neg (.con (.int 1))))) (body := lpOut)
    (G := [.sh (RU s rs), .sh (.int s), .sh (.lst (tab.map rowD)), .sh (.lst (lnks s)), .sh (.lst (ns.map D.int)), .dead, .dead, .dead, .dead, .dead]) (G1 := [.sh (RU s rs), .sh (.int s), .sh (.lst (tab.map rowD)), .sh (.lst (lnks s)), .sh (.lst (ns.map D.int)), .dead, .dead, .dead, .dead, .dead]) (ds := (free s (3 ^ s - 1)).map (lnkD (3 ^ s - 1)))
    (fun k (G : Py.Env) => ∃ (x5 x6 x7 x8 x9 : Slot), G = [.sh (RU s rs), .sh (.int s), .sh (.lst (tab.map rowD)), .sh (.lst (lnks s)), .sh (.lst (ns.map D.int)), x5, x6, x7, x8, x9])
    (by
      unfold lnkL at le
      generalize lnks s = L at *
      generalize (free s (3 ^ s - 1)).map (lnkD (3 ^ s - 1)) = Z at *
      generalize RU s rs = X at *
      simp [evIt, evSq, ev, R.bind, R.ofO, E.mf, fl, D.imm, items, unop, le]) ⟨_, _, _, _, _, rfl⟩ (fun j hj G hG => by
      obtain ⟨x5, x6, x7, x8, x9, rfl⟩ := hG
      have hjl : j < (free s (3 ^ s - 1)).length := by simpa using hj
      have hpm : (free s (3 ^ s - 1))[j] ∈ free s (3 ^ s - 1) := List.getElem_mem hjl
      obtain ⟨hp, hd⟩ := mem_free.mp hpm
      rw [List.getElem_map]
      generalize (free s (3 ^ s - 1))[j] = p at *
      obtain ⟨n0, n1, l0, l1⟩ := sd p hp
      have z0 := z_lst l0
      have z1 := z_lst l1
      have el : lnkD (3 ^ s - 1) p = .tup [.int p, .int (3 ^ s - 1 - 2 * 3 ^ p : Nat), .int (3 ^ s - 1 - 3 ^ p : Nat)] := rfl
      rw [el]
      generalize ns.getD (3 ^ s - 1 - 2 * 3 ^ p) 0 = a at *
      generalize ns.getD (3 ^ s - 1 - 3 ^ p) 0 = b at *
      generalize 3 ^ s - 1 - 2 * 3 ^ p = c0 at *
      generalize 3 ^ s - 1 - 3 ^ p = c1 at *
      have q0 := lp_in (C := C) hs h hn hwh hlen hini hinP hmS hmF d p 0 a hp (.inl rfl) n0 (.sh (.int s)) (.sh (.lst (tab.map rowD))) (.sh (.lst (lnks s))) (.sh (.lst (ns.map D.int))) (.sh (.int c0)) (.sh (.int c1))
      have q1 := lp_in (C := C) hs h hn hwh hlen hini hinP hmS hmF d p 1 b hp (.inr rfl) n1 (.sh (.int s)) (.sh (.lst (tab.map rowD))) (.sh (.lst (lnks s))) (.sh (.lst (ns.map D.int))) (.sh (.int c0)) (.sh (.int c1))
      refine ⟨[.sh (RU s rs), .sh (.int s), .sh (.lst (tab.map rowD)), .sh (.lst (lnks s)), .sh (.lst (ns.map D.int)), .sh (.int p), .sh (.int c0), .sh (.int c1), x8, x9], [.sh (RU s rs), .sh (.int s), .sh (.lst (tab.map rowD)), .sh (.lst (lnks s)), .sh (.lst (ns.map D.int)), .sh (.int p), .sh (.int c0), .sh (.int c1), .sh (.int 1), .sh (.int b)], by simp [asgT, asgL], ?_, _, _, _, _, _, rfl⟩
      have it : evIt C (callN C fns (d + 6)) (.e (.lst [.tup [.con (.int 0), .idx (.var 4) (.var 6)], .tup [.con (.int 1), .idx (.var 4) (.var 7)]])) [.sh (RU s rs), .sh (.int s), .sh (.lst (tab.map rowD)), .sh (.lst (lnks s)), .sh (.lst (ns.map D.int)), .sh (.int p), .sh (.int c0), .sh (.int c1), x8, x9] = .ok [.sh (RU s rs), .sh (.int s), .sh (.lst (tab.map rowD)), .sh (.lst (lnks s)), .sh (.lst (ns.map D.int)), .sh (.int p), .sh (.int c0), .sh (.int c1), x8, x9] ([.tup [.int 0, .int a], .tup [.int 1, .int b]], false) := by
        generalize ns.map D.int = NS at *
        generalize RU s rs = X at *
        generalize lnks s = L at *
        simp [evIt, evSq, ev, evs, R.bind, R.ofO, E.mf, E.mfL, fl, D.imm, items, z0, z1]
      have fo := evS_for (C := C) (orc := callN C fns (d + 6)) (tg := .t [.n 8, .n 9]) (body := lpIn) (G2 := [.sh (RU s rs), .sh (.int s), .sh (.lst (tab.map rowD)), .sh (.lst (lnks s)), .sh (.lst (ns.map D.int)), .sh (.int p), .sh (.int c0), .sh (.int c1), .sh (.int 1), .sh (.int b)]) (o := .next) it (by
        generalize ns.map D.int = NS at *
        generalize RU s rs = X at *
        generalize lnks s = L at *
        generalize tab.map rowD = T at *
        simp [forLoop, asgT, asgL, R.bind, q0, q1])
      exact (evSs_next (ss := []) fo).trans rfl)
  have : evSs C (callN C fns (d + 6)) F__law_parts.body (enter F__law_parts.n [.sh (RU s rs), .sh (.int s), .sh (.lst (tab.map rowD))]) = .ok [.sh (RU s rs), .sh (.int s), .sh (.lst (tab.map rowD)), .sh (.lst (lnks s)), .sh (.lst (ns.map D.int)), x5, x6, x7, x8, x9] (.ret (.bl true)) := by
    show evSs C _ [.asg (.n 3) (.call f__law_links [.var 1] [0]), .asg (.n 4) (.call f__law_depths [.var 3, .call f__law_fits [.var 3, .var 2] [0, 1]] [0, 1]), .for_ (.t [.n 5, .n 6, .n 7]) (.e (.idx (.var 3) (.un .neg (.con (.int 1))))) lpOut, .ret (.con (.bl true))] [.sh (RU s rs), .sh (.int s), .sh (.lst (tab.map rowD)), .dead, .dead, .dead, .dead, .dead, .dead, .dead] = _
    rw [evSs_next (G1 := [.sh (RU s rs), .sh (.int s), .sh (.lst (tab.map rowD)), .sh (.lst (lnks s)), .dead, .dead, .dead, .dead, .dead, .dead]) (by
      generalize RU s rs = X at *
      generalize lnks s = L at *
      simp [evS, ev, evs, R.bind, E.mfL, fl, asgT, e1])]
    rw [evSs_next (G1 := [.sh (RU s rs), .sh (.int s), .sh (.lst (tab.map rowD)), .sh (.lst (lnks s)), .sh (.lst (ns.map D.int)), .dead, .dead, .dead, .dead, .dead]) (by
      generalize RU s rs = X at *
      generalize lnks s = L at *
      generalize ns.map D.int = NS at *
      generalize fv.map D.int = FV at *
      simp [evS, ev, evs, R.bind, E.mf, E.mfL, fl, asgT, e2, e3])]
    rw [evSs_next e4]
    simp [evSs, evS, ev, R.bind]
  show runFn C _ F__law_parts _ = _
  rw [runFn, this]
  simp [F__law_parts, ioOk, leave]
end
end Lw
end
section
set_option Elab.async false
set_option linter.all false
set_option maxRecDepth 100000
set_option maxHeartbeats 4000000
namespace Lw
open Py PySem
variable {C : Py.Ctx}
def fm0 (s : Nat) : List (List Int) := (List.range (2 ^ s)).map (bb s)
def fm1 (s : Nat) : List (List Int) := (List.range (s + 1)).map fun k => bb s (2 ^ k - 1)
def fm2 (s : Nat) : List (List Int) := List.replicate s 0 :: (List.range s).map fun k => bb s (2 ^ k)
def fm3 (s n : Nat) : List (List Int) := [bb s n, (bb s n).map fun x => 1 - x]
def due1 (s : Nat) : Nat := [0, 1, 1, 2, 2, 2].getD s 0
def okR (s : Nat) (r : List Int) : Bool := decide (r.length = s) && r.all fun x => decide (x = 0 ∨ x = 1)
theorem okR_of {s : Nat} {l : List (List Int)} (h : l.all (okR s) = true) : ∀ r ∈ l, r.length = s ∧ ∀ x ∈ r, x = 0 ∨ x = 1 := fun r hr => by
  have := List.all_eq_true.mp h r hr
  unfold okR at this
  rw [Bool.and_eq_true, decide_eq_true_eq, List.all_eq_true] at this
  exact ⟨this.1, fun x hx => of_decide_eq_true (this.2 x hx)⟩
theorem fm_ok : ∀ s, s ≤ 5 → (fm0 s).all (okR s) = true ∧ (fm1 s).all (okR s) = true ∧ (fm2 s).all (okR s) = true ∧ ∀ n, n < 2 ^ s → (fm3 s n).all (okR s) = true := by decide +kernel
theorem fm_fill : ∀ s, s ≤ 5 → fillB s s (fm0 s) = true ∧ fillB s (due1 s) (fm1 s) = true ∧ fillB s (min s 1) (fm2 s) = true ∧ fillB s (min s 1 + 1) (fm2 s) = false ∧ ∀ n, n < 2 ^ s → fillB s (min s 1) (fm3 s n) = true ∧ fillB s (min s 1 + 1) (fm3 s n) = false := by decide +kernel
theorem due_card : ∀ s, s ≤ 5 → s + 1 < 2 ^ (due1 s + 1) := by decide
theorem fm_num (s : Nat) (hs : s ≤ 5) : NumOf s (fm0 s) s ∧ NumOf s (fm1 s) (due1 s) ∧ NumOf s (fm2 s) (min s 1 : Nat) ∧ ∀ n, n < 2 ^ s → NumOf s (fm3 s n) (min s 1 : Nat) := by
  obtain ⟨a, b, c, c', e⟩ := fm_fill s hs
  refine ⟨NumOf.of (fillB_iff.mp a) fun f => ?_, NumOf.of (fillB_iff.mp b) fun f => ?_, NumOf.of (fillB_iff.mp c) fun f => ?_, fun n hn => NumOf.of (fillB_iff.mp (e n hn).1) fun f => ?_⟩
  · have := fill_card f
    unfold fm0 at this
    rw [List.length_map, List.length_range, Nat.pow_succ] at this
    have : 1 ≤ 2 ^ s := Nat.pow_pos (by decide)
    omega
  · have := fill_card f
    unfold fm1 at this
    rw [List.length_map, List.length_range] at this
    have := due_card s hs
    omega
  · rw [fillB_iff.mpr f] at c'
    cases c'
  · have z := (e n hn).2
    rw [fillB_iff.mpr f] at z
    cases z
theorem raw_of {s : Nat} {rs : List (List Int)} (h0 : rs ≠ []) (hl : rs.length < 64) (h : ∀ r ∈ rs, r.length = s ∧ ∀ x ∈ r, x = 0 ∨ x = 1) : Raw s rs := ⟨h0, hl, fun r hr => (h r hr).1, fun r hr => (h r hr).2⟩
theorem fsizes : ∀ x, x < 6 → [2, 3, 4, 5, 1, 0].getD x 0 ≤ 5 := by decide
def foB (k : Nat) : S := F__law_formed.body.getD k .pass
theorem fo0 (d s : Nat) (hs : s ≤ 5) (m : M) (x2 x3 x5 x6 : Slot) : ev C (callN C fns (d + 1)) (.lc [4] (.n 4) (.rng1 (.bin .shl (.con (.int 1)) (.var 1))) [] (.call f__law_bits [.var 4, .var 1] [0, 1])) [.ow m, .sh (.int s), x2, x3, .dead, x5, x6] = .ok [.ow m, .sh (.int s), x2, x3, .dead, x5, x6] (.lst ((fm0 s).map rowD), false) := by
  have sh := shlK (n := s) (by omega)
  have p5 := pow5 hs
  have e := ev_lcRa (C := C) (orc := callN C fns (d + 1)) (v := 4) (s := 2 ^ s) (a := .bin .shl (.con (.int 1)) (.var 1)) (elt := .call f__law_bits [.var 4, .var 1] [0, 1]) (b := false) (G := [.ow m, .sh (.int s), x2, x3, .dead, x5, x6]) (G1 := [.ow m, .sh (.int s), x2, x3, .dead, x5, x6]) (fun k => rowD (bb s k))
    (by
      generalize ((2 ^ s : Nat) : Int) = w at *
      simp [ev, R.bind, R.ofO, E.mf, fl, D.imm, sh]) (by omega) (by rfl) (by rfl) (fun k hk => by
      have e1 := c_bits (C := C) d s k (by omega)
      generalize rowD (bb s k) = R1 at *
      simp [lcStep, evIfs, ev, evs, R.bind, E.mf, E.mfL, fl, asgT, wipe, e1])
  rw [e]
  unfold fm0
  rw [List.map_map]
  rfl
theorem fo1 (d s : Nat) (hs : s ≤ 5) (m : M) (x2 x3 x4 x6 : Slot) : ev C (callN C fns (d + 1)) (.lc [5] (.n 5) (.rng1 (.bin .add (.var 1) (.con (.int 1)))) [] (.call f__law_bits [.bin .sub (.bin .shl (.con (.int 1)) (.var 5)) (.con (.int 1)), .var 1] [0, 1])) [.ow m, .sh (.int s), x2, x3, x4, .dead, x6] = .ok [.ow m, .sh (.int s), x2, x3, x4, .dead, x6] (.lst ((fm1 s).map rowD), false) := by
  have ad : binop .add (.int (s : Nat)) (.int 1) = some (.int ((s + 1 : Nat) : Int)) := rfl
  have e := ev_lcRa (C := C) (orc := callN C fns (d + 1)) (v := 5) (s := s + 1) (a := .bin .add (.var 1) (.con (.int 1))) (elt := .call f__law_bits [.bin .sub (.bin .shl (.con (.int 1)) (.var 5)) (.con (.int 1)), .var 1] [0, 1]) (b := false) (G := [.ow m, .sh (.int s), x2, x3, x4, .dead, x6]) (G1 := [.ow m, .sh (.int s), x2, x3, x4, .dead, x6]) (fun k => rowD (bb s (2 ^ k - 1)))
    (by
      generalize ((s + 1 : Nat) : Int) = w at *
      simp [ev, R.bind, R.ofO, E.mf, fl, D.imm, ad]) (by omega) (by rfl) (by rfl) (fun k hk => by
      have e1 := c_bits (C := C) d s (2 ^ k - 1) (by omega)
      have sh := shlK (n := k) (by omega)
      have p1 : 1 ≤ 2 ^ k := Nat.pow_pos (by decide)
      have sb : binop .sub (.int ((2 ^ k : Nat) : Int)) (.int 1) = some (.int ((2 ^ k - 1 : Nat) : Int)) := by
        show some (D.int _) = _
        congr 2
        omega
      generalize ((2 ^ k - 1 : Nat) : Int) = w2 at *
      generalize rowD (bb s (2 ^ k - 1)) = R1 at *
      generalize ((2 ^ k : Nat) : Int) = w at *
      simp [lcStep, evIfs, ev, evs, R.bind, R.ofO, E.mf, E.mfL, fl, D.imm, asgT, wipe, sh, sb, e1])
  rw [e]
  unfold fm1
  rw [List.map_map]
  rfl
theorem fo2 (d s : Nat) (hs : s ≤ 5) (m : M) (x2 x3 x4 x6 : Slot) : ev C (callN C fns (d + 1)) (.lc [5] (.n 5) (.rng1 (.var 1)) [] (.call f__law_bits [.bin .shl (.con (.int 1)) (.var 5), .var 1] [0, 1])) [.ow m, .sh (.int s), x2, x3, x4, .dead, x6] = .ok [.ow m, .sh (.int s), x2, x3, x4, .dead, x6] (.lst (((List.range s).map fun k => bb s (2 ^ k)).map rowD), false) := by
  have e := ev_lcRa (C := C) (orc := callN C fns (d + 1)) (v := 5) (s := s) (a := .var 1) (elt := .call f__law_bits [.bin .shl (.con (.int 1)) (.var 5), .var 1] [0, 1]) (b := false) (G := [.ow m, .sh (.int s), x2, x3, x4, .dead, x6]) (G1 := [.ow m, .sh (.int s), x2, x3, x4, .dead, x6]) (fun k => rowD (bb s (2 ^ k)))
    (by simp [ev]) (by omega) (by rfl) (by rfl) (fun k hk => by
      have e1 := c_bits (C := C) d s (2 ^ k) (by omega)
      have sh := shlK (n := k) (by omega)
      generalize rowD (bb s (2 ^ k)) = R1 at *
      generalize ((2 ^ k : Nat) : Int) = w at *
      simp [lcStep, evIfs, ev, evs, R.bind, R.ofO, E.mf, E.mfL, fl, D.imm, asgT, wipe, sh, e1])
  rw [e]
  rw [List.map_map]
  rfl
theorem fo3 (d s : Nat) (q : List Int) (hq : q.length ≤ 1000) (m : M) (x2 x4 x5 : Slot) : ev C (callN C fns (d + 1)) (.lc [6] (.n 6) (.e (.var 3)) [] (.bin .sub (.con (.int 1)) (.var 6))) [.ow m, .sh (.int s), x2, .sh (rowD q), x4, x5, .dead] = .ok [.ow m, .sh (.int s), x2, .sh (rowD q), x4, x5, .dead] (.lst ((q.map fun x => 1 - x).map D.int), false) := by
  have e := ev_lcB (C := C) (orc := callN C fns (d + 1)) (own := [6]) (tg := .n 6) (it := .e (.var 3)) (elt := .bin .sub (.con (.int 1)) (.var 6)) (b := false) (G := [.ow m, .sh (.int s), x2, .sh (rowD q), x4, x5, .dead]) (G1 := [.ow m, .sh (.int s), x2, .sh (rowD q), x4, x5, .dead]) q D.int (fun x => .int (1 - x))
    (by simp [evIt, evSq, ev, R.bind, R.ofO, items, rowD]) (by rfl) (by rfl) (fun x hx => by
      have sb : binop .sub (.int 1) (.int x) = some (.int (1 - x)) := rfl
      generalize (1 - x) = w at *
      simp [lcStep, evIfs, ev, R.bind, R.ofO, E.mf, fl, D.imm, asgT, wipe, sb]) (by rfl) (by omega)
  rw [e]
  rw [List.map_map]
  rfl
theorem rep0 (s : Nat) (hs : s ≤ 5) : binop .mul (.tup [.int 0]) (.int s) = some (rowD (List.replicate s 0)) := by
  have : s = 0 ∨ s = 1 ∨ s = 2 ∨ s = 3 ∨ s = 4 ∨ s = 5 := by omega
  rcases this with rfl | rfl | rfl | rfl | rfl | rfl <;> rfl
end Lw
end
section
set_option Elab.async false
set_option linter.all false
set_option maxRecDepth 100000
set_option maxHeartbeats 4000000
namespace Lw
open Py PySem
variable {C : Py.Ctx}
theorem minN (a b : Nat) : bltin .min [.int (a : Nat), .int (b : Nat)] = some (.int ((min a b : Nat) : Int)) := by
  show some (D.int (if (b : Int) < (a : Int) then (b : Int) else (a : Int))) = _
  congr 2
  split <;> omega
theorem c_formed (d : Nat) (m : M) (hm : Dr m) : ∃ (m' : M) (s due : Nat) (rs : List (List Int)), callN C fns (d + 2) f__law_formed [.ow m] = .ok [.ow m'] (.lst [.int s, .lst (rs.map rowD), .int due]) ∧ Dr m' ∧ s ≤ 5 ∧ Raw s rs ∧ rs.length ≤ 60 ∧ NumOf s rs due := by
  obtain ⟨m1, k1, e1, b1, q1⟩ := c_next (C := C) d 6 (by omega) (by omega) m hm
  obtain ⟨m2, k2, e2, b2, q2⟩ := c_next (C := C) d 4 (by omega) (by omega) m1 b1
  have e1 : callN C fns (d + 1) f__law_next [.ow m, .sh (.int 6)] = _ := e1
  have e2 : callN C fns (d + 1) f__law_next [.ow m1, .sh (.int 4)] = _ := e2
  have z : index (.lst [.int 2, .int 3, .int 4, .int 5, .int 1, .int 0]) (.int k1) = some (.int ([2, 3, 4, 5, 1, 0].getD k1 0 : Nat)) := z_nat (ns := [2, 3, 4, 5, 1, 0]) q1
  have hs := fsizes k1 q1
  generalize [2, 3, 4, 5, 1, 0].getD k1 0 = s at *
  obtain ⟨n0, n1, n2, n3⟩ := fm_num s hs
  obtain ⟨o0, o1, o2, o3⟩ := fm_ok s hs
  have p5 := pow5 hs
  have zd : index (.lst [.int 0, .int 1, .int 1, .int 2, .int 2, .int 2]) (.int s) = some (.int (due1 s : Nat)) := z_nat (ns := [0, 1, 1, 2, 2, 2]) (by show s < 6; omega)
  have mn := minN s 1
  have r0 := rep0 s hs
  have st0 : evS C (callN C fns (d + 1)) (foB 0) [.ow m, .dead, .dead, .dead, .dead, .dead, .dead] = .ok [.ow m1, .sh (.int s), .dead, .dead, .dead, .dead, .dead] .next := by
    unfold foB F__law_formed
    generalize ((s : Nat) : Int) = w at *
    simp [evS, ev, evs, evA, R.bind, R.ofO, E.mf, E.mfL, callOw, outsA, backA, Slot.isOw, fl, D.imm, asgT, e1, z]
  have st1 : evS C (callN C fns (d + 1)) (foB 1) [.ow m1, .sh (.int s), .dead, .dead, .dead, .dead, .dead] = .ok [.ow m2, .sh (.int s), .sh (.int k2), .dead, .dead, .dead, .dead] .next := by
    unfold foB F__law_formed
    simp [evS, ev, evs, evA, R.bind, R.ofO, E.mf, E.mfL, callOw, outsA, backA, Slot.isOw, fl, D.imm, asgT, e2]
  have hbody : F__law_formed.body = [foB 0, foB 1, foB 2, foB 3, foB 4, foB 5, foB 6] := rfl
  have fin : ∀ (m' : M) (G : Py.Env) (v : D), evSs C (callN C fns (d + 1)) [foB 2, foB 3, foB 4, foB 5, foB 6] [.ow m2, .sh (.int s), .sh (.int k2), .dead, .dead, .dead, .dead] = .ok (.ow m' :: G) (.ret v) → callN C fns (d + 2) f__law_formed [.ow m] = .ok [.ow m'] v := fun m' G v hv => by
    have : evSs C (callN C fns (d + 1)) F__law_formed.body (enter F__law_formed.n [.ow m]) = .ok (.ow m' :: G) (.ret v) := by
      rw [hbody]
      show evSs C _ _ [.ow m, .dead, .dead, .dead, .dead, .dead, .dead] = _
      rw [evSs_next st0, evSs_next st1]
      exact hv
    show runFn C _ F__law_formed _ = _
    rw [runFn, this]
    simp [F__law_formed, ioOk, leave]
  have hk : k2 = 0 ∨ k2 = 1 ∨ k2 = 2 ∨ k2 = 3 := by omega
  rcases hk with rfl | rfl | rfl | rfl
  · have l0 := fo0 (C := C) d s hs m2 (.sh (.int (0 : Nat))) .dead .dead .dead
    have c := fin m2 [.sh (.int s), .sh (.int (0 : Nat)), .dead, .dead, .dead, .dead] (.lst [.int s, .lst ((fm0 s).map rowD), .int s]) (by
      unfold foB F__law_formed
      generalize (fm0 s).map rowD = T at *
      simp only [List.getD_cons_succ, List.getD_cons_zero]
      simp [evSs, evS, evT, ev, evs, R.bind, R.ofO, E.mf, E.mfL, fl, D.imm, truth, eqBi] at l0 ⊢
      simp [l0])
    exact ⟨m2, s, s, fm0 s, c, b2, hs, raw_of (fun e => by have := congrArg List.length e; unfold fm0 at this; rw [List.length_map, List.length_range, List.length_nil] at this; omega) (by unfold fm0; rw [List.length_map, List.length_range]; omega) (okR_of o0), by unfold fm0; rw [List.length_map, List.length_range]; omega, n0⟩
  · have l0 := fo1 (C := C) d s hs m2 (.sh (.int (1 : Nat))) .dead .dead .dead
    have c := fin m2 [.sh (.int s), .sh (.int (1 : Nat)), .dead, .dead, .dead, .dead] (.lst [.int s, .lst ((fm1 s).map rowD), .int (due1 s)]) (by
      unfold foB F__law_formed
      generalize (fm1 s).map rowD = T at *
      generalize ((due1 s : Nat) : Int) = w at *
      simp only [List.getD_cons_succ, List.getD_cons_zero]
      simp [evSs, evS, evT, ev, evs, R.bind, R.ofO, E.mf, E.mfL, fl, D.imm, truth, eqBi] at l0 ⊢
      simp [l0, zd])
    exact ⟨m2, s, due1 s, fm1 s, c, b2, hs, raw_of (fun e => by have := congrArg List.length e; unfold fm1 at this; rw [List.length_map, List.length_range, List.length_nil] at this; omega) (by unfold fm1; rw [List.length_map, List.length_range]; omega) (okR_of o1), by unfold fm1; rw [List.length_map, List.length_range]; omega, n1⟩
  · have l0 := fo2 (C := C) d s hs m2 (.sh (.int (2 : Nat))) .dead .dead .dead
    have ap : binop .add (.lst [rowD (List.replicate s 0)]) (.lst (((List.range s).map fun k => bb s (2 ^ k)).map rowD)) = some (.lst ((fm2 s).map rowD)) := by
      show (if lenOk _ = true then some (D.lst _) else none) = _
      rw [if_pos (by unfold lenOk; rw [List.length_map, List.length_map, List.length_range]; exact decide_eq_true (by show 1 + s ≤ 16777216; omega))]
      rfl
    have c := fin m2 [.sh (.int s), .sh (.int (2 : Nat)), .dead, .dead, .dead, .dead] (.lst [.int s, .lst ((fm2 s).map rowD), .int (min s 1 : Nat)]) (by
      unfold foB F__law_formed
      have im : D.imm (rowD (List.replicate s 0)) = true := by
        have : s = 0 ∨ s = 1 ∨ s = 2 ∨ s = 3 ∨ s = 4 ∨ s = 5 := by omega
        rcases this with h | h | h | h | h | h <;> rw [h] <;> rfl
      generalize (fm2 s).map rowD = T at *
      generalize ((List.range s).map fun k => bb s (2 ^ k)).map rowD = T2 at *
      generalize rowD (List.replicate s 0) = T3 at *
      generalize ((min s 1 : Nat) : Int) = w at *
      simp only [List.getD_cons_succ, List.getD_cons_zero]
      simp [evSs, evS, evT, ev, evs, R.bind, R.ofO, E.mf, E.mfL, fl, D.imm, truth, eqBi] at l0 ⊢
      have mn' : bltin .min [.int (s : Nat), .int 1] = some (.int w) := mn
      simp [bltC, notIns, l0, mn', r0, ap, fl, im])
    exact ⟨m2, s, min s 1, fm2 s, c, b2, hs, raw_of (fun e => by cases e) (by unfold fm2; rw [List.length_cons, List.length_map, List.length_range]; omega) (okR_of o2), by unfold fm2; rw [List.length_cons, List.length_map, List.length_range]; omega, n2⟩
  · obtain ⟨m3, n, e3, b3, q3⟩ := c_next (C := C) d (2 ^ s) (by omega) (by omega) m2 b2
    have e4 := c_bits (C := C) d s n (by omega)
    have hlen : (bb s n).length = s := bb_len s n
    have l0 := fo3 (C := C) d s (bb s n) (by omega) m3 (.sh (.int 3)) .dead .dead
    have sh := shlK (n := s) (by omega)
    have c := fin m3 [.sh (.int s), .sh (.int (3 : Nat)), .sh (rowD (bb s n)), .dead, .dead, .dead] (.lst [.int s, .lst ((fm3 s n).map rowD), .int (min s 1 : Nat)]) (by
      unfold foB F__law_formed
      have e5 : (fm3 s n).map rowD = [rowD (bb s n), .tup (((bb s n).map fun x => 1 - x).map D.int)] := rfl
      rw [e5]
      generalize ((bb s n).map fun x => 1 - x).map D.int = T at *
      generalize rowD (bb s n) = T3 at *
      generalize ((min s 1 : Nat) : Int) = w at *
      generalize ((2 ^ s : Nat) : Int) = w2 at *
      simp only [List.getD_cons_succ, List.getD_cons_zero]
      have mn' : bltin .min [.int (s : Nat), .int 1] = some (.int w) := mn
      have s2 : bltin .tuple [.lst T] = some (.tup T) := rfl
      simp [evSs, evS, evT, ev, evs, evA, ↓l0, R.bind, R.ofO, E.mf, E.mfL, callOw, outsA, backA, Slot.isOw, fl, D.imm, truth, asgT, eqBi, sh, e3, e4, bltC, notIns, mn', s2])
    exact ⟨m3, s, min s 1, fm3 s n, c, b3, hs, raw_of (fun e => by cases e) (by show 2 < 64; decide) (okR_of (o3 n q3)), by show 2 ≤ 60; decide, n3 n q3⟩
end Lw
end
section
set_option Elab.async false
set_option linter.all false
set_option maxRecDepth 100000
set_option maxHeartbeats 4000000
namespace Lw
open Py PySem
variable {C : Py.Ctx}
theorem eqOkL_rows (n : Nat) : ∀ l : List (List Int), D.eqOkL (n + 1) (l.map rowD) = true
  | [] => rfl
  | r :: l => by
    show (D.eqOk (n + 1) (.tup (r.map D.int)) && D.eqOkL (n + 1) (l.map rowD)) = true
    rw [eqOkL_rows n l, Bool.and_true]
    exact eqOkL_ints n r
theorem any_rows (r : List Int) : ∀ l : List (List Int), ((l.map rowD).any fun x => D.eqv x (rowD r)) = decide (r ∈ l)
  | [] => rfl
  | x :: l => by
    rw [List.map_cons, List.any_cons, any_rows r l]
    show (D.eqvL (x.map D.int) (r.map D.int) || _) = _
    rw [eqvL_ints]
    rw [Bool.eq_iff_iff, Bool.or_eq_true, beq_iff_eq, decide_eq_true_eq, decide_eq_true_eq, List.mem_cons]
    exact ⟨fun h => h.imp Eq.symm id, fun h => h.imp Eq.symm id⟩
theorem nmem_rows (r : List Int) (l : List (List Int)) : cmpop .nmem (rowD r) (.lst (l.map rowD)) = some (.bl (decide (r ∉ l))) := by
  show (if memOk (rowD r) (l.map rowD) = true then some (D.bl (!(l.map rowD).any fun x => D.eqv x (rowD r))) else none) = _
  have : memOk (rowD r) (l.map rowD) = true := by
    show (D.eqOkL 63 (r.map D.int) && D.eqOkL 63 (l.map rowD)) = true
    rw [eqOkL_ints, eqOkL_rows 62]
    rfl
  rw [if_pos this, any_rows]
  by_cases h : r ∈ l <;> simp [h]
def alB (k : Nat) : S := F__law_all.body.getD k .pass
def al4 : List S := match alB 4 with
  | .for_ _ _ b => b
  | _ => []
theorem raw_snoc {s : Nat} {sec : List (List Int)} {r : List Int} (h : Raw s sec) (hl : sec.length < 63) (hr : r.length = s) (hb : Bits r) : Raw s (sec ++ [r]) := by
  refine ⟨by simp, by rw [List.length_append]; show sec.length + 1 < 64; omega, fun x hx => ?_, fun x hx => ?_⟩
  · rcases List.mem_append.mp hx with hx | hx
    · exact h.len x hx
    · rw [List.mem_singleton.mp hx]; exact hr
  · rcases List.mem_append.mp hx with hx | hx
    · exact h.bit x hx
    · rw [List.mem_singleton.mp hx]; exact hb
theorem al4_ok (d s : Nat) (hs : s ≤ 5) (tab sec0 : List (List Int)) (h0 : Raw s sec0) (n0 : sec0.Nodup) (l0 : sec0.length ≤ 16) (ht : tab.length ≤ 16) (x0 x1 x2 x5 x6 x7 x11 x12 x13 x14 : Slot) :
    ∃ (sec : List (List Int)) (y4 y10 : Slot), evS C (callN C fns (d + 1)) (alB 4) [x0, x1, x2, .ow (ownL (sec0.map rowD)), .dead, x5, x6, x7, .sh (.int s), .sh (.lst (tab.map rowD)), .dead, x11, x12, x13, x14] = .ok [x0, x1, x2, .ow (ownL (sec.map rowD)), y4, x5, x6, x7, .sh (.int s), .sh (.lst (tab.map rowD)), y10, x11, x12, x13, x14] .next ∧ Raw s sec ∧ sec.Nodup ∧ sec.length ≤ 16 := by
  have p5 := pow5 hs
  have sh := shlK (n := s) (by omega)
  obtain ⟨G2, e, sec, y4, y10, rfl, h1, h2, h3⟩ := evS_forR (C := C) (orc := callN C fns (d + 1)) (tg := .n 4) (a := .bin .shl (.con (.int 1)) (.var 8)) (body := al4) (b := false)
    (G := [x0, x1, x2, .ow (ownL (sec0.map rowD)), .dead, x5, x6, x7, .sh (.int s), .sh (.lst (tab.map rowD)), .dead, x11, x12, x13, x14]) (G1 := [x0, x1, x2, .ow (ownL (sec0.map rowD)), .dead, x5, x6, x7, .sh (.int s), .sh (.lst (tab.map rowD)), .dead, x11, x12, x13, x14]) (2 ^ s)
    (fun k (G : Py.Env) => ∃ (sec : List (List Int)) (y4 y10 : Slot), G = [x0, x1, x2, .ow (ownL (sec.map rowD)), y4, x5, x6, x7, .sh (.int s), .sh (.lst (tab.map rowD)), y10, x11, x12, x13, x14] ∧ Raw s sec ∧ sec.Nodup ∧ sec.length ≤ 16)
    (by
      generalize ((2 ^ s : Nat) : Int) = w at *
      simp [ev, R.bind, R.ofO, E.mf, fl, D.imm, sh]) (by omega) ⟨sec0, _, _, rfl, h0, n0, l0⟩ (fun k hk G hG => by
      obtain ⟨sec, y4, y10, rfl, h1, h2, h3⟩ := hG
      have e1 := c_bits (C := C) d s k (by omega)
      have hlen := bb_len s k
      have hbit := bb_ok s k
      have vv := ownL_val (sec.map rowD)
      have nm := nmem_rows (bb s k) sec
      have lt := ltB' sec.length tab.length
      have ln1 : bltin .len [.lst (sec.map rowD)] = some (.int sec.length) := by
        show some (D.int _) = _
        rw [List.length_map]
      have ln2 : bltin .len [.lst (tab.map rowD)] = some (.int tab.length) := by
        show some (D.int _) = _
        rw [List.length_map]
      by_cases hc : sec.length < tab.length ∧ bb s k ∉ sec
      · have pu := ownL_push (sec.map rowD) (rowD (bb s k)) (by rw [List.length_map]; omega)
        have il := ownL_isLst (sec.map rowD)
        have em : sec.map rowD ++ [rowD (bb s k)] = (sec ++ [bb s k]).map rowD := by rw [List.map_append]; rfl
        rw [em] at pu
        rw [decide_eq_true hc.1] at lt
        rw [decide_eq_true hc.2] at nm
        refine ⟨[x0, x1, x2, .ow (ownL (sec.map rowD)), .sh (.int k), x5, x6, x7, .sh (.int s), .sh (.lst (tab.map rowD)), y10, x11, x12, x13, x14], [x0, x1, x2, .ow (ownL ((sec ++ [bb s k]).map rowD)), .sh (.int k), x5, x6, x7, .sh (.int s), .sh (.lst (tab.map rowD)), .sh (rowD (bb s k)), x11, x12, x13, x14], by simp [asgT], ?_, sec ++ [bb s k], _, _, rfl, raw_snoc h1 (by omega) hlen hbit, List.nodup_append.mpr ⟨h2, by simp, fun a ha b hb e => ?_⟩, by rw [List.length_append]; show sec.length + 1 ≤ 16; omega⟩
        · generalize (sec ++ [bb s k]).map rowD = S2 at *
          generalize sec.map rowD = S1 at *
          generalize tab.map rowD = T at *
          generalize rowD (bb s k) = R1 at *
          unfold al4 alB F__law_all
          simp [evSs, evS, evT, ev, evs, R.bind, R.ofO, E.mf, E.mfL, readPl, readM, Slot.path, M.path, updPl, M.upd, bltC, notIns, fl, D.imm, truth, asgT, e1, vv, nm, lt, ln1, ln2, pu, il]
        · rw [List.mem_singleton.mp hb] at e
          exact hc.2 (e ▸ ha)
      · refine ⟨[x0, x1, x2, .ow (ownL (sec.map rowD)), .sh (.int k), x5, x6, x7, .sh (.int s), .sh (.lst (tab.map rowD)), y10, x11, x12, x13, x14], [x0, x1, x2, .ow (ownL (sec.map rowD)), .sh (.int k), x5, x6, x7, .sh (.int s), .sh (.lst (tab.map rowD)), .sh (rowD (bb s k)), x11, x12, x13, x14], by simp [asgT], ?_, sec, _, _, rfl, h1, h2, h3⟩
        by_cases c1 : sec.length < tab.length
        · have c2 : ¬ (bb s k ∉ sec) := fun z => hc ⟨c1, z⟩
          rw [decide_eq_true c1] at lt
          rw [decide_eq_false c2] at nm
          generalize sec.map rowD = S1 at *
          generalize tab.map rowD = T at *
          generalize rowD (bb s k) = R1 at *
          unfold al4 alB F__law_all
          simp [evSs, evS, evT, ev, evs, R.bind, R.ofO, E.mf, E.mfL, readPl, readM, Slot.path, M.path, bltC, notIns, fl, D.imm, truth, asgT, e1, vv, nm, lt, ln1, ln2]
        · rw [decide_eq_false c1] at lt
          generalize sec.map rowD = S1 at *
          generalize tab.map rowD = T at *
          generalize rowD (bb s k) = R1 at *
          unfold al4 alB F__law_all
          simp [evSs, evS, evT, ev, evs, R.bind, R.ofO, E.mf, E.mfL, readPl, readM, Slot.path, M.path, bltC, notIns, fl, D.imm, truth, asgT, e1, vv, lt, ln1, ln2])
  exact ⟨sec, y4, y10, e, h1, h2, h3⟩
/-- a list, its rows in the order given, its number -/
abbrev Ent := Nat × List (List Int) × Int
def entD (e : Ent) : D := .lst [.int e.1, .lst (e.2.1.map rowD), .int e.2.2]
def madeD (e : Ent) : D := RU e.1 (canon e.2.1)
structure EntOk (e : Ent) : Prop where
  raw : Raw e.1 e.2.1
  le : e.1 ≤ 5
  lt : e.2.1.length ≤ 60
  num : NumOf e.1 e.2.1 e.2.2
theorem ix_map {α : Type} (f : α → D) {l : List α} {k : Nat} (h : k < l.length) : index (.lst (l.map f)) (.int k) = some (f l[k]) := by
  show atI (l.map f) (k : Int) = _
  rw [atI_nat (by rw [List.length_map]; exact h), List.getElem?_map, List.getElem?_eq_getElem h]
  rfl
def al9 : List S := match alB 9 with
  | .for_ _ _ b => b
  | _ => []
def al12 : List S := match alB 12 with
  | .for_ _ _ b => b
  | _ => []
section
variable (hwh : 100000 < C.wh) (hlen : C.lenOf c_Rules = some f_Rules___len__) (hini : C.init c_Rules = some f_Rules___init__) (hinP : C.init c_Parts = some f_Parts___init__)
  (hmS : C.mth c_Rules m_is_shown = some f_Rules_is_shown) (hmF : C.mth c_Rules m_fitting = some f_Rules_fitting)
include hwh hlen hinP in
theorem al9_ok (d : Nat) (L : List Ent) (hL : ∀ e ∈ L, EntOk e) (k : Nat) (hk : k < L.length) (x0 x1 x2 x3 x4 x8 x9 x10 x11 x12 x13 x14 : Slot) :
    evSs C (callN C fns (d + 7)) al9 [x0, x1, x2, x3, x4, .sh (.lst (L.map entD)), .sh (.lst (L.map madeD)), .sh (.int k), x8, x9, x10, x11, x12, x13, x14] = .ok [x0, x1, x2, x3, x4, .sh (.lst (L.map entD)), .sh (.lst (L.map madeD)), .sh (.int k), x8, x9, x10, x11, x12, x13, x14] .next := by
  have i1 := ix_map entD hk
  have i2 := ix_map madeD hk
  have ok := hL _ (List.getElem_mem hk)
  have hR := ok.raw.rows
  have hl60 : (canon L[k].2.1).length ≤ 60 := by
    unfold canon
    rw [len_sort]
    exact Nat.le_trans (len_firstMet _) ok.lt
  obtain ⟨w, e1, hw⟩ := c_mistake_number (C := C) ok.le hR.bit hR.len hR.ne hl60 hwh hlen hinP (d + 1)
  have hwn : w = L[k].2.2 := hw.uniq ok.num fun r => mem_canon
  have e2 : callN C fns (d + 7) f__law_same [.sh (.int w), .sh (.int w)] = .ok [.dead, .dead] (.bl true) := c_same (C := C) 0 (.int w) rfl (d + 6)
  have i3 : index (entD L[k]) (.int 2) = some (.int w) := by rw [hwn]; rfl
  replace e1 : callN C fns (d + 7) f_mistake_number [.sh (madeD L[k])] = .ok [.dead] (.int w) := e1
  generalize entD L[k] = A at *
  generalize madeD L[k] = B at *
  generalize L.map entD = LD at *
  generalize L.map madeD = LM at *
  unfold al9 alB F__law_all
  simp [evSs, evS, evT, ev, evs, R.bind, R.ofO, E.mf, E.mfL, fl, D.imm, truth, i1, i2, i3, e1, e2]
theorem al12_ok (d : Nat) (L : List Ent) (k : Nat) (hk : k < L.length) (hR : Rows L[k].1 L[k].2.1) (hs : L[k].1 ≤ 5) (x0 x1 x2 x3 x4 x8 x9 x10 x11 x12 x13 x14 : Slot) :
    evSs C (callN C fns (d + 7)) al12 [x0, x1, x2, x3, x4, .sh (.lst (L.map entD)), .sh (.lst (L.map madeD)), .sh (.int k), x8, x9, x10, x11, x12, x13, x14] = .ok [x0, x1, x2, x3, x4, .sh (.lst (L.map entD)), .sh (.lst (L.map madeD)), .sh (.int k), x8, x9, x10, x11, x12, x13, x14] .next := by
  have i1 := ix_map entD hk
  have i2 := ix_map madeD hk
  have hc : canon L[k].2.1 = L[k].2.1 := by unfold canon; rw [firstMet_nodup hR.nd, sortRows_chain hR.ch]
  have hlt := hR.lt
  have m1 : (madeD L[k]).fld fd_rows = some (.tup (L[k].2.1.map rowD)) := by unfold madeD; rw [hc]; rfl
  have m2 : (madeD L[k]).fld fd_size = some (.int L[k].1) := rfl
  have j1 : index (entD L[k]) (.int 1) = some (.lst (L[k].2.1.map rowD)) := rfl
  have j0 : index (entD L[k]) (.int 0) = some (.int L[k].1) := rfl
  have e1 : callN C fns (d + 7) f__law_same [.sh (.tup (L[k].2.1.map rowD)), .sh (.tup (L[k].2.1.map rowD))] = .ok [.dead, .dead] (.bl true) := c_same (C := C) 2 _ (pln_rows _ L[k].1 hR.len (by omega) (by omega)) (d + 4)
  have e2 : callN C fns (d + 7) f__law_same [.sh (.int L[k].1), .sh (.int L[k].1)] = .ok [.dead, .dead] (.bl true) := c_same (C := C) 0 (.int L[k].1) rfl (d + 6)
  have tp : bltin .tuple [.lst (L[k].2.1.map rowD)] = some (.tup (L[k].2.1.map rowD)) := rfl
  generalize entD L[k] = A at *
  generalize madeD L[k] = B at *
  generalize L[k].2.1.map rowD = T at *
  generalize ((L[k].1 : Nat) : Int) = w at *
  generalize L.map entD = LD at *
  generalize L.map madeD = LM at *
  unfold al12 alB F__law_all
  simp [evSs, evS, evT, ev, evs, R.bind, R.ofO, E.mf, E.mfL, bltC, notIns, fl, D.imm, truth, i1, i2, m1, m2, j0, j1, e1, e2, tp]
end
end Lw
end
section
set_option Elab.async false
set_option linter.all false
set_option maxRecDepth 100000
set_option maxHeartbeats 4000000
namespace Lw
open Py PySem
variable {C : Py.Ctx}
section
variable (hwh : 100000 < C.wh) (hlen : C.lenOf c_Rules = some f_Rules___len__) (hini : C.init c_Rules = some f_Rules___init__) (hinP : C.init c_Parts = some f_Parts___init__)
  (hmS : C.mth c_Rules m_is_shown = some f_Rules_is_shown) (hmF : C.mth c_Rules m_fitting = some f_Rules_fitting)
include hini in
theorem al8_ok (d : Nat) (L : List Ent) (hL : ∀ e ∈ L, EntOk e) (hl : L.length ≤ 100) (x0 x1 x2 x3 x4 x7 x8 x9 x10 x11 x12 x13 : Slot) :
    evS C (callN C fns (d + 7)) (alB 8) [x0, x1, x2, x3, x4, .sh (.lst (L.map entD)), .dead, x7, x8, x9, x10, x11, x12, x13, .dead] = .ok [x0, x1, x2, x3, x4, .sh (.lst (L.map entD)), .sh (.lst (L.map madeD)), x7, x8, x9, x10, x11, x12, x13, .dead] .next := by
  have e := ev_lcB (C := C) (orc := callN C fns (d + 7)) (own := [14]) (tg := .n 14) (it := .e (.var 5)) (elt := .new c_Rules [.idx (.var 14) (.con (.int 0)), .idx (.var 14) (.con (.int 1))]) (b := false)
    (G := [x0, x1, x2, x3, x4, .sh (.lst (L.map entD)), .dead, x7, x8, x9, x10, x11, x12, x13, .dead]) (G1 := [x0, x1, x2, x3, x4, .sh (.lst (L.map entD)), .dead, x7, x8, x9, x10, x11, x12, x13, .dead]) L entD madeD
    (by simp [evIt, evSq, ev, R.bind, R.ofO, items]) (by rfl) (by rfl) (fun e he => by
      have ok := hL e he
      have i := c_initU (C := C) (d + 2) e.1 e.2.1 ok.raw (by have := ok.le; omega)
      replace i : callN C fns (d + 7) f_Rules___init__ _ = _ := i
      have y := M_RU e.1 (canon e.2.1)
      have j1 : index (entD e) (.int 1) = some (.lst (e.2.1.map rowD)) := rfl
      have j0 : index (entD e) (.int 0) = some (.int e.1) := rfl
      show _ = R.ok _ [RU e.1 (canon e.2.1)]
      rw [← y]
      generalize (M.ins c_Rules [fd_size, fd_rows] [.leaf (.int e.1), .leaf (.tup ((canon e.2.1).map rowD))]) = mm at *
      generalize entD e = A at *
      generalize e.2.1.map rowD = T at *
      generalize ((e.1 : Nat) : Int) = w at *
      simp [lcStep, evIfs, ev, evs, R.bind, R.ofO, E.mf, E.mfL, fl, D.imm, asgT, wipe, hini, i, j0, j1]) (by rfl) (by omega)
  unfold alB F__law_all
  simp only [List.getD_cons_succ, List.getD_cons_zero]
  rw [evS, e]
  simp [R.bind, asgT]
include hwh hlen hini hinP hmS hmF in
theorem law_ok (d : Nat) (cs : List Int) (hcs : cs.length ≤ 1000) : ∃ os, callN C fns (d + 9) f_law [.sh (.fro (cs.map D.int))] = .ok os (.bl true) := by
  obtain ⟨a1, a2, a3, g1, u1, u2, u3⟩ := c_draw (C := C) cs hcs (d + 6) 0
  obtain ⟨b1, b2, b3, g2, v1, v2, v3⟩ := c_draw (C := C) cs hcs (d + 6) 1
  obtain ⟨c1, c2, c3, g3, w1, w2, w3⟩ := c_draw (C := C) cs hcs (d + 6) 2
  have g1 : callN C fns (d + 7) f__law_draw [.sh (.fro (cs.map D.int)), .sh (.int 0)] = _ := g1
  have g2 : callN C fns (d + 7) f__law_draw [.sh (.fro (cs.map D.int)), .sh (.int 1)] = _ := g2
  have g3 : callN C fns (d + 7) f__law_draw [.sh (.fro (cs.map D.int)), .sh (.int 2)] = _ := g3
  generalize D.fro (cs.map D.int) = sc at *
  obtain ⟨ma, o1, k1⟩ := own_dr u1 u2 u3
  obtain ⟨mb, o2, k2⟩ := own_dr v1 v2 v3
  obtain ⟨mc, o3, k3⟩ := own_dr w1 w2 w3
  obtain ⟨m1, n1, e1, _, z1⟩ := c_sized (C := C) (d + 3) 5 32 (by omega) (by omega) ma k1
  obtain ⟨m2, s, n2, e2, _, hs, _, z2⟩ := c_listed (C := C) (d + 2) 4 16 (by omega) mb k2
  have e1 : callN C fns (d + 7) f__law_sized [.ow ma, .sh (.int 5), .sh (.int 32)] = _ := e1
  have e2 : callN C fns (d + 7) f__law_listed [.ow mb, .sh (.int 4), .sh (.int 16)] = _ := e2
  have R1 := z1.rows (by omega) (by omega)
  have R2 := z2.rows hs (by omega)
  have l1 : (rowsN 5 n1).length ≤ 60 := by unfold rowsN; rw [List.length_map]; have := z1.le; omega
  have l2 : (rowsN s n2).length ≤ 16 := by unfold rowsN; rw [List.length_map]; exact z2.le
  have h2pos : 1 ≤ (rowsN s n2).length := List.length_pos_iff.mpr R2.ne
  generalize rowsN 5 n1 = great at *
  generalize rowsN s n2 = tab at *
  obtain ⟨m3, n3, e3, k4, z3⟩ := c_sized (C := C) (d + 3) s tab.length hs h2pos mc k3
  have R3 := z3.rows hs (by omega)
  have l3 : (rowsN s n3).length ≤ 16 := by unfold rowsN; rw [List.length_map]; have := z3.le; omega
  have e3 : callN C fns (d + 7) f__law_sized [.ow mc, .sh (.int s), .sh (.int tab.length)] = _ := e3
  generalize rowsN s n3 = sec0 at *
  obtain ⟨m4, fs, due, frs, e5, k5, hfs, rawF, lF, numF⟩ := c_formed (C := C) (d + 5) m3 k4
  have e5 : callN C fns (d + 7) f__law_formed [.ow m3] = _ := e5
  obtain ⟨sec, y4, y10, e4, rawS, ndS, lS⟩ := al4_ok (C := C) (d + 6) s hs tab sec0 ⟨R3.ne, R3.lt, R3.len, R3.bit⟩ R3.nd l3 l2 (.sh sc) (.sh (.lst (great.map rowD))) (.ow m3) .dead .dead .dead .dead .dead .dead .dead
  obtain ⟨v1, p1, nv1⟩ := c_number_of (C := C) (tab := great) (s := 5) (by omega) R1.bit R1.len (d + 4) (by omega)
  obtain ⟨v2, p2, nv2⟩ := c_number_of (C := C) (tab := tab) (s := s) hs R2.bit R2.len (d + 4) (by omega)
  obtain ⟨v3, p3, nv3⟩ := c_number_of (C := C) (tab := sortRows sec) (s := s) hs (fun r hr => rawS.bit r (mem_sort.mp hr)) (fun r hr => rawS.len r (mem_sort.mp hr)) (d + 4) (by rw [len_sort]; omega)
  have p1 : callN C fns (d + 7) f__law_number_of [.sh (.int 5), .sh (.lst (great.map rowD))] = _ := p1
  have p2 : callN C fns (d + 7) f__law_number_of [.sh (.int s), .sh (.lst (tab.map rowD))] = _ := p2
  have p3 : callN C fns (d + 7) f__law_number_of [.sh (.int s), .sh (.lst ((sortRows sec).map rowD))] = _ := p3
  have sd : bltin .sorted [.lst (sec.map rowD)] = some (.lst ((sortRows sec).map rowD)) := sortedD_rows rawS.ne rawS.lt rawS.len (fun r hr x hx => by rcases rawS.bit r hr x hx with z | z <;> omega) ndS
  have E1 : EntOk ((5, great, v1) : Ent) := ⟨⟨R1.ne, R1.lt, R1.len, R1.bit⟩, by show 5 ≤ 5; omega, l1, nv1⟩
  have E2 : EntOk ((s, tab, v2) : Ent) := ⟨⟨R2.ne, R2.lt, R2.len, R2.bit⟩, hs, by show tab.length ≤ 60; omega, nv2⟩
  have E3 : EntOk ((s, sec, v3) : Ent) := ⟨rawS, hs, by show sec.length ≤ 60; omega, nv3.congr fun r => mem_sort⟩
  have E4 : EntOk ((fs, frs, (due : Int)) : Ent) := ⟨rawF, hfs, lF, numF⟩
  have hL : ∀ e ∈ ([(5, great, v1), (s, tab, v2), (s, sec, v3), (fs, frs, (due : Int))] : List Ent), EntOk e := fun e he => by
    simp only [List.mem_cons, List.not_mem_nil, or_false] at he
    rcases he with rfl | rfl | rfl | rfl <;> assumption
  have hc2 : canon tab = tab := by unfold canon; rw [firstMet_nodup R2.nd, sortRows_chain R2.ch]
  have q1 := c_law_parts (C := C) (s := s) hs R2 (by omega) hwh hlen hini hinP hmS hmF d tab R2.bit R2.len (fun r => Iff.rfl) (by omega)
  have q2 := c_law_parts (C := C) (s := s) hs rawS.rows (by unfold canon; rw [len_sort]; exact Nat.le_trans (len_firstMet _) (by omega)) hwh hlen hini hinP hmS hmF d sec rawS.bit rawS.len (fun r => mem_canon.symm) (by omega)
  have f12 : ∀ k, (hk : k < 2) → ∀ (x0 x1 x2 x3 x4 x8 x9 x10 x11 x12 x13 x14 : Slot), _ := fun k hk => al12_ok (C := C) d ([(5, great, v1), (s, tab, v2), (s, sec, v3), (fs, frs, (due : Int))] : List Ent) k (by show k < 4; omega) (by
    have : k = 0 ∨ k = 1 := by omega
    rcases this with rfl | rfl
    · exact R1
    · exact R2) (by
    have : k = 0 ∨ k = 1 := by omega
    rcases this with rfl | rfl
    · show 5 ≤ 5; omega
    · exact hs)
  have hLD : ([(5, great, v1), (s, tab, v2), (s, sec, v3), (fs, frs, (due : Int))] : List Ent).map entD = [entD (5, great, v1), entD (s, tab, v2), entD (s, sec, v3), entD (fs, frs, (due : Int))] := rfl
  have hm1 : ([(5, great, v1), (s, tab, v2), (s, sec, v3), (fs, frs, (due : Int))] : List Ent).map madeD = [madeD (5, great, v1), RU s tab, RU s (canon sec), madeD (fs, frs, (due : Int))] := by
    show [_, RU s (canon tab), _, _] = _
    rw [hc2]
    rfl
  have e8 := al8_ok (C := C) hini d ([(5, great, v1), (s, tab, v2), (s, sec, v3), (fs, frs, (due : Int))] : List Ent) hL (by show 4 ≤ 100; omega)
  have e9 := al9_ok (C := C) hwh hlen hinP d ([(5, great, v1), (s, tab, v2), (s, sec, v3), (fs, frs, (due : Int))] : List Ent) hL
  have hA : callN C fns (d + 8) f__law_all [.sh sc] = .ok [.dead] (.bl true) := by
    have mid : ∀ (x7 : Slot) (k : Nat), k < 4 → evSs C (callN C fns (d + 7)) al9 [.sh sc, .sh (.lst (great.map rowD)), .ow m4, .sh (.lst (sec.map rowD)), y4, .sh (.lst (([(5, great, v1), (s, tab, v2), (s, sec, v3), (fs, frs, (due : Int))] : List Ent).map entD)), .sh (.lst (([(5, great, v1), (s, tab, v2), (s, sec, v3), (fs, frs, (due : Int))] : List Ent).map madeD)), .sh (.int k), .sh (.int s), .sh (.lst (tab.map rowD)), y10, .sh (.int fs), .sh (.lst (frs.map rowD)), .sh (.int due), .dead] = .ok [.sh sc, .sh (.lst (great.map rowD)), .ow m4, .sh (.lst (sec.map rowD)), y4, .sh (.lst (([(5, great, v1), (s, tab, v2), (s, sec, v3), (fs, frs, (due : Int))] : List Ent).map entD)), .sh (.lst (([(5, great, v1), (s, tab, v2), (s, sec, v3), (fs, frs, (due : Int))] : List Ent).map madeD)), .sh (.int k), .sh (.int s), .sh (.lst (tab.map rowD)), y10, .sh (.int fs), .sh (.lst (frs.map rowD)), .sh (.int due), .dead] .next := fun x7 k hk => e9 k hk _ _ _ _ _ _ _ _ _ _ _ _
    have lp : ∀ (ks : List Nat), (∀ k ∈ ks, k < 4) → ∀ x7 : Slot, ∃ y7 : Slot, forLoop (asgT (.n 7)) (evSs C (callN C fns (d + 7)) al9) (ks.map fun k : Nat => D.int k) [.sh sc, .sh (.lst (great.map rowD)), .ow m4, .sh (.lst (sec.map rowD)), y4, .sh (.lst (([(5, great, v1), (s, tab, v2), (s, sec, v3), (fs, frs, (due : Int))] : List Ent).map entD)), .sh (.lst (([(5, great, v1), (s, tab, v2), (s, sec, v3), (fs, frs, (due : Int))] : List Ent).map madeD)), x7, .sh (.int s), .sh (.lst (tab.map rowD)), y10, .sh (.int fs), .sh (.lst (frs.map rowD)), .sh (.int due), .dead] = .ok [.sh sc, .sh (.lst (great.map rowD)), .ow m4, .sh (.lst (sec.map rowD)), y4, .sh (.lst (([(5, great, v1), (s, tab, v2), (s, sec, v3), (fs, frs, (due : Int))] : List Ent).map entD)), .sh (.lst (([(5, great, v1), (s, tab, v2), (s, sec, v3), (fs, frs, (due : Int))] : List Ent).map madeD)), y7, .sh (.int s), .sh (.lst (tab.map rowD)), y10, .sh (.int fs), .sh (.lst (frs.map rowD)), .sh (.int due), .dead] .next := by
      intro ks
      induction ks with
      | nil => intro _ x7; exact ⟨x7, rfl⟩
      | cons k ks ih =>
        intro hk x7
        obtain ⟨y7, e⟩ := ih (fun j hj => hk j (List.mem_cons_of_mem _ hj)) (.sh (.int k))
        refine ⟨y7, ?_⟩
        have m := mid x7 k (hk k List.mem_cons_self)
        rw [List.map_cons, forLoop]
        have a : asgT (.n 7) (.int k) [.sh sc, .sh (.lst (great.map rowD)), .ow m4, .sh (.lst (sec.map rowD)), y4, .sh (.lst (([(5, great, v1), (s, tab, v2), (s, sec, v3), (fs, frs, (due : Int))] : List Ent).map entD)), .sh (.lst (([(5, great, v1), (s, tab, v2), (s, sec, v3), (fs, frs, (due : Int))] : List Ent).map madeD)), x7, .sh (.int s), .sh (.lst (tab.map rowD)), y10, .sh (.int fs), .sh (.lst (frs.map rowD)), .sh (.int due), .dead] = .ok [.sh sc, .sh (.lst (great.map rowD)), .ow m4, .sh (.lst (sec.map rowD)), y4, .sh (.lst (([(5, great, v1), (s, tab, v2), (s, sec, v3), (fs, frs, (due : Int))] : List Ent).map entD)), .sh (.lst (([(5, great, v1), (s, tab, v2), (s, sec, v3), (fs, frs, (due : Int))] : List Ent).map madeD)), .sh (.int k), .sh (.int s), .sh (.lst (tab.map rowD)), y10, .sh (.int fs), .sh (.lst (frs.map rowD)), .sh (.int due), .dead] () := by simp [asgT]
        rw [a]
        show (evSs C (callN C fns (d + 7)) al9 _).bind _ = _
        rw [m]
        exact e
    have lq : ∀ (ks : List Nat), (∀ k ∈ ks, k < 2) → ∀ x7 : Slot, ∃ y7 : Slot, forLoop (asgT (.n 7)) (evSs C (callN C fns (d + 7)) al12) (ks.map fun k : Nat => D.int k) [.sh sc, .sh (.lst (great.map rowD)), .ow m4, .sh (.lst (sec.map rowD)), y4, .sh (.lst (([(5, great, v1), (s, tab, v2), (s, sec, v3), (fs, frs, (due : Int))] : List Ent).map entD)), .sh (.lst (([(5, great, v1), (s, tab, v2), (s, sec, v3), (fs, frs, (due : Int))] : List Ent).map madeD)), x7, .sh (.int s), .sh (.lst (tab.map rowD)), y10, .sh (.int fs), .sh (.lst (frs.map rowD)), .sh (.int due), .dead] = .ok [.sh sc, .sh (.lst (great.map rowD)), .ow m4, .sh (.lst (sec.map rowD)), y4, .sh (.lst (([(5, great, v1), (s, tab, v2), (s, sec, v3), (fs, frs, (due : Int))] : List Ent).map entD)), .sh (.lst (([(5, great, v1), (s, tab, v2), (s, sec, v3), (fs, frs, (due : Int))] : List Ent).map madeD)), y7, .sh (.int s), .sh (.lst (tab.map rowD)), y10, .sh (.int fs), .sh (.lst (frs.map rowD)), .sh (.int due), .dead] .next := by
      intro ks
      induction ks with
      | nil => intro _ x7; exact ⟨x7, rfl⟩
      | cons k ks ih =>
        intro hk x7
        obtain ⟨y7, e⟩ := ih (fun j hj => hk j (List.mem_cons_of_mem _ hj)) (.sh (.int k))
        refine ⟨y7, ?_⟩
        have m := f12 k (hk k List.mem_cons_self) (.sh sc) (.sh (.lst (great.map rowD))) (.ow m4) (.sh (.lst (sec.map rowD))) y4 (.sh (.int s)) (.sh (.lst (tab.map rowD))) y10 (.sh (.int fs)) (.sh (.lst (frs.map rowD))) (.sh (.int due)) .dead
        rw [List.map_cons, forLoop]
        have a : asgT (.n 7) (.int k) [.sh sc, .sh (.lst (great.map rowD)), .ow m4, .sh (.lst (sec.map rowD)), y4, .sh (.lst (([(5, great, v1), (s, tab, v2), (s, sec, v3), (fs, frs, (due : Int))] : List Ent).map entD)), .sh (.lst (([(5, great, v1), (s, tab, v2), (s, sec, v3), (fs, frs, (due : Int))] : List Ent).map madeD)), x7, .sh (.int s), .sh (.lst (tab.map rowD)), y10, .sh (.int fs), .sh (.lst (frs.map rowD)), .sh (.int due), .dead] = .ok [.sh sc, .sh (.lst (great.map rowD)), .ow m4, .sh (.lst (sec.map rowD)), y4, .sh (.lst (([(5, great, v1), (s, tab, v2), (s, sec, v3), (fs, frs, (due : Int))] : List Ent).map entD)), .sh (.lst (([(5, great, v1), (s, tab, v2), (s, sec, v3), (fs, frs, (due : Int))] : List Ent).map madeD)), .sh (.int k), .sh (.int s), .sh (.lst (tab.map rowD)), y10, .sh (.int fs), .sh (.lst (frs.map rowD)), .sh (.int due), .dead] () := by simp [asgT]
        rw [a]
        show (evSs C (callN C fns (d + 7)) al12 _).bind _ = _
        rw [m]
        exact e
    obtain ⟨z1, t9⟩ := lp [0, 1, 2, 3] (by decide) .dead
    obtain ⟨z2, t11⟩ := lp [3, 2, 1, 0] (by decide) z1
    obtain ⟨z3, t12⟩ := lq [0, 1] (by decide) z2
    have lnT : bltin .len [.lst (tab.map rowD)] = some (.int tab.length) := by
      show some (D.int _) = _
      rw [List.length_map]
    have s0 : evS C (callN C fns (d + 7)) (alB 0) [.sh sc, .dead, .dead, .dead, .dead, .dead, .dead, .dead, .dead, .dead, .dead, .dead, .dead, .dead, .dead] = .ok [.sh sc, .sh (.lst (great.map rowD)), .dead, .dead, .dead, .dead, .dead, .dead, .dead, .dead, .dead, .dead, .dead, .dead, .dead] .next := by
      unfold alB F__law_all
      generalize great.map rowD = T1 at *
      simp [evS, ev, evs, R.bind, E.mf, E.mfL, fl, g1, o1, e1, asgT]
    have s1 : evS C (callN C fns (d + 7)) (alB 1) [.sh sc, .sh (.lst (great.map rowD)), .dead, .dead, .dead, .dead, .dead, .dead, .dead, .dead, .dead, .dead, .dead, .dead, .dead] = .ok [.sh sc, .sh (.lst (great.map rowD)), .dead, .dead, .dead, .dead, .dead, .dead, .sh (.int s), .sh (.lst (tab.map rowD)), .dead, .dead, .dead, .dead, .dead] .next := by
      unfold alB F__law_all
      generalize great.map rowD = T1 at *
      generalize tab.map rowD = T2 at *
      simp [evS, ev, evs, R.bind, E.mf, E.mfL, fl, g2, o2, e2, asgT, asgL]
    have s2 : evS C (callN C fns (d + 7)) (alB 2) [.sh sc, .sh (.lst (great.map rowD)), .dead, .dead, .dead, .dead, .dead, .dead, .sh (.int s), .sh (.lst (tab.map rowD)), .dead, .dead, .dead, .dead, .dead] = .ok [.sh sc, .sh (.lst (great.map rowD)), .ow mc, .dead, .dead, .dead, .dead, .dead, .sh (.int s), .sh (.lst (tab.map rowD)), .dead, .dead, .dead, .dead, .dead] .next := by
      unfold alB F__law_all
      generalize great.map rowD = T1 at *
      generalize tab.map rowD = T2 at *
      simp [evS, ev, evs, R.bind, E.mf, E.mfL, fl, g3, o3]
    have ow : own1 (.lst (sec0.map rowD)) = some (ownL (sec0.map rowD)) := rfl
    have s3 : evS C (callN C fns (d + 7)) (alB 3) [.sh sc, .sh (.lst (great.map rowD)), .ow mc, .dead, .dead, .dead, .dead, .dead, .sh (.int s), .sh (.lst (tab.map rowD)), .dead, .dead, .dead, .dead, .dead] = .ok [.sh sc, .sh (.lst (great.map rowD)), .ow m3, .ow (ownL (sec0.map rowD)), .dead, .dead, .dead, .dead, .sh (.int s), .sh (.lst (tab.map rowD)), .dead, .dead, .dead, .dead, .dead] .next := by
      unfold alB F__law_all
      generalize great.map rowD = T1 at *
      generalize tab.map rowD = T2 at *
      generalize sec0.map rowD = T3 at *
      simp [evS, ev, evs, evA, R.bind, R.ofO, E.mf, E.mfL, bltC, notIns, callOw, outsA, backA, Slot.isOw, fl, D.imm, lnT, e3, ow]
    have s5 : evS C (callN C fns (d + 7)) (alB 5) [.sh sc, .sh (.lst (great.map rowD)), .ow m3, .ow (ownL (sec.map rowD)), y4, .dead, .dead, .dead, .sh (.int s), .sh (.lst (tab.map rowD)), y10, .dead, .dead, .dead, .dead] = .ok [.sh sc, .sh (.lst (great.map rowD)), .ow m4, .ow (ownL (sec.map rowD)), y4, .dead, .dead, .dead, .sh (.int s), .sh (.lst (tab.map rowD)), y10, .sh (.int fs), .sh (.lst (frs.map rowD)), .sh (.int due), .dead] .next := by
      unfold alB F__law_all
      generalize great.map rowD = T1 at *
      generalize tab.map rowD = T2 at *
      generalize sec.map rowD = T3 at *
      generalize frs.map rowD = T4 at *
      simp [evS, ev, evs, evA, R.bind, R.ofO, E.mf, E.mfL, callOw, outsA, backA, Slot.isOw, fl, D.imm, asgT, asgL, e5]
    have s6 : evS C (callN C fns (d + 7)) (alB 6) [.sh sc, .sh (.lst (great.map rowD)), .ow m4, .ow (ownL (sec.map rowD)), y4, .dead, .dead, .dead, .sh (.int s), .sh (.lst (tab.map rowD)), y10, .sh (.int fs), .sh (.lst (frs.map rowD)), .sh (.int due), .dead] = .ok [.sh sc, .sh (.lst (great.map rowD)), .ow m4, .ow (ownL (sec.map rowD)), y4, .sh (.lst [entD (5, great, v1), entD (s, tab, v2)]), .dead, .dead, .sh (.int s), .sh (.lst (tab.map rowD)), y10, .sh (.int fs), .sh (.lst (frs.map rowD)), .sh (.int due), .dead] .next := by
      have x1 : entD (5, great, v1) = .lst [.int 5, .lst (great.map rowD), .int v1] := rfl
      have x2 : entD (s, tab, v2) = .lst [.int s, .lst (tab.map rowD), .int v2] := rfl
      rw [x1, x2]
      unfold alB F__law_all
      generalize great.map rowD = T1 at *
      generalize tab.map rowD = T2 at *
      generalize sec.map rowD = T3 at *
      generalize frs.map rowD = T4 at *
      simp [evS, ev, evs, R.bind, R.ofO, E.mf, E.mfL, fl, D.imm, asgT, p1, p2]
    have s7 : evS C (callN C fns (d + 7)) (alB 7) [.sh sc, .sh (.lst (great.map rowD)), .ow m4, .ow (ownL (sec.map rowD)), y4, .sh (.lst [entD (5, great, v1), entD (s, tab, v2)]), .dead, .dead, .sh (.int s), .sh (.lst (tab.map rowD)), y10, .sh (.int fs), .sh (.lst (frs.map rowD)), .sh (.int due), .dead] = .ok [.sh sc, .sh (.lst (great.map rowD)), .ow m4, .sh (.lst (sec.map rowD)), y4, .sh (.lst (([(5, great, v1), (s, tab, v2), (s, sec, v3), (fs, frs, (due : Int))] : List Ent).map entD)), .dead, .dead, .sh (.int s), .sh (.lst (tab.map rowD)), y10, .sh (.int fs), .sh (.lst (frs.map rowD)), .sh (.int due), .dead] .next := by
      have x1 : (([(5, great, v1), (s, tab, v2), (s, sec, v3), (fs, frs, (due : Int))] : List Ent).map entD) = [entD (5, great, v1), entD (s, tab, v2), .lst [.int s, .lst (sec.map rowD), .int v3], .lst [.int fs, .lst (frs.map rowD), .int due]] := rfl
      have fz := ownL_fz (sec.map rowD)
      have ad : binop .add (.lst [entD (5, great, v1), entD (s, tab, v2)]) (.lst [.lst [.int s, .lst (sec.map rowD), .int v3], .lst [.int fs, .lst (frs.map rowD), .int due]]) = some (.lst [entD (5, great, v1), entD (s, tab, v2), .lst [.int s, .lst (sec.map rowD), .int v3], .lst [.int fs, .lst (frs.map rowD), .int due]]) := rfl
      rw [x1]
      unfold alB F__law_all
      generalize entD (5, great, v1) = A1 at *
      generalize entD (s, tab, v2) = A2 at *
      generalize great.map rowD = T1 at *
      generalize tab.map rowD = T2 at *
      generalize sec.map rowD = T3 at *
      generalize frs.map rowD = T4 at *
      generalize (sortRows sec).map rowD = T5 at *
      simp [evS, ev, evs, R.bind, R.ofO, E.mf, E.mfL, readPl, readM, Slot.path, M.path, D.path, valL, bltC, notIns, fl, D.imm, asgT, sd, p3, fz, ad]
    have s9 : evS C (callN C fns (d + 7)) (alB 9) [.sh sc, .sh (.lst (great.map rowD)), .ow m4, .sh (.lst (sec.map rowD)), y4, .sh (.lst (([(5, great, v1), (s, tab, v2), (s, sec, v3), (fs, frs, (due : Int))] : List Ent).map entD)), .sh (.lst (([(5, great, v1), (s, tab, v2), (s, sec, v3), (fs, frs, (due : Int))] : List Ent).map madeD)), .dead, .sh (.int s), .sh (.lst (tab.map rowD)), y10, .sh (.int fs), .sh (.lst (frs.map rowD)), .sh (.int due), .dead] = .ok [.sh sc, .sh (.lst (great.map rowD)), .ow m4, .sh (.lst (sec.map rowD)), y4, .sh (.lst (([(5, great, v1), (s, tab, v2), (s, sec, v3), (fs, frs, (due : Int))] : List Ent).map entD)), .sh (.lst (([(5, great, v1), (s, tab, v2), (s, sec, v3), (fs, frs, (due : Int))] : List Ent).map madeD)), z1, .sh (.int s), .sh (.lst (tab.map rowD)), y10, .sh (.int fs), .sh (.lst (frs.map rowD)), .sh (.int due), .dead] .next := by
      have it : evIt C (callN C fns (d + 7)) (.rng1 (.blt .len [.var 5])) [.sh sc, .sh (.lst (great.map rowD)), .ow m4, .sh (.lst (sec.map rowD)), y4, .sh (.lst (([(5, great, v1), (s, tab, v2), (s, sec, v3), (fs, frs, (due : Int))] : List Ent).map entD)), .sh (.lst (([(5, great, v1), (s, tab, v2), (s, sec, v3), (fs, frs, (due : Int))] : List Ent).map madeD)), .dead, .sh (.int s), .sh (.lst (tab.map rowD)), y10, .sh (.int fs), .sh (.lst (frs.map rowD)), .sh (.int due), .dead] = .ok [.sh sc, .sh (.lst (great.map rowD)), .ow m4, .sh (.lst (sec.map rowD)), y4, .sh (.lst (([(5, great, v1), (s, tab, v2), (s, sec, v3), (fs, frs, (due : Int))] : List Ent).map entD)), .sh (.lst (([(5, great, v1), (s, tab, v2), (s, sec, v3), (fs, frs, (due : Int))] : List Ent).map madeD)), .dead, .sh (.int s), .sh (.lst (tab.map rowD)), y10, .sh (.int fs), .sh (.lst (frs.map rowD)), .sh (.int due), .dead] ([0, 1, 2, 3].map (fun k : Nat => D.int k), false) := by
        have ln : bltin .len [.lst (([(5, great, v1), (s, tab, v2), (s, sec, v3), (fs, frs, (due : Int))] : List Ent).map entD)] = some (.int 4) := rfl
        generalize ([(5, great, v1), (s, tab, v2), (s, sec, v3), (fs, frs, (due : Int))] : List Ent).map entD = LD at *
        generalize ([(5, great, v1), (s, tab, v2), (s, sec, v3), (fs, frs, (due : Int))] : List Ent).map madeD = LM at *
        have r4 : rngOk 4 = true := rngOk_nat 4 (by decide)
        have d4 : rangeD 0 4 = [0, 1, 2, 3].map (fun k : Nat => D.int k) := rngD 4
        simp [evIt, ev, evs, R.bind, R.ofO, E.mfL, bltC, notIns, fl, D.imm, D.asInt, ln, r4, d4]
      exact evS_for it t9
    have s11 : evS C (callN C fns (d + 7)) (alB 11) [.sh sc, .sh (.lst (great.map rowD)), .ow m4, .sh (.lst (sec.map rowD)), y4, .sh (.lst (([(5, great, v1), (s, tab, v2), (s, sec, v3), (fs, frs, (due : Int))] : List Ent).map entD)), .sh (.lst (([(5, great, v1), (s, tab, v2), (s, sec, v3), (fs, frs, (due : Int))] : List Ent).map madeD)), z1, .sh (.int s), .sh (.lst (tab.map rowD)), y10, .sh (.int fs), .sh (.lst (frs.map rowD)), .sh (.int due), .dead] = .ok [.sh sc, .sh (.lst (great.map rowD)), .ow m4, .sh (.lst (sec.map rowD)), y4, .sh (.lst (([(5, great, v1), (s, tab, v2), (s, sec, v3), (fs, frs, (due : Int))] : List Ent).map entD)), .sh (.lst (([(5, great, v1), (s, tab, v2), (s, sec, v3), (fs, frs, (due : Int))] : List Ent).map madeD)), z2, .sh (.int s), .sh (.lst (tab.map rowD)), y10, .sh (.int fs), .sh (.lst (frs.map rowD)), .sh (.int due), .dead] .next := by
      have it : evIt C (callN C fns (d + 7)) (.rrng1 (.blt .len [.var 5])) [.sh sc, .sh (.lst (great.map rowD)), .ow m4, .sh (.lst (sec.map rowD)), y4, .sh (.lst (([(5, great, v1), (s, tab, v2), (s, sec, v3), (fs, frs, (due : Int))] : List Ent).map entD)), .sh (.lst (([(5, great, v1), (s, tab, v2), (s, sec, v3), (fs, frs, (due : Int))] : List Ent).map madeD)), z1, .sh (.int s), .sh (.lst (tab.map rowD)), y10, .sh (.int fs), .sh (.lst (frs.map rowD)), .sh (.int due), .dead] = .ok [.sh sc, .sh (.lst (great.map rowD)), .ow m4, .sh (.lst (sec.map rowD)), y4, .sh (.lst (([(5, great, v1), (s, tab, v2), (s, sec, v3), (fs, frs, (due : Int))] : List Ent).map entD)), .sh (.lst (([(5, great, v1), (s, tab, v2), (s, sec, v3), (fs, frs, (due : Int))] : List Ent).map madeD)), z1, .sh (.int s), .sh (.lst (tab.map rowD)), y10, .sh (.int fs), .sh (.lst (frs.map rowD)), .sh (.int due), .dead] ([3, 2, 1, 0].map (fun k : Nat => D.int k), false) := by
        have ln : bltin .len [.lst (([(5, great, v1), (s, tab, v2), (s, sec, v3), (fs, frs, (due : Int))] : List Ent).map entD)] = some (.int 4) := rfl
        generalize ([(5, great, v1), (s, tab, v2), (s, sec, v3), (fs, frs, (due : Int))] : List Ent).map entD = LD at *
        generalize ([(5, great, v1), (s, tab, v2), (s, sec, v3), (fs, frs, (due : Int))] : List Ent).map madeD = LM at *
        have r4 : rngOk 4 = true := rngOk_nat 4 (by decide)
        have d4 : (rangeD 0 4).reverse = [3, 2, 1, 0].map (fun k : Nat => D.int k) := by rw [show rangeD 0 4 = [0, 1, 2, 3].map (fun k : Nat => D.int k) from rngD 4]; rfl
        simp [evIt, ev, evs, R.bind, R.ofO, E.mfL, bltC, notIns, fl, D.imm, D.asInt, ln, r4, d4]
      exact evS_for it t11
    have s12 : evS C (callN C fns (d + 7)) (alB 12) [.sh sc, .sh (.lst (great.map rowD)), .ow m4, .sh (.lst (sec.map rowD)), y4, .sh (.lst (([(5, great, v1), (s, tab, v2), (s, sec, v3), (fs, frs, (due : Int))] : List Ent).map entD)), .sh (.lst (([(5, great, v1), (s, tab, v2), (s, sec, v3), (fs, frs, (due : Int))] : List Ent).map madeD)), z2, .sh (.int s), .sh (.lst (tab.map rowD)), y10, .sh (.int fs), .sh (.lst (frs.map rowD)), .sh (.int due), .dead] = .ok [.sh sc, .sh (.lst (great.map rowD)), .ow m4, .sh (.lst (sec.map rowD)), y4, .sh (.lst (([(5, great, v1), (s, tab, v2), (s, sec, v3), (fs, frs, (due : Int))] : List Ent).map entD)), .sh (.lst (([(5, great, v1), (s, tab, v2), (s, sec, v3), (fs, frs, (due : Int))] : List Ent).map madeD)), z3, .sh (.int s), .sh (.lst (tab.map rowD)), y10, .sh (.int fs), .sh (.lst (frs.map rowD)), .sh (.int due), .dead] .next := by
      have it : evIt C (callN C fns (d + 7)) (.rng1 (.con (.int 2))) [.sh sc, .sh (.lst (great.map rowD)), .ow m4, .sh (.lst (sec.map rowD)), y4, .sh (.lst (([(5, great, v1), (s, tab, v2), (s, sec, v3), (fs, frs, (due : Int))] : List Ent).map entD)), .sh (.lst (([(5, great, v1), (s, tab, v2), (s, sec, v3), (fs, frs, (due : Int))] : List Ent).map madeD)), z2, .sh (.int s), .sh (.lst (tab.map rowD)), y10, .sh (.int fs), .sh (.lst (frs.map rowD)), .sh (.int due), .dead] = .ok [.sh sc, .sh (.lst (great.map rowD)), .ow m4, .sh (.lst (sec.map rowD)), y4, .sh (.lst (([(5, great, v1), (s, tab, v2), (s, sec, v3), (fs, frs, (due : Int))] : List Ent).map entD)), .sh (.lst (([(5, great, v1), (s, tab, v2), (s, sec, v3), (fs, frs, (due : Int))] : List Ent).map madeD)), z2, .sh (.int s), .sh (.lst (tab.map rowD)), y10, .sh (.int fs), .sh (.lst (frs.map rowD)), .sh (.int due), .dead] ([0, 1].map (fun k : Nat => D.int k), false) := by
        generalize ([(5, great, v1), (s, tab, v2), (s, sec, v3), (fs, frs, (due : Int))] : List Ent).map entD = LD at *
        generalize ([(5, great, v1), (s, tab, v2), (s, sec, v3), (fs, frs, (due : Int))] : List Ent).map madeD = LM at *
        have r4 : rngOk 2 = true := rngOk_nat 2 (by decide)
        have d4 : rangeD 0 2 = [0, 1].map (fun k : Nat => D.int k) := rngD 2
        simp [evIt, ev, R.bind, R.ofO, D.asInt, r4, d4]
      exact evS_for it t12
    have s10 : evS C (callN C fns (d + 7)) (alB 10) [.sh sc, .sh (.lst (great.map rowD)), .ow m4, .sh (.lst (sec.map rowD)), y4, .sh (.lst (([(5, great, v1), (s, tab, v2), (s, sec, v3), (fs, frs, (due : Int))] : List Ent).map entD)), .sh (.lst (([(5, great, v1), (s, tab, v2), (s, sec, v3), (fs, frs, (due : Int))] : List Ent).map madeD)), z1, .sh (.int s), .sh (.lst (tab.map rowD)), y10, .sh (.int fs), .sh (.lst (frs.map rowD)), .sh (.int due), .dead] = .ok [.sh sc, .sh (.lst (great.map rowD)), .ow m4, .sh (.lst (sec.map rowD)), y4, .sh (.lst (([(5, great, v1), (s, tab, v2), (s, sec, v3), (fs, frs, (due : Int))] : List Ent).map entD)), .sh (.lst (([(5, great, v1), (s, tab, v2), (s, sec, v3), (fs, frs, (due : Int))] : List Ent).map madeD)), z1, .sh (.int s), .sh (.lst (tab.map rowD)), y10, .sh (.int fs), .sh (.lst (frs.map rowD)), .sh (.int due), .dead] .next := by
      have i1 : index (.lst (([(5, great, v1), (s, tab, v2), (s, sec, v3), (fs, frs, (due : Int))] : List Ent).map madeD)) (.int 1) = some (RU s tab) := by rw [hm1]; rfl
      have i2 : index (.lst (([(5, great, v1), (s, tab, v2), (s, sec, v3), (fs, frs, (due : Int))] : List Ent).map madeD)) (.int 2) = some (RU s (canon sec)) := by rw [hm1]; rfl
      generalize ([(5, great, v1), (s, tab, v2), (s, sec, v3), (fs, frs, (due : Int))] : List Ent).map entD = LD at *
      generalize ([(5, great, v1), (s, tab, v2), (s, sec, v3), (fs, frs, (due : Int))] : List Ent).map madeD = LM at *
      generalize RU s tab = X1 at *
      generalize RU s (canon sec) = X2 at *
      generalize great.map rowD = T1 at *
      generalize tab.map rowD = T2 at *
      generalize sec.map rowD = T3 at *
      generalize frs.map rowD = T4 at *
      unfold alB F__law_all
      simp [evSs, evS, evT, ev, evs, R.bind, R.ofO, E.mf, E.mfL, readPl, readM, Slot.path, M.path, D.path, valL, fl, D.imm, truth, i1, i2, q1, q2]
    have : evSs C (callN C fns (d + 7)) F__law_all.body (enter F__law_all.n [.sh sc]) = .ok [.sh sc, .sh (.lst (great.map rowD)), .ow m4, .sh (.lst (sec.map rowD)), y4, .sh (.lst (([(5, great, v1), (s, tab, v2), (s, sec, v3), (fs, frs, (due : Int))] : List Ent).map entD)), .sh (.lst (([(5, great, v1), (s, tab, v2), (s, sec, v3), (fs, frs, (due : Int))] : List Ent).map madeD)), z3, .sh (.int s), .sh (.lst (tab.map rowD)), y10, .sh (.int fs), .sh (.lst (frs.map rowD)), .sh (.int due), .dead] (.ret (.bl true)) := by
      show evSs C _ [alB 0, alB 1, alB 2, alB 3, alB 4, alB 5, alB 6, alB 7, alB 8, alB 9, alB 10, alB 11, alB 12, .ret (.con (.bl true))] [.sh sc, .dead, .dead, .dead, .dead, .dead, .dead, .dead, .dead, .dead, .dead, .dead, .dead, .dead, .dead] = _
      rw [evSs_next s0, evSs_next s1, evSs_next s2, evSs_next s3, evSs_next e4, evSs_next s5, evSs_next s6, evSs_next s7, evSs_next (e8 _ _ _ _ _ _ _ _ _ _ _ _), evSs_next s9, evSs_next s10, evSs_next s11, evSs_next s12]
      simp [evSs, evS, ev, R.bind]
    show runFn C _ F__law_all _ = _
    rw [runFn, this]
    rfl
  refine ⟨[.dead], ?_⟩
  show runFn C _ F_law _ = _
  simp [runFn, F_law, ioOk, enter, leave, evSs, evS, ev, evs, R.bind, E.mf, E.mfL, fl, D.imm, hA]
end
end Lw
end

namespace Cl
theorem claim : ∀ ns : List Int, ns.length ≤ 63 → ∃ os, Py.callN Lw.lw.ctx Lw.lw.fns 20 Lw.f_law [.sh (.fro (ns.map Py.D.int))] = .ok os (.bl true) :=
  fun ns h => Lw.law_ok (C := Lw.lw.ctx) (by show 100000 < 18446744073709551616; decide) (by rfl) (by rfl) (by rfl) (by rfl) (by rfl) 11 ns (by omega)
end Cl
open PySem PySem.W PySem.Calls PyProof.Rows
theorem PySem.Challenge.cw_learnrealm_k51_mistake_numbers_holds : PySem.Challenge.rw_learnrealm_k51_mistake_numbers.Holds := by
  w_on; o_law
  refine HandSHeadRun.head_any (r := OpenLaw.row PySem.Challenge.rw_learnrealm_k51_mistake_numbers) (q := view (OpenLaw.row PySem.Challenge.rw_learnrealm_k51_mistake_numbers).prog [50]) (H := Hd.hk) (ob := Hd.ob) (M := 20000) (loose := Hd.loose) (d := HandSHeadRun.topDef (OpenLaw.row PySem.Challenge.rw_learnrealm_k51_mistake_numbers).prog 50) (kwd := []) Hd.ob_eq
    (by kernel_rfl) (fun s => by kernel_rfl) Hd.run (by kernel_rfl) (by kernel_rfl) (by kernel_rfl) (by rfl) (by first | assumption | decide +kernel) (by decide +kernel) ⟨rfl, rfl, rfl, rfl, rfl, by decide +kernel⟩ ?hw ?hc
  case hw => w_witness2
  case hc =>
    refine L2.walk_ofE (l := PySem.Challenge.rw_learnrealm_k51_mistake_numbers) (n := 63) (k := 2 * 20 + 1) (x := "script") (CX := C8.CX0) rfl (by decide) (by kernel_rfl) ⟨rfl, by decide, by decide⟩ ?F (fun _ _ _ _ z => z)
    intro w mg fa h Y G hmg0
    obtain ⟨K, KX, c⟩ := Y
    have hmg : mg ("law" : PySem.Str) = some (.ref fa) := by
      have e : (HandSHeadRun.topDef (OpenLaw.row PySem.Challenge.rw_learnrealm_k51_mistake_numbers).prog 50).name = ("law" : PySem.Str) := by kernel_rfl
      rw [← e]
      exact hmg0
    obtain ⟨fd, sp, h1, h2, h3⟩ := Py.law_facts (L := Lw.lw) (fuel := 400) (P := (PySem.Challenge.rw_learnrealm_k51_mistake_numbers).prog) (w := w) (n := 63) (d := 20) (iL := Lw.f_law) (x := "script") KX G c Lw.allc Lw.rowsc Lw.kws_ok (by kernel_rfl) (by kernel_rfl) (by kernel_rfl) hmg Cl.claim
    exact ⟨K, fd, sp, KX, h1, h2, h3⟩


