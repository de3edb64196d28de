import PyProof.Rows.All
import PySem.Syntax
import PySem.PyData
import PySem.Builtin.Int.W1All
import Wide.All
import OpenK.AllK
import Wide.FinOn
import HandS.ForMost
import HandS.Flow
import HandS.Style
import HandS.Wide
import HandS.WideBits
import HandS.TupAny
import HandS.TupMul
import HandS.TupSets
import HandS.Conv
import HandS.IsInst
import HandS.Defaults
import HandS.Exc
import HandS.Codes
import HandS.RevRange
import HandS.Rev
import HandS.SortInts
import HandS.Deep
import HandS.WordsDict
import KE.GoesEnum
import HandS.Iter
import HandS.Zip
import HandS.HeadHook1
import HandS.HeadHook2
import HandS.HeadEnd
import HandS.Words
import KE.KStateDown
import HandS.Head0
import HandS.Head1
import HandS.Head2
import KE.BitLaws
import PySem.Challenge.RW_learnrealm_k97_taken_one_by_one
set_option Elab.async false
set_option linter.all false
set_option maxRecDepth 100000
set_option maxHeartbeats 4000000
section
set_option linter.all false
/-! A small definitional interpreter of a part of Python, over plain data. -/
namespace Py
open PySem

/-- values as trees -/
inductive D where
  | non | bl (b : Bool) | int (i : Int) | str (s : Str)
  | tup (xs : List D) | lst (xs : List D) | dic (ks vs : List D) | set (xs : List D)
  | ins (c : Nat) (ids : List Nat) (vs : List D)
  | fro (xs : List D) | glo (g : Nat)
  deriving Inhabited

/-- a tree with owned (mutable) nodes at its top -/
inductive M where
  | leaf (d : D) | lst (xs : List M) | dic (ks : List D) (vs : List M) | ins (c : Nat) (ids : List Nat) (vs : List M)
  deriving Inhabited

inductive Slot where
  | dead | sh (d : D) | ow (m : M)
  deriving Inhabited
abbrev Env := List Slot

inductive R (α : Type) where
  | bad | ok (G : Env) (a : α)
def R.bind {α β : Type} (r : R α) (f : Env → α → R β) : R β := match r with
  | .bad => .bad
  | .ok G a => f G a
@[simp] theorem R.bind_ok {α β : Type} (G : Env) (a : α) (f : Env → α → R β) : (R.ok G a).bind f = f G a := rfl
@[simp] theorem R.bind_bad {α β : Type} (f : Env → α → R β) : (R.bad : R α).bind f = R.bad := rfl
def R.ofO {α : Type} (G : Env) : Option α → R α
  | none => .bad
  | some a => .ok G a
@[simp] theorem R.ofO_some {α : Type} (G : Env) (a : α) : R.ofO G (some a) = R.ok G a := rfl
@[simp] theorem R.ofO_none {α : Type} (G : Env) : R.ofO G (none : Option α) = R.bad := rfl

/-- what a call gives: the owned arguments behind it (in order; dead for the others), the value -/
inductive RC where
  | bad | ok (outs : List Slot) (d : D)

mutual
/-- no mutable node within -/
def D.imm : D → Bool
  | .non => true | .bl _ => true | .int _ => true | .str _ => true | .glo _ => true
  | .tup xs => D.immL xs | .fro xs => D.immL xs
  | .lst _ => false | .dic _ _ => false | .set _ => false | .ins _ _ _ => false
def D.immL : List D → Bool
  | [] => true
  | x :: xs => x.imm && D.immL xs
end
mutual
def M.fz : M → D
  | .leaf d => d
  | .lst xs => .lst (M.fzL xs)
  | .dic ks vs => .dic ks (M.fzL vs)
  | .ins c ids vs => .ins c ids (M.fzL vs)
def M.fzL : List M → List D
  | [] => []
  | x :: xs => x.fz :: M.fzL xs
end

/-! ### operations on values -/
mutual
def D.py : D → PyData
  | .bl b => .bool b | .int i => .int i | .str s => .str s
  | .tup xs => .tuple (D.pyL xs)
  | .lst xs => .list (D.pyL xs)
  | _ => .none
def D.pyL : List D → List PyData
  | [] => []
  | x :: xs => x.py :: D.pyL xs
end

inductive BinO where
  | add | sub | mul | fdiv | mod | pow | shl | shr | band | bor | bxor
  deriving DecidableEq
inductive UnO where
  | neg | inv
  deriving DecidableEq
inductive CmpO where
  | eq | ne | lt | le | gt | ge | isNone | isntNone | isTrue | isFalse | mem | nmem
  deriving DecidableEq

/-- n < 2 ^ b, so written that the kernel stops at once at an n that is no numeral -/
def ltp (n b : Nat) : Bool := decide (n.log2 < b)
theorem ltp_lt {n b : Nat} (h : ltp n b = true) : n < 2 ^ b := by
  have h := of_decide_eq_true h
  cases n with
  | zero => exact Nat.pow_pos (by decide)
  | succ n => exact (Nat.log2_lt (by simp)).mp h
theorem ltp_int {i : Int} {b : Nat} (h : ltp i.natAbs b = true) : -(2 ^ b) < i ∧ i < 2 ^ b := by
  have h := ltp_lt h
  have e : ((2 ^ b : Nat) : Int) = 2 ^ b := by simp
  omega
def szLine : Nat := 16777216
def mulOk (i j : Int) : Bool := ltp i.natAbs 64 || (ltp j.natAbs 64 || decide (i.natAbs.log2 + j.natAbs.log2 < 1000000))
def lenOk (n : Nat) : Bool := decide (n ≤ szLine)
def rep {α : Type} (n : Nat) (xs : List α) : List α := (List.replicate n xs).flatten

def binop : BinO → D → D → Option D
  | .add, .int i, .int j => some (.int (i + j))
  | .add, .lst xs, .lst ys => if lenOk (xs.length + ys.length) then some (.lst (xs ++ ys)) else none
  | .add, .tup xs, .tup ys => if lenOk (xs.length + ys.length) then some (.tup (xs ++ ys)) else none
  | .sub, .int i, .int j => some (.int (i - j))
  | .mul, .int i, .int j => if mulOk i j then some (.int (i * j)) else none
  | .mul, .lst xs, .int k => if ltp k.natAbs 30 && (lenOk (xs.length * k.toNat)) then some (.lst (rep k.toNat xs)) else none
  | .mul, .tup xs, .int k => if ltp k.natAbs 9 && (decide (xs.length ≤ 1000)) then some (.tup (rep k.toNat xs)) else none
  | .fdiv, .int i, .int j => if decide (0 < j) && decide (j.natAbs.log2 < 9000) then some (.int (i / j)) else none
  | .mod, .int i, .int j => if decide (0 < j) then some (.int (i % j)) else none
  | .pow, .int i, .int j => if decide (0 ≤ j) && (ltp j.natAbs 19 && ltp i.natAbs 64) then some (.int (i ^ j.toNat)) else none
  | .shl, .int i, .int j => if decide (0 ≤ j) && (ltp j.natAbs 19 && ltp i.natAbs 64) then some (.int (i * 2 ^ j.toNat)) else none
  | .shr, .int i, .int j => if decide (0 ≤ j) then some (.int (i / 2 ^ j.toNat)) else none
  | .band, .int i, .int j => some (.int (Builtin.bitAnd i j))
  | .bor, .int i, .int j => some (.int (Builtin.bitOr i j))
  | .bxor, .int i, .int j => some (.int (Builtin.bitXor i j))
  | _, _, _ => none
def unop : UnO → D → Option D
  | .neg, .int i => some (.int (-i))
  | .inv, .int i => some (.int (Builtin.bitNot i))
  | _, _ => none

mutual
/-- == of data, as Python has it -/
def D.eqv : D → D → Bool
  | .non, .non => true
  | .bl a, .bl b => a == b
  | .bl a, .int j => (if a then 1 else 0) == j
  | .int i, .bl b => i == (if b then 1 else 0)
  | .int i, .int j => i == j
  | .str x, .str y => x == y
  | .lst xs, .lst ys => D.eqvL xs ys
  | .tup xs, .tup ys => D.eqvL xs ys
  | _, _ => false
def D.eqvL : List D → List D → Bool
  | [], [] => true
  | x :: xs, y :: ys => x.eqv y && D.eqvL xs ys
  | _, _ => false
end
mutual
/-- data that == may be asked of, at most so deep -/
def D.eqOk : Nat → D → Bool
  | _, .non => true | _, .bl _ => true | _, .int _ => true
  | _, .str s => s.cps.all (· < 0x110000)
  | n, .tup xs => match n with
    | 0 => false
    | n + 1 => D.eqOkL n xs
  | n, .lst xs => match n with
    | 0 => false
    | n + 1 => D.eqOkL n xs
  | _, _ => false
def D.eqOkL : Nat → List D → Bool
  | _, [] => true
  | n, x :: xs => D.eqOk n x && D.eqOkL n xs
end
def eqd (a b : D) : Option Bool := match a, b with
  | .str x, .str y => some (x == y)
  | a, b => if D.eqOk 64 a && D.eqOk 64 b then some (D.eqv a b) else none

/-- keys of a dict: gInts and texts -/
def D.isKey : D → Bool
  | .int _ => true | .str _ => true | _ => false
def keyEq : D → D → Bool
  | .int i, .int j => i == j
  | .str x, .str y => x == y
  | _, _ => false
def dget : List D → List D → D → Option D
  | k :: ks, v :: vs, x => if keyEq k x then some v else dget ks vs x
  | _, _, _ => none
def memOk (x : D) (xs : List D) : Bool := D.eqOk 64 x && D.eqOkL 63 xs
def cmpop : CmpO → D → D → Option D
  | .eq, a, b => (eqd a b).map .bl
  | .ne, a, b => (eqd a b).map fun k => .bl (!k)
  | .lt, .int i, .int j => some (.bl (decide (i < j)))
  | .le, .int i, .int j => some (.bl (decide (i ≤ j)))
  | .gt, .int i, .int j => some (.bl (decide (j < i)))
  | .ge, .int i, .int j => some (.bl (decide (j ≤ i)))
  | .isNone, a, .non => some (.bl (match a with | .non => true | _ => false))
  | .isntNone, a, .non => some (.bl (match a with | .non => false | _ => true))
  | .isTrue, a, .bl true => some (.bl (match a with | .bl true => true | _ => false))
  | .isFalse, a, .bl false => some (.bl (match a with | .bl false => true | _ => false))
  | .mem, a, .lst xs => if memOk a xs then some (.bl (xs.any fun x => D.eqv x a)) else none
  | .mem, a, .tup xs => if memOk a xs then some (.bl (xs.any fun x => D.eqv x a)) else none
  | .mem, a, .dic ks vs => if a.isKey then some (.bl (dget ks vs a).isSome) else none
  | .nmem, a, .lst xs => if memOk a xs then some (.bl (!xs.any fun x => D.eqv x a)) else none
  | .nmem, a, .tup xs => if memOk a xs then some (.bl (!xs.any fun x => D.eqv x a)) else none
  | .nmem, a, .dic ks vs => if a.isKey then some (.bl (!(dget ks vs a).isSome)) else none
  | _, _, _ => none

def truth : D → Option Bool
  | .non => some false
  | .bl b => some b
  | .int i => some (i != 0)
  | .str s => if lenOk s.length then some ((s.length : Int) != 0) else none
  | .lst xs => some !xs.isEmpty
  | .tup xs => some !xs.isEmpty
  | _ => none

def ixN (n : Nat) (i : Int) : Option Nat := if 0 ≤ i then (if i < n then some i.toNat else none) else if -(n : Int) ≤ i then some (i + n).toNat else none
def atI (xs : List D) (i : Int) : Option D := (ixN xs.length i).bind fun j => xs[j]?
def index : D → D → Option D
  | .lst xs, .int i => atI xs i
  | .fro xs, .int i => atI xs i
  | .tup xs, .int i => atI xs i
  | .dic ks vs, k => if k.isKey then dget ks vs k else none
  | _, _ => none
def sIx (n d : Nat) : Option Int → Nat
  | none => d
  | some v => if v < 0 then (v + n).toNat else min v.toNat n
def cutD (xs : List D) (lo hi : Option Int) : List D := (xs.drop (sIx xs.length 0 lo)).take (sIx xs.length xs.length hi - sIx xs.length 0 lo)
def slice : D → Option Int → Option Int → Option D
  | .lst xs, lo, hi => some (.lst (cutD xs lo hi))
  | .tup xs, lo, hi => some (.tup (cutD xs lo hi))
  | _, _, _ => none

inductive Ty where
  | int | bool | tuple | list | str | dict | none | cls (c : Nat)
  deriving DecidableEq
def D.hasTy : D → Ty → Bool
  | .int _, .int => true
  | .bl _, .int => true
  | .bl _, .bool => true
  | .tup _, .tuple => true
  | .lst _, .list => true
  | .fro _, .list => true
  | .str _, .str => true
  | .dic _ _, .dict => true
  | .ins c _ _, .cls k => c == k
  | _, _ => false
/-- values that isinstance may be asked of -/
def D.tyOk : D → Bool
  | .glo _ => false | .set _ => false | .fro _ => false | .ins _ _ _ => false | _ => true

inductive Bi where
  | len | sum | max | min | abs | int | bool | tuple | list | set | sorted | all | any
  deriving DecidableEq
def gInts : List D → Option (List Int)
  | [] => some []
  | .int i :: r => (gInts r).map (i :: ·)
  | _ :: _ => none
def gBools : List D → Option (List Bool)
  | [] => some []
  | .bl i :: r => (gBools r).map (i :: ·)
  | _ :: _ => none
/-- tuples of gInts -/
def rowsOf : List D → Option (List (List Int))
  | [] => some []
  | .tup xs :: r => (gInts xs).bind fun x => (rowsOf r).map (x :: ·)
  | _ :: _ => none
def maxL : List Int → Int
  | [] => 0
  | x :: xs => xs.foldl (fun a b => if b > a then b else a) x
def minL : List Int → Int
  | [] => 0
  | x :: xs => xs.foldl (fun a b => if b < a then b else a) x
def lexLt : List Int → List Int → Bool
  | [], _ :: _ => true
  | x :: xs, y :: ys => if x = y then lexLt xs ys else decide (x < y)
  | _, [] => false
def lexLe (a b : List Int) : Bool := !lexLt b a
def insRow (x : List Int) : List (List Int) → List (List Int)
  | [] => [x]
  | y :: ys => if lexLe x y then x :: y :: ys else y :: insRow x ys
def sortRows : List (List Int) → List (List Int)
  | [] => []
  | x :: xs => insRow x (sortRows xs)
def insInt (x : Int) : List Int → List Int
  | [] => [x]
  | y :: ys => if x ≤ y then x :: y :: ys else y :: insInt x ys
def sortInts : List Int → List Int
  | [] => []
  | x :: xs => insInt x (sortInts xs)
def rowD (x : List Int) : D := .tup (x.map .int)
def intsD (x : List Int) : List D := x.map .int
/-- each once, where it is first met -/
def firstMet {α : Type} [BEq α] : List α → List α
  | [] => []
  | x :: xs => x :: (firstMet xs).filter (fun y => !(y == x))
def nnRows (rs : List (List Int)) : Bool := rs.all fun r => r.all fun i => decide (0 ≤ i)
def sortedD (xs : List D) : Option D :=
  match gInts xs with
  | some ns => some (.lst (intsD (sortInts ns)))
  | none => match rowsOf xs with
    | some rs => if decide (rs.length ≤ 1) || decide (rs.length < 64) && nnRows rs && rs.all (fun r => decide (1 ≤ r.length ∧ r.length = (rs.headD []).length)) then some (.lst ((sortRows rs).map rowD)) else none
    | none => none
def bltin : Bi → List D → Option D
  | .len, [.lst xs] => some (.int xs.length)
  | .len, [.fro xs] => some (.int xs.length)
  | .len, [.tup xs] => some (.int xs.length)
  | .len, [.str s] => if lenOk s.length then some (.int s.length) else none
  | .len, [.dic ks _] => some (.int ks.length)
  | .sum, [.lst xs] => (gInts xs).map fun ns => .int ns.sum
  | .sum, [.tup xs] => (gInts xs).map fun ns => .int ns.sum
  | .max, [.lst xs] => (gInts xs).bind fun ns => if ns.isEmpty then none else some (.int (maxL ns))
  | .max, [.int i, .int j] => some (.int (if j > i then j else i))
  | .min, [.lst xs] => (gInts xs).bind fun ns => if ns.isEmpty then none else some (.int (minL ns))
  | .min, [.int i, .int j] => some (.int (if j < i then j else i))
  | .abs, [.int i] => some (.int (if i < 0 then -i else i))
  | .int, [.int i] => some (.int i)
  | .int, [.bl b] => some (.int (if b then 1 else 0))
  | .bool, [.bl b] => some (.bl b)
  | .bool, [.int i] => some (.bl (i != 0))
  | .tuple, [.lst xs] => some (.tup xs)
  | .tuple, [.tup xs] => some (.tup xs)
  | .list, [.lst xs] => some (.lst xs)
  | .list, [.tup xs] => some (.lst xs)
  | .sorted, [.lst xs] => sortedD xs
  | .sorted, [.set xs] => sortedD xs
  | .all, [.lst xs] => (gBools xs).map fun bs => .bl (bs.all id)
  | .any, [.lst xs] => (gBools xs).map fun bs => .bl (bs.any id)
  | _, _ => none
inductive Me where
  | index | keys | get1 | get2 | bitLength
  deriving DecidableEq
def idxOf (x : D) : List D → Option Nat
  | [] => none
  | y :: ys => if D.eqv y x then some 0 else (idxOf x ys).map (· + 1)
def D.flat : D → Bool
  | .non => true | .bl _ => true | .int _ => true | .str _ => true | _ => false
def meth : Me → D → List D → Option D
  | .index, .lst xs, [x] => if memOk x xs then (idxOf x xs).map fun (n : Nat) => .int (n : Int) else none
  | .get1, .dic ks vs, [k] => if k.isKey then some ((dget ks vs k).getD .non) else none
  | .get2, .dic ks vs, [k, x] => if k.isKey then some ((dget ks vs k).getD x) else none
  | _, _, _ => none

/-! ### terms -/
/-- a place: a slot, a path of fields -/
structure Pl where
  i : Nat
  fs : List Nat := []
inductive Tg where
  | n (i : Nat) | t (ts : List Tg) | skip
inductive Mu where
  | append | pop
  deriving DecidableEq
mutual
inductive E where
  | var (i : Nat)
  | pth (i : Nat) (fs : List Nat)
  | con (d : D)
  | bin (o : BinO) (a b : E) | un (o : UnO) (a : E) | cmp (o : CmpO) (a b : E)
  | chain (o o' : CmpO) (a b c : E)
  | and (a b : E) | or (a b : E) | not (a : E) | ife (c a b : E)
  | tup (es : List E) | lst (es : List E) | dic0
  | idx (a b : E) | sli (a : E) (lo hi : E)
  | att (a : E) (f : Nat)
  | call (f : Nat) (es : List E) (pm : List Nat)
  | callO (f : Nat) (as : List Arg) (pm : List Nat)
  | blt (b : Bi) (es : List E)
  | sets (e : E)
  | isi (a : E) (tys : List Ty)
  | met (m : Me) (a : E) (es : List E)
  | mth (a : E) (m : Nat) (es : List E)
  | mut (m : Mu) (i : Nat) (fs : List Nat) (es : List E)
  | new (c : Nat) (es : List E)
  | lc (own : List Nat) (tg : Tg) (it : It) (ifs : List E) (elt : E)
  | lc2 (own : List Nat) (tg : Tg) (it : It) (ifs : List E) (tg2 : Tg) (it2 : It) (ifs2 : List E) (elt : E)
inductive Arg where
  | e (x : E) | io (i : Nat) (fs : List Nat)
inductive It where
  | e (x : E) | rng1 (a : E) | rng2 (a b : E) | rng3 (a b c : E)
  | zip (a b : E) | zip3 (a b c : E) | enum (a : E) | rev (a : E) | rrng1 (a : E) | rrng2 (a b : E)
end
inductive S where
  | asg (tg : Tg) (e : E) | asgO (i : Nat) (e : E)
  | set (i : Nat) (fs : List Nat) (k e : E) | fset (i : Nat) (fs : List Nat) (f : Nat) (e : E)
  | aug (i : Nat) (o : BinO) (e : E)
  | expr (e : E) | ret (e : E) | retN | retO (i : Nat)
  | ite (c : E) (a b : List S)
  | for_ (tg : Tg) (it : It) (body : List S)
  | while_ (c : E) (body : List S)
  | brk | cont | pass | raise
  | try_ (body : List S)

/-! ### places -/
def D.asInt : D → Option Int
  | .int i => some i
  | _ => none
def fldGet {α : Type} : List Nat → List α → Nat → Option α
  | k :: ks, v :: vs, f => if k = f then some v else fldGet ks vs f
  | _, _, _ => none
def fldSet {α : Type} : List Nat → List α → Nat → α → Option (List α)
  | k :: ks, v :: vs, f, x => if k = f then some (x :: vs) else (fldSet ks vs f x).map (v :: ·)
  | _, _, _, _ => none
def D.fld : D → Nat → Option D
  | .ins _ ids vs, f => fldGet ids vs f
  | _, _ => none
def D.path : D → List Nat → Option D
  | d, [] => some d
  | d, f :: fs => (d.fld f).bind fun e => D.path e fs
def M.fld : M → Nat → Option M
  | .ins _ ids vs, f => fldGet ids vs f
  | .leaf d, f => (d.fld f).map .leaf
  | _, _ => none
def M.path : M → List Nat → Option M
  | m, [] => some m
  | m, f :: fs => (m.fld f).bind fun e => M.path e fs
/-- a value read off an owned tree: is it borrowed -/
def M.val : M → D × Bool
  | .leaf d => (d, false)
  | m => (m.fz, true)
def Slot.path : Slot → List Nat → Option M
  | .dead, _ => none
  | .sh d, fs => (d.path fs).map .leaf
  | .ow m, fs => m.path fs
def readM (G : Env) (i : Nat) (fs : List Nat) : Option M := G[i]?.bind fun s => s.path fs
def readPl (G : Env) (i : Nat) (fs : List Nat) : Option (D × Bool) := (readM G i fs).map M.val
def isLst : Option M → Bool
  | some (.lst _) => true
  | _ => false
/-- the owned node at a path, changed -/
def M.upd {β : Type} : List Nat → (M → Option (M × β)) → M → Option (M × β)
  | [], f, m => f m
  | k :: ks, f, .ins c ids vs => (fldGet ids vs k).bind fun m => (M.upd ks f m).bind fun r => (fldSet ids vs k r.1).map fun vs' => (.ins c ids vs', r.2)
  | _ :: _, _, _ => none
def updPl {β : Type} (G : Env) (i : Nat) (fs : List Nat) (f : M → Option (M × β)) : R β := match G[i]? with
  | some (.ow m) => (match M.upd fs f m with
    | some r => .ok (G.set i (.ow r.1)) r.2
    | none => .bad)
  | _ => .bad
def mIndex (m : M) (k : D) : Option M := match m with
  | .leaf d => (index d k).map .leaf
  | .lst xs => (match k with
    | .int i => (ixN xs.length i).bind fun j => xs[j]?
    | _ => none)
  | .dic ks vs => if k.isKey then mget ks vs k else none
  | _ => none
where mget : List D → List M → D → Option M
  | k :: ks, v :: vs, x => if keyEq k x then some v else mget ks vs x
  | _, _, _ => none
def allLeaf : List M → Bool
  | [] => true
  | .leaf _ :: r => allLeaf r
  | _ :: _ => false
def mPut (ks : List D) (vs : List M) (k : D) (v : M) : List D × List M :=
  if ks.any (keyEq · k) then (ks, List.zipWith (fun k' v' => if keyEq k' k then v else v') ks vs) else (ks ++ [k], vs ++ [v])
/-- o[k] = v on an owned node -/
def setM (k v : D) : M → Option (M × Unit)
  | .lst xs => (match k with
    | .int i => if allLeaf xs then (ixN xs.length i).map fun j => (.lst (xs.set j (.leaf v)), ()) else none
    | _ => none)
  | .dic ks vs => if k.isKey && (allLeaf vs && decide (ks.length < szLine)) then some (.dic (mPut ks vs k (.leaf v)).1 (mPut ks vs k (.leaf v)).2, ()) else none
  | _ => none
/-- o.f = v on an owned instance -/
def fsetM (f : Nat) (v : D) : M → Option (M × Unit)
  | .ins c ids vs => if allLeaf vs && decide (ids.length < 1000) then some ((match fldSet ids vs f (.leaf v) with
    | some vs' => .ins c ids vs'
    | none => .ins c (ids ++ [f]) (vs ++ [.leaf v])), ()) else none
  | _ => none
def mutM : Mu → List D → M → Option (M × D)
  | .append, [v], .lst xs => if decide (xs.length < szLine) then some (.lst (xs ++ [.leaf v]), .non) else none
  | .pop, [], .lst xs => (match xs.getLast? with
    | some (.leaf v) => some (.lst xs.dropLast, v)
    | _ => none)
  | _, _, _ => none

/-! ### loops -/
inductive Out where
  | next | ret (d : D) | brk | cont
def forLoop (asgn : D → Env → R Unit) (body : Env → R Out) : List D → Env → R Out
  | [], G => .ok G .next
  | d :: ds, G => (asgn d G).bind fun G1 _ => (body G1).bind fun G2 o => match o with
    | .next => forLoop asgn body ds G2
    | .cont => forLoop asgn body ds G2
    | .brk => .ok G2 .next
    | .ret d => .ok G2 (.ret d)
def whileLoop (c : Env → R Bool) (body : Env → R Out) : Nat → Env → R Out
  | 0, _ => .bad
  | n + 1, G => (c G).bind fun G1 b => if b then (body G1).bind fun G2 o => (match o with
    | .next => whileLoop c body n G2
    | .cont => whileLoop c body n G2
    | .brk => .ok G2 .next
    | .ret d => .ok G2 (.ret d)) else .ok G1 .next
/-- f gives an item's value, none where a test leaves it out -/
def compLoop (f : D → Env → R (List D)) : List D → Env → R (List D)
  | [], G => .ok G []
  | d :: ds, G => (f d G).bind fun G1 o => (compLoop f ds G1).bind fun G2 r => .ok G2 (o ++ r)

def wipe (G : Env) : List Nat → Env
  | [] => G
  | v :: vs => (wipe G vs).set v .dead
/-- the slots vs as in G0 -/
def unwipe (G0 G : Env) : List Nat → Env
  | [] => G
  | v :: vs => (unwipe G0 G vs).set v (G0.getD v .dead)
def Slot.isOw : Slot → Bool
  | .ow _ => true | _ => false
def anyOw (G : Env) (vs : List Nat) : Bool := vs.any fun v => (G.getD v .dead).isOw

mutual
def asgT : Tg → D → Env → R Unit
  | .n i, d, G => if decide (i < G.length) then .ok (G.set i (.sh d)) () else .bad
  | .skip, _, _ => .bad
  | .t ts, .tup xs, G => asgL ts xs G
  | .t _, _, _ => .bad
def asgL : List Tg → List D → Env → R Unit
  | [], [], G => .ok G ()
  | t :: ts, d :: ds, G => (asgT t d G).bind fun G1 _ => asgL ts ds G1
  | _, _, _ => .bad
end

/-! ### the interpreter -/
structure Ctx where
  /-- a class's __init__, __len__, a method by its number -/
  init : Nat → Option Nat
  lenOf : Nat → Option Nat
  mth : Nat → Nat → Option Nat
  /-- turns of a while loop, at most -/
  wh : Nat
  /-- the defs that give a new list or dict -/
  fr : Nat → Bool
abbrev Orc := Nat → List Slot → RC

mutual
def E.mf : E → Bool
  | .var _ => true | .pth _ _ => true | .con _ => true | .dic0 => true
  | .bin _ a b => a.mf && b.mf | .un _ a => a.mf | .cmp _ a b => a.mf && b.mf
  | .chain _ _ a b c => a.mf && (b.mf && c.mf)
  | .and a b => a.mf && b.mf | .or a b => a.mf && b.mf | .not a => a.mf | .ife c a b => c.mf && (a.mf && b.mf)
  | .tup es => E.mfL es | .lst es => E.mfL es
  | .idx a b => a.mf && b.mf | .sli a b c => a.mf && (b.mf && c.mf)
  | .att a _ => a.mf
  | .call _ es _ => E.mfL es
  | .callO _ _ _ => false
  | .blt _ es => E.mfL es
  | .sets e => e.mf
  | .isi a _ => a.mf
  | .met _ a es => a.mf && E.mfL es
  | .mth a _ es => a.mf && E.mfL es
  | .mut _ _ _ _ => false
  | .new _ es => E.mfL es
  | .lc _ _ it ifs elt => it.mf && (E.mfL ifs && elt.mf)
  | .lc2 _ _ it ifs _ it2 ifs2 elt => it.mf && (E.mfL ifs && (it2.mf && (E.mfL ifs2 && elt.mf)))
def E.mfL : List E → Bool
  | [] => true
  | e :: es => e.mf && E.mfL es
def It.mf : It → Bool
  | .e x => x.mf | .rng1 a => a.mf | .rng2 a b => a.mf && b.mf | .rng3 a b c => a.mf && (b.mf && c.mf)
  | .zip a b => a.mf && b.mf | .zip3 a b c => a.mf && (b.mf && c.mf) | .enum a => a.mf | .rev a => a.mf
  | .rrng1 a => a.mf | .rrng2 a b => a.mf && b.mf
end

def items : D → Option (List D)
  | .lst xs => some xs
  | .fro xs => some xs
  | .tup xs => some xs
  | _ => none
def rangeD (lo hi : Int) : List D := (List.range (hi - lo).toNat).map fun (k : Nat) => .int (lo + k)
def rngOk (i : Int) : Bool := ltp i.natAbs 62
def zipD : List D → List D → List D
  | x :: xs, y :: ys => .tup [x, y] :: zipD xs ys
  | _, _ => []
def zipD3 : List D → List D → List D → List D
  | x :: xs, y :: ys, z :: zs => .tup [x, y, z] :: zipD3 xs ys zs
  | _, _, _ => []
def enumD (n : Nat) : List D → List D
  | [] => []
  | x :: xs => .tup [.int n, x] :: enumD (n + 1) xs
def M.leaves : List M → Option (List D)
  | [] => some []
  | .leaf d :: r => (M.leaves r).map (d :: ·)
  | _ :: _ => none
/-- a place's list or tuple, to be walked -/
def M.seq : M → Option (List D × Bool)
  | .leaf d => (items d).map fun ds => (ds, false)
  | .lst ms => (M.leaves ms).map fun ds => (ds, true)
  | _ => none
/-- a value that is not borrowed -/
def fl (d : D) (b : Bool) : D × Bool := (d, b && !d.imm)
def own1 (d : D) : Option M := match d with
  | .lst xs => some (.lst (xs.map .leaf))
  | .dic ks vs => some (.dic ks (vs.map .leaf))
  | _ => none

/-- a list or dict all of whose members are leaves -/
def flatM : M → Bool
  | .lst ms => allLeaf ms
  | .dic _ ms => allLeaf ms
  | _ => false
/-- the owned arguments leave their places -/
def outsA : List (D ⊕ (Nat × List Nat)) → Env → Option (List Slot)
  | [], _ => some []
  | .inl d :: as, G => (outsA as G).map (.sh d :: ·)
  | .inr p :: as, G => if as.any (fun a => match a with | .inr q => q.1 == p.1 | _ => false) then none else (match G[p.1]? with
    | some (.ow m) => (match p.2 with
      | [] => (outsA as G).map (.ow m :: ·)
      | _ => none)
    | _ => none)
/-- .. and come back -/
def backA : List (D ⊕ (Nat × List Nat)) → List Slot → Env → Option Env
  | [], _, G => some G
  | .inl _ :: as, _ :: os, G => backA as os G
  | .inr p :: as, .ow m :: os, G => backA as os (G.set p.1 (.ow m))
  | _, _, _ => none
def callOw (orc : Orc) (f : Nat) (pm : List Nat) (r : List (D ⊕ (Nat × List Nat))) (G : Env) : R (D × Bool) :=
  match outsA (pm.map fun k => r.getD k (.inl .non)) G with
  | some ss => (match orc f ss with
    | .ok os d => (match backA (pm.map fun k => r.getD k (.inl .non)) os G with
      | some G1 => .ok G1 (d, false)
      | none => .bad)
    | .bad => .bad)
  | none => .bad

def notIns : Bi → List D → Bool
  | .len, [.ins _ _ _] => false
  | _, _ => true
/-- len of an instance -/
def lenI (C : Ctx) (orc : Orc) : List D → Option D
  | [.ins c ids vs] => (C.lenOf c).bind fun f => match orc f [.sh (.ins c ids vs)] with
    | .ok _ (.int n) => if decide (0 ≤ n) && ltp n.natAbs 62 then some (.int n) else none
    | _ => none
  | _ => none
def bltC (C : Ctx) (orc : Orc) (b : Bi) (r : List D × Bool) : Option (D × Bool) :=
  if notIns b r.1 then (bltin b r.1).map fun d => fl d r.2 else (lenI C orc r.1).map fun d => (d, false)
section
variable (C : Ctx) (orc : Orc)
mutual
def ev : E → Env → R (D × Bool)
  | .var i, G => (match G[i]? with
    | some (.sh d) => .ok G (d, false)
    | some (.ow m) => .ok (G.set i (.sh m.fz)) (m.fz, false)
    | _ => .bad)
  | .pth i fs, G => .ofO G (readPl G i fs)
  | .con d, G => .ok G (d, false)
  | .bin o a b, G => (ev a G).bind fun G1 x => if x.2 && !b.mf then .bad else (ev b G1).bind fun G2 y => .ofO G2 ((binop o x.1 y.1).map fun d => fl d (x.2 || y.2))
  | .un o a, G => (ev a G).bind fun G1 x => .ofO G1 ((unop o x.1).map fun d => fl d x.2)
  | .cmp o a b, G => (ev a G).bind fun G1 x => if x.2 && !b.mf then .bad else (ev b G1).bind fun G2 y => .ofO G2 ((cmpop o x.1 y.1).map fun d => fl d (x.2 || y.2))
  | .chain o o' a b c, G => (ev a G).bind fun G1 x => if x.2 && !b.mf then .bad else (ev b G1).bind fun G2 y => match cmpop o x.1 y.1 with
    | some (.bl false) => .ok G2 (.bl false, false)
    | some (.bl true) => if y.2 && !c.mf then .bad else (ev c G2).bind fun G3 z => .ofO G3 ((cmpop o' y.1 z.1).map fun d => fl d (y.2 || z.2))
    | _ => .bad
  | .and a b, G => (ev a G).bind fun G1 x => match truth x.1 with
    | some true => ev b G1
    | some false => .ok G1 x
    | none => .bad
  | .or a b, G => (ev a G).bind fun G1 x => match truth x.1 with
    | some false => ev b G1
    | some true => .ok G1 x
    | none => .bad
  | .not a, G => (evT a G).bind fun G1 k => .ok G1 (.bl (!k), false)
  | .ife c a b, G => (evT c G).bind fun G1 k => if k then ev a G1 else ev b G1
  | .tup es, G => (evs es G).bind fun G1 r => if r.2 then .bad else .ok G1 (.tup r.1, false)
  | .lst es, G => (evs es G).bind fun G1 r => if r.2 then .bad else .ok G1 (.lst r.1, false)
  | .dic0, G => .ok G (.dic [] [], false)
  | .idx a b, G => (match a with
    | .pth i fs => if b.mf && (readM G i fs).isSome then (ev b G).bind fun G1 y => (match (readM G1 i fs).bind fun m => mIndex m y.1 with
      | some m => .ok G1 m.val
      | none => .bad) else .bad
    | a => (ev a G).bind fun G1 x => if x.2 && !b.mf then .bad else (ev b G1).bind fun G2 y => .ofO G2 ((index x.1 y.1).map fun d => fl d x.2))
  | .sli a lo hi, G => (ev a G).bind fun G1 x => if x.2 && !(lo.mf && hi.mf) then .bad else (evI lo G1).bind fun G2 l => (evI hi G2).bind fun G3 h => .ofO G3 ((slice x.1 l h).map fun d => fl d x.2)
  | .att a f, G => (ev a G).bind fun G1 x => .ofO G1 ((x.1.fld f).map fun d => fl d x.2)
  | .call f es pm, G => (evs es G).bind fun G1 r => match orc f (pm.map fun k => Slot.sh (r.1.getD k .non)) with
    | .ok _ d => .ok G1 (fl d r.2)
    | .bad => .bad
  | .callO f as pm, G => (evA as G).bind fun G1 r => callOw orc f pm r G1
  | .blt b es, G => (evs es G).bind fun G1 r => .ofO G1 (bltC C orc b r)
  | .sets e, G => (ev e G).bind fun G1 x => match x.1 with
    | .lst xs => (match rowsOf xs with
        | some rs => if decide (rs.length < 64) then .ok G1 (.set ((firstMet rs).map rowD), false) else .bad
        | none => .bad)
    | _ => .bad
  | .isi a tys, G => (ev a G).bind fun G1 x => if x.1.tyOk then .ok G1 (.bl (tys.any x.1.hasTy), false) else .bad
  | .met m a es, G => (ev a G).bind fun G1 x => if x.2 && !E.mfL es then .bad else (evs es G1).bind fun G2 r => .ofO G2 ((meth m x.1 r.1).map fun d => fl d (x.2 || r.2))
  | .mth a m es, G => (ev a G).bind fun G1 x => if x.2 && !E.mfL es then .bad else (evs es G1).bind fun G2 r => match x.1 with
    | .ins c ids vs => (match C.mth c m with
      | some f => (match orc f (.sh (.ins c ids vs) :: r.1.map .sh) with
        | .ok _ d => .ok G2 (fl d (x.2 || r.2))
        | .bad => .bad)
      | none => .bad)
    | _ => .bad
  | .mut m i fs es, G => if isLst (readM G i fs) && (fs.isEmpty || E.mfL es) then (evs es G).bind fun G1 r => if r.2 then .bad else (updPl G1 i fs (mutM m r.1)).bind fun G2 d => .ok G2 (d, false) else .bad
  | .new c es, G => (evs es G).bind fun G1 r => if r.2 then .bad else match C.init c with
    | some f => (match orc f (.ow (.ins c [] []) :: r.1.map .sh) with
      | .ok (.ow m :: _) .non => .ok G1 (m.fz, false)
      | _ => .bad)
    | none => .bad
  | .lc own tg it ifs elt, G => (evIt it G).bind fun G1 r => if r.2 && !(E.mfL ifs && elt.mf) || anyOw G1 own then .bad else
      (compLoop (fun d G2 => (asgT tg d G2).bind fun G3 _ => (evIfs ifs G3).bind fun G4 k => if k then (ev elt G4).bind fun G5 x => if x.2 then .bad else .ok (wipe G5 own) [x.1] else .ok (wipe G4 own) []) r.1 (wipe G1 own)).bind fun G2 ds => if lenOk ds.length then .ok (unwipe G1 G2 own) (.lst ds, false) else .bad
  | .lc2 own tg it ifs tg2 it2 ifs2 elt, G => (evIt it G).bind fun G1 r => if r.2 && !(E.mfL ifs && (it2.mf && (E.mfL ifs2 && elt.mf))) || anyOw G1 own then .bad else
      (compLoop (fun d G2 => (asgT tg d G2).bind fun G3 _ => (evIfs ifs G3).bind fun G4 k => if k then
        (evIt it2 G4).bind fun G5 r2 => if r2.2 && !(E.mfL ifs2 && elt.mf) then .bad else
          (compLoop (fun d2 G6 => (asgT tg2 d2 G6).bind fun G7 _ => (evIfs ifs2 G7).bind fun G8 k2 => if k2 then (ev elt G8).bind fun G9 x => if x.2 then .bad else .ok G9 [x.1] else .ok G8 []) r2.1 G5).bind fun G6 ds => .ok (wipe G6 own) ds
        else .ok (wipe G4 own) []) r.1 (wipe G1 own)).bind fun G2 ds => if lenOk ds.length then .ok (unwipe G1 G2 own) (.lst ds, false) else .bad
/-- as a test -/
def evT : E → Env → R Bool
  | .and a b, G => (evT a G).bind fun G1 k => if k then evT b G1 else .ok G1 false
  | .or a b, G => (evT a G).bind fun G1 k => if k then .ok G1 true else evT b G1
  | .not a, G => (evT a G).bind fun G1 k => .ok G1 (!k)
  | e, G => (ev e G).bind fun G1 x => .ofO G1 (truth x.1)
/-- a slice's part -/
def evI : E → Env → R (Option Int)
  | .con .non, G => .ok G none
  | e, G => (ev e G).bind fun G1 x => .ofO G1 (x.1.asInt.map some)
def evs : List E → Env → R (List D × Bool)
  | [], G => .ok G ([], false)
  | e :: es, G => (ev e G).bind fun G1 x => if x.2 && !E.mfL es then .bad else (evs es G1).bind fun G2 r => .ok G2 (x.1 :: r.1, x.2 || r.2)
def evIfs : List E → Env → R Bool
  | [], G => .ok G true
  | e :: es, G => (evT e G).bind fun G1 k => if k then evIfs es G1 else .ok G1 false
def evA : List Arg → Env → R (List (D ⊕ (Nat × List Nat)))
  | [], G => .ok G []
  | .e x :: as, G => (ev x G).bind fun G1 v => if v.2 then .bad else (evA as G1).bind fun G2 r => .ok G2 (.inl v.1 :: r)
  | .io i fs :: as, G => if (G.getD i .dead).isOw && fs.isEmpty then (evA as G).bind fun G2 r => .ok G2 (.inr (i, fs) :: r) else .bad
/-- a list or a tuple that is walked: its items (clean), and whether the object itself must stay as it is -/
def evSq : E → Env → R (List D × Bool)
  | .pth i fs, G => .ofO G ((readM G i fs).bind M.seq)
  | e, G => (ev e G).bind fun G1 v => .ofO G1 ((items v.1).bind fun ds => if v.2 && !D.immL ds then none else some (ds, v.2))
/-- what a loop walks: its items -/
def evIt : It → Env → R (List D × Bool)
  | .e x, G => evSq x G
  | .rng1 a, G => (ev a G).bind fun G1 x => .ofO G1 (x.1.asInt.bind fun j => if rngOk j then some (rangeD 0 j, false) else none)
  | .rng2 a b, G => (ev a G).bind fun G1 x => (ev b G1).bind fun G2 y => .ofO G2 (x.1.asInt.bind fun i => y.1.asInt.bind fun j => if rngOk i && rngOk j then some (rangeD i j, false) else none)
  | .rng3 _ _ _, _ => .bad
  | .zip a b, G => (evSq a G).bind fun G1 x => if x.2 && !b.mf then .bad else (evSq b G1).bind fun G2 y => .ok G2 (zipD x.1 y.1, x.2 || y.2)
  | .zip3 a b c, G => (evSq a G).bind fun G1 x => if x.2 && !(b.mf && c.mf) then .bad else (evSq b G1).bind fun G2 y => if y.2 && !c.mf then .bad else (evSq c G2).bind fun G3 z => .ok G3 (zipD3 x.1 y.1 z.1, x.2 || (y.2 || z.2))
  | .enum a, G => (evSq a G).bind fun G1 x => .ok G1 (enumD 0 x.1, x.2)
  | .rev a, G => (evSq a G).bind fun G1 x => .ok G1 (x.1.reverse, x.2)
  | .rrng1 a, G => (ev a G).bind fun G1 x => .ofO G1 (x.1.asInt.bind fun j => if rngOk j then some ((rangeD 0 j).reverse, false) else none)
  | .rrng2 a b, G => (ev a G).bind fun G1 x => (ev b G1).bind fun G2 y => .ofO G2 (x.1.asInt.bind fun i => y.1.asInt.bind fun j => if rngOk i && rngOk j then some ((rangeD i j).reverse, false) else none)
end

mutual
def evS : S → Env → R Out
  | .asg tg e, G => (ev C orc e G).bind fun G1 x => if x.2 then .bad else (asgT tg x.1 G1).bind fun G2 _ => .ok G2 .next
  | .asgO i e, G => (ev C orc e G).bind fun G1 x => if x.2 then .bad else (match own1 x.1 with
    | some m => if decide (i < G1.length) then .ok (G1.set i (.ow m)) .next else .bad
    | none => .bad)
  | .set i fs k e, G => (ev C orc e G).bind fun G1 x => if x.2 || !k.mf || (readM G1 i fs).isNone then .bad else (ev C orc k G1).bind fun G2 y => (updPl G2 i fs (setM y.1 x.1)).bind fun G3 _ => .ok G3 .next
  | .fset i fs f e, G => (ev C orc e G).bind fun G1 x => if x.2 then .bad else (updPl G1 i fs (fsetM f x.1)).bind fun G2 _ => .ok G2 .next
  | .aug i o e, G => (match G[i]? with
    | some (.sh x) => (ev C orc e G).bind fun G1 y => (match x, binop o x y.1 with
      | .int _, some d => .ok (G1.set i (.sh d)) .next
      | _, _ => .bad)
    | _ => .bad)
  | .expr e, G => (ev C orc e G).bind fun G1 _ => .ok G1 .next
  | .ret e, G => (ev C orc e G).bind fun G1 x => if x.2 then .bad else .ok G1 (.ret x.1)
  | .retN, G => .ok G (.ret .non)
  | .retO i, G => (match G[i]? with
    | some (.ow m) => if flatM m then .ok (G.set i .dead) (.ret m.fz) else .bad
    | _ => .bad)
  | .ite c a b, G => (evT C orc c G).bind fun G1 k => if k then evSs a G1 else evSs b G1
  | .for_ tg it body, G => (evIt C orc it G).bind fun G1 r => if r.2 then .bad else forLoop (asgT tg) (evSs body) r.1 G1
  | .while_ c body, G => whileLoop (evT C orc c) (evSs body) C.wh G
  | .brk, G => .ok G .brk
  | .cont, G => .ok G .cont
  | .pass, G => .ok G .next
  | .raise, _ => .bad
  | .try_ body, G => evSs body G
def evSs : List S → Env → R Out
  | [], G => .ok G .next
  | s :: ss, G => (evS s G).bind fun G1 o => match o with
    | .next => evSs ss G1
    | o => .ok G1 o
end
end

/-- a def: how many names, which parameters are owned, the body -/
structure Fn where
  n : Nat
  io : List Bool
  body : List S
  fr : Bool
def enter (n : Nat) (as : List Slot) : Env := as ++ List.replicate (n - as.length) .dead
/-- the owned parameters at the end -/
def leave : List Bool → Env → Option (List Slot)
  | [], _ => some []
  | true :: bs, .ow m :: G => (leave bs G).map (.ow m :: ·)
  | false :: bs, _ :: G => (leave bs G).map (.dead :: ·)
  | _, _ => none
def ioOk : List Bool → List Slot → Bool
  | [], [] => true
  | true :: bs, .ow _ :: as => ioOk bs as
  | false :: bs, .sh _ :: as => ioOk bs as
  | _, _ => false
def runFn (C : Ctx) (orc : Orc) (F : Fn) (as : List Slot) : RC :=
  if ioOk F.io as && decide (as.length ≤ F.n) then (match evSs C orc F.body (enter F.n as) with
    | .ok G o => (match leave F.io G with
      | some os => (match o with
        | .ret d => .ok os d
        | .next => if F.fr then .bad else .ok os .non
        | _ => .bad)
      | none => .bad)
    | .bad => .bad) else .bad
def callN (C : Ctx) (fns : List Fn) : Nat → Orc
  | 0 => fun _ _ => .bad
  | d + 1 => fun f as => match fns[f]? with
    | some F => runFn C (callN C fns d) F as
    | none => .bad

end Py
end
section
set_option Elab.async false
set_option linter.all false
set_option maxRecDepth 100000
set_option maxHeartbeats 1000000
namespace Py
open PySem PySem.Spec PyProof.Rows L2

abbrev St := L2.St
/-- what stands fixed: the written part, the classes, the names of the fields -/
structure Ki where
  P : Program
  w : World
  K : PySem.W.Frag
  ca : Nat → Addr
  fd : Nat → Str
  inj : ∀ f g, fd f = fd g → f = g

def LstAt (_ : Ki) (P : Addr → Prop) (H : Hp) (a : Addr) (vs : List V) : Prop := H a = some (.lst vs) ∧ ¬ P a
theorem LstAt.sq {k : Ki} {K : PySem.W.Frag} {P : Addr → Prop} {H : Hp} {a : Addr} {vs : List V} (h : LstAt k P H a vs) : SqL K H a vs := .inl (.inl h.1)

/-- a list that stays as it is: the script's -/
def FroAt (k : Ki) (H : Hp) (a : Addr) (vs : List V) : Prop := (∃ o, H a = some (.frz o (.lst vs))) ∨ ∃ (o : Obj) (its : Array Value) (n : Nat), k.K.lookup a = some o ∧ o.cls = .type "list" ∧ o.dict = none ∧ o.data = .seq its n ∧ its.size ≤ sizeLine ∧ Vals vs its.toList
theorem FroAt.sq {k : Ki} {H : Hp} {a : Addr} {vs : List V} (h : FroAt k H a vs) : SqL k.K H a vs := h.imp (fun h => .inr h) id

def keyV : D → Option Key
  | .int i => some (.inl i)
  | .str s => some (.inr s)
  | _ => none

mutual
inductive RepX (k : Ki) (P : Addr → Prop) (H : Hp) : V → D → Prop
  | non : RepX k P H .non .non
  | bl (b : Bool) : RepX k P H (.bl b) (.bl b)
  | int (i : Int) : RepX k P H (.int i) (.int i)
  | str (s : Str) : RepX k P H (.str s) (.str s)
  | tup {a : Addr} {vs : List V} {ds : List D} : SqT k.K H a vs → RepL k P H vs ds → RepX k P H (.ref a) (.tup ds)
  | fro {a : Addr} {vs : List V} {ds : List D} : FroAt k H a vs → RepL k P H vs ds → RepX k P H (.ref a) (.fro ds)
  | lst {a : Addr} {vs : List V} {ds : List D} : LstAt k P H a vs → RepL k P H vs ds → RepX k P H (.ref a) (.lst ds)
  | dic {a : Addr} {kvs : List (Key × V)} {ks ds : List D} : H a = some (.dK kvs) → ¬ P a → ks.map keyV = kvs.map (fun p => some p.1) → RepL k P H (kvs.map (·.2)) ds → RepX k P H (.ref a) (.dic ks ds)
  | set {a : Addr} {L : List (Addr × List Int)} {rs : List (List Int)} {ds : List D} : H a = some (SetTO k.P k.w a L) → ¬ P a → (∀ p ∈ L, SqT k.K H p.1 (p.2.map V.int)) → (∀ r, r ∈ L.map (·.2) ↔ r ∈ rs) → rs.Nodup → ds = rs.map rowD → RepX k P H (.ref a) (.set ds)
  | ins {a dx : Addr} {c : Nat} {fs : List (Str × V)} {ids : List Nat} {ds : List D} : H a = some (.ins (k.ca c) dx fs) → ¬ P a → fs.map (·.1) = ids.map k.fd → RepL k P H (fs.map (·.2)) ds → RepX k P H (.ref a) (.ins c ids ds)
inductive RepL (k : Ki) (P : Addr → Prop) (H : Hp) : List V → List D → Prop
  | nil : RepL k P H [] []
  | cons {v : V} {d : D} {vs : List V} {ds : List D} : RepX k P H v d → RepL k P H vs ds → RepL k P H (v :: vs) (d :: ds)
end

/-- what is not in P stands -/
def Ext (P : Addr → Prop) (H H' : Hp) : Prop := ∀ a o, H a = some o → ¬ P a → H' a = some o
/-- what is in P may be written -/
def Pm (P : Addr → Prop) (H : Hp) : Prop := ∀ a, P a → Mut (H a)

section
variable {k : Ki} {P P' : Addr → Prop} {H H' : Hp}
theorem sqt_mono {K : PySem.W.Frag} {a : Addr} {vs : List V} (e : Ext P H H') (pm : Pm P H) (h : SqT K H a vs) : SqT K H' a vs := by
  rcases h with (h | ⟨o, h⟩) | h
  · exact .inl (.inl (e a _ h fun q => by have := pm a q; rw [h] at this; exact this))
  · exact .inl (.inr ⟨o, e a _ h fun q => by have := pm a q; rw [h] at this; exact this⟩)
  · exact .inr h
theorem LstAt.mono {a : Addr} {vs : List V} (e : Ext P H H') (pm : Pm P H) (hp : ∀ a, P' a → P a ∨ H a = none) (h : LstAt k P H a vs) : LstAt k P' H' a vs := by
  obtain ⟨h, n⟩ := h
  refine ⟨e a _ h n, fun q => ?_⟩
  rcases hp a q with q | q
  · exact n q
  · rw [h] at q; cases q
theorem frz_mono {a : Addr} {o : Obj} {u : HO} (e : Ext P H H') (pm : Pm P H) (h : H a = some (.frz o u)) : H' a = some (.frz o u) := e a _ h fun q => by have := pm a q; rw [h] at this; exact this
theorem fro_mono {a : Addr} {vs : List V} (e : Ext P H H') (pm : Pm P H) (h : FroAt k H a vs) : FroAt k H' a vs := h.imp (fun ⟨o, h⟩ => ⟨o, frz_mono e pm h⟩) id
theorem notin_mono {a : Addr} {o : HO} (hp : ∀ a, P' a → P a ∨ H a = none) (h : H a = some o) (n : ¬ P a) : ¬ P' a := fun q => by
  rcases hp a q with q | q
  · exact n q
  · rw [h] at q; cases q
mutual
theorem RepX.mono (e : Ext P H H') (pm : Pm P H) (hp : ∀ a, P' a → P a ∨ H a = none) : ∀ {v : V} {d : D}, RepX k P H v d → RepX k P' H' v d
  | _, _, .non => .non
  | _, _, .bl b => .bl b
  | _, _, .int i => .int i
  | _, _, .str s => .str s
  | _, _, .tup h r => .tup (sqt_mono e pm h) (RepL.mono e pm hp r)
  | _, _, .fro h r => .fro (fro_mono e pm h) (RepL.mono e pm hp r)
  | _, _, .lst h r => .lst (LstAt.mono e pm hp h) (RepL.mono e pm hp r)
  | _, _, .dic h n hk r => .dic (e _ _ h n) (notin_mono hp h n) hk (RepL.mono e pm hp r)
  | _, _, .set h n ht hl hn hd => .set (e _ _ h n) (notin_mono hp h n) (fun p q => sqt_mono e pm (ht p q)) hl hn hd
  | _, _, .ins h n hk r => .ins (e _ _ h n) (notin_mono hp h n) hk (RepL.mono e pm hp r)
theorem RepL.mono (e : Ext P H H') (pm : Pm P H) (hp : ∀ a, P' a → P a ∨ H a = none) : ∀ {vs : List V} {ds : List D}, RepL k P H vs ds → RepL k P' H' vs ds
  | _, _, .nil => .nil
  | _, _, .cons h r => .cons (RepX.mono e pm hp h) (RepL.mono e pm hp r)
end
mutual
theorem RepX.imm : ∀ {v : V} {d : D}, RepX k P H v d → d.imm = true → RepX k P' H v d
  | _, _, .non, _ => .non
  | _, _, .bl b, _ => .bl b
  | _, _, .int i, _ => .int i
  | _, _, .str s, _ => .str s
  | _, _, .tup h r, e => .tup h (RepL.imm r (by simpa [D.imm] using e))
  | _, _, .fro h r, e => .fro h (RepL.imm r (by simpa [D.imm] using e))
  | _, _, .lst _ _, e => by simp [D.imm] at e
  | _, _, .dic _ _ _ _, e => by simp [D.imm] at e
  | _, _, .set _ _ _ _ _ _, e => by simp [D.imm] at e
  | _, _, .ins _ _ _ _, e => by simp [D.imm] at e
theorem RepL.imm : ∀ {vs : List V} {ds : List D}, RepL k P H vs ds → D.immL ds = true → RepL k P' H vs ds
  | _, _, .nil, _ => .nil
  | _, _, .cons h r, e => by
    simp only [D.immL, Bool.and_eq_true] at e
    exact .cons (RepX.imm h e.1) (RepL.imm r e.2)
end
theorem Ext.refl : Ext P H H := fun _ _ h _ => h
theorem RepX.sub (hp : ∀ a, P' a → P a) {v : V} {d : D} (pm : Pm P H) (h : RepX k P H v d) : RepX k P' H v d := h.mono Ext.refl pm fun a q => .inl (hp a q)
theorem RepL.sub (hp : ∀ a, P' a → P a) {vs : List V} {ds : List D} (pm : Pm P H) (h : RepL k P H vs ds) : RepL k P' H vs ds := h.mono Ext.refl pm fun a q => .inl (hp a q)
theorem same_ext (h : Same H H') : Ext P H H' := fun a o e _ => h a o e
theorem RepL.length : ∀ {vs : List V} {ds : List D}, RepL k P H vs ds → vs.length = ds.length
  | _, _, .nil => rfl
  | _, _, .cons _ r => congrArg Nat.succ (RepL.length r)
theorem RepL.get : ∀ {vs : List V} {ds : List D} {i : Nat} {d : D}, RepL k P H vs ds → ds[i]? = some d → ∃ v, vs[i]? = some v ∧ RepX k P H v d
  | _, _, _, _, .nil, e => by simp at e
  | _, _, 0, _, .cons h _, e => by simp at e; subst e; exact ⟨_, rfl, h⟩
  | _, _, i + 1, d, .cons _ r, e => by
    obtain ⟨v, h1, h2⟩ := RepL.get (i := i) (d := d) r (by simpa using e)
    exact ⟨v, by simpa using h1, h2⟩
theorem RepL.getV : ∀ {vs : List V} {ds : List D} {i : Nat} {v : V}, RepL k P H vs ds → vs[i]? = some v → ∃ d, ds[i]? = some d ∧ RepX k P H v d
  | _, _, _, _, .nil, e => by simp at e
  | _, _, 0, _, .cons h _, e => by simp at e; subst e; exact ⟨_, rfl, h⟩
  | _, _, i + 1, d, .cons _ r, e => by
    obtain ⟨v, h1, h2⟩ := RepL.getV (i := i) (v := d) r (by simpa using e)
    exact ⟨v, by simpa using h1, h2⟩
theorem RepL.append : ∀ {vs ws : List V} {ds es : List D}, RepL k P H vs ds → RepL k P H ws es → RepL k P H (vs ++ ws) (ds ++ es)
  | _, _, _, _, .nil, s => s
  | _, _, _, _, .cons h r, s => .cons h (RepL.append r s)
theorem RepL.take : ∀ {vs : List V} {ds : List D} (n : Nat), RepL k P H vs ds → RepL k P H (vs.take n) (ds.take n)
  | _, _, 0, _ => .nil
  | _, _, _ + 1, .nil => .nil
  | _, _, n + 1, .cons h r => .cons h (RepL.take n r)
theorem RepL.drop : ∀ {vs : List V} {ds : List D} (n : Nat), RepL k P H vs ds → RepL k P H (vs.drop n) (ds.drop n)
  | _, _, 0, r => r
  | _, _, _ + 1, .nil => .nil
  | _, _, n + 1, .cons _ r => RepL.drop n r
theorem RepL.reverse {vs : List V} {ds : List D} (h : RepL k P H vs ds) : RepL k P H vs.reverse ds.reverse := by
  induction vs generalizing ds with
  | nil => cases h; exact .nil
  | cons v vs ih =>
    cases h with
    | cons h r => rw [List.reverse_cons, List.reverse_cons]; exact (ih r).append (.cons h .nil)
theorem RepL.rep {vs : List V} {ds : List D} (h : RepL k P H vs ds) : ∀ n : Nat, RepL k P H (List.replicate n vs).flatten (List.replicate n ds).flatten
  | 0 => .nil
  | n + 1 => by
    rw [List.replicate_succ, List.replicate_succ, List.flatten_cons, List.flatten_cons]
    exact h.append (h.rep n)
/-- gInts -/
theorem RepX.int_inv {v : V} {i : Int} (h : RepX k P H v (.int i)) : v = .int i := by cases h; rfl
theorem RepX.bl_inv {v : V} {b : Bool} (h : RepX k P H v (.bl b)) : v = .bl b := by cases h; rfl
theorem RepX.str_inv {v : V} {s : Str} (h : RepX k P H v (.str s)) : v = .str s := by cases h; rfl
theorem RepX.non_inv {v : V} (h : RepX k P H v .non) : v = .non := by cases h; rfl
theorem RepL.ints_inv : ∀ {vs : List V} {ds : List D} {ns : List Int}, RepL k P H vs ds → gInts ds = some ns → vs = ns.map V.int
  | _, _, _, .nil, e => by simp [gInts] at e; subst e; rfl
  | _, _, ns, .cons h r, e => by
    cases h with
    | int i =>
      simp only [gInts, Option.map_eq_some_iff] at e
      obtain ⟨ms, e1, rfl⟩ := e
      rw [RepL.ints_inv r e1]; rfl
    | _ => simp [gInts] at e
theorem RepL.bools_inv : ∀ {vs : List V} {ds : List D} {ns : List Bool}, RepL k P H vs ds → gBools ds = some ns → vs = ns.map V.bl
  | _, _, _, .nil, e => by simp [gBools] at e; subst e; rfl
  | _, _, ns, .cons h r, e => by
    cases h with
    | bl i =>
      simp only [gBools, Option.map_eq_some_iff] at e
      obtain ⟨ms, e1, rfl⟩ := e
      rw [RepL.bools_inv r e1]; rfl
    | _ => simp [gBools] at e
theorem repL_ints (ns : List Int) : RepL k P H (ns.map V.int) (intsD ns) := by
  induction ns with
  | nil => exact .nil
  | cons n ns ih => exact .cons (.int n) ih
end
end Py
end
section
set_option Elab.async false
set_option linter.all false
set_option maxRecDepth 100000
set_option maxHeartbeats 1000000
namespace Py
open PySem PySem.Spec PyProof.Rows L2

mutual
inductive RepM (k : Ki) (P : Addr → Prop) (H : Hp) : V → M → List Addr → Prop
  | leaf {v : V} {d : D} : RepX k P H v d → RepM k P H v (.leaf d) []
  | lst {a : Addr} {vs : List V} {ms : List M} {as : List Addr} : H a = some (.lst vs) → RepMs k P H vs ms as → RepM k P H (.ref a) (.lst ms) (a :: as)
  | dic {a : Addr} {kvs : List (Key × V)} {ks : List D} {ms : List M} {as : List Addr} : H a = some (.dK kvs) → ks.map keyV = kvs.map (fun p => some p.1) → RepMs k P H (kvs.map (·.2)) ms as → RepM k P H (.ref a) (.dic ks ms) (a :: as)
  | ins {a dx : Addr} {c : Nat} {fs : List (Str × V)} {ids : List Nat} {ms : List M} {as : List Addr} : H a = some (.ins (k.ca c) dx fs) → fs.map (·.1) = ids.map k.fd → RepMs k P H (fs.map (·.2)) ms as → RepM k P H (.ref a) (.ins c ids ms) (a :: as)
inductive RepMs (k : Ki) (P : Addr → Prop) (H : Hp) : List V → List M → List Addr → Prop
  | nil : RepMs k P H [] [] []
  | cons {v : V} {m : M} {vs : List V} {ms : List M} {as bs : List Addr} : RepM k P H v m as → RepMs k P H vs ms bs → RepMs k P H (v :: vs) (m :: ms) (as ++ bs)
end
section
variable {k : Ki} {P P' : Addr → Prop} {H H' : Hp}
mutual
theorem RepM.mono (e : Ext P H H') (pm : Pm P H) (hp : ∀ a, P' a → P a ∨ H a = none) : ∀ {v : V} {m : M} {as : List Addr}, (∀ a ∈ as, H' a = H a) → RepM k P H v m as → RepM k P' H' v m as
  | _, _, _, _, .leaf h => .leaf (h.mono e pm hp)
  | _, _, _, s, .lst h r => .lst ((s _ List.mem_cons_self).trans h) (RepMs.mono e pm hp (fun a q => s a (List.mem_cons_of_mem _ q)) r)
  | _, _, _, s, .dic h hk r => .dic ((s _ List.mem_cons_self).trans h) hk (RepMs.mono e pm hp (fun a q => s a (List.mem_cons_of_mem _ q)) r)
  | _, _, _, s, .ins h hk r => .ins ((s _ List.mem_cons_self).trans h) hk (RepMs.mono e pm hp (fun a q => s a (List.mem_cons_of_mem _ q)) r)
theorem RepMs.mono (e : Ext P H H') (pm : Pm P H) (hp : ∀ a, P' a → P a ∨ H a = none) : ∀ {v : List V} {m : List M} {as : List Addr}, (∀ a ∈ as, H' a = H a) → RepMs k P H v m as → RepMs k P' H' v m as
  | _, _, _, _, .nil => .nil
  | _, _, _, s, .cons h r => .cons (RepM.mono e pm hp (fun a q => s a (List.mem_append_left _ q)) h) (RepMs.mono e pm hp (fun a q => s a (List.mem_append_right _ q)) r)
end
mutual
theorem RepM.fz (pm : Pm P H) (hp : ∀ a, P' a → P a) : ∀ {v : V} {m : M} {as : List Addr}, (∀ a ∈ as, ¬ P' a) → RepM k P H v m as → RepX k P' H v m.fz
  | _, _, _, _, .leaf h => h.sub hp pm
  | _, _, _, s, .lst h r => .lst ⟨h, s _ List.mem_cons_self⟩ (RepMs.fz pm hp (fun a q => s a (List.mem_cons_of_mem _ q)) r)
  | _, _, _, s, .dic h hk r => .dic h (s _ List.mem_cons_self) hk (RepMs.fz pm hp (fun a q => s a (List.mem_cons_of_mem _ q)) r)
  | _, _, _, s, .ins h hk r => .ins h (s _ List.mem_cons_self) hk (RepMs.fz pm hp (fun a q => s a (List.mem_cons_of_mem _ q)) r)
theorem RepMs.fz (pm : Pm P H) (hp : ∀ a, P' a → P a) : ∀ {v : List V} {m : List M} {as : List Addr}, (∀ a ∈ as, ¬ P' a) → RepMs k P H v m as → RepL k P' H v (M.fzL m)
  | _, _, _, _, .nil => .nil
  | _, _, _, s, .cons h r => .cons (RepM.fz pm hp (fun a q => s a (List.mem_append_left _ q)) h) (RepMs.fz pm hp (fun a q => s a (List.mem_append_right _ q)) r)
end
theorem RepM.there {v : V} {m : M} {as : List Addr} (h : RepM k P H v m as) : ∀ a ∈ as, ∃ o, H a = some o := by
  revert h
  exact RepM.rec (k := k) (P := P) (H := H) (motive_1 := fun v m as _ => ∀ a ∈ as, ∃ o, H a = some o) (motive_2 := fun v m as _ => ∀ a ∈ as, ∃ o, H a = some o)
    (fun _ a q => by cases q) (fun h _ ih a q => (List.mem_cons.mp q).elim (fun e => ⟨_, e ▸ h⟩) (ih a))
    (fun h _ _ ih a q => (List.mem_cons.mp q).elim (fun e => ⟨_, e ▸ h⟩) (ih a))
    (fun h _ _ ih a q => (List.mem_cons.mp q).elim (fun e => ⟨_, e ▸ h⟩) (ih a))
    (fun a q => by cases q) (fun _ _ i1 i2 a q => (List.mem_append.mp q).elim (i1 a) (i2 a))
theorem RepM.mut {v : V} {m : M} {as : List Addr} (h : RepM k P H v m as) : ∀ a ∈ as, Mut (H a) := by
  revert h
  exact RepM.rec (k := k) (P := P) (H := H) (motive_1 := fun v m as _ => ∀ a ∈ as, Mut (H a)) (motive_2 := fun v m as _ => ∀ a ∈ as, Mut (H a))
    (fun _ a q => by cases q) (fun h _ ih a q => (List.mem_cons.mp q).elim (fun e => by rw [e, h]; trivial) (ih a))
    (fun h _ _ ih a q => (List.mem_cons.mp q).elim (fun e => by rw [e, h]; trivial) (ih a))
    (fun h _ _ ih a q => (List.mem_cons.mp q).elim (fun e => by rw [e, h]; trivial) (ih a))
    (fun a q => by cases q) (fun _ _ i1 i2 a q => (List.mem_append.mp q).elim (i1 a) (i2 a))
theorem RepMs.leaves {vs : List V} {ds : List D} (h : RepL k P H vs ds) : RepMs k P H vs (ds.map .leaf) [] := by
  induction vs generalizing ds with
  | nil => cases h; exact .nil
  | cons v vs ih => cases h with
    | cons h r => exact .cons (as := []) (.leaf h) (ih r)
end

/-! ### the frame's slots -/
abbrev Fp := Nat → List Addr
def Own (F : Addr → Prop) (fp : Fp) : Addr → Prop := fun a => F a ∨ ∃ i, a ∈ fp i
def SlotOk (k : Ki) (P : Addr → Prop) (H : Hp) (v : Option (Option V)) (as : List Addr) : Option Slot → Prop
  | some (.sh d) => (∃ x, v = some (some x) ∧ RepX k P H x d) ∧ as = []
  | some (.ow m) => ∃ x, v = some (some x) ∧ RepM k P H x m as
  | _ => as = []
structure EnvOk (k : Ki) (F : Addr → Prop) (σ : St) (H : Hp) (G : Env) (fp : Fp) : Prop where
  len : σ.length = G.length
  slot : ∀ i, SlotOk k (Own F fp) H σ[i]? (fp i) G[i]?
  nd : ∀ i, (fp i).Nodup
  dj : ∀ i j a, a ∈ fp i → a ∈ fp j → i = j
  df : ∀ i a, a ∈ fp i → ¬ F a
  pm : Pm (Own F fp) H
/-- from a state to a later one -/
structure Tr (fp : Fp) (H : Hp) (fp' : Fp) (H' : Hp) : Prop where
  keep : ∀ a o, H a = some o → (∀ i, a ∉ fp i) → H' a = some o
  new : ∀ i a, a ∈ fp' i → (∃ j, a ∈ fp j) ∨ H a = none
  stay : ∀ a, H' a = none → H a = none
theorem Tr.refl (fp : Fp) (H : Hp) : Tr fp H fp H := ⟨fun _ _ h _ => h, fun i _ h => .inl ⟨i, h⟩, fun _ h => h⟩
theorem Tr.trans {fp fp1 fp2 : Fp} {H H1 H2 : Hp} (a : Tr fp H fp1 H1) (b : Tr fp1 H1 fp2 H2) : Tr fp H fp2 H2 where
  stay := fun x h => a.stay x (b.stay x h)
  keep := fun x o h n => b.keep x o (a.keep x o h n) fun i q => by
    rcases a.new i x q with ⟨j, q⟩ | q
    · exact n j q
    · rw [h] at q; cases q
  new := fun i x q => by
    rcases b.new i x q with ⟨j, q⟩ | q
    · exact a.new j x q
    · by_cases hx : ∃ j, x ∈ fp j
      · exact .inl hx
      · right
        cases e : H x with
        | none => rfl
        | some o => rw [a.keep x o e fun i r => hx ⟨i, r⟩] at q; cases q
section
variable {k : Ki} {F : Addr → Prop} {σ : St} {H H' : Hp} {G : Env} {fp fp' : Fp}
theorem Tr.ext (t : Tr fp H fp' H') : Ext (Own F fp) H H' := fun a o h n => t.keep a o h fun i q => n (.inr ⟨i, q⟩)
theorem Tr.sub (t : Tr fp H fp' H') : ∀ a, Own F fp' a → Own F fp a ∨ H a = none := fun a q => by
  rcases q with q | ⟨i, q⟩
  · exact .inl (.inl q)
  · rcases t.new i a q with q | q
    · exact .inl (.inr q)
    · exact .inr q
theorem Tr.rep (t : Tr fp H fp' H') (pm : Pm (Own F fp) H) {v : V} {d : D} (h : RepX k (Own F fp) H v d) : RepX k (Own F fp') H' v d := h.mono t.ext pm t.sub
theorem Tr.repL (t : Tr fp H fp' H') (pm : Pm (Own F fp) H) {v : List V} {d : List D} (h : RepL k (Own F fp) H v d) : RepL k (Own F fp') H' v d := h.mono t.ext pm t.sub
/-- all that stood stands -/
theorem EnvOk.same (E : EnvOk k F σ H G fp) (s : Same H H') : EnvOk k F σ H' G fp := by
  have hm : ∀ i a, a ∈ fp i → H' a = H a := fun i a q => by
    have hs := E.slot i
    cases hg : G[i]? with
    | none => rw [hg] at hs; have : fp i = [] := hs; rw [this] at q; cases q
    | some sl =>
      rw [hg] at hs
      cases sl with
      | dead => have : fp i = [] := hs; rw [this] at q; cases q
      | sh d => have : fp i = [] := hs.2; rw [this] at q; cases q
      | ow m =>
        obtain ⟨x, _, r⟩ := hs
        obtain ⟨o, ho⟩ := r.there a q
        rw [ho, s a o ho]
  refine ⟨E.len, fun i => ?_, E.nd, E.dj, E.df, fun a q => ?_⟩
  · have hs := E.slot i
    cases hg : G[i]? with
    | none => rw [hg] at hs; exact hs
    | some sl =>
      rw [hg] at hs
      cases sl with
      | dead => exact hs
      | sh d => obtain ⟨⟨x, e, r⟩, z⟩ := hs; exact ⟨⟨x, e, r.mono (same_ext s) E.pm fun _ q => .inl q⟩, z⟩
      | ow m => obtain ⟨x, e, r⟩ := hs; exact ⟨x, e, r.mono (same_ext s) E.pm (fun _ q => .inl q) (hm i)⟩
  · have := E.pm a q
    cases e : H a with
    | none => rw [e] at this; exact this.elim
    | some o => rw [s a o e]; rw [e] at this; exact this
theorem same_tr (s : Same H H') : Tr fp H fp H' := ⟨fun a o h _ => s a o h, fun i _ h => .inl ⟨i, h⟩, fun a h => by
  cases e : H a with
  | none => rfl
  | some o => rw [s a o e] at h; cases h⟩
/-- a value as an expression gives it: clean, or borrowed -/
def VRep (k : Ki) (F : Addr → Prop) (fp : Fp) (H : Hp) (v : V) (d : D) (b : Bool) : Prop := RepX k (if b = true then F else Own F fp) H v d
theorem Pm.sub {P P' : Addr → Prop} (pm : Pm P H) (h : ∀ a, P' a → P a) : Pm P' H := fun a q => pm a (h a q)
theorem EnvOk.pmB (E : EnvOk k F σ H G fp) (b : Bool) : Pm (if b = true then F else Own F fp) H := by
  cases b with
  | true => exact E.pm.sub fun a q => .inl q
  | false => exact E.pm
theorem VRep.weak (E : EnvOk k F σ H G fp) {v : V} {d : D} {b c : Bool} (h : VRep k F fp H v d b) (hb : b = true → c = true) : VRep k F fp H v d c := by
  cases b with
  | true => rw [hb rfl]; exact h
  | false =>
    cases c with
    | false => exact h
    | true => exact RepX.sub (P := Own F fp) (fun a q => .inl q) E.pm h
theorem VRep.imm {v : V} {d : D} {b c : Bool} (h : VRep k F fp H v d b) (hi : d.imm = true) : VRep k F fp H v d c := RepX.imm h hi
/-- a borrowed value stays if all stands, a clean one always -/
theorem VRep.tr (E : EnvOk k F σ H G fp) (t : Tr fp H fp' H') {v : V} {d : D} {b : Bool} (h : VRep k F fp H v d b) (hb : b = true → Same H H') : VRep k F fp' H' v d b := by
  cases b with
  | true => exact RepX.mono (P := F) (same_ext (hb rfl)) (E.pm.sub fun a q => .inl q) (fun a q => .inl q) h
  | false => exact t.rep E.pm h
end
end Py
end
section
set_option Elab.async false
set_option linter.all false
set_option maxRecDepth 100000
set_option maxHeartbeats 4000000
namespace Py
open PySem PySem.Spec PyProof.Rows L2

theorem same_new {H : Hp} {p : Addr} {o : HO} (h : H p = none) : Same H (upd H p o) := fun b x e => by
  rw [upd_ne (ne_of_none e h)]
  exact e
theorem ssame {H : Hp} : Same H H := fun _ _ h => h

/-! ### t * k for k below 2 -/
theorem tuple_mul1 (l : Addr) (items : Array Value) (n : Nat) (dd : Option Addr) (sl : Array (Option Value)) (x : Int) (u : Tok) (c0 : (decide (x < -(2 ^ 63)) || decide (x ≥ 2 ^ 63)) = false) (c1 : (items.isEmpty || x == 1) = true) :
    Meets (Builtin.«tuple.__mul__» ⟨[.ref l, .int x u], []⟩) (fun _ R s => s.heap.get? l = some { cls := .type "tuple", dict := dd, data := .seq items n, slots := sl } ∧
      R (.ok (.ret (Value.ref l))) s) :=
  .of_wp fun prog w A R s h => by
    obtain ⟨hp, g, d, tk, os⟩ := s
    obtain ⟨hl, h⟩ := h
    have f1 := AutoSeq1.idx_int
    wp_walk using wpAny_loadPart' hl
    repeat (first
      | (refine wpAny_ite_false (decide_eq_false (by rw [c0]; exact Bool.false_ne_true)) ?_; wp_walk using wpAny_loadPart' hl)
      | (refine wpAny_ite_true (decide_eq_true (by rw [c1])) ?_; wp_walk using wpAny_loadPart' hl))
    exact ⟨_, rfl, h⟩
theorem tuple_mul0 (l : Addr) (items : Array Value) (n : Nat) (dd : Option Addr) (sl : Array (Option Value)) (x : Int) (u : Tok) (c0 : (decide (x < -(2 ^ 63)) || decide (x ≥ 2 ^ 63)) = false) (c1 : (items.isEmpty || x == 1) = false) (c2 : (decide (x ≤ 0) || items.isEmpty) = true) :
    Meets (Builtin.«tuple.__mul__» ⟨[.ref l, .int x u], []⟩) (fun _ R s => s.heap.get? l = some { cls := .type "tuple", dict := dd, data := .seq items n, slots := sl } ∧
      R (.ok (.ret (Value.ref s.heap.objs.size))) { s with heap := s.heap.push { cls := Value.type "tuple", data := Data.seq #[] }, toks := s.toks }) :=
  .of_wp fun prog w A R s h => by
    obtain ⟨hp, g, d, tk, os⟩ := s
    obtain ⟨hl, h⟩ := h
    have f1 := AutoSeq1.idx_int
    wp_walk using wpAny_loadPart' hl
    repeat (first
      | (refine wpAny_ite_false (decide_eq_false (by rw [c0]; exact Bool.false_ne_true)) ?_; wp_walk using wpAny_loadPart' hl)
      | (refine wpAny_ite_false (decide_eq_false (by rw [c1]; exact Bool.false_ne_true)) ?_; wp_walk using wpAny_loadPart' hl)
      | (refine wpAny_ite_true (decide_eq_true (by rw [c2])) ?_; wp_walk using wpAny_loadPart' hl))
    exact ⟨_, rfl, h⟩

def rRepA (K : PySem.W.Frag) : R2 := fun x y H Q => ∃ l k xs, x = .ref l ∧ y = .int k ∧ SqT K H l xs ∧ -1000 ≤ k ∧ k ≤ 1000 ∧ xs.length ≤ 1000 ∧
  ((xs = [] ∨ k = 1) → Q (.ref l) H) ∧ (¬ (xs = [] ∨ k = 1) → ∀ p, H p = none → Q (.ref p) (upd H p (.tup (List.replicate k.toNat xs).flatten)))
section
variable {X : Cx}
theorem op_repA : OpR X (binaryOp .Mult) (rRepA X.K) := by
  intro pins s σ H x y v u Q I rx ry h
  obtain ⟨l, k, xs, rfl, rfl, hT, h1, h2, hz, q1, q2⟩ := h
  by_cases big : xs ≠ [] ∧ 2 ≤ k
  · exact op_repT pins s σ H _ _ v u Q I rx ry ⟨l, k, xs, rfl, rfl, hT, big.1, big.2, h2, hz, q2 (fun z => z.elim big.1 (fun e => by omega))⟩
  cases rx
  obtain ⟨t, rfl⟩ := ry
  obtain ⟨its, r, ⟨⟨cls, dd, data, sl⟩, ho, hc, n, hd⟩, hs⟩ := I.tuple hT
  simp only at hc hd
  subst hc hd
  have c0 : (decide (k < -(2 ^ 63)) || decide (k ≥ 2 ^ 63)) = false := by
    rw [decide_eq_false (by omega), decide_eq_false (by omega)] <;> rfl
  have hi : its.toArray.isEmpty = xs.isEmpty := by cases r <;> rfl
  by_cases one : xs = [] ∨ k = 1
  · have c1 : (its.toArray.isEmpty || k == 1) = true := by
      rw [hi]
      rcases one with e | e
      · rw [e]; rfl
      · rw [e]; simp
    exact wpAny_binaryOp_repeat_ref (T := "tuple") (U := "int") (by decide) ⟨_, ho, rfl⟩ (fun s' => typeIs_int s' k t) noFill_tuple_mul F.fills_int_mul F.slot_int_rmul repeat_tuple F.slot_int_index.lookup
      (call_meets F.slot_int_rmul (typeIs_int s k t) F.entry_int_rmul (F.args_int_rmul_2 _ _) (int_rmul_tuple k t l its.toArray n dd sl)
        ⟨ho, rfl, ⟨_, ho, rfl⟩, call_meets F.slot_tuple_mul ⟨_, ho, rfl⟩ F.entry_tuple_mul (F.args_tuple_mul_2 _ _) (tuple_mul1 l its.toArray n dd sl k t c0 c1) ⟨ho, ⟨.ref l, H, I, rfl, q1 one⟩⟩⟩)
  · have ne : xs ≠ [] := fun e => one (.inl e)
    have n1 : k ≠ 1 := fun e => one (.inr e)
    have le : k ≤ 0 := by
      by_cases z : 2 ≤ k
      · exact absurd ⟨ne, z⟩ big
      · omega
    have hx : xs.isEmpty = false := by cases xs with
      | nil => exact absurd rfl ne
      | cons _ _ => rfl
    have c1 : (its.toArray.isEmpty || k == 1) = false := by rw [hi, hx]; simpa using n1
    have c2 : (decide (k ≤ 0) || its.toArray.isEmpty) = true := by rw [decide_eq_true le]; rfl
    refine wpAny_binaryOp_repeat_ref (T := "tuple") (U := "int") (by decide) ⟨_, ho, rfl⟩ (fun s' => typeIs_int s' k t) noFill_tuple_mul F.fills_int_mul F.slot_int_rmul repeat_tuple F.slot_int_index.lookup
      (call_meets F.slot_int_rmul (typeIs_int s k t) F.entry_int_rmul (F.args_int_rmul_2 _ _) (int_rmul_tuple k t l its.toArray n dd sl)
        ⟨ho, rfl, ⟨_, ho, rfl⟩, call_meets F.slot_tuple_mul ⟨_, ho, rfl⟩ F.entry_tuple_mul (F.args_tuple_mul_2 _ _) (tuple_mul0 l its.toArray n dd sl k t c0 c1 c2) ⟨ho, ?_⟩⟩)
    have e0 : (List.replicate k.toNat xs).flatten = [] := by rw [show k.toNat = 0 by omega]; rfl
    have q3 := q2 one
    rw [e0] at q3
    refine ⟨.ref s.heap.objs.size, _, I.laid (t' := s.toks) (o := .tup []) (fun b ob q => Heap.get?_push_of_some _ q) (Nat.le_refl _) ?_, rfl, q3 _ (I.hok.fresh (Nat.le_refl _))⟩
    exact ⟨Nat.zero_le _, [], .nil, IsTup.new _ _⟩

/-! ### two-place operations -/
def opOf : BinO → Operator
  | .add => .Add | .sub => .Sub | .mul => .Mult | .fdiv => .FloorDiv | .mod => .Mod | .pow => .Pow | .shl => .LShift | .shr => .RShift | .band => .BitAnd | .bor => .BitOr | .bxor => .BitXor
def rBin (k : Ki) (o : BinO) : R2 := fun x y H Q => ∃ P d1 d2 d, Pm P H ∧ RepX k P H x d1 ∧ RepX k P H y d2 ∧ binop o d1 d2 = some d ∧ ∀ H' v, Same H H' → RepX k P H' v d → Q v H'
theorem szLine_eq : szLine = sizeLine := by rw [sizeLine_eq]; rfl
theorem lenOk_le {n : Nat} (h : lenOk n = true) : n ≤ sizeLine := by
  have := of_decide_eq_true h
  rw [szLine_eq] at this
  exact this
theorem new_tup {k : Ki} {P : Addr → Prop} {H : Hp} {vs : List V} {ds : List D} {Q : VK} (pm : Pm P H) (r : RepL k P H vs ds) (q : ∀ H' v, Same H H' → RepX k P H' v (.tup ds) → Q v H') : ∀ p, H p = none → Q (.ref p) (upd H p (.tup vs)) := fun p np =>
  q _ _ (same_new np) (.tup (.inl (.inl upd_same)) (r.mono (same_ext (same_new np)) pm fun _ z => .inl z))
theorem pm_free {P : Addr → Prop} {H : Hp} (pm : Pm P H) {p : Addr} (np : H p = none) : ¬ P p := fun q => by have := pm p q; rw [np] at this; exact this
theorem new_lst {k : Ki} {P : Addr → Prop} {H : Hp} {vs : List V} {ds : List D} {Q : VK} (pm : Pm P H) (r : RepL k P H vs ds) (q : ∀ H' v, Same H H' → RepX k P H' v (.lst ds) → Q v H') : ∀ p, H p = none → Q (.ref p) (upd H p (.lst vs)) := fun p np =>
  q _ _ (same_new np) (.lst ⟨upd_same, pm_free pm np⟩ (r.mono (same_ext (same_new np)) pm fun _ z => .inl z))
theorem mulOk_ok {i j : Int} (h : mulOk i j = true) : CMul i j ∨ CMulW i j := by
  unfold mulOk at h
  simp only [Bool.or_eq_true, decide_eq_true_eq] at h
  rcases h with h | h | h
  · exact .inl (.inl (ltp_int h))
  · exact .inl (.inr (ltp_int h))
  · exact .inr h
theorem cpow_ok {i j : Int} (h : 0 ≤ j ∧ ltp j.natAbs 19 = true ∧ ltp i.natAbs 64 = true) : CPow i j := by
  have := ltp_int h.2.1
  exact ⟨h.1, by omega, ltp_lt h.2.2⟩
theorem op_bin {k : Ki} (hK : X.K = k.K) (o : BinO) : OpR X (binaryOp (opOf o)) (rBin k o) := by
  intro pins s σ H x y v u Q I rx ry ⟨P, d1, d2, d, pm, h1, h2, hb, q⟩
  have int : ∀ (i : Int), d = .int i → Q (.int i) H := fun i e => q H _ ssame (by rw [e]; exact .int i)
  cases o with
  | add =>
    cases h1 with
    | int i => cases h2 with
      | int j => exact op_add pins s σ H _ _ v u Q I rx ry ⟨i, j, rfl, rfl, int _ (by simpa [binop] using hb.symm)⟩
      | _ => simp [binop] at hb
    | tup ht r => cases h2 with
      | tup ht2 r2 =>
        simp only [binop] at hb
        split at hb
        · rename_i hz
          cases hb
          rw [← hK] at ht ht2
          refine op_catA pins s σ H _ _ v u Q I rx ry ⟨_, _, _, _, rfl, rfl, ht, ht2, ?_, fun e => ?_, fun _ e => ?_, fun _ _ => new_tup pm (r.append r2) q⟩
          · have := lenOk_le hz; rw [r.length, r2.length]; exact this
          · subst e; cases r; exact q H _ ssame (.tup (by rw [← hK]; exact ht2) r2)
          · subst e; cases r2; rw [List.append_nil] at q; exact q H _ ssame (.tup (by rw [← hK]; exact ht) r)
        · cases hb
      | _ => simp [binop] at hb
    | lst ht r => cases h2 with
      | lst ht2 r2 =>
        simp only [binop] at hb
        split at hb
        · rename_i hz
          cases hb
          refine op_cat pins s σ H _ _ v u Q I rx ry ⟨_, _, _, _, rfl, rfl, ht.1, ht2.1, ?_, new_lst pm (r.append r2) q⟩
          have := lenOk_le hz; rw [r.length, r2.length]; exact this
        · cases hb
      | _ => simp [binop] at hb
    | _ => simp [binop] at hb
  | sub => cases h1 <;> first | (simp [binop] at hb; done) | (cases h2 <;> first | (simp [binop] at hb; done) | exact op_sub pins s σ H _ _ v u Q I rx ry ⟨_, _, rfl, rfl, int _ (by simpa [binop] using hb.symm)⟩)
  | mul =>
    cases h1 with
    | int i => cases h2 with
      | int j =>
        simp only [binop] at hb
        split at hb
        · rename_i hz
          cases hb
          rcases mulOk_ok hz with hz | hz
          · exact op_mul pins s σ H _ _ v u Q I rx ry ⟨i, j, rfl, rfl, hz, int _ rfl⟩
          · exact op_mulW pins s σ H _ _ v u Q I rx ry ⟨i, j, rfl, rfl, hz, int _ rfl⟩
        · cases hb
      | _ => simp [binop] at hb
    | lst ht r => cases h2 with
      | int j =>
        simp only [binop] at hb
        split at hb
        · rename_i hz
          simp only [Bool.and_eq_true, decide_eq_true_eq] at hz
          obtain ⟨z1', z3⟩ := hz
          obtain ⟨z2, z1⟩ := ltp_int z1'
          cases hb
          refine op_rep pins s σ H _ _ v u Q I rx ry ⟨_, j, _, rfl, rfl, ht.1, by omega, by omega, ?_, new_lst pm (r.rep j.toNat) q⟩
          have := lenOk_le z3; rw [r.length]; exact this
        · cases hb
      | _ => simp [binop] at hb
    | tup ht r => cases h2 with
      | int j =>
        simp only [binop] at hb
        split at hb
        · rename_i hz
          simp only [Bool.and_eq_true, decide_eq_true_eq] at hz
          obtain ⟨z1', z3⟩ := hz
          have zb := ltp_int z1'
          have z1 : j ≤ 1000 := by omega
          have z2 : -1000 ≤ j := by omega
          cases hb
          refine op_repA pins s σ H _ _ v u Q I rx ry ⟨_, j, _, rfl, rfl, by rw [hK]; exact ht, z2, z1, by rw [r.length]; exact z3, fun e => ?_, fun _ => new_tup pm (r.rep j.toNat) q⟩
          rcases e with e | e
          · subst e; cases r
            refine q H _ ssame ?_
            rw [show rep j.toNat ([] : List D) = [] from by unfold rep; simp]
            exact .tup ht .nil
          · subst e
            refine q H _ ssame ?_
            rw [show ∀ z : List D, rep (1 : Int).toNat z = z from fun z => List.append_nil z]
            exact .tup ht r
        · cases hb
      | _ => simp [binop] at hb
    | _ => simp [binop] at hb
  | fdiv =>
    cases h1 <;> first | (simp [binop] at hb; done) | skip
    cases h2 <;> first | (simp [binop] at hb; done) | skip
    simp only [binop] at hb
    split at hb
    · rename_i hz
      simp only [Bool.and_eq_true, decide_eq_true_eq] at hz
      cases hb
      exact op_fdivW pins s σ H _ _ v u Q I rx ry ⟨_, _, rfl, rfl, hz, int _ rfl⟩
    · cases hb
  | mod =>
    cases h1 <;> first | (simp [binop] at hb; done) | skip
    cases h2 <;> first | (simp [binop] at hb; done) | skip
    simp only [binop] at hb
    split at hb
    · rename_i hz
      simp only [decide_eq_true_eq] at hz
      cases hb
      exact op_mod pins s σ H _ _ v u Q I rx ry ⟨_, _, rfl, rfl, hz, int _ rfl⟩
    · cases hb
  | pow =>
    cases h1 <;> first | (simp [binop] at hb; done) | skip
    cases h2 <;> first | (simp [binop] at hb; done) | skip
    simp only [binop] at hb
    split at hb
    · rename_i hz
      simp only [Bool.and_eq_true, decide_eq_true_eq] at hz
      cases hb
      exact op_pow pins s σ H _ _ v u Q I rx ry ⟨_, _, rfl, rfl, cpow_ok hz, int _ rfl⟩
    · cases hb
  | shl =>
    cases h1 <;> first | (simp [binop] at hb; done) | skip
    cases h2 <;> first | (simp [binop] at hb; done) | skip
    simp only [binop] at hb
    split at hb
    · rename_i hz
      simp only [Bool.and_eq_true, decide_eq_true_eq] at hz
      cases hb
      exact op_shl pins s σ H _ _ v u Q I rx ry ⟨_, _, rfl, rfl, cpow_ok hz, int _ rfl⟩
    · cases hb
  | shr =>
    cases h1 <;> first | (simp [binop] at hb; done) | skip
    cases h2 <;> first | (simp [binop] at hb; done) | skip
    simp only [binop] at hb
    split at hb
    · rename_i hz
      simp only [decide_eq_true_eq] at hz
      cases hb
      exact op_shr pins s σ H _ _ v u Q I rx ry ⟨_, _, rfl, rfl, hz, int _ rfl⟩
    · cases hb
  | band => cases h1 <;> first | (simp [binop] at hb; done) | (cases h2 <;> first | (simp [binop] at hb; done) | exact op_and pins s σ H _ _ v u Q I rx ry ⟨_, _, rfl, rfl, int _ (by simpa [binop] using hb.symm)⟩)
  | bor => cases h1 <;> first | (simp [binop] at hb; done) | (cases h2 <;> first | (simp [binop] at hb; done) | exact op_or pins s σ H _ _ v u Q I rx ry ⟨_, _, rfl, rfl, int _ (by simpa [binop] using hb.symm)⟩)
  | bxor => cases h1 <;> first | (simp [binop] at hb; done) | (cases h2 <;> first | (simp [binop] at hb; done) | exact op_xor pins s σ H _ _ v u Q I rx ry ⟨_, _, rfl, rfl, int _ (by simpa [binop] using hb.symm)⟩)
end
end Py
end
section
set_option Elab.async false
set_option linter.all false
set_option maxRecDepth 100000
set_option maxHeartbeats 4000000
namespace Py
open PySem PySem.Spec PyProof.Rows L2
mutual
theorem eqOk_lay : ∀ {n : Nat} {d : D}, D.eqOk n d = true → d.py.canLay0 = true ∧ d.py.depth ≤ n
  | n, .non, _ => ⟨rfl, Nat.zero_le _⟩
  | n, .bl _, _ => ⟨rfl, Nat.zero_le _⟩
  | n, .int _, _ => ⟨rfl, Nat.zero_le _⟩
  | n, .str s, h => ⟨by simpa [D.py, PyData.canLay0, PyData.strOk, D.eqOk] using h, Nat.zero_le _⟩
  | 0, .tup xs, h => by simp [D.eqOk] at h
  | n + 1, .tup xs, h => by
    have := eqOkL_lay (n := n) (ds := xs) (by simpa [D.eqOk] using h)
    simp only [D.py, PyData.canLay0, PyData.depth]
    exact ⟨this.1, Nat.succ_le_succ this.2⟩
  | 0, .lst xs, h => by simp [D.eqOk] at h
  | n + 1, .lst xs, h => by
    have := eqOkL_lay (n := n) (ds := xs) (by simpa [D.eqOk] using h)
    simp only [D.py, PyData.canLay0, PyData.depth]
    exact ⟨this.1, Nat.succ_le_succ this.2⟩
  | n, .dic _ _, h => by simp [D.eqOk] at h
  | n, .set _, h => by simp [D.eqOk] at h
  | n, .ins _ _ _, h => by simp [D.eqOk] at h
  | n, .fro _, h => by simp [D.eqOk] at h
  | n, .glo _, h => by simp [D.eqOk] at h
theorem eqOkL_lay : ∀ {n : Nat} {ds : List D}, D.eqOkL n ds = true → PyData.canLayAll0 (D.pyL ds) = true ∧ PyData.depthAll (D.pyL ds) ≤ n
  | n, [], _ => ⟨rfl, Nat.zero_le _⟩
  | n, d :: ds, h => by
    simp only [D.eqOkL, Bool.and_eq_true] at h
    have h1 := eqOk_lay h.1
    have h2 := eqOkL_lay h.2
    simp only [D.pyL, PyData.canLayAll0, PyData.depthAll, Bool.and_eq_true]
    exact ⟨⟨h1.1, h2.1⟩, by omega⟩
end
mutual
theorem eqOk_dp {k : Ki} {P : Addr → Prop} {H : Hp} : ∀ {n : Nat} {v : V} {d : D}, RepX k P H v d → D.eqOk n d = true → Dp k.K H v d.py
  | n, _, _, .non, _ => .non
  | n, _, _, .bl b, _ => .bl b
  | n, _, _, .int i, _ => .int i
  | n, _, _, .str s, _ => .str s
  | 0, _, _, .tup _ _, h => by simp [D.eqOk] at h
  | n + 1, _, _, .tup ht r, h => .tup ht (eqOkL_dp (n := n) r (by simpa [D.eqOk] using h))
  | 0, _, _, .lst _ _, h => by simp [D.eqOk] at h
  | n + 1, _, _, .lst ht r, h => .lst ht.sq (eqOkL_dp (n := n) r (by simpa [D.eqOk] using h))
  | n, _, _, .dic _ _ _ _, h => by simp [D.eqOk] at h
  | n, _, _, .set _ _ _ _ _ _, h => by simp [D.eqOk] at h
  | n, _, _, .ins _ _ _ _, h => by simp [D.eqOk] at h
  | n, _, _, .fro _ _, h => by simp [D.eqOk] at h
theorem eqOkL_dp {k : Ki} {P : Addr → Prop} {H : Hp} : ∀ {n : Nat} {vs : List V} {ds : List D}, RepL k P H vs ds → D.eqOkL n ds = true → DpAll k.K H vs (D.pyL ds)
  | n, _, _, .nil, _ => .nil
  | n, _, _, .cons h r, e => by
    simp only [D.eqOkL, Bool.and_eq_true] at e
    exact .cons (eqOk_dp h e.1) (eqOkL_dp r e.2)
end
mutual
theorem eqv_py : ∀ {n m : Nat} (a b : D), D.eqOk n a = true → D.eqOk m b = true → PyData.eqv a.py b.py = D.eqv a b
  | n, m, a, b, ha, hb => by
    cases a <;> first | (simp [D.eqOk] at ha; done) | skip
    all_goals (cases b <;> first | (simp [D.eqOk] at hb; done) | skip)
    all_goals first
      | (simp only [D.py, D.eqv, PyData.eqv]; done)
      | rfl
      | (rename_i xs ys
         cases n <;> first | (simp [D.eqOk] at ha; done) | skip
         cases m <;> first | (simp [D.eqOk] at hb; done) | skip
         simp only [D.py, D.eqv, PyData.eqv]
         exact eqvL_py xs ys (by simpa [D.eqOk] using ha) (by simpa [D.eqOk] using hb))
theorem eqvL_py : ∀ {n m : Nat} (a b : List D), D.eqOkL n a = true → D.eqOkL m b = true → PyData.eqvAll (D.pyL a) (D.pyL b) = D.eqvL a b
  | _, _, [], [], _, _ => rfl
  | _, _, [], _ :: _, _, _ => rfl
  | _, _, _ :: _, [], _, _ => rfl
  | _, _, x :: xs, y :: ys, ha, hb => by
    simp only [D.eqOkL, Bool.and_eq_true] at ha hb
    simp only [D.pyL, D.eqvL, PyData.eqvAll]
    rw [eqv_py x y ha.1 hb.1, eqvL_py xs ys ha.2 hb.2]
end
theorem any_py {n m : Nat} (a : D) (ha : D.eqOk n a = true) : ∀ xs : List D, D.eqOkL m xs = true → ((D.pyL xs).any fun y => PyData.eqv y a.py) = xs.any fun x => D.eqv x a
  | [], _ => rfl
  | x :: xs, h => by
    simp only [D.eqOkL, Bool.and_eq_true] at h
    simp only [D.pyL, List.any_cons]
    rw [eqv_py x a h.1 ha, any_py a ha xs h.2]
theorem shaped_of {d : D} (h : D.eqOk 64 d = true) : SeqAt.shaped d.py = true := by
  have := eqOk_lay h
  unfold SeqAt.shaped
  rw [this.1, Bool.true_and]
  exact decide_eq_true this.2

section
variable {X : Cx}
def cmpOf : CmpO → CmpOp
  | .eq => .Eq | .ne => .NotEq | .lt => .Lt | .le => .LtE | .gt => .Gt | .ge => .GtE | .isNone => .Is | .isntNone => .IsNot | .isTrue => .Is | .isFalse => .Is | .mem => .In | .nmem => .NotIn
theorem is_bool_gen {M : Model} {A : Around} {E : Value → Shared → Prop} {s : Shared} {Q : Value → Shared → Prop} {x : V} {v : Value} {b : Bool} (r : RelV x v) (h : Q (.bool (decide (x = .bl b))) s) : wpAny M A (compareOp .Is v (.bool b)) Q E s := by
  have f : ∀ {u : Value} {c : Bool}, (u == Value.bool b) = c → Q (.bool c) s → Q (.bool (u == Value.bool b)) s := fun e q => by rw [e]; exact q
  cases x with
  | non => cases r; exact wpAny_pure (f (c := false) rfl (by simpa using h))
  | bl c =>
    cases r
    by_cases e : c = b
    · subst e; exact wpAny_is_self rfl (by simpa using h)
    · exact wpAny_is_other rfl (fun z => e (Value.bool.inj z)) (by simpa [e] using h)
  | int i => obtain ⟨t, rfl⟩ := r; exact wpAny_pure (f (c := false) rfl (by simpa using h))
  | str i => obtain ⟨t, rfl⟩ := r; exact wpAny_pure (f (c := false) rfl (by simpa using h))
  | byt i => obtain ⟨t, rfl⟩ := r; exact wpAny_pure (f (c := false) rfl (by simpa using h))
  | flt i => obtain ⟨t, rfl⟩ := r; exact wpAny_pure (f (c := false) rfl (by simpa using h))
  | ref i => cases r; exact wpAny_pure (f (c := false) rfl (by simpa using h))
  | ty i => cases r; exact wpAny_pure (f (c := false) rfl (by simpa using h))
def rCmp (k : Ki) (o : CmpO) : R2 := fun x y H Q => ∃ P d1 d2 d, Pm P H ∧ RepX k P H x d1 ∧ RepX k P H y d2 ∧ cmpop o d1 d2 = some d ∧ ∀ v, RepX k P H v d → Q v H
theorem pyl_list (xs : List D) : D.py (.lst xs) = .list (D.pyL xs) := rfl
theorem key_rel {d : D} {key : Key} (h : keyV d = some key) {k : Ki} {P : Addr → Prop} {H : Hp} {v : V} (r : RepX k P H v d) : v = kV key := by
  cases r <;> simp [keyV] at h
  · subst h; rfl
  · subst h; rfl
theorem isKey_key {d : D} (h : d.isKey = true) : ∃ key, keyV d = some key := by
  cases d <;> simp [D.isKey] at h
  · exact ⟨_, rfl⟩
  · exact ⟨_, rfl⟩
theorem keyEq_iff {a b : D} {p q : Key} (ha : keyV a = some p) (hb : keyV b = some q) : keyEq a b = decide (p = q) := by
  cases a <;> simp [keyV] at ha <;> cases b <;> simp [keyV] at hb <;> subst ha <;> subst hb <;> simp [keyEq, Bool.beq_eq_decide_eq]
theorem dget_val {k : Ki} {P : Addr → Prop} {H : Hp} {x : D} {key : Key} (hx : keyV x = some key) : ∀ {ks ds : List D} {kvs : List (Key × V)}, ks.map keyV = kvs.map (fun p => some p.1) → RepL k P H (kvs.map (·.2)) ds →
    (dget ks ds x = none ∧ valV kvs key = none) ∨ ∃ d v, dget ks ds x = some d ∧ valV kvs key = some v ∧ RepX k P H v d
  | [], ds, [], _, r => by
    left
    exact ⟨by cases ds <;> rfl, rfl⟩
  | c :: ks, ds, [], e, _ => by simp at e
  | [], ds, p :: kvs, e, _ => by simp at e
  | c :: ks, ds, p :: kvs, e, r => by
    simp only [List.map_cons, List.cons.injEq] at e
    cases r with
    | cons r1 r2 =>
      rename_i d ds
      by_cases z : p.1 = key
      · right
        refine ⟨d, p.2, ?_, valV_pos z, r1⟩
        show (if keyEq c x = true then some d else dget ks ds x) = some d
        rw [keyEq_iff e.1 hx, if_pos (decide_eq_true z)]
      · have h1 : dget (c :: ks) (d :: ds) x = dget ks ds x := by
          show (if keyEq c x = true then some d else dget ks ds x) = _
          rw [keyEq_iff e.1 hx, if_neg (by simpa using z)]
        rw [h1, valV_neg z]
        exact dget_val hx e.2 r2
theorem op_cmp {k : Ki} (hK : X.K = k.K) (hu : X.A.units + 100 < cLine) (o : CmpO) : OpR X (compareOp (cmpOf o)) (rCmp k o) := by
  intro pins s σ H x y v u Q I rx ry ⟨P, d1, d2, d, pm, h1, h2, hb, q⟩
  have bl : ∀ (b : Bool), d = .bl b → Q (.bl b) H := fun b e => q _ (by rw [e]; exact .bl b)
  have eqs : ∀ {b : Bool}, eqd d1 d2 = some b → (∃ i j, x = .str i ∧ y = .str j ∧ b = (i == j)) ∨ (Dp X.K H x d1.py ∧ Dp X.K H y d2.py ∧ SeqAt.shaped d1.py = true ∧ SeqAt.shaped d2.py = true ∧ PyData.eqv d1.py d2.py = b) := fun {b} e => by
    unfold eqd at e
    split at e
    · rename_i i j
      cases h1; cases h2; cases e
      exact .inl ⟨i, j, rfl, rfl, rfl⟩
    · split at e
      · rename_i z
        rw [Bool.and_eq_true] at z
        cases e
        rw [hK]
        exact .inr ⟨eqOk_dp h1 z.1, eqOk_dp h2 z.2, shaped_of z.1, shaped_of z.2, eqv_py _ _ z.1 z.2⟩
      · cases e
  cases o with
  | eq =>
    obtain ⟨b, e, e2⟩ := Option.map_eq_some_iff.mp (show (eqd d1 d2).map D.bl = some d from hb)
    rcases eqs e with ⟨i, j, rfl, rfl, rfl⟩ | ⟨a1, a2, a3, a4, a5⟩
    · exact op_eq pins s σ H _ _ v u Q I rx ry ⟨rfl, by rw [dec_str]; exact bl _ e2.symm⟩
    · exact op_eqD (by omega) pins s σ H _ _ v u Q I rx ry ⟨_, _, a1, a2, a3, a4, by rw [a5]; exact bl _ e2.symm⟩
  | ne =>
    obtain ⟨b, e, e2⟩ := Option.map_eq_some_iff.mp (show (eqd d1 d2).map (fun k => D.bl (!k)) = some d from hb)
    rcases eqs e with ⟨i, j, rfl, rfl, rfl⟩ | ⟨a1, a2, a3, a4, a5⟩
    · exact op_ne pins s σ H _ _ v u Q I rx ry ⟨rfl, by rw [dec_str]; exact bl _ e2.symm⟩
    · exact op_neD (by omega) pins s σ H _ _ v u Q I rx ry ⟨_, _, a1, a2, a3, a4, by rw [a5]; exact bl _ e2.symm⟩
  | lt => cases h1 <;> first | (simp [cmpop] at hb; done) | (cases h2 <;> first | (simp [cmpop] at hb; done) | exact op_lt pins s σ H _ _ v u Q I rx ry ⟨_, _, rfl, rfl, bl _ (by simpa [cmpop] using hb.symm)⟩)
  | le => cases h1 <;> first | (simp [cmpop] at hb; done) | (cases h2 <;> first | (simp [cmpop] at hb; done) | exact op_le pins s σ H _ _ v u Q I rx ry ⟨_, _, rfl, rfl, bl _ (by simpa [cmpop] using hb.symm)⟩)
  | gt => cases h1 <;> first | (simp [cmpop] at hb; done) | (cases h2 <;> first | (simp [cmpop] at hb; done) | exact op_gt pins s σ H _ _ v u Q I rx ry ⟨_, _, rfl, rfl, bl _ (by simpa [cmpop] using hb.symm)⟩)
  | ge => cases h1 <;> first | (simp [cmpop] at hb; done) | (cases h2 <;> first | (simp [cmpop] at hb; done) | exact op_ge pins s σ H _ _ v u Q I rx ry ⟨_, _, rfl, rfl, bl _ (by simpa [cmpop] using hb.symm)⟩)
  | isNone =>
    cases h2 <;> first | (simp [cmpop] at hb; done) | skip
    refine op_isN pins s σ H _ _ v u Q I rx ry ⟨rfl, ?_⟩
    cases h1 <;> exact bl _ (by simpa [cmpop] using hb.symm)
  | isntNone =>
    cases h2 <;> first | (simp [cmpop] at hb; done) | skip
    refine op_notN pins s σ H _ _ v u Q I rx ry ⟨rfl, ?_⟩
    cases h1 <;> exact bl _ (by simpa [cmpop] using hb.symm)
  | isTrue =>
    cases h2 with
    | bl b =>
      cases b with
      | false => cases d1 <;> simp [cmpop] at hb
      | true =>
        cases ry
        refine is_bool_gen rx ⟨.bl _, H, I, rfl, ?_⟩
        cases h1 with
        | bl c => cases c <;> exact bl _ (by simpa [cmpop] using hb.symm)
        | _ => exact bl _ (by simpa [cmpop] using hb.symm)
    | _ => cases d1 <;> simp [cmpop] at hb
  | isFalse =>
    cases h2 with
    | bl b =>
      cases b with
      | true => cases d1 <;> simp [cmpop] at hb
      | false =>
        cases ry
        refine is_bool_gen rx ⟨.bl _, H, I, rfl, ?_⟩
        cases h1 with
        | bl c => cases c <;> exact bl _ (by simpa [cmpop] using hb.symm)
        | _ => exact bl _ (by simpa [cmpop] using hb.symm)
    | _ => cases d1 <;> simp [cmpop] at hb
  | mem =>
    cases h2 with
    | lst ht r =>
      simp only [cmpop] at hb
      split at hb
      · rename_i z
        unfold memOk at z
        rw [Bool.and_eq_true] at z
        cases hb
        have lay := eqOkL_lay z.2
        refine op_inD (by omega) pins s σ H _ _ v u Q I rx ry ⟨d1.py, _, by rw [hK]; exact eqOk_dp h1 z.1, .lst (by rw [hK]; exact ht.sq) (by rw [hK]; exact eqOkL_dp r z.2), shaped_of z.1, ?_, ?_⟩
        · exact shaped_of (d := .lst _) (by simpa [D.eqOk] using z.2)
        · rw [any_py _ z.1 _ z.2]; exact bl _ rfl
      · cases hb
    | tup ht r =>
      simp only [cmpop] at hb
      split at hb
      · rename_i z
        unfold memOk at z
        rw [Bool.and_eq_true] at z
        cases hb
        have lay := eqOkL_lay z.2
        have lay1 := eqOk_lay z.1
        obtain ⟨as, r1⟩ := Dp.reads I _ x v (by rw [hK]; exact eqOk_dp h1 z.1) rx
        obtain ⟨bs, r2⟩ := Dp.reads I (.tuple (D.pyL _)) _ u (Dp.tup (by rw [hK]; exact ht) (by rw [hK]; exact eqOkL_dp r z.2)) ry
        exact SeqAt.in_tuple_reads r2 r1 lay.1 lay1.1 (by omega) ⟨.bl _, H, I, rfl, by rw [any_py _ z.1 _ z.2]; exact bl _ rfl⟩
      · cases hb
    | dic ht hn hk r =>
      simp only [cmpop] at hb
      split at hb
      · rename_i z
        cases hb
        obtain ⟨key, ke⟩ := isKey_key z
        cases key_rel ke h1
        cases ry
        refine d_in (by omega) I (DGet.k ht) rx fun s' I' => ⟨.bl _, H, I', rfl, bl _ ?_⟩
        rcases dget_val ke hk r with ⟨e1, e2⟩ | ⟨d, v, e1, e2, _⟩ <;> rw [e1, e2] <;> rfl
      · cases hb
    | _ => simp [cmpop] at hb
  | nmem =>
    cases h2 with
    | lst ht r =>
      simp only [cmpop] at hb
      split at hb
      · rename_i z
        unfold memOk at z
        rw [Bool.and_eq_true] at z
        cases hb
        have lay := eqOkL_lay z.2
        refine op_notInD (by omega) pins s σ H _ _ v u Q I rx ry ⟨d1.py, _, by rw [hK]; exact eqOk_dp h1 z.1, .lst (by rw [hK]; exact ht.sq) (by rw [hK]; exact eqOkL_dp r z.2), shaped_of z.1, ?_, ?_⟩
        · exact shaped_of (d := .lst _) (by simpa [D.eqOk] using z.2)
        · rw [any_py _ z.1 _ z.2]; exact bl _ rfl
      · cases hb
    | tup ht r =>
      simp only [cmpop] at hb
      split at hb
      · rename_i z
        unfold memOk at z
        rw [Bool.and_eq_true] at z
        cases hb
        have lay := eqOkL_lay z.2
        have lay1 := eqOk_lay z.1
        obtain ⟨as, r1⟩ := Dp.reads I _ x v (by rw [hK]; exact eqOk_dp h1 z.1) rx
        obtain ⟨bs, r2⟩ := Dp.reads I (.tuple (D.pyL _)) _ u (Dp.tup (by rw [hK]; exact ht) (by rw [hK]; exact eqOkL_dp r z.2)) ry
        exact SeqAt.notIn_tuple_reads r2 r1 lay.1 lay1.1 (by omega) ⟨.bl _, H, I, rfl, by rw [any_py _ z.1 _ z.2]; exact bl _ rfl⟩
      · cases hb
    | dic ht hn hk r =>
      simp only [cmpop] at hb
      split at hb
      · rename_i z
        cases hb
        obtain ⟨key, ke⟩ := isKey_key z
        cases key_rel ke h1
        cases ry
        refine d_notIn (by omega) I (DGet.k ht) rx fun s' I' => ⟨.bl _, H, I', rfl, bl _ ?_⟩
        rcases dget_val ke hk r with ⟨e1, e2⟩ | ⟨d, v, e1, e2, _⟩ <;> rw [e1, e2] <;> rfl
      · cases hb
    | _ => simp [cmpop] at hb
end
end Py
end
section
set_option Elab.async false
set_option linter.all false
set_option maxRecDepth 100000
set_option maxHeartbeats 4000000
namespace Py
open PySem PySem.Spec PyProof.Rows L2

/-! ### rows by their code -/
theorem code_nn {B : Int} (hB : 0 < B) : ∀ {x : List Int}, TS.Bd B x → 0 ≤ TS.code B x ∧ TS.code B x < B ^ x.length
  | [], _ => by show (0 : Int) ≤ 0 ∧ (0 : Int) < B ^ 0; simp
  | a :: r, h => by
    obtain ⟨h0, h1⟩ := h a List.mem_cons_self
    obtain ⟨i0, i1⟩ := code_nn hB (x := r) fun m q => h m (List.mem_cons_of_mem _ q)
    have hp : (0 : Int) < B ^ r.length := Int.pow_pos hB
    show 0 ≤ a * B ^ r.length + TS.code B r ∧ a * B ^ r.length + TS.code B r < B ^ (r.length + 1)
    have e : B ^ (r.length + 1) = B * B ^ r.length := by rw [Int.pow_succ, Int.mul_comm]
    have m1 : 0 ≤ a * B ^ r.length := Int.mul_nonneg h0 (Int.le_of_lt hp)
    have m2 : (a + 1) * B ^ r.length ≤ B * B ^ r.length := Int.mul_le_mul_of_nonneg_right (by omega) (Int.le_of_lt hp)
    have m3 : (a + 1) * B ^ r.length = a * B ^ r.length + B ^ r.length := by rw [Int.add_mul, Int.one_mul]
    rw [e]
    omega
theorem code_lex {B : Int} (hB : 0 < B) : ∀ {x y : List Int}, TS.Bd B x → TS.Bd B y → x.length = y.length → (TS.code B x < TS.code B y ↔ lexLt x y = true)
  | [], [], _, _, _ => by show (0 : Int) < 0 ↔ lexLt [] [] = true; simp [lexLt]
  | [], _ :: _, _, _, e => by simp at e
  | _ :: _, [], _, _, e => by simp at e
  | a :: x, b :: y, hx, hy, e => by
    have e' : x.length = y.length := by simpa using e
    have hx' : TS.Bd B x := fun m q => hx m (List.mem_cons_of_mem _ q)
    have hy' : TS.Bd B y := fun m q => hy m (List.mem_cons_of_mem _ q)
    obtain ⟨x0, x1⟩ := code_nn hB hx'
    obtain ⟨y0, y1⟩ := code_nn hB hy'
    have hp : (0 : Int) < B ^ y.length := Int.pow_pos hB
    show a * B ^ x.length + TS.code B x < b * B ^ y.length + TS.code B y ↔ (if a = b then lexLt x y else decide (a < b)) = true
    rw [e'] at x1 ⊢
    by_cases h : a = b
    · subst h
      rw [if_pos rfl, ← code_lex hB hx' hy' e']
      omega
    · rw [if_neg h, decide_eq_true_eq]
      constructor
      · intro q
        by_cases l : a < b
        · exact l
        · have m2 : (b + 1) * B ^ y.length ≤ a * B ^ y.length := Int.mul_le_mul_of_nonneg_right (by omega) (Int.le_of_lt hp)
          have m3 : (b + 1) * B ^ y.length = b * B ^ y.length + B ^ y.length := by rw [Int.add_mul, Int.one_mul]
          omega
      · intro l
        have m2 : (a + 1) * B ^ y.length ≤ b * B ^ y.length := Int.mul_le_mul_of_nonneg_right (by omega) (Int.le_of_lt hp)
        have m3 : (a + 1) * B ^ y.length = a * B ^ y.length + B ^ y.length := by rw [Int.add_mul, Int.one_mul]
        omega
theorem lexLt_irr : ∀ x : List Int, lexLt x x = false
  | [] => rfl
  | a :: x => by show (if a = a then lexLt x x else _) = false; rw [if_pos rfl]; exact lexLt_irr x
theorem lexLt_tot : ∀ x y : List Int, lexLt x y = false → lexLt y x = false → x = y
  | [], [], _, _ => rfl
  | [], _ :: _, h, _ => by simp [lexLt] at h
  | _ :: _, [], _, h => by simp [lexLt] at h
  | a :: x, b :: y, h, h' => by
    simp only [lexLt] at h h'
    by_cases e : a = b
    · subst e
      rw [if_pos rfl] at h h'
      rw [lexLt_tot x y h h']
    · rw [if_neg e] at h
      rw [if_neg (Ne.symm e)] at h'
      have := of_decide_eq_false h
      have := of_decide_eq_false h'
      omega
theorem lexLt_trans : ∀ x y z : List Int, lexLt x y = true → lexLt y z = true → lexLt x z = true
  | [], [], _, h, _ => by simp [lexLt] at h
  | [], _ :: _, [], _, h => by simp [lexLt] at h
  | [], _ :: _, _ :: _, _, _ => rfl
  | _ :: _, [], _, h, _ => by simp [lexLt] at h
  | _ :: _, _ :: _, [], _, h => by simp [lexLt] at h
  | a :: x, b :: y, c :: z, h, h' => by
    simp only [lexLt] at h h' ⊢
    by_cases e : a = b
    · subst e
      rw [if_pos rfl] at h
      by_cases e' : a = c
      · subst e'
        rw [if_pos rfl] at h' ⊢
        exact lexLt_trans x y z h h'
      · rw [if_neg e'] at h' ⊢
        exact h'
    · rw [if_neg e] at h
      have h1 := of_decide_eq_true h
      by_cases e' : b = c
      · subst e'
        rw [if_neg e]
        exact h
      · rw [if_neg e'] at h'
        have h2 := of_decide_eq_true h'
        rw [if_neg (by omega)]
        exact decide_eq_true (by omega)
theorem lexLe_tot (x y : List Int) : lexLe x y = true ∨ lexLe y x = true := by
  unfold lexLe
  cases h : lexLt y x
  · exact .inl rfl
  · right
    cases h' : lexLt x y
    · rfl
    · have := lexLt_trans _ _ _ h h'
      rw [lexLt_irr] at this
      cases this
theorem lexLe_anti {x y : List Int} (h : lexLe x y = true) (h' : lexLe y x = true) : x = y := by
  unfold lexLe at h h'
  exact lexLt_tot x y (by simpa using h') (by simpa using h)
theorem lexLe_trans {x y z : List Int} (h : lexLe x y = true) (h' : lexLe y z = true) : lexLe x z = true := by
  unfold lexLe at h h' ⊢
  cases e : lexLt z x
  · rfl
  · exfalso
    by_cases e1 : lexLt z y = true
    · rw [e1] at h'; cases h'
    · have e1 : lexLt z y = false := by simpa using e1
      have e2 : lexLt y x = false := by simpa using h
      by_cases e3 : lexLt y z = true
      · have := lexLt_trans _ _ _ e3 e
        rw [e2] at this; cases this
      · have e3 : lexLt y z = false := by simpa using e3
        have := lexLt_tot _ _ e1 e3
        subst this
        rw [e] at e2; cases e2
theorem insRow_perm (x : List Int) : ∀ ys, (insRow x ys).Perm (x :: ys)
  | [] => .refl _
  | y :: ys => by
    show (if lexLe x y = true then x :: y :: ys else y :: insRow x ys).Perm _
    by_cases h : lexLe x y = true
    · rw [if_pos h]
    · rw [if_neg h]
      exact ((insRow_perm x ys).cons y).trans (.swap x y ys)
theorem insRow_sorted (x : List Int) : ∀ ys, ys.Pairwise (fun a b => lexLe a b = true) → (insRow x ys).Pairwise (fun a b => lexLe a b = true)
  | [], _ => List.pairwise_singleton _ _
  | y :: ys, h => by
    show (if lexLe x y = true then x :: y :: ys else y :: insRow x ys).Pairwise _
    obtain ⟨h1, h2⟩ := List.pairwise_cons.mp h
    by_cases e : lexLe x y = true
    · rw [if_pos e]
      refine List.pairwise_cons.mpr ⟨fun z hz => ?_, h⟩
      rcases List.mem_cons.mp hz with q | q
      · rw [q]; exact e
      · exact lexLe_trans e (h1 z q)
    · rw [if_neg e]
      refine List.pairwise_cons.mpr ⟨fun z hz => ?_, insRow_sorted x ys h2⟩
      rcases List.mem_cons.mp ((insRow_perm x ys).mem_iff.mp hz) with q | q
      · rw [q]; exact (lexLe_tot x y).resolve_left e
      · exact h1 z q
theorem sortRows_perm : ∀ xs, (sortRows xs).Perm xs
  | [] => .refl _
  | x :: xs => (insRow_perm x (sortRows xs)).trans ((sortRows_perm xs).cons x)
theorem sortRows_sorted : ∀ xs, (sortRows xs).Pairwise (fun a b => lexLe a b = true)
  | [] => .nil
  | x :: xs => insRow_sorted x _ (sortRows_sorted xs)
theorem sortRows_of {xs ys : List (List Int)} (p : ys.Perm xs) (s : ys.Pairwise (fun a b => lexLe a b = true)) : ys = sortRows xs :=
  List.Perm.eq_of_pairwise (fun a b _ _ h h' => lexLe_anti h h') s (sortRows_sorted xs) (p.trans (sortRows_perm xs).symm)
theorem insInt_perm (x : Int) : ∀ ys, (insInt x ys).Perm (x :: ys)
  | [] => .refl _
  | y :: ys => by
    show (if x ≤ y then x :: y :: ys else y :: insInt x ys).Perm _
    by_cases h : x ≤ y
    · rw [if_pos h]
    · rw [if_neg h]
      exact ((insInt_perm x ys).cons y).trans (.swap x y ys)
theorem insInt_sorted (x : Int) : ∀ ys, ys.Pairwise (· ≤ ·) → (insInt x ys).Pairwise (· ≤ ·)
  | [], _ => List.pairwise_singleton _ _
  | y :: ys, h => by
    show (if x ≤ y then x :: y :: ys else y :: insInt x ys).Pairwise _
    obtain ⟨h1, h2⟩ := List.pairwise_cons.mp h
    by_cases e : x ≤ y
    · rw [if_pos e]
      refine List.pairwise_cons.mpr ⟨fun z hz => ?_, h⟩
      rcases List.mem_cons.mp hz with q | q
      · rw [q]; exact e
      · exact Int.le_trans e (h1 z q)
    · rw [if_neg e]
      refine List.pairwise_cons.mpr ⟨fun z hz => ?_, insInt_sorted x ys h2⟩
      rcases List.mem_cons.mp ((insInt_perm x ys).mem_iff.mp hz) with q | q
      · rw [q]; omega
      · exact h1 z q
theorem sortInts_perm : ∀ xs, (sortInts xs).Perm xs
  | [] => .refl _
  | x :: xs => (insInt_perm x (sortInts xs)).trans ((sortInts_perm xs).cons x)
theorem sortInts_sorted : ∀ xs, (sortInts xs).Pairwise (· ≤ ·)
  | [] => .nil
  | x :: xs => insInt_sorted x _ (sortInts_sorted xs)
theorem sortInts_of {xs ys : List Int} (p : ys.Perm xs) (s : ys.Pairwise (· ≤ ·)) : ys = sortInts xs :=
  List.Perm.eq_of_pairwise (fun a b _ _ h h' => Int.le_antisymm h h') s (sortInts_sorted xs) (p.trans (sortInts_perm xs).symm)
theorem maxL_of {x : Int} {xs : List Int} : maxL (x :: xs) ∈ x :: xs ∧ ∀ y ∈ x :: xs, y ≤ maxL (x :: xs) := by
  show (xs.foldl (fun a b => if b > a then b else a) x) ∈ x :: xs ∧ ∀ y ∈ x :: xs, y ≤ (xs.foldl (fun a b => if b > a then b else a) x)
  induction xs generalizing x with
  | nil => exact ⟨List.mem_singleton_self _, fun y h => by rw [List.mem_singleton.mp h]; exact Int.le_refl _⟩
  | cons b xs ih =>
    rw [List.foldl_cons]
    obtain ⟨i1, i2⟩ := ih (x := if b > x then b else x)
    refine ⟨?_, fun y h => ?_⟩
    · rcases List.mem_cons.mp i1 with e | e
      · rw [e]
        by_cases l : b > x
        · rw [if_pos l]; simp
        · rw [if_neg l]; simp
      · exact List.mem_cons_of_mem _ (List.mem_cons_of_mem _ e)
    · have i0 := i2 _ List.mem_cons_self
      rcases List.mem_cons.mp h with e | h
      · subst e
        by_cases l : b > y
        · rw [if_pos l] at i0 ⊢; omega
        · rw [if_neg l] at i0 ⊢; omega
      · rcases List.mem_cons.mp h with e | h
        · subst e
          by_cases l : y > x
          · rw [if_pos l] at i0 ⊢; omega
          · rw [if_neg l] at i0 ⊢; omega
        · exact i2 y (List.mem_cons_of_mem _ h)
theorem minL_of {x : Int} {xs : List Int} : minL (x :: xs) ∈ x :: xs ∧ ∀ y ∈ x :: xs, minL (x :: xs) ≤ y := by
  show (xs.foldl (fun a b => if b < a then b else a) x) ∈ x :: xs ∧ ∀ y ∈ x :: xs, (xs.foldl (fun a b => if b < a then b else a) x) ≤ y
  induction xs generalizing x with
  | nil => exact ⟨List.mem_singleton_self _, fun y h => by rw [List.mem_singleton.mp h]; exact Int.le_refl _⟩
  | cons b xs ih =>
    rw [List.foldl_cons]
    obtain ⟨i1, i2⟩ := ih (x := if b < x then b else x)
    refine ⟨?_, fun y h => ?_⟩
    · rcases List.mem_cons.mp i1 with e | e
      · rw [e]
        by_cases l : b < x
        · rw [if_pos l]; simp
        · rw [if_neg l]; simp
      · exact List.mem_cons_of_mem _ (List.mem_cons_of_mem _ e)
    · have i0 := i2 _ List.mem_cons_self
      rcases List.mem_cons.mp h with e | h
      · subst e
        by_cases l : b < y
        · rw [if_pos l] at i0 ⊢; omega
        · rw [if_neg l] at i0 ⊢; omega
      · rcases List.mem_cons.mp h with e | h
        · subst e
          by_cases l : y < x
          · rw [if_pos l] at i0 ⊢; omega
          · rw [if_neg l] at i0 ⊢; omega
        · exact i2 y (List.mem_cons_of_mem _ h)
end Py
end
section
set_option Elab.async false
set_option linter.all false
set_option maxRecDepth 100000
set_option maxHeartbeats 4000000
namespace Py
open PySem PySem.Spec PyProof.Rows L2
section
variable {X : Cx}
theorem ixN_eq (n : Nat) (i : Int) : Py.ixN n i = L2.ixN n i := rfl
theorem at_rep {k : Ki} {P : Addr → Prop} {H : Hp} {vs : List V} {ds : List D} {i : Int} {d : D} (r : RepL k P H vs ds) (h : Py.atI ds i = some d) : ∃ v, L2.atI vs i = some v ∧ RepX k P H v d := by
  unfold Py.atI at h
  obtain ⟨j, e1, e2⟩ := Option.bind_eq_some_iff.mp h
  obtain ⟨v, e3, r1⟩ := r.get e2
  refine ⟨v, ?_, r1⟩
  unfold L2.atI
  rw [r.length, ← ixN_eq, e1]
  exact e3
def rIdx (k : Ki) : R2 := fun x y H Q => ∃ P P2 d1 d2 d, RepX k P H x d1 ∧ RepX k P2 H y d2 ∧ index d1 d2 = some d ∧ ∀ v, RepX k P H v d → Q v H
theorem ix_dict (hu : X.A.units + 1 < cLine) : IxR X (fun x y H Q => ∃ a v, x = .ref a ∧ DGet H a y (some v) ∧ Q v H) := by
  intro value slice pins s σ H x y v u Q I rx ry h hs
  obtain ⟨a, z, ex, g, q⟩ := h
  subst ex
  cases rx
  unfold subscriptTail
  refine wpAny_bind ?_
  have hT := dict_typeIs I g
  rw [getitemInPython_of_ne hT.not_modules]
  refine wpAny_bind (wpAny_specialOf hT PySem.F.slot_dict_getitem.lookup ?_)
  have fin : wpAny (model X.prog X.w) X.A (subscripted slice false (.ref a) u) (fun r s₃ => wpAny (model X.prog X.w) X.A (letTemporaryGo value (.ref a) r >>= fun _ => pure r) (EP X pins σ Q) X.xe s₃) X.xe s := by
    rw [hs]
    exact wpAny_operating (d_getItem hu I g ry fun w' s3 I3 rw' => wpAny_bind (wpAny_letTemporaryGo (wpAny_pure ⟨z, H, I3, rw', q⟩)))
  first
    | exact wpAny_pure (wpAny_bind fin)
    | exact wpAny_bind (wpAny_pure (wpAny_bind fin))
    | exact wpAny_bind fin
theorem ix_all {k : Ki} (hK : X.K = k.K) (hu : X.A.units + 100 < cLine) : IxR X (rIdx k) := by
  intro value slice pins s σ H x y v u Q I rx ry ⟨P, P2, d1, d2, d, h1, h2, hd, q⟩ hs
  cases h1 with
  | lst ht r => cases h2 with
    | int i =>
      obtain ⟨w, e, rw⟩ := at_rep r (show Py.atI _ i = some d from hd)
      exact ix_list value slice pins s σ H _ _ v u Q I rx ry ⟨_, _, i, w, rfl, rfl, ht.sq, e, q w rw⟩ hs
    | _ => simp [index] at hd
  | fro ht r => cases h2 with
    | int i =>
      obtain ⟨w, e, rw⟩ := at_rep r (show Py.atI _ i = some d from hd)
      exact ix_list value slice pins s σ H _ _ v u Q I rx ry ⟨_, _, i, w, rfl, rfl, by rw [hK]; exact ht.sq, e, q w rw⟩ hs
    | _ => simp [index] at hd
  | tup ht r => cases h2 with
    | int i =>
      obtain ⟨w, e, rw⟩ := at_rep r (show Py.atI _ i = some d from hd)
      exact ix_tup value slice pins s σ H _ _ v u Q I rx ry ⟨_, _, i, w, rfl, rfl, by rw [hK]; exact ht, e, q w rw⟩ hs
    | _ => simp [index] at hd
  | dic ht hn hk r =>
    simp only [index] at hd
    split at hd
    · rename_i z
      obtain ⟨key, ke⟩ := isKey_key z
      cases key_rel ke h2
      rcases dget_val ke hk r with ⟨e1, e2⟩ | ⟨d', w, e1, e2, rw⟩
      · rw [e1] at hd; cases hd
      · rw [e1] at hd; cases hd
        exact ix_dict (by omega) value slice pins s σ H _ _ v u Q I rx ry ⟨_, w, rfl, by rw [← e2]; exact DGet.k ht, q w rw⟩ hs
    · cases hd
  | _ => simp [index] at hd
theorem sIx_eq (n d : Nat) (o : Option Int) : Py.sIx n d o = HT.sIx n d o := by cases o <;> rfl
theorem cut_rep {k : Ki} {P : Addr → Prop} {H : Hp} {vs : List V} {ds : List D} (r : RepL k P H vs ds) (lo hi : Option Int) : RepL k P H (cutV vs lo hi) (cutD ds lo hi) := by
  unfold cutV cutD
  rw [← sIx_eq, ← sIx_eq, r.length]
  exact (r.drop _).take _
def rSli (k : Ki) : V → Option Int → Option Int → Hp → VK → Prop := fun x lo hi H Q => ∃ P d1 d, Pm P H ∧ RepX k P H x d1 ∧ slice d1 lo hi = some d ∧ ∀ H' v, Same H H' → RepX k P H' v d → Q v H'
theorem sl_all {k : Ki} (hK : X.K = k.K) : SlR X (rSli k) := by
  intro pins s σ H x v vl vu lo hi sl Q I rx hs pl pu ⟨P, d1, d, pm, h1, hd, q⟩
  cases h1 with
  | lst ht r =>
    cases hd
    exact sl_list pins s σ H _ v vl vu lo hi sl Q I rx hs pl pu ⟨_, _, rfl, ht.sq, new_lst pm (cut_rep r lo hi) q⟩
  | @tup a0 vs0 ds0 ht r =>
    cases hd
    refine sl_tupA pins s σ H _ v vl vu lo hi sl Q I rx hs pl pu ⟨_, _, rfl, by rw [hK]; exact ht, fun ⟨e1, e2⟩ => ?_, fun _ => new_tup pm (cut_rep r lo hi) q⟩
    refine q H _ ssame ?_
    have e : cutD ds0 lo hi = ds0 := by
      unfold cutD
      rw [sIx_eq, sIx_eq, ← r.length, e1, e2, r.length]
      show List.take _ (List.drop 0 _) = _
      rw [List.drop_zero, Nat.sub_zero]
      exact List.take_length
    rw [e]
    exact .tup ht r
  | _ => simp [slice] at hd
theorem tru_all {k : Ki} (hK : X.K = k.K) {P : Addr → Prop} {H : Hp} {x : V} {d : D} {b : Bool} (h : RepX k P H x d) (e : truth d = some b) : TruV X.K x H b := by
  cases h with
  | non => cases e; rfl
  | bl c => cases e; rfl
  | int i => cases e; rfl
  | str s =>
    simp only [truth] at e
    split at e
    · rename_i z
      cases e
      exact ⟨lenOk_le z, rfl⟩
    · cases e
  | tup ht r =>
    cases e
    exact .inr (.inl ⟨_, by rw [hK]; exact ht, by cases r <;> rfl⟩)
  | lst ht r =>
    cases e
    exact .inl ⟨_, ht.sq, by cases r <;> rfl⟩
  | _ => cases e
end

/-! ### sum of a tuple -/
section
variable {prog : Program} {w : World} {A : Around} {E : Value → Shared → Prop} {s : Shared}
theorem sum_rawT {l : Addr} {its : List Value} {ns : List Int} {Q : Value → Shared → Prop} (hh : A.handled = none) (hl : IsTup s.heap l its.toArray) (hi : IntsAre its ns)
    (h : ∀ h' tk t', (∀ b o, s.heap.get? b = some o → h'.get? b = some o) → Q (.int ns.sum t') { s with heap := h', toks := tk }) : wpAny (model prog w) A (call (.builtin "sum") [.ref l]) Q E s := by
  obtain ⟨xs, e⟩ := hi.allInts.items
  have hn : numsOf (intItems xs).toList = ns := by rw [← e]; exact hi.numsOf
  rw [nums_intItems] at hn
  rw [e] at hl
  have hlt : l < s.heap.objs.size := hl.lt
  refine call_sum_walkG (wpAny_pyIter_tuple (show s.heap.IsTuple l (intItems xs) from hl) ?_)
  have kp : ∀ b o, s.heap.get? b = some o → (s.heap.push { cls := .type "tuple_iterator", data := .fields #[.ref l, .int 0 0] }).get? b = some o := fun b o q => Heap.get?_push_of_some _ q
  have hT2 : IsTup (s.heap.push { cls := .type "tuple_iterator", data := .fields #[.ref l, .int 0 0] }) l (intItems xs) := by
    obtain ⟨o, e1, e2, n, e3⟩ := hl
    exact ⟨o, kp _ _ e1, e2, n, e3⟩
  refine ⟨_, _, _, _, _, _, numAt xs, rfl, Walks.tuple (A := A.in1) hh s.heap.objs.size l (Nat.ne_of_lt hlt) (intItems xs), ⟨⟨_, Heap.get?_push_size _ rfl, rfl, rfl⟩, hT2⟩, fun b hb => ?_, (fun _ _ => intItems_at), fun h' tk t' hk => ?_⟩
  · show b < (s.heap.push _).objs.size
    rw [Heap.size_push]
    rcases List.mem_cons.mp hb with q | q
    · rw [q]; exact Nat.lt_succ_self _
    · rw [List.mem_singleton.mp q]; exact Nat.lt_succ_of_lt hlt
  · have q := h h' tk t' fun b o e0 => hk b o (fun hm => by
      have e1 : b = s.heap.objs.size := List.mem_singleton.mp hm
      have e2 := Heap.lt_size e0
      rw [e1] at e2
      exact absurd e2 (Nat.lt_irrefl _)) (kp b o e0)
    rw [show (intItems xs).size = xs.size by simp [intItems]]
    rw [preSum_eq, List.take_of_length_le (by simp), hn]; exact q
end
section
variable {X : Cx}
theorem cr_sumT (hc : X.calm = true) : CallR X (.builtin "sum") (fun vs H Q => ∃ (a : Addr) (ns : List Int), vs = [V.ref a] ∧ SqT X.K H a (ns.map V.int) ∧ Q (.int ns.sum) H) := by
  intro pins s σ H vs us Q I r h
  obtain ⟨a, ns, rfl, hs, q⟩ := h
  obtain ⟨its, rv, hl, _⟩ := I.tuple hs
  rw [Vals.ref1 r]
  exact sum_rawT (I.ok.hd hc) hl rv.ints fun h' tk t' k => ⟨.int ns.sum, H, I.kept k, ⟨_, rfl⟩, q⟩
end

/-! ### built-in functions by values -/
def bVal : Bi → Value
  | .len => .builtin "len" | .sum => .builtin "sum" | .max => .builtin "max" | .min => .builtin "min" | .abs => .builtin "abs" | .int => .type "int" | .bool => .type "bool" | .tuple => .type "tuple" | .list => .type "list" | .set => .type "set"
  | .sorted => .builtin "sorted" | .all => .builtin "all" | .any => .builtin "any"
section
variable {X : Cx}
def rBlt (k : Ki) (b : Bi) : List V → Hp → VK → Prop := fun vs H Q => ∃ P ds d, Pm P H ∧ RepL k P H vs ds ∧ bltin b ds = some d ∧ ∀ H' v, Same H H' → RepX k P H' v d → Q v H'
theorem repL1 {k : Ki} {P : Addr → Prop} {H : Hp} {vs : List V} {d : D} (r : RepL k P H vs [d]) : ∃ v, vs = [v] ∧ RepX k P H v d := by
  cases r with
  | cons h r => cases r; exact ⟨_, rfl, h⟩
theorem repL2 {k : Ki} {P : Addr → Prop} {H : Hp} {vs : List V} {d e : D} (r : RepL k P H vs [d, e]) : ∃ v w, vs = [v, w] ∧ RepX k P H v d ∧ RepX k P H w e := by
  cases r with
  | cons h r => cases r with
    | cons h2 r => cases r; exact ⟨_, _, rfl, h, h2⟩
theorem rows_addrs {k : Ki} {P : Addr → Prop} {H : Hp} : ∀ {vs : List V} {ds : List D} {rs : List (List Int)}, RepL k P H vs ds → rowsOf ds = some rs → ∃ as : List Addr, vs = as.map V.ref ∧ as.length = rs.length ∧ ∀ p ∈ as.zip rs, SqT k.K H p.1 (p.2.map V.int)
  | _, _, rs, .nil, e => by simp [rowsOf] at e; subst e; exact ⟨[], rfl, rfl, fun p q => by cases q⟩
  | _, _, rs, .cons h r, e => by
    cases h with
    | @tup a vs0 ds0 ht r0 =>
      simp only [rowsOf, Option.bind_eq_some_iff, Option.map_eq_some_iff] at e
      obtain ⟨x, e1, ys, e2, rfl⟩ := e
      obtain ⟨as, e3, e4, e5⟩ := rows_addrs r e2
      refine ⟨a :: as, by rw [e3]; rfl, by simp [e4], fun p q => ?_⟩
      rcases List.mem_cons.mp (show p ∈ (a, x) :: as.zip ys from q) with z | z
      · subst z
        rw [← RepL.ints_inv r0 e1]
        exact ht
      · exact e5 p z
    | _ => simp [rowsOf] at e
theorem repL_rows {k : Ki} {P : Addr → Prop} {H : Hp} : ∀ {as : List Addr} {rs : List (List Int)}, as.length = rs.length → (∀ p ∈ as.zip rs, SqT k.K H p.1 (p.2.map V.int)) → RepL k P H (as.map V.ref) (rs.map rowD)
  | [], [], _, _ => .nil
  | [], _ :: _, h, _ => by simp at h
  | _ :: _, [], h, _ => by simp at h
  | a :: as, r :: rs, h, hs => .cons (.tup (hs (a, r) List.mem_cons_self) (repL_ints r)) (repL_rows (by simpa using h) fun p q => hs p (List.mem_cons_of_mem _ q))
theorem nnRows_bd {rs : List (List Int)} (h : nnRows rs = true) : ∃ B : Int, 0 < B ∧ ∀ r ∈ rs, TS.Bd B r := by
  induction rs with
  | nil => exact ⟨1, by decide, fun r q => by cases q⟩
  | cons r rs ih =>
    unfold nnRows at h ih
    rw [List.all_cons, Bool.and_eq_true] at h
    obtain ⟨B, h0, h1⟩ := ih h.2
    have one : ∀ x : List Int, (∀ i ∈ x, 0 ≤ i) → ∃ C : Int, 0 < C ∧ ∀ i ∈ x, i < C := by
      intro x
      induction x with
      | nil => intro _; exact ⟨1, by decide, fun i q => by cases q⟩
      | cons a x ih =>
        intro hx
        obtain ⟨C, c0, c1⟩ := ih fun i q => hx i (List.mem_cons_of_mem _ q)
        refine ⟨C + a + 1, by have := hx a List.mem_cons_self; omega, fun i q => ?_⟩
        rcases List.mem_cons.mp q with e | q
        · subst e; omega
        · have := c1 i q; have := hx a List.mem_cons_self; omega
    have nn : ∀ i ∈ r, 0 ≤ i := fun i q => of_decide_eq_true (List.all_eq_true.mp h.1 i q)
    obtain ⟨C, c0, c1⟩ := one r nn
    refine ⟨B + C, by omega, fun x q m hm => ?_⟩
    rcases List.mem_cons.mp q with e | q
    · subst e; exact ⟨nn m hm, by have := c1 m hm; omega⟩
    · obtain ⟨a, b⟩ := h1 x q m hm; exact ⟨a, by omega⟩
/-- a short list, sorted -/
theorem sorted_one {k : Ki} {P : Addr → Prop} {pins : List (Addr × Obj)} {s : Shared} {σ : St} {H : Hp} {a : Addr} {vs : List V} {ds : List D} {u : Value} {Q : VK} (I : L2.Inv X pins σ H s) (pm : Pm P H) (hs : SqL X.K H a vs) (r : RepL k P H vs ds) (ru : RelV (.ref a) u) (h1 : ds.length ≤ 1)
    (q : ∀ H' v, Same H H' → RepX k P H' v (.lst ds) → Q v H') : wpAny (model X.prog X.w) X.A (call (.builtin "sorted") [u]) (EP X pins σ Q) X.xe s := by
  obtain ⟨its, rv, hl, hz⟩ := I.list hs
  cases ru
  have ln : its.length ≤ 1 := by rw [← rv.length, r.length]; exact h1
  refine SrtO.sorted_ord (ltv := fun _ _ => false) ⟨fun _ _ e => (Bool.noConfusion e), fun _ _ _ _ _ => rfl⟩ hl.isList (by rw [← rv.length]; exact hz) (fun h2 _ _ _ _ => absurd h2 (by omega)) fun out _ hb => ?_
  have eo : out = its := by
    have p := hb.perm
    match its, ln, p with
    | [], _, p => exact List.perm_nil.mp p
    | [v], _, p => exact List.perm_singleton.mp p
    | _ :: _ :: _, ln, _ => exact absurd ln (by simp)
  subst eo
  obtain ⟨ep, he'⟩ := PyProof.Rows.sortedAll_at s.heap out out.toArray
  have nf := I.hok.fresh (Nat.le_succ s.heap.objs.size)
  exact ⟨.ref _, upd H (s.heap.objs.size + 1) (.lst vs), I.laid (t' := s.toks) (fun _ _ => PyProof.Rows.sortedAll_old) (Nat.le_succ _) ⟨hz, out, ep, rv, he'⟩, rfl, new_lst pm r q _ nf⟩
theorem rowsOf_map (rs : List (List Int)) : rowsOf (rs.map rowD) = some rs := by
  induction rs with
  | nil => rfl
  | cons r rs ih =>
    have e : gInts (r.map D.int) = some r := by
      induction r with
      | nil => rfl
      | cons i r ih => simp [gInts, ih]
    simp only [List.map_cons, rowD, rowsOf, e, Option.bind_some, ih, Option.map_some]
theorem rowD_nil (x : List Int) : rowD x = .tup (x.map .int) := rfl
end
end Py
end
section
set_option Elab.async false
set_option linter.all false
set_option maxRecDepth 100000
set_option maxHeartbeats 4000000
namespace Py
open PySem PySem.Spec PyProof.Rows L2
/-! ### sorted(a set of at most one tuple) -/
section
variable {P : Program} {w : World} {A : Around} {E : Value → Shared → Prop} {s : Shared}
theorem sorted_set01 {a : Addr} {L : List (Addr × List Int)} {es : Array (Int × Value)} {ep : Nat} {t : SetTable} {Q : Value → Shared → Prop} (R : SetTR P w s.heap a L es ep t) (hh : A.handled = none) (h1 : L.length ≤ 1)
    (hQ : ∀ s' p (c : Nat), (∀ b o, s.heap.get? b = some o → s'.heap.get? b = some o) → s'.gens = s.gens → s'.os = s.os → s.heap.objs.size ≤ p →
      s'.heap.get? p = some (PyProof.Rows.seqObj "list" (L.map fun q => Value.ref q.1).toArray c) → Q (.ref p) s') :
    wpAny (model P w) A (call (.builtin "sorted") [.ref a]) Q E s := by
  obtain ⟨o, ho, hex, hd⟩ := R.ob
  have hsz := R.size
  refine Calls.call_function_entry kind_sorted plain_sorted entry_sorted (args_sorted1 _) ?_
  unfold Builtin.«sorted»
  refine wpAny_bind (m := checkCount "sorted" 1 1 _) (wpAny_pure ?_)
  refine wpAny_bind (collect_set (A := A.in1) hh ⟨o, ho, hex.1, hd⟩ R.fits (by unfold scanBound; omega) R.tab.ris R.led fun s1 vs k1 hz g1 o1 pm => ?_)
  have hes : es.toList.map (·.2) = L.map fun q => Value.ref q.1 := by
    rw [R.rows]
    unfold L2.rowsOf
    rw [List.map_map] <;> rfl
  rw [hes] at pm
  have small : ∀ {x y : List Value}, x.Perm y → y.length ≤ 1 → x = y := by
    intro x y p l
    match y, l, p with
    | [], _, p => exact List.perm_nil.mp p
    | [v], _, p => exact List.perm_singleton.mp p
    | _ :: _ :: _, l, _ => exact absurd l (by simp)
  have lL : (L.map fun q => Value.ref q.1).length ≤ 1 := by rw [List.length_map]; exact h1
  have ev : vs = L.map fun q => Value.ref q.1 := small pm lL
  have lv : vs.length ≤ 1 := by rw [ev]; exact lL
  have zl := sizeLine_eq
  refine wpAny_bind (wpAny_newList ?_ (by omega))
  have hoL : (s1.heap.push (PyProof.Rows.seqObj "list" vs.toArray 0)).get? s1.heap.objs.size = some (PyProof.Rows.seqObj "list" vs.toArray 0) := Heap.get?_push_size _ rfl
  refine wpAny_bind (wpAny_holding (wpAny_call_entry slot_list_sort ⟨_, hoL, rfl⟩ entry_list_sort (SrtO.list_sort_ord (ltv := fun _ _ => false) ⟨fun _ _ e => (Bool.noConfusion e), fun _ _ _ _ _ => rfl⟩ hoL (by omega) (fun h2 => absurd h2 (by omega)) fun out hs hb => ⟨_, rfl, ?_⟩) (args_list_sort _)))
  have eo : out = vs := small hb.perm lv
  obtain ⟨c, hc⟩ := PyProof.Rows.sortedHeap_at (vs := vs) (out := out.toArray) hoL
  refine wpAny_pure ⟨_, rfl, hQ _ s1.heap.objs.size c (fun b u e => ?_) g1 o1 hz (by rw [← ev, ← eo]; rw [eo] at hc ⊢; exact hc)⟩
  have q := k1 b u e
  have hlt := Heap.lt_size q
  show (PyProof.Rows.sortedHeap (s1.heap.push (PyProof.Rows.seqObj "list" vs.toArray 0)) s1.heap.objs.size vs out.toArray).get? b = some u
  rw [PyProof.Rows.sortedHeap_old (Nat.ne_of_lt hlt) (by rw [PyProof.Rows.size_push']; exact Nat.lt_succ_of_lt hlt)]
  exact Heap.get?_push_of_some _ q
end
section
variable {X : Cx}
theorem cr_sortedT1 (hc : X.calm = true) : CallR X (.builtin "sorted") (fun vs H Q => ∃ (a : Addr) (L : List (Addr × List Int)), vs = [V.ref a] ∧ H a = some (SetTO X.prog X.w a L) ∧ (∀ p ∈ L, SqT X.K H p.1 (p.2.map V.int)) ∧ L.length ≤ 1 ∧ ∀ p, H p = none → Q (.ref p) (upd H p (.lst (L.map fun q => V.ref q.1)))) := by
  intro pins s σ H vs us Q I r h
  obtain ⟨a, L, rfl, ha, hk, h1, q⟩ := h
  have R0 : SetT0 X.prog X.w s.heap a L := (I.hok a _ ha).1
  obtain ⟨es, ep, t, R⟩ := R0.full fun p hp => I.isT (hk p hp)
  rw [Vals.ref1 r]
  refine sorted_set01 R (I.ok.hd hc) h1 fun s' p c k g o hp hg => ?_
  have zl := sizeLine_eq
  have hlen : (L.map fun q => V.ref q.1).length ≤ sizeLine := by rw [List.length_map, zl]; omega
  have hn : H p = none := I.hok.fresh hp
  have J : Inv X pins σ (upd H p (.lst (L.map fun q => V.ref q.1))) { s with heap := s'.heap, gens := s'.gens, drawn := s'.drawn, toks := s'.toks } :=
    I.call (ch := []) (Un.laid k hp hn) (I.hok.laid k hp ⟨hlen, _, c, vals_of_refs L, hg⟩) (by rw [g]; exact I.bare) (fun _ z => nomatch z)
  have e : s' = { s with heap := s'.heap, gens := s'.gens, drawn := s'.drawn, toks := s'.toks } := by
    cases s'
    cases s
    cases o
    rfl
  rw [e]
  exact ⟨.ref p, _, J, rfl, q p hn⟩

/-! ### the built-in functions -/
theorem intsD_eq {ds : List D} {ns : List Int} (h : gInts ds = some ns) : ds = intsD ns := by
  induction ds generalizing ns with
  | nil => simp [gInts] at h; subst h; rfl
  | cons d ds ih =>
    cases d with
    | int i =>
      simp only [gInts, Option.map_eq_some_iff] at h
      obtain ⟨ms, e, rfl⟩ := h
      rw [ih e]; rfl
    | _ => simp [gInts] at h
theorem rowsD_eq {ds : List D} {rs : List (List Int)} (h : rowsOf ds = some rs) : ds = rs.map rowD := by
  induction ds generalizing rs with
  | nil => simp [rowsOf] at h; subst h; rfl
  | cons d ds ih =>
    cases d with
    | tup xs =>
      simp only [rowsOf, Option.bind_eq_some_iff, Option.map_eq_some_iff] at h
      obtain ⟨x, e, ys, e2, rfl⟩ := h
      rw [ih e2, intsD_eq e]; rfl
    | _ => simp [rowsOf] at h
theorem short_rows {rs : List (List Int)} (h : rs.length ≤ 1) : sortRows rs = rs := by
  match rs, h with
  | [], _ => rfl
  | [r], _ => rfl
  | _ :: _ :: _, h => exact absurd h (by simp)
theorem zip_map_fst {α β γ : Type} (f : α → γ) : ∀ {as : List α} {bs : List β}, as.length = bs.length → (as.zip bs).map (fun p => f p.1) = as.map f
  | [], [], _ => rfl
  | [], _ :: _, h => by simp at h
  | _ :: _, [], h => by simp at h
  | a :: as, b :: bs, h => by rw [List.zip_cons_cons, List.map_cons, List.map_cons, zip_map_fst f (by simpa using h)]
theorem zip_map_snd {α β : Type} : ∀ {as : List α} {bs : List β}, as.length = bs.length → (as.zip bs).map (·.2) = bs
  | [], [], _ => rfl
  | [], _ :: _, h => by simp at h
  | _ :: _, [], h => by simp at h
  | a :: as, b :: bs, h => by rw [List.zip_cons_cons, List.map_cons, zip_map_snd (by simpa using h)]
/-- rows that ascend by code are the sorted rows -/
theorem code_sorted {B : Int} (h0 : 0 < B) {rs : List (List Int)} {d : Nat} {α : Type} {f : α → List Int} {ys : List α} (p : (ys.map f).Perm rs) (hB : ∀ r ∈ rs, r.length = d ∧ TS.Bd B r) (hs : ys.Pairwise fun x y => TS.code B (f x) ≤ TS.code B (f y)) : ys.map f = sortRows rs := by
  refine sortRows_of p (List.pairwise_map.mpr (List.Pairwise.imp_of_mem (fun {x y} hx hy hle => ?_) hs))
  have bx := hB _ (p.mem_iff.mp (List.mem_map_of_mem hx))
  have bd := hB _ (p.mem_iff.mp (List.mem_map_of_mem hy))
  unfold lexLe
  rw [Bool.not_eq_true', Bool.eq_false_iff]
  intro hl
  have := (code_lex h0 bd.2 bx.2 (by rw [bx.1, bd.1])).mpr hl
  omega
theorem rows_of_lst {k : Ki} {P : Addr → Prop} {H : Hp} : ∀ {L : List (Addr × List Int)}, (∀ p ∈ L, SqT k.K H p.1 (p.2.map V.int)) → RepL k P H (L.map fun q => V.ref q.1) ((L.map (·.2)).map rowD)
  | [], _ => .nil
  | p :: L, h => .cons (.tup (h p List.mem_cons_self) (repL_ints p.2)) (rows_of_lst fun q z => h q (List.mem_cons_of_mem _ z))
theorem sorted_set {k : Ki} (hK : X.K = k.K) (hc : X.calm = true) (hP : X.prog = k.P) (hw : X.w = k.w) : CallR X (.builtin "sorted") (fun vs H Q => ∃ P ds d, Pm P H ∧ RepL k P H vs [.set ds] ∧ sortedD ds = some d ∧ ∀ H' v, Same H H' → RepX k P H' v d → Q v H') := by
  intro pins s σ H vs us Q I r ⟨P, ds, d, pm, h, hd, q⟩
  obtain ⟨x, rfl, hx⟩ := repL1 h
  cases hx with
  | @set a L rs _ ht hn hs hl hr hds =>
    subst hds
    have hp : (L.map (·.2)).Perm rs := by
      have R0 : SetT0 X.prog X.w s.heap a L := by rw [hP, hw]; exact (I.hok a _ ht).1
      obtain ⟨_, _, _, _, _, _, nd, _⟩ := R0.ex
      exact (List.perm_ext_iff_of_nodup nd hr).mpr fun x => hl x
    rw [sortedD] at hd
    have fin : ∀ {rs' : List (List Int)}, rs' = rs → gInts (rs'.map rowD) = none ∨ rs' = [] := by
      intro rs' _
      cases rs' with
      | nil => exact .inr rfl
      | cons r rs' => exact .inl rfl
    by_cases h1 : rs.length ≤ 1
    · have ed : d = .lst (rs.map rowD) := by
        rcases fin rfl with e | e
        · rw [e] at hd
          simp only [rowsOf_map, h1, decide_true, Bool.true_or, if_true, short_rows h1] at hd
          cases hd; rfl
        · subst e; cases hd; rfl
      subst ed
      have l1 : L.length ≤ 1 := by rw [← List.length_map (f := fun p : Addr × List Int => p.2), hp.length_eq]; exact h1
      have er : L.map (·.2) = rs := by
        match rs, h1, hp with
        | [], _, p => exact List.perm_nil.mp p
        | [v], _, p => exact List.perm_singleton.mp p
        | _ :: _ :: _, l, _ => exact absurd l (by simp)
      refine cr_sortedT1 hc pins s σ H _ us Q I r ⟨a, L, rfl, by rw [hP, hw]; exact ht, fun p z => by rw [hK]; exact hs p z, l1, new_lst pm (ds := rs.map rowD) ?_ q⟩
      rw [← er]
      exact rows_of_lst hs
    · have e0 : gInts (rs.map rowD) = none := by
        rcases fin rfl with e | e
        · exact e
        · subst e; simp at h1
      rw [e0] at hd
      simp only [rowsOf_map, h1, decide_false, Bool.false_or] at hd
      split at hd
      · rename_i hcnd
        cases hd
        simp only [Bool.and_eq_true, decide_eq_true_eq, List.all_eq_true] at hcnd
        obtain ⟨⟨h64, hnn⟩, hall⟩ := hcnd
        obtain ⟨B, b0, bb⟩ := nnRows_bd hnn
        have hd1 : 1 ≤ (rs.headD []).length := by
          cases rs with
          | nil => simp at h1
          | cons r rs => exact (hall r List.mem_cons_self).1
        refine cr_sortedT hc pins s σ H _ us Q I r ⟨a, L, (rs.headD []).length, B, rfl, by rw [hP, hw]; exact ht, fun p z => by rw [hK]; exact hs p z, hd1, fun p z => ?_, fun L' p pl _ hlt hpw hn => ?_⟩
        · have m : p.2 ∈ rs := (hl _).mp (List.mem_map_of_mem z)
          exact ⟨(hall _ m).2, bb _ m⟩
        · have es := code_sorted b0 (f := fun p : Addr × List Int => p.2) ((pl.map _).trans hp) (fun r z => ⟨(hall r z).2, bb r z⟩) hpw
          refine new_lst pm (ds := (sortRows rs).map rowD) ?_ q p hn
          rw [← es]
          exact rows_of_lst fun p z => hs p (pl.mem_iff.mp z)
      · cases hd
end
end Py
end
section
set_option Elab.async false
set_option linter.all false
set_option maxRecDepth 100000
set_option maxHeartbeats 4000000
namespace Py
open PySem PySem.Spec PyProof.Rows L2
section
variable {X : Cx}
theorem srt_lst {k : Ki} (hK : X.K = k.K) : CallR X (.builtin "sorted") (fun vs H Q => ∃ P ds d, Pm P H ∧ RepL k P H vs [.lst ds] ∧ sortedD ds = some d ∧ ∀ H' v, Same H H' → RepX k P H' v d → Q v H') := by
  intro pins s σ H vs us Q I r ⟨P, ds, d, pm, h, hd, q⟩
  obtain ⟨x, rfl, hx⟩ := repL1 h
  cases hx with
  | @lst a xs _ ht rl =>
    unfold sortedD at hd
    split at hd
    · rename_i ns e
      cases hd
      have ev := rl.ints_inv e
      refine cr_sortedI pins s σ H _ us Q I r ⟨a, ns, rfl, by rw [← ev]; exact ht.sq, fun ns' p pl hs hn => ?_⟩
      rw [sortInts_of pl hs]
      exact new_lst pm (repL_ints _) q p hn
    · split at hd
      · rename_i rs e
        by_cases h1 : rs.length ≤ 1
        · simp only [h1, decide_true, Bool.true_or, if_true, short_rows h1] at hd
          cases hd
          have l1 : ds.length ≤ 1 := by rw [rowsD_eq e, List.length_map]; exact h1
          have ru := r
          cases ru with
          | cons r1 r2 =>
            cases r2
            refine sorted_one (k := k) (ds := ds) I pm ht.sq rl r1 l1 fun H' v s1 rx => q H' v s1 ?_
            rw [← rowsD_eq e]
            exact rx
        · simp only [h1, decide_false, Bool.false_or] at hd
          split at hd
          · rename_i hcnd
            cases hd
            simp only [Bool.and_eq_true, decide_eq_true_eq, List.all_eq_true] at hcnd
            obtain ⟨⟨h64, hnn⟩, hall⟩ := hcnd
            obtain ⟨B, b0, bb⟩ := nnRows_bd hnn
            have hd1 : 1 ≤ (rs.headD []).length := by
              cases rs with
              | nil => simp at h1
              | cons r rs => exact (hall r List.mem_cons_self).1
            obtain ⟨as, e1, e2, e3⟩ := rows_addrs rl e
            have lx : xs.length = rs.length := by rw [e1, List.length_map, e2]
            -- each value is one row
            have row : ∀ x ∈ xs, ∃ a r, x = V.ref a ∧ r ∈ rs ∧ SqT k.K H a (r.map V.int) := fun x hx => by
              obtain ⟨i, hi, hg⟩ := List.getElem_of_mem hx
              have hi2 : i < as.length := by omega
              have hi3 : i < rs.length := by omega
              refine ⟨as[i], rs[i], ?_, List.getElem_mem hi3, e3 (as[i], rs[i]) ?_⟩
              · rw [← hg]
                simp only [e1, List.getElem_map]
              · exact List.mem_iff_getElem.mpr ⟨i, by rw [List.length_zip]; omega, by rw [List.getElem_zip]⟩
            refine cr_sortT (d := (rs.headD []).length) (B := B) hd1 pins s σ H _ us Q I r ⟨a, xs, rfl, ht.sq, by omega, fun x hx => ?_, fun ys p pl hpw hn => ?_⟩
            · obtain ⟨b, r, e4, e5, e6⟩ := row x hx
              exact ⟨r, ⟨b, e4, by rw [hK]; exact e6⟩, (hall r e5).2, bb r e5⟩
            · -- the pairs in the new order
              have pair : ∀ {ys : List V}, (∀ y ∈ ys, y ∈ xs) → ∃ L : List (Addr × List Int), ys = L.map (fun p => V.ref p.1) ∧ ∀ p ∈ L, p.2 ∈ rs ∧ SqT k.K H p.1 (p.2.map V.int) := by
                intro ys
                induction ys with
                | nil => intro _; exact ⟨[], rfl, fun p z => by cases z⟩
                | cons y ys ih =>
                  intro hy
                  obtain ⟨L, f1, f2⟩ := ih fun z hz => hy z (List.mem_cons_of_mem _ hz)
                  obtain ⟨b, r, g1, g2, g3⟩ := row y (hy y List.mem_cons_self)
                  exact ⟨(b, r) :: L, by rw [List.map_cons, g1, f1], fun p hp => (List.mem_cons.mp hp).elim (fun e => by rw [e]; exact ⟨g2, g3⟩) (f2 p)⟩
              obtain ⟨L, f1, f2⟩ := pair fun y hy => pl.mem_iff.mp hy
              have uniq : ∀ {b : Addr} {r r' : List Int}, SqT k.K H b (r.map V.int) → SqT k.K H b (r'.map V.int) → r = r' := fun {b r r'} h1 h2 => by
                have h3 := I.tuple_inj (by rw [hK]; exact h1) (by rw [hK]; exact h2)
                have inj : ∀ {a b : List Int}, a.map V.int = b.map V.int → a = b := by
                  intro a
                  induction a with
                  | nil => intro b h; cases b with
                    | nil => rfl
                    | cons _ _ => simp at h
                  | cons x a ih => intro b h; cases b with
                    | nil => simp at h
                    | cons y b => simp only [List.map_cons, List.cons.injEq, V.int.injEq] at h; rw [h.1, ih h.2]
                exact inj h3
              have hpl : (L.map (·.2)).Perm rs := by
                -- by rows of addresses
                let g : V → List Int := fun v => match v with
                  | .ref b => (match ((as.zip rs).find? fun p => p.1 == b) with | some p => p.2 | none => [])
                  | _ => []
                have gz : ∀ p ∈ as.zip rs, g (V.ref p.1) = p.2 := fun p hp => by
                  show (match ((as.zip rs).find? fun q => q.1 == p.1) with | some p => p.2 | none => []) = p.2
                  cases hf : ((as.zip rs).find? fun q => q.1 == p.1) with
                  | none => exact absurd (List.find?_eq_none.mp hf p hp) (by simp)
                  | some q =>
                    have m := List.mem_of_find?_eq_some hf
                    have e : q.1 = p.1 := by simpa using List.find?_some hf
                    exact uniq (by rw [← e]; exact e3 q m) (e3 p hp)
                have gx : xs.map g = rs := by
                  rw [e1, List.map_map, ← zip_map_fst (g ∘ V.ref) e2]
                  conv => rhs; rw [← zip_map_snd e2]
                  exact List.map_congr_left fun p hp => gz p hp
                have gL : ∀ p ∈ L, g (V.ref p.1) = p.2 := fun p hp => by
                  have hm : V.ref p.1 ∈ xs := pl.mem_iff.mp (by rw [f1]; exact List.mem_map.mpr ⟨p, hp, rfl⟩)
                  obtain ⟨i, hi, hg⟩ := List.getElem_of_mem hm
                  have hi2 : i < as.length := by omega
                  have hi3 : i < rs.length := by omega
                  have mz : (as[i], rs[i]) ∈ as.zip rs := List.mem_iff_getElem.mpr ⟨i, by rw [List.length_zip]; omega, by rw [List.getElem_zip]⟩
                  have ea : as[i] = p.1 := by
                    have : V.ref as[i] = V.ref p.1 := by rw [← hg]; simp only [e1, List.getElem_map]
                    injection this
                  have h5 := gz _ mz
                  simp only [ea] at h5
                  rw [h5]
                  exact uniq (by have := e3 _ mz; simp only [ea] at this; exact this) (f2 p hp).2
                have h6 := pl.map g
                rw [f1, List.map_map, gx] at h6
                rw [show L.map (·.2) = L.map (g ∘ fun p => V.ref p.1) from List.map_congr_left fun p hp => (gL p hp).symm]
                exact h6
              have es : L.map (·.2) = sortRows rs := code_sorted b0 (f := fun p : Addr × List Int => p.2) hpl (fun r z => ⟨(hall r z).2, bb r z⟩) (by
                rw [f1] at hpw
                refine List.Pairwise.imp_of_mem (fun {x y} hx hy h => ?_) (List.pairwise_map.mp hpw)
                exact h x.2 y.2 ⟨x.1, rfl, by rw [hK]; exact (f2 x hx).2⟩ ⟨y.1, rfl, by rw [hK]; exact (f2 y hy).2⟩)
              rw [f1]
              refine new_lst pm (ds := (sortRows rs).map rowD) ?_ q p hn
              rw [← es]
              exact rows_of_lst fun p z => (f2 p z).2
          · cases hd
      · cases hd
theorem cr_blt {k : Ki} (hK : X.K = k.K) (hc : X.calm = true) (hP : X.prog = k.P) (hw : X.w = k.w) (b : Bi) : CallR X (bVal b) (rBlt k b) := by
  intro pins s σ H vs us Q I r ⟨P, ds, d, pm, h, hd, q⟩
  have q0 : ∀ v, RepX k P H v d → Q v H := fun v rv => q H v ssame rv
  unfold bltin at hd
  split at hd
  · cases hd
    obtain ⟨x, rfl, hx⟩ := repL1 h
    cases hx with
    | lst ht rl => exact call_len pins s σ H _ us Q I r ⟨_, _, rfl, .inl ⟨_, ht.sq, rfl⟩, q0 _ (by rw [rl.length]; exact .int _)⟩
  · cases hd
    obtain ⟨x, rfl, hx⟩ := repL1 h
    cases hx with
    | fro ht rl => exact call_len pins s σ H _ us Q I r ⟨_, _, rfl, .inl ⟨_, by rw [hK]; exact ht.sq, rfl⟩, q0 _ (by rw [rl.length]; exact .int _)⟩
  · cases hd
    obtain ⟨x, rfl, hx⟩ := repL1 h
    cases hx with
    | tup ht rl => exact call_len pins s σ H _ us Q I r ⟨_, _, rfl, .inr ⟨_, by rw [hK]; exact ht, rfl⟩, q0 _ (by rw [rl.length]; exact .int _)⟩
  · split at hd
    · rename_i z
      cases hd
      obtain ⟨x, rfl, hx⟩ := repL1 h
      cases hx with
      | str y => exact call_len pins s σ H _ us Q I r ⟨_, _, rfl, ⟨lenOk_le z, rfl⟩, q0 _ (.int _)⟩
    · cases hd
  · cases hd
    obtain ⟨x, rfl, hx⟩ := repL1 h
    cases hx with
    | dic ht hn hk rl =>
      refine call_lenD pins s σ H _ us Q I r ⟨_, _, rfl, ht, q0 _ ?_⟩
      rw [show (_ : List (Key × V)).length = _ from by have := congrArg List.length hk; simpa using this.symm]
      exact .int _
  · simp only [Option.map_eq_some_iff] at hd
    obtain ⟨ns, e, rfl⟩ := hd
    obtain ⟨x, rfl, hx⟩ := repL1 h
    cases hx with
    | lst ht rl => exact cr_sum hc pins s σ H _ us Q I r ⟨_, ns, rfl, by rw [← rl.ints_inv e]; exact ht.sq, q0 _ (.int _)⟩
  · simp only [Option.map_eq_some_iff] at hd
    obtain ⟨ns, e, rfl⟩ := hd
    obtain ⟨x, rfl, hx⟩ := repL1 h
    cases hx with
    | tup ht rl => exact cr_sumT hc pins s σ H _ us Q I r ⟨_, ns, rfl, by rw [← rl.ints_inv e, hK]; exact ht, q0 _ (.int _)⟩
  · simp only [Option.bind_eq_some_iff] at hd
    obtain ⟨ns, e, hd⟩ := hd
    split at hd
    · cases hd
    · rename_i ne
      cases hd
      obtain ⟨x, rfl, hx⟩ := repL1 h
      cases hx with
      | lst ht rl =>
        match ns, ne with
        | [], ne => simp at ne
        | n :: ns, _ =>
          refine cr_max hc pins s σ H _ us Q I r ⟨_, n :: ns, rfl, by rw [← rl.ints_inv e]; exact ht.sq, by simp, fun m h1 h2 => ?_⟩
          obtain ⟨h3, h4⟩ := maxL_of (x := n) (xs := ns)
          rw [show m = maxL (n :: ns) from by have := h2 _ h3; have := h4 _ h1; omega]
          exact q0 _ (.int _)
  · cases hd
    obtain ⟨x, y, rfl, hx, hy⟩ := repL2 h
    cases hx; cases hy
    exact call_max2 hc pins s σ H _ us Q I r ⟨_, _, rfl, q0 _ (.int _)⟩
  · simp only [Option.bind_eq_some_iff] at hd
    obtain ⟨ns, e, hd⟩ := hd
    split at hd
    · cases hd
    · rename_i ne
      cases hd
      obtain ⟨x, rfl, hx⟩ := repL1 h
      cases hx with
      | lst ht rl =>
        match ns, ne with
        | [], ne => simp at ne
        | n :: ns, _ =>
          refine cr_min hc pins s σ H _ us Q I r ⟨_, n :: ns, rfl, by rw [← rl.ints_inv e]; exact ht.sq, by simp, fun m h1 h2 => ?_⟩
          obtain ⟨h3, h4⟩ := minL_of (x := n) (xs := ns)
          rw [show m = minL (n :: ns) from by have := h2 _ h3; have := h4 _ h1; omega]
          exact q0 _ (.int _)
  · cases hd
    obtain ⟨x, y, rfl, hx, hy⟩ := repL2 h
    cases hx; cases hy
    exact call_min2 hc pins s σ H _ us Q I r ⟨_, _, rfl, q0 _ (.int _)⟩
  · cases hd
    obtain ⟨x, rfl, hx⟩ := repL1 h
    cases hx
    exact call_abs pins s σ H _ us Q I r ⟨_, rfl, q0 _ (.int _)⟩
  · cases hd
    obtain ⟨x, rfl, hx⟩ := repL1 h
    cases hx
    exact call_int1 pins s σ H _ us Q I r (.inl ⟨_, rfl, q0 _ (.int _)⟩)
  · cases hd
    obtain ⟨x, rfl, hx⟩ := repL1 h
    cases hx
    exact call_int1 pins s σ H _ us Q I r (.inr ⟨_, rfl, q0 _ (.int _)⟩)
  · cases hd
    obtain ⟨x, rfl, hx⟩ := repL1 h
    cases hx
    exact call_bool1 pins s σ H _ us Q I r (.inr ⟨_, rfl, q0 _ (.bl _)⟩)
  · cases hd
    obtain ⟨x, rfl, hx⟩ := repL1 h
    cases hx
    exact call_bool1 pins s σ H _ us Q I r (.inl ⟨_, rfl, q0 _ (.bl _)⟩)
  · cases hd
    obtain ⟨x, rfl, hx⟩ := repL1 h
    cases hx with
    | lst ht rl => exact call_tuple_of pins s σ H _ us Q I r ⟨_, _, rfl, .inl ⟨ht.sq, new_tup pm rl q⟩⟩
  · cases hd
    obtain ⟨x, rfl, hx⟩ := repL1 h
    cases hx with
    | tup ht rl => exact call_tuple_of pins s σ H _ us Q I r ⟨_, _, rfl, .inr ⟨by rw [hK]; exact ht, q0 _ (.tup ht rl)⟩⟩
  · cases hd
    obtain ⟨x, rfl, hx⟩ := repL1 h
    cases hx with
    | lst ht rl => exact call_list_of pins s σ H _ us Q I r ⟨_, _, rfl, .inl ht.sq, new_lst pm rl q⟩
  · cases hd
    obtain ⟨x, rfl, hx⟩ := repL1 h
    cases hx with
    | tup ht rl => exact call_list_of pins s σ H _ us Q I r ⟨_, _, rfl, .inr (by rw [hK]; exact ht), new_lst pm rl q⟩
  · exact srt_lst hK pins s σ H _ us Q I r ⟨P, _, d, pm, h, hd, q⟩
  · exact sorted_set hK hc hP hw pins s σ H _ us Q I r ⟨P, _, d, pm, h, hd, q⟩
  · simp only [Option.map_eq_some_iff] at hd
    obtain ⟨ns, e, rfl⟩ := hd
    obtain ⟨x, rfl, hx⟩ := repL1 h
    cases hx with
    | lst ht rl => exact cr_all hc pins s σ H _ us Q I r ⟨_, ns, rfl, by rw [← rl.bools_inv e]; exact ht.sq, q0 _ (.bl _)⟩
  · simp only [Option.map_eq_some_iff] at hd
    obtain ⟨ns, e, rfl⟩ := hd
    obtain ⟨x, rfl, hx⟩ := repL1 h
    cases hx with
    | lst ht rl => exact cr_any hc pins s σ H _ us Q I r ⟨_, ns, rfl, by rw [← rl.bools_inv e]; exact ht.sq, q0 _ (.bl _)⟩
  · cases hd
end
end Py
end
section
set_option Elab.async false
set_option linter.all false
set_option maxRecDepth 100000
set_option maxHeartbeats 4000000
namespace Py
open PySem PySem.Spec PyProof.Rows L2
section
variable {X : Cx}
/-! ### set(a list of tuples) -/
theorem mem_firstMet {α : Type} [BEq α] [LawfulBEq α] (x : α) : ∀ xs : List α, x ∈ firstMet xs ↔ x ∈ xs
  | [] => Iff.rfl
  | y :: ys => by
    show x ∈ y :: (firstMet ys).filter _ ↔ _
    rw [List.mem_cons, List.mem_filter, mem_firstMet x ys, List.mem_cons]
    by_cases e : x = y
    · simp [e]
    · simp [e]
theorem nodup_firstMet {α : Type} [BEq α] [LawfulBEq α] : ∀ xs : List α, (firstMet xs).Nodup
  | [] => List.nodup_nil
  | y :: ys => by
    show (y :: (firstMet ys).filter _).Nodup
    rw [List.nodup_cons]
    refine ⟨fun h => ?_, (nodup_firstMet ys).filter _⟩
    have := (List.mem_filter.mp h).2
    simp at this
theorem set_of {k : Ki} (hK : X.K = k.K) (hc : X.calm = true) (hP : X.prog = k.P) (hw : X.w = k.w) (hu : X.A.units + 100 < cLine) :
    CallR X (.type "set") (fun vs H Q => ∃ P P' xs rs, Pm P H ∧ Pm P' H ∧ RepL k P H vs [.lst xs] ∧ Py.rowsOf xs = some rs ∧ rs.length < 64 ∧ ∀ H' v, Same H H' → RepX k P' H' v (.set ((firstMet rs).map rowD)) → Q v H') := by
  intro pins s σ H vs us Q I r ⟨P, P', xs, rs, pm, pm', h, e, h64, q⟩
  obtain ⟨x, rfl, hx⟩ := repL1 h
  cases hx with
  | @lst a ys _ ht rl =>
    obtain ⟨as, e1, e2, e3⟩ := rows_addrs rl e
    refine cr_setOfT hc (by omega) pins s σ H _ us Q I r ⟨a, as.zip rs, rfl, ?_, fun p hp => by rw [hK]; exact e3 p hp, by rw [List.length_zip]; omega, fun b L hn hs hcv => ?_⟩
    · rw [zip_map_fst V.ref e2, ← e1]; exact ht.sq
    · have sm : Same H (upd H b (SetTO X.prog X.w b L)) := same_new hn
      refine q _ _ sm (.set (a := b) (L := L) (rs := firstMet rs) (by rw [← hP, ← hw]; exact upd_same) (pm_free pm' hn) (fun p hp => sqt_mono (P := P) (same_ext sm) pm (e3 p (hs p hp))) (fun r => ?_) (nodup_firstMet rs) rfl)
      rw [mem_firstMet]
      constructor
      · intro hr
        obtain ⟨p, hp, rfl⟩ := List.mem_map.mp hr
        exact (List.of_mem_zip (hs p hp)).2
      · intro hr
        obtain ⟨i, hi, hg⟩ := List.getElem_of_mem hr
        have hi2 : i < as.length := by omega
        have := hcv (as[i], rs[i]) (List.mem_iff_getElem.mpr ⟨i, by rw [List.length_zip]; omega, by rw [List.getElem_zip]⟩)
        rw [← hg]
        exact this

/-! ### isinstance -/
def Ty.nm : Ty → String
  | .int => "int" | .bool => "bool" | .tuple => "tuple" | .list => "list" | .str => "str" | .dict => "dict" | .none => "NoneType" | .cls _ => ""
def D.tn : D → String
  | .non => "NoneType" | .bl _ => "bool" | .int _ => "int" | .str _ => "str" | .tup _ => "tuple" | .lst _ => "list" | .dic _ _ => "dict" | _ => ""
def Ty.std : Ty → Bool
  | .cls _ => false | .none => false | _ => true
theorem tyx_of {k : Ki} {P : Addr → Prop} {H : Hp} {v : V} {d : D} (h : RepX k P H v d) (ok : d.tyOk = true) : TyX k.K H v (.type d.tn) := by
  cases h with
  | non => exact .base .non
  | bl b => exact .base (.bl b)
  | int i => exact .base (.int i)
  | str s => exact .base (.str s)
  | tup ht r =>
    rcases ht with (h | ⟨o, h⟩) | ⟨o, its, n, h1, h2, _⟩
    · exact .base (.tup h)
    · exact .fTuple h
    · exact .kTuple h1 h2
  | lst ht r => exact .base (.lst ht.1)
  | dic ht hn hk r => exact .base (.dK ht)
  | _ => simp [D.tyOk] at ok
theorem kit_std {K : PySem.W.Frag} (d : D) (t : Ty) (ok : d.tyOk = true) (st : t.std = true) : PySem.W.kitOne K (.type d.tn) (.type t.nm) = some (d.hasTy t) := by
  cases d <;> simp [D.tyOk] at ok <;> cases t <;> simp [Ty.std] at st <;> exact kit_ty (by simp only [D.tn, Ty.nm, D.hasTy]; decide +kernel)
theorem isi_one {k : Ki} (hK : X.K = k.K) : CallR X (.builtin "isinstance") (fun vs H Q => ∃ (P : Addr → Prop) (x : V) (d : D) (t : Ty), vs = [x, .ty t.nm] ∧ RepX k P H x d ∧ d.tyOk = true ∧ t.std = true ∧ Q (.bl (d.hasTy t)) H) := by
  intro pins s σ H vs us Q I r z
  obtain ⟨P, x, d, t, rfl, h, ok, st, q⟩ := z
  exact call_isi pins s σ H _ us Q I r ⟨x, .ty t.nm, .type d.tn, .type t.nm, _, rfl, .ty _, by rw [hK]; exact tyx_of h ok, by exact kit_std d t ok st, q⟩
theorem kit_any {K : PySem.W.Frag} (d : D) (ok : d.tyOk = true) : ∀ ts : List Ty, ts.all Ty.std = true → PySem.W.kitAny K (.type d.tn) (ts.map fun t => .type t.nm) = some (ts.any d.hasTy)
  | [], _ => rfl
  | t :: ts, h => by
    rw [List.all_cons, Bool.and_eq_true] at h
    rw [List.map_cons, List.any_cons]
    exact kitAny_cons (kit_std d t ok h.1) (fun e => by rw [e, Bool.false_or]; exact kit_any d ok ts h.2) (fun e => by rw [e, Bool.true_or])
theorem clsV_all : ∀ ts : List Ty, Paired ClsV (ts.map fun t => V.ty t.nm) (ts.map fun t => Value.type t.nm)
  | [] => .nil
  | t :: ts => .cons (.ty _) (clsV_all ts)
theorem isi_tup {k : Ki} (hK : X.K = k.K) : CallR X (.builtin "isinstance") (fun vs H Q => ∃ (P : Addr → Prop) (x : V) (d : D) (ts : List Ty) (tp : Addr), vs = [x, .ref tp] ∧ H tp = some (.tup (ts.map fun t => V.ty t.nm)) ∧ RepX k P H x d ∧ d.tyOk = true ∧ ts.all Ty.std = true ∧ Q (.bl (ts.any d.hasTy)) H) := by
  intro pins s σ H vs us Q I r z
  obtain ⟨P, x, d, ts, tp, rfl, ht, h, ok, st, q⟩ := z
  exact call_isiT pins s σ H _ us Q I r ⟨x, tp, _, .type d.tn, _, _, rfl, ht, clsV_all ts, by rw [hK]; exact tyx_of h ok, by exact kit_any d ok ts st, q⟩

/-! ### unary operators -/
def unOf : UnO → UnaryOp
  | .neg => .USub | .inv => .Invert
def rUn (o : UnO) : V → Hp → VK → Prop := fun x H Q => ∃ d d', (∃ k P, RepX k P H x d) ∧ unop o d = some d' ∧ ∀ (k : Ki) P v, RepX k P H v d' → Q v H
theorem op_un (o : UnO) : UnR X (unaryOp (unOf o)) (rUn o) := by
  intro pins s σ H x v Q I rx ⟨d, d', ⟨k, P, h⟩, e, q⟩
  cases o with
  | neg => cases h <;> simp [unop] at e; subst e; exact un_neg pins s σ H _ v Q I rx ⟨_, rfl, q k P _ (.int _)⟩
  | inv => cases h <;> simp [unop] at e; subst e; exact un_inv pins s σ H _ v Q I rx ⟨_, rfl, q k P _ (.int _)⟩
end
end Py
end
section
set_option Elab.async false
set_option linter.all false
set_option maxRecDepth 100000
set_option maxHeartbeats 4000000
namespace Py
open PySem PySem.Spec PyProof.Rows L2
/-! ### weakening of judgements -/
section
variable {X : Cx}
theorem pe_imp {e : Expr} {t t' : TE} (h : PE X e t) (i : ∀ σ H Q, t' σ H Q → t σ H Q) : PE X e t' := ⟨fun pins s σ H Q I q => h.run pins s σ H Q I (i σ H Q q)⟩
theorem pt_imp {e : Expr} {t t' : TT} (h : PT X e t) (i : ∀ σ H Q, t' σ H Q → t σ H Q) : PT X e t' := ⟨fun pins s σ H Q I q => h.run pins s σ H Q I (i σ H Q q)⟩
theorem pw_imp {e : Expr} {t t' : TT} (h : PW X e t) (i : ∀ σ H Q, t' σ H Q → t σ H Q) : PW X e t' := ⟨fun wh pins s σ H Q I q => h.run wh pins s σ H Q I (i σ H Q q)⟩
theorem pa_imp {es : List Expr} {t t' : TA} (h : PA X es t) (i : ∀ σ H Q, t' σ H Q → t σ H Q) : PA X es t' := ⟨fun pos pins s σ H Q I q => h.run pos pins s σ H Q I (i σ H Q q)⟩
theorem po_imp {e : Option Expr} {t t' : TO} (h : PO X e t) (i : ∀ σ H Q, t' σ H Q → t σ H Q) : PO X e t' := ⟨fun pins s σ H Q I q => h.run pins s σ H Q I (i σ H Q q)⟩
theorem pi_imp {tg e : Expr} {t t' : TI} (h : PI X tg e t) (i : ∀ σ H Q, t' σ H Q → t σ H Q) : PI X tg e t' := ⟨fun pins s σ H Q I q => h.run pins s σ H Q I (i σ H Q q)⟩
theorem ps_imp {s : Stmt} {t t' : TS} (h : PS X s t) (i : ∀ D σ H, t' D σ H → t D σ H) : PS X s t' := ⟨fun pins s σ H D I q => h.run pins s σ H D I (i D σ H q)⟩
theorem pss_imp {s : List Stmt} {t t' : TS} (h : PSs X s t) (i : ∀ D σ H, t' D σ H → t D σ H) : PSs X s t' := ⟨fun pins s σ H D I q => h.run pins s σ H D I (i D σ H q)⟩
theorem pe_or2 {e : Expr} {t t' : TE} (h : PE X e t) (h' : PE X e t') : PE X e (fun σ H Q => t σ H Q ∨ t' σ H Q) := ⟨fun pins s σ H Q I q => q.elim (h.run pins s σ H Q I) (h'.run pins s σ H Q I)⟩
theorem pi_or2 {tg e : Expr} {t t' : TI} (h : PI X tg e t) (h' : PI X tg e t') : PI X tg e (fun σ H Q => t σ H Q ∨ t' σ H Q) := ⟨fun pins s σ H Q I q => q.elim (h.run pins s σ H Q I) (h'.run pins s σ H Q I)⟩
end
theorem R.bind_inv {α β : Type} {r : R α} {f : Env → α → R β} {G' : Env} {b : β} (h : r.bind f = .ok G' b) : ∃ G1 a, r = .ok G1 a ∧ f G1 a = .ok G' b := by
  cases r with
  | bad => cases h
  | ok G1 a => exact ⟨G1, a, rfl, h⟩
theorem R.ofO_inv {α : Type} {G G' : Env} {o : Option α} {a : α} (h : R.ofO G o = .ok G' a) : o = some a ∧ G = G' := by
  cases o with
  | none => cases h
  | some x => cases h; exact ⟨rfl, rfl⟩
theorem ite_bad {α : Type} {c : Bool} {r : R α} {G : Env} {a : α} (h : (if c = true then R.bad else r) = .ok G a) : c = false ∧ r = .ok G a := by
  cases c with
  | true => simp at h
  | false => exact ⟨rfl, by simpa using h⟩
theorem ite_ok {α : Type} {c : Bool} {r : R α} {G : Env} {a : α} (h : (if c = true then r else R.bad) = .ok G a) : c = true ∧ r = .ok G a := by
  cases c with
  | false => simp at h
  | true => exact ⟨rfl, by simpa using h⟩
/-- borrowed only ahead of what changes nothing -/
theorem bor {b m : Bool} (h : (b && !m) = false) : b = true → m = true := by
  cases b <;> cases m <;> simp at h ⊢

/-- a context of the walk -/
structure XB (k : Ki) (X : Cx) : Prop where
  K : X.K = k.K
  P : X.prog = k.P
  w : X.w = k.w
  calm : X.calm = true
  units : X.A.units + 100 < cLine
  nd : X.N.Nodup

section
variable {k : Ki} {F : Addr → Prop} {σ : St} {H H' : Hp} {G : Env} {fp fp' : Fp}
theorem VRep.fl {v : V} {d : D} {b : Bool} (h : VRep k F fp H v d b) : VRep k F fp H v (Py.fl d b).1 (Py.fl d b).2 := by
  unfold Py.fl
  cases hi : d.imm with
  | true => exact h.imm hi
  | false => simpa using h
/-- clean to borrowed or as it is, by a flag -/
theorem VRep.or1 (E : EnvOk k F σ H G fp) {v : V} {d : D} {b c : Bool} (h : VRep k F fp H v d b) : VRep k F fp H v d (b || c) := h.weak E fun e => by rw [e]; rfl
theorem VRep.or2 (E : EnvOk k F σ H G fp) {v : V} {d : D} {b c : Bool} (h : VRep k F fp H v d b) : VRep k F fp H v d (c || b) := h.weak E fun e => by rw [e, Bool.or_true]
theorem EnvOk.sh (E : EnvOk k F σ H G fp) {i : Nat} {d : D} (h : G[i]? = some (.sh d)) : ∃ v, σ[i]? = some (some v) ∧ RepX k (Own F fp) H v d := by
  have := E.slot i
  rw [h] at this
  obtain ⟨⟨x, e, r⟩, _⟩ := this
  exact ⟨x, e, r⟩
theorem EnvOk.ow (E : EnvOk k F σ H G fp) {i : Nat} {m : M} (h : G[i]? = some (.ow m)) : ∃ v, σ[i]? = some (some v) ∧ RepM k (Own F fp) H v m (fp i) := by
  have := E.slot i
  rw [h] at this
  exact this
def fpSet (fp : Fp) (i : Nat) (as : List Addr) : Fp := fun j => if j = i then as else fp j
theorem fpSet_same {fp : Fp} {i : Nat} {as : List Addr} : fpSet fp i as i = as := if_pos rfl
theorem fpSet_ne {fp : Fp} {i j : Nat} {as : List Addr} (h : j ≠ i) : fpSet fp i as j = fp j := if_neg h
/-- a slot is given up: its objects belong to nobody -/
theorem own_less {i : Nat} : ∀ a, Own F (fpSet fp i []) a → Own F fp a := fun a q => by
  rcases q with q | ⟨j, q⟩
  · exact .inl q
  · by_cases e : j = i
    · rw [e, fpSet_same] at q; cases q
    · rw [fpSet_ne e] at q; exact .inr ⟨j, q⟩
theorem SlotOk.less (E : EnvOk k F σ H G fp) {i j : Nat} (hj : j ≠ i) {v : Option (Option V)} {s : Option Slot} (h : SlotOk k (Own F fp) H v (fp j) s) : SlotOk k (Own F (fpSet fp i [])) H v (fpSet fp i [] j) s := by
  rw [fpSet_ne hj]
  cases s with
  | none => exact h
  | some s =>
    cases s with
    | dead => exact h
    | sh d => obtain ⟨⟨x, e, r⟩, z⟩ := h; exact ⟨⟨x, e, r.sub own_less E.pm⟩, z⟩
    | ow m => obtain ⟨x, e, r⟩ := h; exact ⟨x, e, r.mono Ext.refl E.pm (fun a q => .inl (own_less a q)) fun _ _ => rfl⟩
/-- a new value (or none) in a slot, clean -/
theorem EnvOk.store (E : EnvOk k F σ H G fp) {i : Nat} {v : Option V} {s : Slot} (hi : i < G.length) (hs : SlotOk k (Own F (fpSet fp i [])) H (some v) [] (some s)) (hn : ∀ m, s ≠ .ow m) : EnvOk k F (σ.set i v) H (G.set i s) (fpSet fp i []) where
  len := by rw [List.length_set, List.length_set]; exact E.len
  slot := fun j => by
    by_cases e : j = i
    · subst e
      rw [fpSet_same, List.getElem?_set_self (by rw [E.len]; exact hi), List.getElem?_set_self hi]
      exact hs
    · rw [List.getElem?_set_ne (Ne.symm e), List.getElem?_set_ne (Ne.symm e)]
      exact (E.slot j).less E e
  nd := fun j => by
    by_cases e : j = i
    · rw [e, fpSet_same]; exact List.nodup_nil
    · rw [fpSet_ne e]; exact E.nd j
  dj := fun a b x h1 h2 => by
    by_cases e : a = i
    · rw [e, fpSet_same] at h1; cases h1
    · by_cases e2 : b = i
      · rw [e2, fpSet_same] at h2; cases h2
      · rw [fpSet_ne e] at h1; rw [fpSet_ne e2] at h2; exact E.dj a b x h1 h2
  df := fun a x h1 => by
    by_cases e : a = i
    · rw [e, fpSet_same] at h1; cases h1
    · rw [fpSet_ne e] at h1; exact E.df a x h1
  pm := E.pm.sub own_less
theorem tr_less {i : Nat} : Tr fp H (fpSet fp i []) H := ⟨fun _ _ h _ => h, fun j a q => by
  by_cases e : j = i
  · rw [e, fpSet_same] at q; cases q
  · rw [fpSet_ne e] at q; exact .inl ⟨j, q⟩, fun _ h => h⟩
theorem set_get {α : Type} {l : List α} {i : Nat} {x : α} (h : l[i]? = some x) : l.set i x = l := by
  obtain ⟨hi, rfl⟩ := List.getElem?_eq_some_iff.mp h
  exact List.set_getElem_self hi
/-- an owned slot is frozen -/
theorem EnvOk.freeze (E : EnvOk k F σ H G fp) {i : Nat} {m : M} (h : G[i]? = some (.ow m)) : ∃ v, σ[i]? = some (some v) ∧ EnvOk k F σ H (G.set i (.sh m.fz)) (fpSet fp i []) ∧ RepX k (Own F (fpSet fp i [])) H v m.fz := by
  obtain ⟨v, e, r⟩ := E.ow h
  have hr : RepX k (Own F (fpSet fp i [])) H v m.fz := r.fz E.pm own_less fun a q z => by
    rcases z with z | ⟨j, z⟩
    · exact E.df i a q z
    · by_cases e : j = i
      · rw [e, fpSet_same] at z; cases z
      · rw [fpSet_ne e] at z; exact e (E.dj j i a z q)
  refine ⟨v, e, ?_, hr⟩
  have := E.store (v := some v) (s := .sh m.fz) (List.getElem?_eq_some_iff.mp h).1 ⟨⟨v, rfl, hr⟩, rfl⟩ (fun _ z => by cases z)
  rwa [set_get e] at this
end

/-! ### readings -/
section
variable (k : Ki) (C : Ctx) (orc : Orc)
def tE (e : E) : TE := fun σ H Q => ∃ F G fp G' d b, EnvOk k F σ H G fp ∧ ev C orc e G = .ok G' (d, b) ∧ ∀ H' fp' v, EnvOk k F σ H' G' fp' → Tr fp H fp' H' → (e.mf = true → Same H H') → VRep k F fp' H' v d b → Q v H'
def tT (e : E) : TT := fun σ H Q => ∃ F G fp G' b, EnvOk k F σ H G fp ∧ evT C orc e G = .ok G' b ∧ ∀ H' fp', EnvOk k F σ H' G' fp' → Tr fp H fp' H' → (e.mf = true → Same H H') → Q b H'
def tEs (es : List E) : TA := fun σ H Q => ∃ F G fp G' ds b, EnvOk k F σ H G fp ∧ evs C orc es G = .ok G' (ds, b) ∧ ∀ H' fp' vs, EnvOk k F σ H' G' fp' → Tr fp H fp' H' → (E.mfL es = true → Same H H') → RepL k (if b = true then F else Own F fp') H' vs ds → Q vs H'
def tO (e : E) : TO := fun σ H Q => ∃ F G fp G' o, EnvOk k F σ H G fp ∧ evI C orc e G = .ok G' o ∧ ∀ H' fp', EnvOk k F σ H' G' fp' → Tr fp H fp' H' → (e.mf = true → Same H H') → Q o H'
end
section
variable {k : Ki} {C : Ctx} {orc : Orc} {X : Cx}
theorem same_trans {H H1 H2 : Hp} (a : Same H H1) (b : Same H1 H2) : Same H H2 := fun x o h => b x o (a x o h)
theorem se_var {i : Nat} {x : Str} {pos : Pos} (hN : X.N[i]? = some x) (hv : Vis X.env.scope x) (hd : (x == ("__debug__" : Str)) = false) (hcd : (x == ("__classdict__" : Str)) = false) : PE X (.Name x pos) (tE k C orc (.var i)) := by
  refine pe_imp (pe_var hN hv hd hcd) fun σ H Q ⟨F, G, fp, G', d, b, E, h, q⟩ => ?_
  rw [ev] at h
  split at h
  · rename_i d' hg
    cases h
    obtain ⟨v, e, r⟩ := E.sh hg
    exact ⟨v, e, q H fp v E (.refl _ _) (fun _ => ssame) r⟩
  · rename_i m hg
    cases h
    obtain ⟨v, e, E1, r⟩ := E.freeze hg
    exact ⟨v, e, q H _ v E1 tr_less (fun _ => ssame) r⟩
  · cases h
/-- constants -/
def ckCon : Const → D → Bool
  | .none, .non => true
  | .bool b, .bl c => b == c
  | .int i, .int j => i == j
  | .str s, .str t => s == t
  | _, _ => false
theorem se_con {c : Const} {d : D} {j : Nat} {pos : Pos} (h : ckCon c d = true) : PE X (.Constant c j pos) (tE k C orc (.con d)) := by
  have fin : ∀ {v : V}, (∀ P H, RepX k P H v d) → ∀ σ H Q, tE k C orc (.con d) σ H Q → tC v σ H Q := fun {v} r σ H Q ⟨F, G, fp, G', d', b, E, h, q⟩ => by
    rw [ev] at h
    cases h
    exact q H fp v E (.refl _ _) (fun _ => ssame) (r _ _)
  unfold ckCon at h
  split at h
  · exact pe_imp pe_non (fin fun _ _ => .non)
  · rename_i a b; have e : a = b := by simpa using h
    subst e; exact pe_imp pe_bl (fin fun _ _ => .bl _)
  · rename_i a b; have e : a = b := by simpa using h
    subst e; exact pe_imp pe_int (fin fun _ _ => .int _)
  · rename_i a b; have e : a = b := by simpa using h
    subst e; exact pe_imp pe_str (fin fun _ _ => .str _)
  · cases h
variable {a b c : Expr} {ea eb ec : E} {pos : Pos}
theorem se_bin (B : XB k X) {o : BinO} {op : Operator} (ho : opOf o = op) (ha : PE X a (tE k C orc ea)) (hb : PE X b (tE k C orc eb)) : PE X (.BinOp a op b pos) (tE k C orc (.bin o ea eb)) := by
  subst ho
  refine pe_imp (pe_op (op_bin B.K o) ha hb) fun σ H Q ⟨F, G, fp, G', d, b, E, h, q⟩ => ?_
  rw [ev] at h
  obtain ⟨G1, x, h1, h⟩ := R.bind_inv h
  obtain ⟨hb1, h⟩ := ite_bad h
  obtain ⟨G2, y, h2, h⟩ := R.bind_inv h
  obtain ⟨h3, rfl⟩ := R.ofO_inv h
  obtain ⟨d', h3, h4⟩ := Option.map_eq_some_iff.mp h3
  refine ⟨F, G, fp, G1, x.1, x.2, E, h1, fun H1 fp1 v1 E1 T1 S1 R1 => ⟨F, G1, fp1, G2, y.1, y.2, E1, h2, fun H2 fp2 v2 E2 T2 S2 R2 => ?_⟩⟩
  have R1' := (R1.tr E1 T2 fun z => S2 (bor hb1 z)).or1 E2 (c := y.2)
  refine ⟨_, x.1, y.1, d', E2.pmB (x.2 || y.2), R1', R2.or2 E2, h3, fun H3 v s r => ?_⟩
  have r := VRep.fl (b := x.2 || y.2) r
  rw [h4] at r
  exact q H3 fp2 v (E2.same s) ((T1.trans T2).trans (same_tr s)) (fun m => by
    simp only [Py.E.mf, Bool.and_eq_true] at m
    exact same_trans (same_trans (S1 m.1) (S2 m.2)) s) r
theorem se_un (B : XB k X) {o : UnO} {op : UnaryOp} (ho : unOf o = op) (ha : PE X a (tE k C orc ea)) : PE X (.UnaryOp op a pos) (tE k C orc (.un o ea)) := by
  subst ho
  refine pe_imp (pe_un (op_un o) ha) fun σ H Q ⟨F, G, fp, G', d, b, E, h, q⟩ => ?_
  rw [ev] at h
  obtain ⟨G1, x, h1, h⟩ := R.bind_inv h
  obtain ⟨h3, rfl⟩ := R.ofO_inv h
  obtain ⟨d', h3, h4⟩ := Option.map_eq_some_iff.mp h3
  refine ⟨F, G, fp, G1, x.1, x.2, E, h1, fun H1 fp1 v1 E1 T1 S1 R1 => ⟨x.1, d', ⟨k, _, R1⟩, h3, fun k' P v r => ?_⟩⟩
  have ri : ∃ i, d' = .int i := by
    cases o <;> cases hx : x.1 <;> rw [hx] at h3 <;> simp [unop] at h3 <;> exact ⟨_, h3.symm⟩
  obtain ⟨i, rfl⟩ := ri
  cases r
  have r : VRep k F fp1 H1 (.int i) (.int i) x.2 := RepX.int i
  have r := VRep.fl r
  rw [h4] at r
  exact q H1 fp1 _ E1 T1 (fun m => by simp only [Py.E.mf] at m; exact S1 m) r
theorem cmp_bl {o : CmpO} {x y d : D} (h : cmpop o x y = some d) : ∃ c, d = .bl c := by
  unfold cmpop at h
  split at h
  all_goals first
    | (cases h; done)
    | (cases h; exact ⟨_, rfl⟩)
    | (obtain ⟨e, _, rfl⟩ := Option.map_eq_some_iff.mp h; exact ⟨_, rfl⟩)
    | (split at h <;> first | (cases h; exact ⟨_, rfl⟩) | cases h)
theorem cmp_red (B : XB k X) {o : CmpO} (σ : St) (H : Hp) (Q : VK) : tE k C orc (.cmp o ea eb) σ H Q → tOp (rCmp k o) (tE k C orc ea) (tE k C orc eb) σ H fun v H' => (∃ c, v = .bl c) ∧ Q v H' := by
  intro ⟨F, G, fp, G', d, b, E, h, q⟩
  rw [ev] at h
  obtain ⟨G1, x, h1, h⟩ := R.bind_inv h
  obtain ⟨hb1, h⟩ := ite_bad h
  obtain ⟨G2, y, h2, h⟩ := R.bind_inv h
  obtain ⟨h3, rfl⟩ := R.ofO_inv h
  obtain ⟨d', h3, h4⟩ := Option.map_eq_some_iff.mp h3
  refine ⟨F, G, fp, G1, x.1, x.2, E, h1, fun H1 fp1 v1 E1 T1 S1 R1 => ⟨F, G1, fp1, G2, y.1, y.2, E1, h2, fun H2 fp2 v2 E2 T2 S2 R2 => ?_⟩⟩
  have R1' := (R1.tr E1 T2 fun z => S2 (bor hb1 z)).or1 E2 (c := y.2)
  refine ⟨_, x.1, y.1, d', E2.pmB (x.2 || y.2), R1', R2.or2 E2, h3, fun v r => ?_⟩
  obtain ⟨c, rfl⟩ := cmp_bl h3
  have r0 := r.bl_inv
  have r := VRep.fl (b := x.2 || y.2) r
  rw [h4] at r
  exact ⟨⟨c, r0⟩, q H2 fp2 v E2 (T1.trans T2) (fun m => by
    simp only [Py.E.mf, Bool.and_eq_true] at m
    exact same_trans (S1 m.1) (S2 m.2)) r⟩
def notIn : CmpO → Bool
  | .mem => false | .nmem => false | _ => true
def noSetE : Expr → Bool
  | .Set _ _ _ => false
  | _ => true
theorem nomarkE {e : Expr} (h : noSetE e = true) (op : CmpOp) : behindInMarks op e = false := by
  cases e <;> first | rfl | cases h
theorem r2_mono (o : CmpO) (x y : V) (H : Hp) (Q Q' : VK) (h : rCmp k o x y H Q) (i : ∀ v H', Q v H' → Q' v H') : rCmp k o x y H Q' := by
  obtain ⟨P, d1, d2, d, pm, r1, r2, e, q⟩ := h
  exact ⟨P, d1, d2, d, pm, r1, r2, e, fun v r => i v H (q v r)⟩
theorem tE_mono {e : E} {σ : St} {H : Hp} {Q Q' : VK} (h : tE k C orc e σ H Q) (i : ∀ v H', Q v H' → Q' v H') : tE k C orc e σ H Q' := by
  obtain ⟨F, G, fp, G', d, b, E, h, q⟩ := h
  exact ⟨F, G, fp, G', d, b, E, h, fun H' fp' v E' T S R => i v H' (q H' fp' v E' T S R)⟩
theorem se_cmp (B : XB k X) {o : CmpO} {op : CmpOp} (ho : cmpOf o = op) (hs : noSetE b = true) (ha : PE X a (tE k C orc ea)) (hb : PE X b (tE k C orc eb)) : PE X (.Compare a [op] [b] pos) (tE k C orc (.cmp o ea eb)) := by
  subst ho
  refine pe_imp (pe_cmpR (op_cmp B.K B.units o) ha hb (nomarkE hs _)) fun σ H Q h => ?_
  exact tE_mono (cmp_red B σ H Q h) fun v H' h' => tE_mono h' fun w H2 h2 => r2_mono o v w H2 _ _ h2 fun _ _ z => z.2
theorem evT_ev {e : E} (h : match e with | .and _ _ => False | .or _ _ => False | .not _ => False | _ => True) (G : Py.Env) : evT C orc e G = (ev C orc e G).bind fun G1 x => .ofO G1 (truth x.1) := by
  cases e <;> first | exact h.elim | simp only [evT]
/-- a value's truth, as the test -/
theorem tT_of {e : E} (hn : match e with | .and _ _ => False | .or _ _ => False | .not _ => False | _ => True) {σ : St} {H : Hp} {Q : Bool → Hp → Prop} (h : tT k C orc e σ H Q) : tE k C orc e σ H fun v H' => ∃ b P d, RepX k P H' v d ∧ truth d = some b ∧ Q b H' := by
  obtain ⟨F, G, fp, G', b, E, h, q⟩ := h
  rw [evT_ev hn] at h
  obtain ⟨G1, x, h1, h⟩ := R.bind_inv h
  obtain ⟨h3, rfl⟩ := R.ofO_inv h
  exact ⟨F, G, fp, G1, x.1, x.2, E, h1, fun H1 fp1 v E1 T1 S1 R1 => ⟨b, _, x.1, R1, h3, q H1 fp1 E1 T1 S1⟩⟩
theorem st_cmp (B : XB k X) {o : CmpO} {op : CmpOp} (ho : cmpOf o = op) (hs : noSetE b = true) (ha : PE X a (tE k C orc ea)) (hb : PE X b (tE k C orc eb)) : PT X (.Compare a [op] [b] pos) (tT k C orc (.cmp o ea eb)) := by
  subst ho
  refine pt_imp (pt_cmpR (op_cmp B.K B.units o) ha hb (nomarkE hs _)) fun σ H Q h => ?_
  refine tE_mono (cmp_red B σ H _ (tT_of trivial h)) fun v H' h' => tE_mono h' fun w H2 h2 => r2_mono o v w H2 _ _ h2 fun u H3 z => ?_
  obtain ⟨⟨c, rfl⟩, b, P, d, r, ht, q⟩ := z
  cases r
  cases ht
  exact ⟨c, rfl, q⟩
theorem chain_red (B : XB k X) {o o' : CmpO} (σ : St) (H : Hp) (Q : VK) : tE k C orc (.chain o o' ea eb ec) σ H Q → tChain (rCmp k o) (rCmp k o') (tE k C orc ea) (tE k C orc eb) (tE k C orc ec) σ H fun v H' => (∃ c, v = .bl c) ∧ Q v H' := by
  intro ⟨F, G, fp, G', d, b, E, h, q⟩
  rw [ev] at h
  obtain ⟨G1, x, h1, h⟩ := R.bind_inv h
  obtain ⟨hb1, h⟩ := ite_bad h
  obtain ⟨G2, y, h2, h⟩ := R.bind_inv h
  refine ⟨F, G, fp, G1, x.1, x.2, E, h1, fun H1 fp1 v1 E1 T1 S1 R1 => ⟨F, G1, fp1, G2, y.1, y.2, E1, h2, fun H2 fp2 v2 E2 T2 S2 R2 => ?_⟩⟩
  have R1' := (R1.tr E1 T2 fun z => S2 (bor hb1 z)).or1 E2 (c := y.2)
  split at h
  · rename_i hc
    cases h
    refine ⟨_, x.1, y.1, .bl false, E2.pmB (x.2 || y.2), R1', R2.or2 E2, hc, fun v r => ?_⟩
    cases r
    refine ⟨false, rfl, ?_⟩
    simp only [Bool.false_eq_true, if_false]
    exact ⟨⟨_, rfl⟩, q H2 fp2 _ E2 (T1.trans T2) (fun m => by
      simp only [Py.E.mf, Bool.and_eq_true] at m
      exact same_trans (S1 m.1) (S2 m.2.1)) (RepX.bl _)⟩
  · rename_i hc
    obtain ⟨hb2, h⟩ := ite_bad h
    obtain ⟨G3, z, h5, h⟩ := R.bind_inv h
    obtain ⟨h3, rfl⟩ := R.ofO_inv h
    obtain ⟨d', h3, h4⟩ := Option.map_eq_some_iff.mp h3
    refine ⟨_, x.1, y.1, .bl true, E2.pmB (x.2 || y.2), R1', R2.or2 E2, hc, fun v r => ?_⟩
    cases r
    refine ⟨true, rfl, ?_⟩
    simp only [if_true]
    refine ⟨F, G2, fp2, G3, z.1, z.2, E2, h5, fun H3 fp3 v3 E3 T3 S3 R3 => ?_⟩
    have R2' := (R2.tr E2 T3 fun q => S3 (bor hb2 q)).or1 E3 (c := z.2)
    refine ⟨_, y.1, z.1, d', E3.pmB (y.2 || z.2), R2', R3.or2 E3, h3, fun v r => ?_⟩
    obtain ⟨c, rfl⟩ := cmp_bl h3
    have r0 := r.bl_inv
    have r := VRep.fl (b := y.2 || z.2) r
    rw [h4] at r
    exact ⟨⟨c, r0⟩, q H3 fp3 v E3 ((T1.trans T2).trans T3) (fun m => by
      simp only [Py.E.mf, Bool.and_eq_true] at m
      exact same_trans (same_trans (S1 m.1) (S2 m.2.1)) (S3 m.2.2)) r⟩
  · cases h
theorem tChain_mono {o o' : CmpO} {σ : St} {H : Hp} {Q Q' : VK} (h : tChain (rCmp k o) (rCmp k o') (tE k C orc ea) (tE k C orc eb) (tE k C orc ec) σ H Q) (i : ∀ v H', Q v H' → Q' v H') : tChain (rCmp k o) (rCmp k o') (tE k C orc ea) (tE k C orc eb) (tE k C orc ec) σ H Q' := by
  refine tE_mono h fun v H1 h1 => tE_mono h1 fun w H2 h2 => r2_mono o v w H2 _ _ h2 fun u H3 ⟨c, e, h3⟩ => ⟨c, e, ?_⟩
  cases c with
  | true => simp only [if_true] at h3 ⊢; exact tE_mono h3 fun x H4 h4 => r2_mono o' _ _ H4 _ _ h4 i
  | false => simp only [Bool.false_eq_true, if_false] at h3 ⊢; exact i _ _ h3
theorem se_chain (B : XB k X) {o o' : CmpO} {op op' : CmpOp} (ho : cmpOf o = op) (ho' : cmpOf o' = op') (hs : noSetE c = true) (ha : PE X a (tE k C orc ea)) (hb : PE X b (tE k C orc eb)) (hc : PE X c (tE k C orc ec)) : PE X (.Compare a [op, op'] [b, c] pos) (tE k C orc (.chain o o' ea eb ec)) := by
  subst ho ho'
  refine pe_imp (pe_chain (op_cmp B.K B.units o) (op_cmp B.K B.units o') ha hb hc (by show behindInMarks _ c = false; exact nomarkE hs _)) fun σ H Q h => ?_
  exact tChain_mono (chain_red B σ H Q h) fun _ _ z => z.2
theorem st_chain (B : XB k X) {o o' : CmpO} {op op' : CmpOp} (ho : cmpOf o = op) (ho' : cmpOf o' = op') (hs : noSetE c = true) (ha : PE X a (tE k C orc ea)) (hb : PE X b (tE k C orc eb)) (hc : PE X c (tE k C orc ec)) : PT X (.Compare a [op, op'] [b, c] pos) (tT k C orc (.chain o o' ea eb ec)) := by
  subst ho ho'
  refine pt_imp (pt_chain (op_cmp B.K B.units o) (op_cmp B.K B.units o') ha hb hc (by show behindInMarks _ c = false; exact nomarkE hs _)) fun σ H Q h => ?_
  refine tChain_mono (chain_red B σ H _ (tT_of trivial h)) fun u H3 z => ?_
  obtain ⟨⟨c, rfl⟩, b, P, d, r, ht, q⟩ := z
  cases r
  cases ht
  exact ⟨c, rfl, q⟩
/-- a test by the value's truth -/
def plainT : Expr → Bool
  | .UnaryOp .Not _ _ => false | .BoolOp _ _ _ => false | .IfExp _ _ _ _ => false | .Compare _ _ _ _ => false | _ => true
theorem isTrue_plainT {e : Expr} (h : plainT e = true) (env : PySem.Env) (wh : Sem Value) : isTrue e env wh = (do let v ← wh; standAt e.pos; holding [v] (truthy v)) := by
  cases e with
  | UnaryOp op _ _ => cases op <;> first | rfl | cases h
  | BoolOp _ _ _ => cases h
  | IfExp _ _ _ _ => cases h
  | Compare _ _ _ _ => cases h
  | _ => rfl
theorem st_truth (B : XB k X) (hp : plainT a = true) (hn : match ea with | .and _ _ => False | .or _ _ => False | .not _ => False | _ => True) (ha : PE X a (tE k C orc ea)) : PT X a (tT k C orc ea) := by
  refine pt_imp (pt_truth ha fun wh => isTrue_plainT hp _ wh) fun σ H Q h => tE_mono (tT_of hn h) fun v H' ⟨b, P, d, r, ht, q⟩ => ⟨b, tru_all B.K r ht, q⟩
/-! and, or, not -/
theorem and_redT {σ : St} {H : Hp} {Q : Bool → Hp → Prop} (h : tT k C orc (.and ea eb) σ H Q) : tAnd (tT k C orc ea) (tT k C orc eb) σ H Q := by
  obtain ⟨F, G, fp, G', b, E, h, q⟩ := h
  rw [evT] at h
  obtain ⟨G1, x, h1, h⟩ := R.bind_inv h
  refine ⟨F, G, fp, G1, x, E, h1, fun H1 fp1 E1 T1 S1 => ?_⟩
  cases x with
  | true =>
    simp only [if_true] at h ⊢
    exact ⟨F, G1, fp1, G', b, E1, h, fun H2 fp2 E2 T2 S2 => q H2 fp2 E2 (T1.trans T2) fun m => by
      simp only [Py.E.mf, Bool.and_eq_true] at m
      exact same_trans (S1 m.1) (S2 m.2)⟩
  | false =>
    simp only [Bool.false_eq_true, if_false] at h ⊢
    cases h
    exact q H1 fp1 E1 T1 fun m => by
      simp only [Py.E.mf, Bool.and_eq_true] at m
      exact S1 m.1
theorem or_redT {σ : St} {H : Hp} {Q : Bool → Hp → Prop} (h : tT k C orc (.or ea eb) σ H Q) : tOr (tT k C orc ea) (tT k C orc eb) σ H Q := by
  obtain ⟨F, G, fp, G', b, E, h, q⟩ := h
  rw [evT] at h
  obtain ⟨G1, x, h1, h⟩ := R.bind_inv h
  refine ⟨F, G, fp, G1, x, E, h1, fun H1 fp1 E1 T1 S1 => ?_⟩
  cases x with
  | false =>
    simp only [Bool.false_eq_true, if_false] at h ⊢
    exact ⟨F, G1, fp1, G', b, E1, h, fun H2 fp2 E2 T2 S2 => q H2 fp2 E2 (T1.trans T2) fun m => by
      simp only [Py.E.mf, Bool.and_eq_true] at m
      exact same_trans (S1 m.1) (S2 m.2)⟩
  | true =>
    simp only [if_true] at h ⊢
    cases h
    exact q H1 fp1 E1 T1 fun m => by
      simp only [Py.E.mf, Bool.and_eq_true] at m
      exact S1 m.1
theorem not_redT {σ : St} {H : Hp} {Q : Bool → Hp → Prop} (h : tT k C orc (.not ea) σ H Q) : tNot (tT k C orc ea) σ H Q := by
  obtain ⟨F, G, fp, G', b, E, h, q⟩ := h
  rw [evT] at h
  obtain ⟨G1, x, h1, h⟩ := R.bind_inv h
  cases h
  exact ⟨F, G, fp, _, x, E, h1, fun H1 fp1 E1 T1 S1 => q H1 fp1 E1 T1 fun m => by simp only [Py.E.mf] at m; exact S1 m⟩
variable {rest : List Expr}
theorem sw_and1 {op : BoolOp} (ha : PT X a (tT k C orc ea)) : PW X (.BoolOp op [a] pos) (tT k C orc ea) := by
  cases op
  · exact pw_and1 ha
  · exact pw_or1 ha
theorem sw_and (ha : PT X a (tT k C orc ea)) (hb : PW X (.BoolOp .And (b :: rest) pos) (tT k C orc eb)) : PW X (.BoolOp .And (a :: b :: rest) pos) (tT k C orc (.and ea eb)) := pw_imp (pw_and ha hb) fun _ _ _ h => and_redT h
theorem sw_or (ha : PT X a (tT k C orc ea)) (hb : PW X (.BoolOp .Or (b :: rest) pos) (tT k C orc eb)) : PW X (.BoolOp .Or (a :: b :: rest) pos) (tT k C orc (.or ea eb)) := pw_imp (pw_or ha hb) fun _ _ _ h => or_redT h
theorem st_not (ha : PT X a (tT k C orc ea)) : PT X (.UnaryOp .Not a pos) (tT k C orc (.not ea)) := pt_imp (pt_not ha) fun _ _ _ h => not_redT h
theorem se_and (B : XB k X) (ha : PE X a (tE k C orc ea)) (hb : PE X (.BoolOp .And (b :: rest) pos) (tE k C orc eb)) : PE X (.BoolOp .And (a :: b :: rest) pos) (tE k C orc (.and ea eb)) := by
  refine pe_imp (pe_andT ha hb) fun σ H Q ⟨F, G, fp, G', d, b, E, h, q⟩ => ?_
  rw [ev] at h
  obtain ⟨G1, x, h1, h⟩ := R.bind_inv h
  refine ⟨F, G, fp, G1, x.1, x.2, E, h1, fun H1 fp1 v1 E1 T1 S1 R1 => ?_⟩
  split at h
  · rename_i ht
    refine ⟨true, tru_all B.K R1 ht, ?_⟩
    simp only [if_true]
    exact ⟨F, G1, fp1, G', d, b, E1, h, fun H2 fp2 v2 E2 T2 S2 R2 => q H2 fp2 v2 E2 (T1.trans T2) (fun m => by
      simp only [Py.E.mf, Bool.and_eq_true] at m
      exact same_trans (S1 m.1) (S2 m.2)) R2⟩
  · rename_i ht
    refine ⟨false, tru_all B.K R1 ht, ?_⟩
    simp only [Bool.false_eq_true, if_false]
    cases h
    exact q H1 fp1 v1 E1 T1 (fun m => by
      simp only [Py.E.mf, Bool.and_eq_true] at m
      exact S1 m.1) R1
  · cases h
theorem se_or (B : XB k X) (ha : PE X a (tE k C orc ea)) (hb : PE X (.BoolOp .Or (b :: rest) pos) (tE k C orc eb)) : PE X (.BoolOp .Or (a :: b :: rest) pos) (tE k C orc (.or ea eb)) := by
  refine pe_imp (pe_orT ha hb) fun σ H Q ⟨F, G, fp, G', d, b, E, h, q⟩ => ?_
  rw [ev] at h
  obtain ⟨G1, x, h1, h⟩ := R.bind_inv h
  refine ⟨F, G, fp, G1, x.1, x.2, E, h1, fun H1 fp1 v1 E1 T1 S1 R1 => ?_⟩
  split at h
  · rename_i ht
    refine ⟨false, tru_all B.K R1 ht, ?_⟩
    simp only [Bool.false_eq_true, if_false]
    exact ⟨F, G1, fp1, G', d, b, E1, h, fun H2 fp2 v2 E2 T2 S2 R2 => q H2 fp2 v2 E2 (T1.trans T2) (fun m => by
      simp only [Py.E.mf, Bool.and_eq_true] at m
      exact same_trans (S1 m.1) (S2 m.2)) R2⟩
  · rename_i ht
    refine ⟨true, tru_all B.K R1 ht, ?_⟩
    simp only [if_true]
    cases h
    exact q H1 fp1 v1 E1 T1 (fun m => by
      simp only [Py.E.mf, Bool.and_eq_true] at m
      exact S1 m.1) R1
  · cases h
theorem tT_mono {e : E} {σ : St} {H : Hp} {Q Q' : Bool → Hp → Prop} (h : tT k C orc e σ H Q) (i : ∀ v H', Q v H' → Q' v H') : tT k C orc e σ H Q' := by
  obtain ⟨F, G, fp, G', b, E, h, q⟩ := h
  exact ⟨F, G, fp, G', b, E, h, fun H' fp' E' T S => i b H' (q H' fp' E' T S)⟩
theorem evT_val0 {e : E} {G G' : Py.Env} {t : Bool} (hn : match e with | .and _ _ => False | .or _ _ => False | .not _ => False | _ => True) (h : evT C orc e G = .ok G' t) : ∃ x, ev C orc e G = .ok G' x ∧ truth x.1 = some t := by
  rw [evT_ev hn] at h
  obtain ⟨G1, x, h1, h⟩ := R.bind_inv h
  obtain ⟨h3, rfl⟩ := R.ofO_inv h
  exact ⟨x, h1, h3⟩
/-- a test that comes to an end is the value's truth -/
theorem evT_val : ∀ (e : E) {G G' : Py.Env} {t : Bool}, evT C orc e G = .ok G' t → ∃ x, ev C orc e G = .ok G' x ∧ truth x.1 = some t
  | .and a b, G, G', t, h => by
    rw [evT] at h
    obtain ⟨G1, x, h1, h⟩ := R.bind_inv h
    obtain ⟨y, h2, h3⟩ := evT_val a h1
    rw [ev, h2, R.bind_ok, h3]
    cases x with
    | true => simp only [if_true] at h ⊢; exact evT_val b h
    | false => simp only [Bool.false_eq_true, if_false] at h ⊢; cases h; exact ⟨y, rfl, h3⟩
  | .or a b, G, G', t, h => by
    rw [evT] at h
    obtain ⟨G1, x, h1, h⟩ := R.bind_inv h
    obtain ⟨y, h2, h3⟩ := evT_val a h1
    rw [ev, h2, R.bind_ok, h3]
    cases x with
    | false => simp only [Bool.false_eq_true, if_false] at h ⊢; exact evT_val b h
    | true => simp only [if_true] at h ⊢; cases h; exact ⟨y, rfl, h3⟩
  | .not a, G, G', t, h => by
    rw [evT] at h
    obtain ⟨G1, x, h1, h⟩ := R.bind_inv h
    cases h
    rw [ev, h1, R.bind_ok]
    exact ⟨_, rfl, rfl⟩
  | .var _, G, G', t, h => evT_val0 trivial h
  | .pth _ _, G, G', t, h => evT_val0 trivial h
  | .con _, G, G', t, h => evT_val0 trivial h
  | .bin _ _ _, G, G', t, h => evT_val0 trivial h
  | .un _ _, G, G', t, h => evT_val0 trivial h
  | .cmp _ _ _, G, G', t, h => evT_val0 trivial h
  | .chain _ _ _ _ _, G, G', t, h => evT_val0 trivial h
  | .ife _ _ _, G, G', t, h => evT_val0 trivial h
  | .tup _, G, G', t, h => evT_val0 trivial h
  | .lst _, G, G', t, h => evT_val0 trivial h
  | .dic0, G, G', t, h => evT_val0 trivial h
  | .idx _ _, G, G', t, h => evT_val0 trivial h
  | .sli _ _ _, G, G', t, h => evT_val0 trivial h
  | .att _ _, G, G', t, h => evT_val0 trivial h
  | .call _ _ _, G, G', t, h => evT_val0 trivial h
  | .callO _ _ _, G, G', t, h => evT_val0 trivial h
  | .blt _ _, G, G', t, h => evT_val0 trivial h
  | .sets _, G, G', t, h => evT_val0 trivial h
  | .isi _ _, G, G', t, h => evT_val0 trivial h
  | .met _ _ _, G, G', t, h => evT_val0 trivial h
  | .mth _ _ _, G, G', t, h => evT_val0 trivial h
  | .mut _ _ _ _, G, G', t, h => evT_val0 trivial h
  | .new _ _, G, G', t, h => evT_val0 trivial h
  | .lc _ _ _ _ _, G, G', t, h => evT_val0 trivial h
  | .lc2 _ _ _ _ _ _ _ _, G, G', t, h => evT_val0 trivial h
/-- not as a value -/
theorem se_not (B : XB k X) (ha : PE X a (tE k C orc ea)) : PE X (.UnaryOp .Not a pos) (tE k C orc (.not ea)) := by
  refine pe_imp (pe_notT ha) fun σ H Q ⟨F, G, fp, G', d, b, E0, h, q⟩ => ?_
  rw [ev] at h
  obtain ⟨G1, x, h1, h⟩ := R.bind_inv h
  cases h
  obtain ⟨y, h2, h3⟩ := evT_val _ h1
  exact ⟨F, G, fp, _, y.1, y.2, E0, h2, fun H1 fp1 v1 E1 T1 S1 R1 => ⟨x, tru_all B.K R1 h3, q H1 fp1 _ E1 T1 (fun m => by simp only [Py.E.mf] at m; exact S1 m) (RepX.bl _)⟩⟩
theorem se_ife {c : Expr} (hc : PT X c (tT k C orc ec)) (ha : PE X a (tE k C orc ea)) (hb : PE X b (tE k C orc eb)) : PE X (.IfExp c a b pos) (tE k C orc (.ife ec ea eb)) := by
  refine pe_imp (pe_ifExp hc ha hb) fun σ H Q ⟨F, G, fp, G', d, b, E, h, q⟩ => ?_
  rw [ev] at h
  obtain ⟨G1, x, h1, h⟩ := R.bind_inv h
  refine ⟨F, G, fp, G1, x, E, h1, fun H1 fp1 E1 T1 S1 => ?_⟩
  cases x with
  | true =>
    simp only [if_true] at h ⊢
    exact ⟨F, G1, fp1, G', d, b, E1, h, fun H2 fp2 v2 E2 T2 S2 R2 => q H2 fp2 v2 E2 (T1.trans T2) (fun m => by
      simp only [Py.E.mf, Bool.and_eq_true] at m
      exact same_trans (S1 m.1) (S2 m.2.1)) R2⟩
  | false =>
    simp only [Bool.false_eq_true, if_false] at h ⊢
    exact ⟨F, G1, fp1, G', d, b, E1, h, fun H2 fp2 v2 E2 T2 S2 R2 => q H2 fp2 v2 E2 (T1.trans T2) (fun m => by
      simp only [Py.E.mf, Bool.and_eq_true] at m
      exact same_trans (S1 m.1) (S2 m.2.2)) R2⟩
end
end Py
end
section
set_option Elab.async false
set_option linter.all false
set_option maxRecDepth 100000
set_option maxHeartbeats 4000000
namespace Py
open PySem PySem.Spec PyProof.Rows L2
/-! ### lists of expressions -/
def noStar : Expr → Bool
  | .Starred _ _ => false
  | _ => true
theorem star_cons {e : Expr} (h : noStar e = true) (es : List Expr) (env : PySem.Env) : starEach (e :: es) env = (false, eval e env) :: starEach es env := by
  cases e <;> first | rfl | cases h
theorem star_any {es : List Expr} (h : es.all noStar = true) (env : PySem.Env) (pos : Pos) : (backTo pos (starEach es env)).any (·.1) = false := by
  induction es with
  | nil => rfl
  | cons e es ih =>
    rw [List.all_cons, Bool.and_eq_true] at h
    rw [star_cons h.1]
    exact ih h.2
section
variable {k : Ki} {C : Ctx} {orc : Orc} {X : Cx} {F : Addr → Prop} {σ : St} {H H' : Hp} {G : Py.Env} {fp fp' : Fp}
/-- a list of values, by a flag -/
def VReps (k : Ki) (F : Addr → Prop) (fp : Fp) (H : Hp) (vs : List V) (ds : List D) (b : Bool) : Prop := RepL k (if b = true then F else Own F fp) H vs ds
theorem VReps.weak (E : EnvOk k F σ H G fp) {vs : List V} {ds : List D} {b c : Bool} (h : VReps k F fp H vs ds b) (hb : b = true → c = true) : VReps k F fp H vs ds c := by
  cases b with
  | true => rw [hb rfl]; exact h
  | false =>
    cases c with
    | false => exact h
    | true => exact RepL.sub (P := Own F fp) (fun a q => .inl q) E.pm h
theorem VReps.tr (E : EnvOk k F σ H G fp) (t : Tr fp H fp' H') {vs : List V} {ds : List D} {b : Bool} (h : VReps k F fp H vs ds b) (hb : b = true → Same H H') : VReps k F fp' H' vs ds b := by
  cases b with
  | true => exact RepL.mono (P := F) (same_ext (hb rfl)) (E.pm.sub fun a q => .inl q) (fun a q => .inl q) h
  | false => exact t.repL E.pm h
theorem ses_nil : PA X [] (tEs k C orc []) := pa_imp pa_nil fun σ H Q ⟨F, G, fp, G', ds, b, E0, h, q⟩ => by
  rw [evs] at h
  cases h
  exact q H fp [] E0 (.refl _ _) (fun _ => ssame) .nil
theorem ses_cons {e : Expr} {es : List Expr} {ie : E} {ies : List E} (hs : noStar e = true) (he : PE X e (tE k C orc ie)) (hes : PA X es (tEs k C orc ies)) : PA X (e :: es) (tEs k C orc (ie :: ies)) := by
  refine pa_imp (pa_cons he hes (star_cons hs es _)) fun σ H Q ⟨F, G, fp, G', ds, b, E0, h, q⟩ => ?_
  rw [evs] at h
  obtain ⟨G1, x, h1, h⟩ := R.bind_inv h
  obtain ⟨hb1, h⟩ := ite_bad h
  obtain ⟨G2, r, h2, h⟩ := R.bind_inv h
  cases h
  refine ⟨F, G, fp, G1, x.1, x.2, E0, h1, fun H1 fp1 v1 E1 T1 S1 R1 => ⟨F, G1, fp1, _, r.1, r.2, E1, h2, fun H2 fp2 vs E2 T2 S2 R2 => ?_⟩⟩
  have R1' := (R1.tr E1 T2 fun z => S2 (bor hb1 z)).or1 E2 (c := r.2)
  have R2' : VReps k F fp2 H2 vs r.1 (x.2 || r.2) := VReps.weak E2 (show VReps k F fp2 H2 vs r.1 r.2 from R2) fun e => by rw [e, Bool.or_true]
  exact q H2 fp2 _ E2 (T1.trans T2) (fun m => by
    simp only [Py.E.mfL, Bool.and_eq_true] at m
    exact same_trans (S1 m.1) (S2 m.2)) (.cons R1' R2')
variable {es : List Expr} {ies : List E} {pos : Pos}
theorem evs_len : ∀ {ies : List E} {G G' : Py.Env} {ds : List D} {b : Bool}, evs C orc ies G = .ok G' (ds, b) → ds.length = ies.length
  | [], G, G', ds, b, h => by rw [evs] at h; cases h; rfl
  | ie :: ies, G, G', ds, b, h => by
    rw [evs] at h
    obtain ⟨G1, x, h1, h⟩ := R.bind_inv h
    obtain ⟨hb1, h⟩ := ite_bad h
    obtain ⟨G2, r, h2, h⟩ := R.bind_inv h
    cases h
    show (x.1 :: r.1).length = _
    rw [List.length_cons, List.length_cons, evs_len (ds := r.1) (b := r.2) h2]
theorem se_tup {j : Nat} (hl : ies.length ≤ 10000) (h : PA X es (tEs k C orc ies)) : PE X (.Tuple es j pos) (tE k C orc (.tup ies)) := by
  refine pe_imp (pe_tup h) fun σ H Q ⟨F, G, fp, G', d, b, E0, h, q⟩ => ?_
  rw [ev] at h
  obtain ⟨G1, r, h1, h⟩ := R.bind_inv h
  obtain ⟨hb1, h⟩ := ite_bad h
  cases h
  refine ⟨F, G, fp, _, r.1, r.2, E0, h1, fun H1 fp1 vs E1 T1 S1 R1 => ⟨?_, fun p hp => ?_⟩⟩
  · rw [R1.length, evs_len (ds := r.1) (b := r.2) h1, sizeLine_eq]; omega
  · rw [hb1] at R1
    have s : Same H1 (upd H1 p (.tup vs)) := same_new hp
    exact q _ fp1 _ (E1.same s) (T1.trans (same_tr s)) (fun m => by simp only [Py.E.mf] at m; exact same_trans (S1 m) s)
      (.tup (.inl (.inl upd_same)) (R1.mono (same_ext s) E1.pm fun a z => .inl z))
theorem se_lst (hl : ies.length ≤ 10000) (h : PA X es (tEs k C orc ies)) : PE X (.List es pos) (tE k C orc (.lst ies)) := by
  refine pe_imp (pe_lst h) fun σ H Q ⟨F, G, fp, G', d, b, E0, h, q⟩ => ?_
  rw [ev] at h
  obtain ⟨G1, r, h1, h⟩ := R.bind_inv h
  obtain ⟨hb1, h⟩ := ite_bad h
  cases h
  refine ⟨F, G, fp, _, r.1, r.2, E0, h1, fun H1 fp1 vs E1 T1 S1 R1 => ⟨?_, fun p hp => ?_⟩⟩
  · rw [R1.length, evs_len (ds := r.1) (b := r.2) h1, sizeLine_eq]; omega
  · rw [hb1] at R1
    have s : Same H1 (upd H1 p (.lst vs)) := same_new hp
    exact q _ fp1 _ (E1.same s) (T1.trans (same_tr s)) (fun m => by simp only [Py.E.mf] at m; exact same_trans (S1 m) s)
      (.lst ⟨upd_same, pm_free E1.pm hp⟩ (R1.mono (same_ext s) E1.pm fun a z => .inl z))
theorem se_dic0 : PE X (.Dict [] [] pos) (tE k C orc .dic0) := by
  refine pe_imp pe_dnewK fun σ H Q ⟨F, G, fp, G', d, b, E0, h, q⟩ => ?_
  rw [ev] at h
  cases h
  intro p hp
  have s : Same H (upd H p (.dK [])) := same_new hp
  exact q _ fp _ (E0.same s) (same_tr s) (fun m => s) (.dic upd_same (pm_free E0.pm hp) rfl .nil)

/-! ### subscripts and slices -/
def noSl : Expr → Bool
  | .Slice _ _ _ _ => false
  | _ => true
theorem plainIx {b : Expr} (h : noSl b = true) : PlainIx b := fun o i => by
  cases b <;> first | rfl | cases h
variable {a b c : Expr} {ea eb ec : E}
def notPth : E → Bool
  | .pth _ _ => false
  | _ => true
theorem ev_idx {ea : E} (hn : notPth ea = true) (G : Py.Env) : ev C orc (.idx ea eb) G = (ev C orc ea G).bind fun G1 x => if x.2 && !eb.mf then .bad else (ev C orc eb G1).bind fun G2 y => .ofO G2 ((index x.1 y.1).map fun d => fl d x.2) := by
  cases ea <;> first | (cases hn; done) | simp only [ev]
theorem se_idx (B : XB k X) (hn : notPth ea = true) (hb0 : noSl b = true) (ha : PE X a (tE k C orc ea)) (hb : PE X b (tE k C orc eb)) : PE X (.Subscript a b pos) (tE k C orc (.idx ea eb)) := by
  refine pe_imp (pe_ix (ix_all B.K B.units) ha hb (plainIx hb0)) fun σ H Q ⟨F, G, fp, G', d, bb, E0, h, q⟩ => ?_
  rw [ev_idx hn] at h
  obtain ⟨G1, x, h1, h⟩ := R.bind_inv h
  obtain ⟨hb1, h⟩ := ite_bad h
  obtain ⟨G2, y, h2, h⟩ := R.bind_inv h
  obtain ⟨h3, rfl⟩ := R.ofO_inv h
  obtain ⟨d', h3, h4⟩ := Option.map_eq_some_iff.mp h3
  refine ⟨F, G, fp, G1, x.1, x.2, E0, h1, fun H1 fp1 v1 E1 T1 S1 R1 => ⟨F, G1, fp1, G2, y.1, y.2, E1, h2, fun H2 fp2 v2 E2 T2 S2 R2 => ?_⟩⟩
  refine ⟨_, _, x.1, y.1, d', R1.tr E1 T2 fun z => S2 (bor hb1 z), R2, h3, fun v r => ?_⟩
  have r := VRep.fl (b := x.2) r
  rw [h4] at r
  exact q H2 fp2 v E2 (T1.trans T2) (fun m => by
    simp only [Py.E.mf, Bool.and_eq_true] at m
    exact same_trans (S1 m.1) (S2 m.2)) r
theorem so_none : PO X none (tO k C orc (.con .non)) := po_imp po_none fun σ H Q ⟨F, G, fp, G', o, E0, h, q⟩ => by
  rw [evI] at h
  cases h
  exact q H fp E0 (.refl _ _) fun _ => ssame
def notNonE : E → Bool
  | .con .non => false
  | _ => true
theorem evI_ev {e : E} (h : notNonE e = true) (G : Py.Env) : evI C orc e G = (ev C orc e G).bind fun G1 x => .ofO G1 (x.1.asInt.map some) := by
  cases e with
  | con d => cases d <;> first | (cases h; done) | simp only [evI]
  | _ => simp only [evI]
theorem so_some (hn : notNonE ea = true) (ha : PE X a (tE k C orc ea)) : PO X (some a) (tO k C orc ea) := po_imp (po_some ha) fun σ H Q ⟨F, G, fp, G', o, E0, h, q⟩ => by
  rw [evI_ev hn] at h
  obtain ⟨G1, x, h1, h⟩ := R.bind_inv h
  refine ⟨F, G, fp, G1, x.1, x.2, E0, h1, fun H1 fp1 v1 E1 T1 S1 R1 => ?_⟩
  obtain ⟨h3, rfl⟩ := R.ofO_inv h
  obtain ⟨i, h3, rfl⟩ := Option.map_eq_some_iff.mp h3
  obtain ⟨xd, xb⟩ := x
  cases xd with
  | int j =>
    cases h3
    cases (show RepX k _ H1 v1 (.int i) from R1)
    exact ⟨i, rfl, q H1 fp1 E1 T1 S1⟩
  | _ => cases h3
theorem se_sli (B : XB k X) {lo hi : Option Expr} {p2 : Pos} (ha : PE X a (tE k C orc ea)) (hl : PO X lo (tO k C orc eb)) (hh : PO X hi (tO k C orc ec)) : PE X (.Subscript a (.Slice lo hi none p2) pos) (tE k C orc (.sli ea eb ec)) := by
  refine pe_imp (pe_slice (sl_all B.K) ha hl hh) fun σ H Q ⟨F, G, fp, G', d, bb, E0, h, q⟩ => ?_
  rw [ev] at h
  obtain ⟨G1, x, h1, h⟩ := R.bind_inv h
  obtain ⟨hb1, h⟩ := ite_bad h
  obtain ⟨G2, l, h2, h⟩ := R.bind_inv h
  obtain ⟨G3, u, h5, h⟩ := R.bind_inv h
  obtain ⟨h3, rfl⟩ := R.ofO_inv h
  obtain ⟨d', h3, h4⟩ := Option.map_eq_some_iff.mp h3
  refine ⟨F, G, fp, G1, x.1, x.2, E0, h1, fun H1 fp1 v1 E1 T1 S1 R1 => ⟨F, G1, fp1, G2, l, E1, h2, fun H2 fp2 E2 T2 S2 => ⟨F, G2, fp2, G3, u, E2, h5, fun H3 fp3 E3 T3 S3 => ?_⟩⟩⟩
  have bm : x.2 = true → eb.mf = true ∧ ec.mf = true := fun z => by have := bor hb1 z; simpa using this
  have R3 := (R1.tr E1 T2 fun z => S2 (bm z).1).tr E2 T3 fun z => S3 (bm z).2
  refine ⟨_, x.1, d', E3.pmB x.2, R3, h3, fun H4 v s r => ?_⟩
  have r := VRep.fl (b := x.2) r
  rw [h4] at r
  exact q H4 fp3 v (E3.same s) (((T1.trans T2).trans T3).trans (same_tr s)) (fun m => by
    simp only [Py.E.mf, Bool.and_eq_true] at m
    exact same_trans (same_trans (same_trans (S1 m.1) (S2 m.2.1)) (S3 m.2.2)) s) r
end

/-! ### fields -/
/-- a field's name may be read off every instance -/
structure AttOk (k : Ki) (f : Nat) : Prop where
  cls : ∀ c, Cls k.K (k.ca c)
  no : ∀ c, NoAttr k.K (k.ca c) (k.fd f)
def attrOk : Expr → Bool
  | .Call (.Name _ _) [] [] _ => false
  | _ => true
theorem attBase {o : Expr} (h : attrOk o = true) (f : Str) (env : PySem.Env) (wh : Sem Value) : attributeBase o f env wh = wh := by
  cases o with
  | Call g as ks p =>
    cases g with
    | Name x p2 =>
      cases as with
      | nil => cases ks with
        | nil => cases h
        | cons _ _ => rfl
      | cons _ _ => rfl
    | _ => rfl
  | _ => rfl
section
variable {k : Ki} {C : Ctx} {orc : Orc} {X : Cx} {F : Addr → Prop} {P : Addr → Prop} {σ : St} {H H' : Hp} {G : Py.Env} {fp fp' : Fp}
theorem fld_rep {f : Nat} : ∀ {fs : List (Str × V)} {ids : List Nat} {ds : List D} {d : D}, fs.map (·.1) = ids.map k.fd → RepL k P H (fs.map (·.2)) ds → fldGet ids ds f = some d → ∃ v, fs.lookup (k.fd f) = some v ∧ RepX k P H v d
  | [], [], ds, d, _, _, h => by simp [fldGet] at h
  | [], _ :: _, ds, d, e, _, h => by simp at e
  | _ :: _, [], ds, d, e, _, h => by simp at e
  | p :: fs, i :: ids, [], d, e, r, h => by cases r
  | p :: fs, i :: ids, d0 :: ds, d, e, r, h => by
    simp only [List.map_cons, List.cons.injEq] at e
    cases r with
    | cons r1 r2 =>
      simp only [fldGet] at h
      by_cases z : i = f
      · rw [if_pos z] at h
        cases h
        refine ⟨p.2, ?_, r1⟩
        rw [show p = (p.1, p.2) from rfl, List.lookup_cons, e.1, z]
        simp
      · rw [if_neg z] at h
        obtain ⟨v, h1, h2⟩ := fld_rep e.2 r2 h
        refine ⟨v, ?_, h2⟩
        rw [show p = (p.1, p.2) from rfl, List.lookup_cons, e.1]
        rw [show (k.fd f == k.fd i) = false from beq_eq_false_iff_ne.mpr fun q => z (k.inj _ _ q).symm]
        exact h1
theorem fld_repM {f : Nat} : ∀ {fs : List (Str × V)} {ids : List Nat} {ms : List M} {m : M} {as : List Addr}, fs.map (·.1) = ids.map k.fd → RepMs k P H (fs.map (·.2)) ms as → fldGet ids ms f = some m → ∃ v as', fs.lookup (k.fd f) = some v ∧ RepM k P H v m as' ∧ ∀ a ∈ as', a ∈ as
  | [], [], ms, m, as, _, _, h => by simp [fldGet] at h
  | [], _ :: _, ms, m, as, e, _, h => by simp at e
  | _ :: _, [], ms, m, as, e, _, h => by simp at e
  | p :: fs, i :: ids, [], m, as, e, r, h => by cases r
  | p :: fs, i :: ids, m0 :: ms, m, as, e, r, h => by
    simp only [List.map_cons, List.cons.injEq] at e
    cases r with
    | cons r1 r2 =>
      simp only [fldGet] at h
      by_cases z : i = f
      · rw [if_pos z] at h
        cases h
        refine ⟨p.2, _, ?_, r1, fun a q => List.mem_append_left _ q⟩
        rw [show p = (p.1, p.2) from rfl, List.lookup_cons, e.1, z]
        simp
      · rw [if_neg z] at h
        obtain ⟨v, as', h1, h2, h3⟩ := fld_repM e.2 r2 h
        refine ⟨v, as', ?_, h2, fun a q => List.mem_append_right _ (h3 a q)⟩
        rw [show p = (p.1, p.2) from rfl, List.lookup_cons, e.1]
        rw [show (k.fd f == k.fd i) = false from beq_eq_false_iff_ne.mpr fun q => z (k.inj _ _ q).symm]
        exact h1
/-- a walk by fields, in the heap -/
inductive HPath (k : Ki) (H : Hp) : V → List Nat → V → Prop
  | nil {v : V} : HPath k H v [] v
  | cons {a dx : Addr} {c f : Nat} {fs : List (Str × V)} {w u : V} {gs : List Nat} : H a = some (.ins (k.ca c) dx fs) → fs.lookup (k.fd f) = some w → HPath k H w gs u → HPath k H (.ref a) (f :: gs) u
theorem HPath.det : ∀ {v : V} {gs : List Nat} {u u' : V}, HPath k H v gs u → HPath k H v gs u' → u = u'
  | _, _, _, _, .nil, .nil => rfl
  | _, _, _, _, .cons h1 l1 p1, .cons h2 l2 p2 => by
    rw [h1] at h2
    injection h2 with h2
    injection h2 with _ _ h2
    subst h2
    rw [l1] at l2
    cases l2
    exact p1.det p2
theorem HPath.same (s : Same H H') : ∀ {v : V} {gs : List Nat} {u : V}, HPath k H v gs u → HPath k H' v gs u
  | _, _, _, .nil => .nil
  | _, _, _, .cons h1 l1 p1 => .cons (s _ _ h1) l1 (p1.same s)
theorem HPath.snoc : ∀ {v : V} {gs : List Nat} {f : Nat} {u : V}, HPath k H v (gs ++ [f]) u → ∃ (a dx : Addr) (c : Nat) (fs : List (Str × V)), HPath k H v gs (.ref a) ∧ H a = some (.ins (k.ca c) dx fs) ∧ fs.lookup (k.fd f) = some u
  | _, [], _, _, .cons h1 l1 .nil => ⟨_, _, _, _, .nil, h1, l1⟩
  | _, _ :: _, _, _, .cons h1 l1 p1 => by
    obtain ⟨a, dx, c, fs, h2, h3, h4⟩ := p1.snoc
    exact ⟨a, dx, c, fs, .cons h1 l1 h2, h3, h4⟩
theorem path_rep : ∀ {gs : List Nat} {v : V} {d d' : D}, RepX k P H v d → d.path gs = some d' → ∃ u, HPath k H v gs u ∧ RepX k P H u d'
  | [], v, d, d', r, h => by cases h; exact ⟨v, .nil, r⟩
  | g :: gs, v, d, d', r, h => by
    simp only [D.path, Option.bind_eq_some_iff] at h
    obtain ⟨e, h1, h2⟩ := h
    cases r with
    | ins ht hn hk rl =>
      obtain ⟨w, l, rw'⟩ := fld_rep hk rl h1
      obtain ⟨u, hp, ru⟩ := path_rep rw' h2
      exact ⟨u, .cons ht l hp, ru⟩
    | _ => simp [D.fld] at h1
theorem path_repM : ∀ {gs : List Nat} {v : V} {m m' : M} {as : List Addr}, RepM k P H v m as → m.path gs = some m' → ∃ u as', HPath k H v gs u ∧ RepM k P H u m' as' ∧ ∀ a ∈ as', a ∈ as
  | [], v, m, m', as, r, h => by cases h; exact ⟨v, as, .nil, r, fun _ q => q⟩
  | g :: gs, v, m, m', as, r, h => by
    simp only [M.path, Option.bind_eq_some_iff] at h
    obtain ⟨e, h1, h2⟩ := h
    cases r with
    | ins ht hk rl =>
      obtain ⟨w, as1, l, rw', sub⟩ := fld_repM hk rl h1
      obtain ⟨u, as2, hp, ru, sub2⟩ := path_repM rw' h2
      exact ⟨u, as2, .cons ht l hp, ru, fun a q => List.mem_cons_of_mem _ (sub a (sub2 a q))⟩
    | leaf r0 =>
      simp only [M.fld, Option.map_eq_some_iff] at h1
      obtain ⟨d1, h1, rfl⟩ := h1
      cases r0 with
      | ins ht hn hk rl =>
        obtain ⟨w, l, rw'⟩ := fld_rep hk rl h1
        obtain ⟨u, as2, hp, ru, sub2⟩ := path_repM (.leaf rw') h2
        exact ⟨u, as2, .cons ht l hp, ru, fun a q => by have := sub2 a q; cases this⟩
      | _ => simp [D.fld] at h1
    | _ => simp [M.fld] at h1
theorem EnvOk.read (E0 : EnvOk k F σ H G fp) {i : Nat} {gs : List Nat} {m : M} (h : readM G i gs = some m) : ∃ v u as, σ[i]? = some (some v) ∧ HPath k H v gs u ∧ RepM k (Own F fp) H u m as ∧ ∀ a ∈ as, a ∈ fp i := by
  unfold readM at h
  obtain ⟨s, h1, h2⟩ := Option.bind_eq_some_iff.mp h
  cases s with
  | dead => cases h2
  | sh d =>
    obtain ⟨v, e, r⟩ := E0.sh h1
    obtain ⟨d', h3, rfl⟩ := Option.map_eq_some_iff.mp (show (d.path gs).map M.leaf = some m from h2)
    obtain ⟨u, hp, ru⟩ := path_rep r h3
    exact ⟨v, u, [], e, hp, .leaf ru, fun _ q => by cases q⟩
  | ow m0 =>
    obtain ⟨v, e, r⟩ := E0.ow h1
    obtain ⟨u, as, hp, ru, sub⟩ := path_repM r h2
    exact ⟨v, u, as, e, hp, ru, sub⟩
/-- the reading of a place -/
def tP (k : Ki) (i : Nat) (gs : List Nat) : TE := fun σ H Q => ∃ v u, σ[i]? = some (some v) ∧ HPath k H v gs u ∧ Q u H
theorem sp_name {i : Nat} {x : Str} {pos : Pos} (hN : X.N[i]? = some x) (hv : Vis X.env.scope x) (hd : (x == ("__debug__" : Str)) = false) (hcd : (x == ("__classdict__" : Str)) = false) : PE X (.Name x pos) (tP k i []) := by
  refine pe_imp (pe_var hN hv hd hcd) fun σ H Q ⟨v, u, e, p, q⟩ => ?_
  cases p
  exact ⟨v, e, q⟩
theorem sp_att (B : XB k X) {i : Nat} {gs : List Nat} {f : Nat} {o : Expr} {x : Str} {pos : Pos} (A : AttOk k f) (hx : k.fd f = x) (ho : attrOk o = true) (hp : PE X o (tP k i gs)) : PE X (.Attribute o x pos) (tP k i (gs ++ [f])) := by
  subst hx
  refine pe_imp (pe_fld hp (attBase ho _ _ _)) fun σ H Q ⟨v, u, e, p, q⟩ => ?_
  obtain ⟨a, dx, c, fs, h1, h2, h3⟩ := p.snoc
  exact ⟨v, .ref a, e, h1, a, _, dx, fs, u, rfl, h2, by rw [B.K]; exact A.cls c, by rw [B.K]; exact A.no c, h3, q⟩
theorem val_rep (E0 : EnvOk k F σ H G fp) {i : Nat} {v : V} {m : M} {as : List Addr} (r : RepM k (Own F fp) H v m as) (hs : ∀ a ∈ as, a ∈ fp i) : VRep k F fp H v m.val.1 m.val.2 := by
  have fzr : RepX k F H v m.fz := r.fz E0.pm (fun a q => .inl q) fun a q => E0.df i a (hs a q)
  cases r with
  | leaf r => exact r
  | lst h1 h2 => exact fzr
  | dic h1 h2 h3 => exact fzr
  | ins h1 h2 h3 => exact fzr
theorem se_pth {i : Nat} {gs : List Nat} {o : Expr} (ho : PE X o (tP k i gs)) : PE X o (tE k C orc (.pth i gs)) := by
  refine pe_imp ho fun σ H Q ⟨F, G, fp, G', d, b, E0, h, q⟩ => ?_
  rw [ev] at h
  obtain ⟨h1, rfl⟩ := R.ofO_inv h
  unfold readPl at h1
  obtain ⟨m, h1, h2⟩ := Option.map_eq_some_iff.mp h1
  obtain ⟨v, u, as, e, hp, r, sub⟩ := E0.read h1
  have := val_rep E0 r sub
  rw [h2] at this
  exact ⟨v, u, e, hp, q H fp u E0 (.refl _ _) (fun _ => ssame) this⟩
theorem se_att (B : XB k X) {f : Nat} {o : Expr} {x : Str} {pos : Pos} {eo : E} (A : AttOk k f) (hx : k.fd f = x) (ho : attrOk o = true) (hp : PE X o (tE k C orc eo)) : PE X (.Attribute o x pos) (tE k C orc (.att eo f)) := by
  subst hx
  refine pe_imp (pe_fld hp (attBase ho _ _ _)) fun σ H Q ⟨F, G, fp, G', d, b, E0, h, q⟩ => ?_
  rw [ev] at h
  obtain ⟨G1, x, h1, h⟩ := R.bind_inv h
  obtain ⟨h3, rfl⟩ := R.ofO_inv h
  obtain ⟨d', h3, h4⟩ := Option.map_eq_some_iff.mp h3
  refine ⟨F, G, fp, G1, x.1, x.2, E0, h1, fun H1 fp1 v1 E1 T1 S1 R1 => ?_⟩
  obtain ⟨xd, xb⟩ := x
  simp only at h3 h4 R1 h1
  cases xd with
  | ins c ids vs =>
    cases (show RepX k (if xb = true then F else Own F fp1) H1 v1 (.ins c ids vs) from R1) with
    | ins ht hn hk rl =>
      obtain ⟨w, l, rw'⟩ := fld_rep hk rl (show fldGet ids vs f = some d' from h3)
      have r := VRep.fl (b := xb) rw'
      rw [h4] at r
      exact ⟨_, _, _, _, w, rfl, ht, by rw [B.K]; exact A.cls c, by rw [B.K]; exact A.no c, l, q H1 fp1 w E1 T1 (fun m => by simp only [Py.E.mf] at m; exact S1 m) r⟩
  | _ => cases h3
/-! a subscript of a place -/
theorem mget_val {x : D} {key : Key} (hx : keyV x = some key) : ∀ {ks : List D} {ms : List M} {kvs : List (Key × V)} {as : List Addr} {m : M}, ks.map keyV = kvs.map (fun p => some p.1) → RepMs k P H (kvs.map (·.2)) ms as → mIndex.mget ks ms x = some m → ∃ v as', valV kvs key = some v ∧ RepM k P H v m as' ∧ ∀ a ∈ as', a ∈ as
  | [], ms, kvs, as, m, _, _, h => by cases ms <;> simp [mIndex.mget] at h
  | c :: ks, [], kvs, as, m, _, _, h => by simp [mIndex.mget] at h
  | c :: ks, m0 :: ms, [], as, m, e, _, h => by simp at e
  | c :: ks, m0 :: ms, p :: kvs, as, m, e, r, h => by
    simp only [List.map_cons, List.cons.injEq] at e
    cases r with
    | cons r1 r2 =>
      simp only [mIndex.mget] at h
      rw [keyEq_iff e.1 hx] at h
      by_cases z : p.1 = key
      · rw [if_pos (decide_eq_true z)] at h
        cases h
        exact ⟨p.2, _, valV_pos z, r1, fun a q => List.mem_append_left _ q⟩
      · rw [if_neg (by simpa using z)] at h
        obtain ⟨v, as', h1, h2, h3⟩ := mget_val hx e.2 r2 h
        exact ⟨v, as', by rw [valV_neg z]; exact h1, h2, fun a q => List.mem_append_right _ (h3 a q)⟩
theorem RepMs.getM : ∀ {vs : List V} {ms : List M} {as : List Addr} {j : Nat} {m : M}, RepMs k P H vs ms as → ms[j]? = some m → ∃ v as', vs[j]? = some v ∧ RepM k P H v m as' ∧ ∀ a ∈ as', a ∈ as
  | _, _, _, _, _, .nil, e => by simp at e
  | _, _, _, 0, _, .cons h _, e => by simp at e; subst e; exact ⟨_, _, rfl, h, fun a q => List.mem_append_left _ q⟩
  | _, _, _, j + 1, m, .cons _ r, e => by
    obtain ⟨v, as', h1, h2, h3⟩ := r.getM (j := j) (m := m) (by simpa using e)
    exact ⟨v, as', by simpa using h1, h2, fun a q => List.mem_append_right _ (h3 a q)⟩
theorem RepMs.length : ∀ {vs : List V} {ms : List M} {as : List Addr}, RepMs k P H vs ms as → vs.length = ms.length
  | _, _, _, .nil => rfl
  | _, _, _, .cons _ r => congrArg Nat.succ r.length
def rIdM (k : Ki) : R2 := fun x y H Q => ∃ P P2 m d2 m' as, RepM k P H x m as ∧ RepX k P2 H y d2 ∧ mIndex m d2 = some m' ∧ ∀ v as', RepM k P H v m' as' → (∀ a ∈ as', a ∈ as) → Q v H
theorem ix_place (hK : X.K = k.K) (hu : X.A.units + 100 < cLine) : IxR X (rIdM k) := by
  intro value slice pins s σ H x y v u Q I rx ry ⟨P, P2, m, d2, m', as, h1, h2, hm, q⟩ hs
  cases h1 with
  | leaf r =>
    simp only [mIndex, Option.map_eq_some_iff] at hm
    obtain ⟨d, hd, rfl⟩ := hm
    exact ix_all hK hu value slice pins s σ H x y v u Q I rx ry ⟨P, P2, _, d2, d, r, h2, hd, fun v r => q v [] (.leaf r) fun a z => by cases z⟩ hs
  | lst ht r =>
    cases h2 with
    | int i =>
      obtain ⟨j, e1, e2⟩ := Option.bind_eq_some_iff.mp (show (Py.ixN _ i).bind _ = some m' from hm)
      obtain ⟨w, as', e3, r1, sub⟩ := r.getM e2
      refine ix_list value slice pins s σ H _ _ v u Q I rx ry ⟨_, _, i, w, rfl, rfl, .inl (.inl ht), ?_, q w as' r1 fun a z => List.mem_cons_of_mem _ (sub a z)⟩ hs
      unfold L2.atI
      rw [r.length, ← ixN_eq, e1]
      exact e3
    | _ => cases hm
  | dic ht hk r =>
    simp only [mIndex] at hm
    split at hm
    · rename_i z
      obtain ⟨key, ke⟩ := isKey_key z
      cases key_rel ke h2
      obtain ⟨w, as', e1, r1, sub⟩ := mget_val ke hk r hm
      exact ix_dict (by omega) value slice pins s σ H _ _ v u Q I rx ry ⟨_, w, rfl, by rw [← e1]; exact DGet.k ht, q w as' r1 fun a z => List.mem_cons_of_mem _ (sub a z)⟩ hs
    · cases hm
  | ins ht hk r => cases hm
theorem se_idxP (B : XB k X) {i : Nat} {gs : List Nat} {o b : Expr} {eb : E} {pos : Pos} (hb0 : noSl b = true) (ho : PE X o (tP k i gs)) (hb : PE X b (tE k C orc eb)) : PE X (.Subscript o b pos) (tE k C orc (.idx (.pth i gs) eb)) := by
  refine pe_imp (pe_ix (ix_place B.K B.units) ho hb (plainIx hb0)) fun σ H Q ⟨F, G, fp, G', d, bb, E0, h, q⟩ => ?_
  rw [ev] at h
  obtain ⟨hc, h⟩ := ite_ok h
  rw [Bool.and_eq_true] at hc
  obtain ⟨m0, hm0⟩ := Option.isSome_iff_exists.mp hc.2
  obtain ⟨v0, u0, as0, e0, hp0, r0, sub0⟩ := E0.read hm0
  obtain ⟨G1, y, h1, h⟩ := R.bind_inv h
  refine ⟨v0, u0, e0, hp0, F, G, fp, G1, y.1, y.2, E0, h1, fun H1 fp1 v1 E1 T1 S1 R1 => ?_⟩
  split at h
  · rename_i m hm
    have hG : G1 = G' := by injection h
    have hv : m.val = (d, bb) := by injection h
    subst hG
    obtain ⟨m1, h2, h3⟩ := Option.bind_eq_some_iff.mp hm
    obtain ⟨v2, u2, as2, e2, hp2, r2, sub2⟩ := E1.read h2
    have ev : v2 = v0 := by rw [e0] at e2; cases e2; rfl
    subst ev
    have eu : u2 = u0 := hp2.det (hp0.same (S1 hc.1))
    subst eu
    exact ⟨_, _, m1, y.1, m, as2, r2, R1, h3, fun v as' r sub => q H1 fp1 v E1 T1 (fun mm => S1 hc.1) (by have := val_rep E1 r fun a z => sub2 a (sub a z); rw [hv] at this; exact this)⟩
  · cases h
end
end Py
end
section
set_option Elab.async false
set_option linter.all false
set_option maxRecDepth 100000
set_option maxHeartbeats 4000000
namespace Py
open PySem PySem.Spec PyProof.Rows L2 C8
/-! ### calls -/
/-- a new list or dict, that nothing else holds -/
structure Fr (k : Ki) (F : Addr → Prop) (σ : St) (fp0 : Fp) (H0 : Hp) (G : Py.Env) (fp : Fp) (H : Hp) (v : V) (m : M) : Prop where
  ex : ∃ a, v = .ref a ∧ EnvOk k (fun x => F x ∨ x = a) σ H G fp ∧ RepM k (Own (fun x => F x ∨ x = a) fp) H v m [a] ∧ ((∃ j, a ∈ fp0 j) ∨ H0 a = none)
/-- what a def promises, by its oracle -/
def spF (k : Ki) (C : Ctx) (orc : Orc) (f np : Nat) : Sp := fun vs H Q _ => vs.length = np ∧ ∃ F as os d fp, orc f as = .ok os d ∧ EnvOk k F (vs.map some) H as fp ∧
  ∀ H' fp' v, EnvOk k F (vs.map some) H' os fp' → Tr fp H fp' H' → RepX k (Own F fp') H' v d → (C.fr f = true → ∃ m, own1 d = some m ∧ Fr k F (vs.map some) fp H os fp' H' v m) → Q v H'
section
variable {k : Ki} {C : Ctx} {orc : Orc} {X : Cx} {F : Addr → Prop} {σ : St} {H H' : Hp} {G : Py.Env} {fp fp' : Fp}
def fp0 : Fp := fun _ => []
theorem own0 {F : Addr → Prop} : ∀ a, Own F fp0 a → F a := fun a q => by
  rcases q with q | ⟨_, q⟩
  · exact q
  · cases q
theorem env_args {P : Addr → Prop} {vs : List V} {ds : List D} (pm : Pm P H) (r : RepL k P H vs ds) : EnvOk k P (vs.map some) H (ds.map .sh) fp0 where
  len := by rw [List.length_map, List.length_map, r.length]
  slot := fun i => by
    rw [List.getElem?_map, List.getElem?_map]
    cases e : ds[i]? with
    | none => exact rfl
    | some d =>
      obtain ⟨v, e1, r1⟩ := r.get e
      rw [e1]
      exact ⟨⟨v, rfl, r1.sub own0 pm⟩, rfl⟩
  nd := fun _ => List.nodup_nil
  dj := fun i j a h => by cases h
  df := fun i a h => by cases h
  pm := pm.sub own0
theorem tr0_same {fp' : Fp} (t : Tr fp0 H fp' H') : Same H H' := fun a o h => t.keep a o h fun i q => by cases q
theorem RepL.pick {P : Addr → Prop} {vs : List V} {ds : List D} (r : RepL k P H vs ds) : ∀ pm : List Nat, (∀ i ∈ pm, i < ds.length) → RepL k P H (pm.map fun i => vs.getD i .non) (pm.map fun i => ds.getD i .non)
  | [], _ => .nil
  | i :: pm, h => by
    have hl := h i List.mem_cons_self
    have hi : ds[i]? = some ds[i] := List.getElem?_eq_getElem hl
    obtain ⟨v, e1, r1⟩ := r.get hi
    refine .cons ?_ (r.pick pm fun j q => h j (List.mem_cons_of_mem _ q))
    show RepX k P H (vs.getD i .non) (ds.getD i .non)
    rw [List.getD_eq_getElem?_getD, List.getD_eq_getElem?_getD, e1, hi]
    exact r1
/-- a pure call: nothing that stood is changed -/
theorem pure_call {b : Bool} {f np : Nat} {vs : List V} {ds : List D} {os : List Slot} {d : D} {Q : VK} {E : XK} (E1 : EnvOk k F σ H G fp) (R1 : RepL k (if b = true then F else Own F fp) H vs ds) (hl : ds.length = np) (ho : orc f (ds.map .sh) = .ok os d)
    (q : ∀ H' v, Same H H' → VRep k F fp H' v d b → Q v H') : spF k C orc f np vs H Q E := by
  refine ⟨by rw [R1.length]; exact hl, _, _, os, d, fp0, ho, env_args (E1.pmB b) R1, fun H' fp' v E' T R _ => ?_⟩
  exact q H' v (tr0_same T) (RepX.sub (P := Own (if b = true then F else Own F fp) fp') (fun a z => .inl z) E'.pm R)
/-- a new object is nobody's -/
theorem EnvOk.fresh (E1 : EnvOk k F σ H G fp) (s : Same H H') {a : Addr} (hn : H a = none) (hm : Mut (H' a)) : EnvOk k (fun x => F x ∨ x = a) σ H' G fp := by
  have sub : ∀ x, Own (fun x => F x ∨ x = a) fp x → Own F fp x ∨ H x = none := fun x q => by
    rcases q with (q | q) | q
    · exact .inl (.inl q)
    · rw [q]; exact .inr hn
    · exact .inl (.inr q)
  refine ⟨E1.len, fun i => ?_, E1.nd, E1.dj, fun i x h z => ?_, fun x q => ?_⟩
  · have hs := E1.slot i
    cases hg : G[i]? with
    | none => rw [hg] at hs; exact hs
    | some sl =>
      rw [hg] at hs
      cases sl with
      | dead => exact hs
      | sh d => obtain ⟨⟨x, e, r⟩, z⟩ := hs; exact ⟨⟨x, e, r.mono (same_ext s) E1.pm sub⟩, z⟩
      | ow m =>
        obtain ⟨x, e, r⟩ := hs
        refine ⟨x, e, r.mono (same_ext s) E1.pm sub fun b h => ?_⟩
        obtain ⟨o, ho⟩ := r.there b h
        rw [ho, s b o ho]
  · rcases z with z | z
    · exact E1.df i x h z
    · rw [z] at h; exact pm_free E1.pm hn (.inr ⟨i, h⟩)
  · by_cases e : x = a
    · rw [e]; exact hm
    · rcases sub x q with z | z
      · have := E1.pm x z
        cases e : H x with
        | none => rw [e] at this; exact this.elim
        | some o => rw [s x o e]; rw [e] at this; exact this
      · rcases q with (q | q) | ⟨i, q⟩
        · have := E1.pm x (.inl q); rw [z] at this; exact this.elim
        · exact absurd q e
        · have := E1.pm x (.inr ⟨i, q⟩); rw [z] at this; exact this.elim
/-- a pure call that gives a new object -/
theorem pure_callF {f np : Nat} {vs : List V} {ds : List D} {os : List Slot} {d : D} {Q : VK} {E : XK} (E1 : EnvOk k F σ H G fp) (R1 : RepL k (Own F fp) H vs ds) (hl : ds.length = np) (ho : orc f (ds.map .sh) = .ok os d) (hf : C.fr f = true)
    (q : ∀ H' v m, Same H H' → RepX k (Own F fp) H' v d → own1 d = some m → Fr k F σ fp H G fp H' v m → Q v H') : spF k C orc f np vs H Q E := by
  refine ⟨by rw [R1.length]; exact hl, _, _, os, d, fp0, ho, env_args E1.pm R1, fun H' fp' v E' T R fr => ?_⟩
  obtain ⟨m, hm, a, ev, Ea, rm, ha⟩ := fr hf
  have hn : H a = none := by
    rcases ha with ⟨j, z⟩ | z
    · cases z
    · exact z
  have s := tr0_same T
  have mt : Mut (H' a) := rm.mut a (List.mem_singleton.mpr rfl)
  refine q H' v m s (RepX.sub (P := Own (Own F fp) fp') (fun a z => .inl z) E'.pm R) hm ⟨a, ev, E1.fresh s hn mt, ?_, .inr hn⟩
  refine rm.mono Ext.refl Ea.pm (fun x z => .inl ?_) fun _ _ => rfl
  rcases z with (z | z) | z
  · exact .inl (.inl (.inl z))
  · exact .inl (.inr z)
  · exact .inl (.inl (.inr z))
def pmOk (pm : List Nat) (n : Nat) : Bool := pm.all fun i => decide (i < n)
theorem call_red {f : Nat} {ies : List E} {pm : List Nat} (hp : pmOk pm ies.length = true) {σ : St} {H : Hp} {Q : VK} (h : tE k C orc (.call f ies pm) σ H Q) :
    tEs k C orc ies σ H fun vs H1 => vs.length = ies.length ∧ spF k C orc f pm.length (pm.map fun i => vs.getD i .non) H1 Q C8.E0 := by
  obtain ⟨F, G, fp, G', d, b, E1, h, q⟩ := h
  rw [ev] at h
  obtain ⟨G1, r, h1, h⟩ := R.bind_inv h
  refine ⟨F, G, fp, G1, r.1, r.2, E1, h1, fun H1 fp1 vs E1 T1 S1 R1 => ⟨by rw [R1.length]; exact evs_len (ds := r.1) (b := r.2) h1, ?_⟩⟩
  split at h
  · rename_i os d' ho
    have hG : G1 = G' := by injection h
    have hd : fl d' r.2 = (d, b) := by injection h
    subst hG
    have ln : r.1.length = ies.length := evs_len (ds := r.1) (b := r.2) h1
    refine pure_call (b := r.2) E1 (R1.pick pm fun i hi => ?_) (by rw [List.length_map]) (by rw [List.map_map]; exact ho) fun H' v s r' => ?_
    · rw [ln]; exact of_decide_eq_true (List.all_eq_true.mp hp i hi)
    · have := r'.fl
      rw [hd] at this
      exact q H' fp1 v (E1.same s) (T1.trans (same_tr s)) (fun m => by simp only [Py.E.mf] at m; exact same_trans (S1 m) s) this
  · cases h
theorem range_pick {α : Type} (x : α) (vs : List α) : (List.range vs.length).map (fun i => vs.getD i x) = vs := by
  apply List.ext_getElem?
  intro i
  rw [List.getElem?_map]
  by_cases h : i < vs.length
  · rw [List.getElem?_eq_getElem (by simpa using h), List.getElem_range, List.getElem?_eq_getElem h]
    simp [List.getD_eq_getElem?_getD, h]
  · rw [List.getElem?_eq_none (by simpa using h), List.getElem?_eq_none (by simpa using h)]
    rfl
variable {x : Str} {p pos apos : Pos} {e : Expr} {es : List Expr} {ies : List E} {j jj : Nat}
/-- f(e, ..) -/
theorem se_call {f : Nat} {pm : List Nat} (c : Cal X.prog X.w X.K X.mg X.base jj x (spF k C orc f pm.length) []) (hr : Room j X.A) (hk : jj ≤ j) (hg : Gl X x) (hdb : (x == ("__debug__" : Str)) = false) (hs : (e :: es).all noStar = true)
    (hp : pm = List.range ies.length) (ha : PA X (e :: es) (tEs k C orc ies)) : PE X (.Call (.Name x p) (e :: es) [] pos) (tE k C orc (.call f ies pm)) := by
  rw [List.all_cons, Bool.and_eq_true] at hs
  refine pe_imp (pe_c c hr hk hg ha hdb (star_cons hs.1 _ _) (star_any hs.2 _ _)) fun σ H Q h => ?_
  have h := call_red (by rw [hp]; exact List.all_eq_true.mpr fun i hi => decide_eq_true (List.mem_range.mp hi)) h
  obtain ⟨F, G, fp, G', ds, b, E0, h, q⟩ := h
  refine ⟨F, G, fp, G', ds, b, E0, h, fun H' fp' vs E' T S R => ?_⟩
  obtain ⟨hl, q⟩ := q H' fp' vs E' T S R
  rw [hp, ← hl, range_pick] at q
  rw [List.append_nil, hp, ← hl]
  exact q
theorem se_call0 {f : Nat} (c : Cal X.prog X.w X.K X.mg X.base jj x (spF k C orc f 0) []) (hr : Room j X.A) (hk : jj ≤ j) (hg : Gl X x) (hdb : (x == ("__debug__" : Str)) = false) : PE X (.Call (.Name x p) [] [] pos) (tE k C orc (.call f [] [])) := by
  obtain ⟨fa, fd, ps, ds, Fo, hm, kp, b, d⟩ := c.ex
  refine pe_imp (pe_call0 (E := C8.E0) Fo (hr.mono hk) hg hm kp b d C8.pass0 hdb) fun σ H Q h => ?_
  obtain ⟨F, G, fp, G', ds, b, E0, h, q⟩ := call_red rfl h
  rw [evs] at h
  cases h
  exact (q H fp [] E0 (.refl _ _) (fun _ => ssame) .nil).2
/-- f(k = v, ..), all by name -/
structure CalK (P : Program) (w : World) (K : PySem.W.Frag) (mg : Str → Option Value) (base : Heap) (j : Nat) (x : Str) (sp : Sp) (ks : List Str) (pm : List Nat) : Prop where
  ex : ∃ (f : Addr) (fd : FuncData) (ps : List Str) (g : List Value → List Value → List Value), FnOk P w K mg base C8.CX0 j f fd ps sp ∧ mg x = some (.ref f) ∧ PySem.W.keepIn K (.ref f) = true ∧ KBn K fd ps 0 ks g (fun _ zs => pm.map fun i => zs.getD i .non)
def allKw (kws : List Keyword) : Bool := kws.all fun q => q.arg.isSome
def kwNames (kws : List Keyword) : List Str := kws.filterMap (·.arg)
theorem kw_all : ∀ {kws : List Keyword}, allKw kws = true → ∀ (env : PySem.Env) (pos : Pos), (backToKw pos (keywordEach kws env)).all (·.1.isSome) = true ∧ (backToKw pos (keywordEach kws env)).filterMap (·.1) = kwNames kws ∧ (backToKw pos (keywordEach kws env)).any (·.1.isNone) = false
  | [], _, _, _ => ⟨rfl, rfl, rfl⟩
  | ⟨nm, v, q⟩ :: kws, h, env, pos => by
    unfold allKw at h
    rw [List.all_cons, Bool.and_eq_true] at h
    obtain ⟨h1, h2, h3⟩ := kw_all (kws := kws) h.2 env pos
    cases nm with
    | none => exact absurd h.1 (by simp)
    | some n =>
      refine ⟨h1, ?_, h3⟩
      show n :: (backToKw pos (keywordEach kws env)).filterMap (·.1) = n :: kwNames kws
      rw [h2]
theorem sks_nil : PK X [] (tEs k C orc []) := ⟨fun pos pins s σ H Q I q => pk_nil.run pos pins s σ H Q I (by
  obtain ⟨F, G, fp, G', ds, b, E0, h, q⟩ := q
  rw [evs] at h
  cases h
  exact q H fp [] E0 (.refl _ _) (fun _ => ssame) .nil)⟩
theorem sks_cons {nm : Option Str} {kp : Pos} {kws : List Keyword} {ie : E} (he : PE X e (tE k C orc ie)) (hes : PK X kws (tEs k C orc ies)) : PK X (⟨nm, e, kp⟩ :: kws) (tEs k C orc (ie :: ies)) := by
  refine ⟨fun pos pins s σ H Q I q => (pk_cons he hes).run pos pins s σ H Q I ?_⟩
  obtain ⟨F, G, fp, G', ds, b, E0, h, q⟩ := q
  rw [evs] at h
  obtain ⟨G1, x, h1, h⟩ := R.bind_inv h
  obtain ⟨hb1, h⟩ := ite_bad h
  obtain ⟨G2, r, h2, h⟩ := R.bind_inv h
  cases h
  refine ⟨F, G, fp, G1, x.1, x.2, E0, h1, fun H1 fp1 v1 E1 T1 S1 R1 => ⟨F, G1, fp1, _, r.1, r.2, E1, h2, fun H2 fp2 vs E2 T2 S2 R2 => ?_⟩⟩
  have R1' := (R1.tr E1 T2 fun z => S2 (bor hb1 z)).or1 E2 (c := r.2)
  have R2' : VReps k F fp2 H2 vs r.1 (x.2 || r.2) := VReps.weak E2 (show VReps k F fp2 H2 vs r.1 r.2 from R2) fun e => by rw [e, Bool.or_true]
  exact q H2 fp2 _ E2 (T1.trans T2) (fun m => by
    simp only [Py.E.mfL, Bool.and_eq_true] at m
    exact same_trans (S1 m.1) (S2 m.2)) (.cons R1' R2')
theorem se_callK {f : Nat} {pm : List Nat} {kws : List Keyword} (c : CalK X.prog X.w X.K X.mg X.base jj x (spF k C orc f pm.length) (kwNames kws) pm) (hr : Room j X.A) (hk : jj ≤ j) (hg : Gl X x) (hdb : (x == ("__debug__" : Str)) = false) (hs : allKw kws = true)
    (hp : pmOk pm ies.length = true) (hn : (kwNames kws).length = ies.length) (ha : PK X kws (tEs k C orc ies)) : PE X (.Call (.Name x p) [] kws pos) (tE k C orc (.call f ies pm)) := by
  obtain ⟨fa, fd, ps, g, Fo, hm, kp, b⟩ := c.ex
  obtain ⟨k1, k2, k3⟩ := kw_all hs X.env pos
  refine ⟨fun pins s σ H Q I h => ?_⟩
  have h := call_red hp h
  refine wpAny_Call_Name_kw (ld_glob I hg hm ?_ hdb)
  refine PySem.W.callWith_KW0 (h₀ := X.base) I.ok.mod.kin kp k1 (thn (ha.run pos pins s σ H _ I h) fun ws s2 ⟨zs, H2, I2, rz, hl, q2⟩ => ⟨I2.kIn, ?_⟩) (by rw [k3] <;> rfl)
  rw [k2]
  exact run_fnN (vs := []) Fo (hr.mono hk) b C8.pass0 I2 .nil rz rfl (by rw [hl, hn]) q2
def fpOne (y : Addr) : Fp := fun i => if i = 0 then [y] else []
theorem mem_fpOne {y a : Addr} {i : Nat} (h : a ∈ fpOne y i) : i = 0 ∧ a = y := by
  unfold fpOne at h
  split at h
  · exact ⟨by assumption, List.mem_singleton.mp h⟩
  · cases h
/-- C(e, ..) -/
theorem new_red {c f : Nat} (hc : C.init c = some f) {σ : St} {H : Hp} {Q : VK} (h : tE k C orc (.new c ies) σ H Q) :
    tEs k C orc ies σ H fun vs H1 => ∀ x dx, H1 x = none → H1 dx = none → dx ≠ x → spF k C orc f (ies.length + 1) (.ref x :: vs) (upd (upd H1 dx (.own x)) x (.ins (k.ca c) dx [])) (fun v H2 => v = .non ∧ Q (.ref x) H2) C8.E0 := by
  obtain ⟨F, G, fp, G', d, b, E1, h, q⟩ := h
  rw [ev] at h
  obtain ⟨G1, r, h1, h⟩ := R.bind_inv h
  obtain ⟨hb1, h⟩ := ite_bad h
  rw [hc] at h
  refine ⟨F, G, fp, G1, r.1, r.2, E1, h1, fun H1 fp1 vs E1 T1 S1 R1 y dy hy hdy ne => ?_⟩
  rw [hb1] at R1
  have ln : r.1.length = ies.length := evs_len (ds := r.1) (b := r.2) h1
  have s1 : Same H1 (upd (upd H1 dy (.own y)) y (.ins (k.ca c) dy [])) := same_trans (same_new hdy) (same_new (by rw [upd_ne (Ne.symm ne)]; exact hy))
  simp only at h
  split at h
  · rename_i os m tl ho
    have hG : G1 = G' := by injection h
    have hd : (m.fz, false) = (d, b) := by injection h
    subst hG
    cases hd
    refine ⟨by rw [List.length_cons, R1.length, ln], Own F fp1, _, _, _, fpOne y, ho, ?_, fun H' fp' v E' T R _ => ?_⟩
    · have Ea := env_args E1.pm R1
      have ny : ¬ Own F fp1 y := pm_free E1.pm hy
      have sub : ∀ a, Own (Own F fp1) (fpOne y) a → Own F fp1 a ∨ a = y := fun a q => by
        rcases q with q | ⟨i, q⟩
        · exact .inl q
        · exact .inr (mem_fpOne q).2
      constructor
      · rw [List.length_map, List.length_cons, List.length_cons, List.length_map, R1.length]
      · intro i
        cases i with
        | zero => exact ⟨.ref y, rfl, .ins upd_same rfl .nil⟩
        | succ i =>
          show SlotOk k _ _ ((vs.map some)[i]?) _ ((r.1.map Slot.sh)[i]?)
          rw [List.getElem?_map, List.getElem?_map]
          cases e : r.1[i]? with
          | none => exact rfl
          | some d =>
            obtain ⟨v, e1, r1⟩ := R1.get e
            rw [e1]
            exact ⟨⟨v, rfl, r1.mono (same_ext s1) E1.pm fun a z => (sub a z).imp id fun z => by rw [z]; exact hy⟩, rfl⟩
      · intro i; unfold fpOne; split
        · simp
        · simp
      · intro i j' a h1 h2
        rw [(mem_fpOne h1).1, (mem_fpOne h2).1]
      · intro i a h1
        rw [(mem_fpOne h1).2]; exact ny
      · intro a z
        rcases sub a z with z | z
        · have := E1.pm a z
          cases e : H1 a with
          | none => rw [e] at this; exact this.elim
          | some o => rw [s1 a o e]; rw [e] at this; exact this
        · rw [z, upd_same]; trivial
    · cases R
      refine ⟨rfl, ?_⟩
      have s2 : Same H1 H' := fun a o ha => T.keep a o (s1 a o ha) fun i z => by
        rw [(mem_fpOne z).2, hy] at ha; cases ha
      obtain ⟨v0, e0, r0⟩ := E'.ow (i := 0) (m := m) rfl
      have ev0 : v0 = .ref y := by
        have e0 : some (some (V.ref y)) = some (some v0) := e0
        cases e0; rfl
      subst ev0
      have r := r0.fz E'.pm (P' := Own F fp1) (fun a z => .inl z) fun a z => E'.df 0 a z
      exact q H' fp1 _ (E1.same s2) (T1.trans (same_tr s2)) (fun mm => by simp only [Py.E.mf] at mm; exact same_trans (S1 mm) s2) r
  · cases h
theorem se_new {c f : Nat} (hc : C.init c = some f) (cc : Mak X.prog X.w X.K X.mg X.base jj x (k.ca c) (spF k C orc f (ies.length + 1)) []) (hr : Room j X.A) (hk : jj + 1 ≤ j) (hg : Gl X x) (hdb : (x == ("__debug__" : Str)) = false) (hs : (e :: es).all noStar = true)
    (ha : PA X (e :: es) (tEs k C orc ies)) : PE X (.Call (.Name x p) (e :: es) [] pos) (tE k C orc (.new c ies)) := by
  rw [List.all_cons, Bool.and_eq_true] at hs
  refine pe_imp (pe_mk cc hr hk hg ha hdb (star_cons hs.1 _ _) (star_any hs.2 _ _)) fun σ H Q h => ?_
  have h := new_red hc h
  obtain ⟨F, G, fp, G', ds, b, E0, h, q⟩ := h
  refine ⟨F, G, fp, G', ds, b, E0, h, fun H' fp' vs E' T S R y dy h1 h2 h3 => ?_⟩
  rw [List.append_nil]
  exact q H' fp' vs E' T S R y dy h1 h2 h3
/-- o.m(e, ..) -/
theorem pe_ex {ι : Sort _} {e : Expr} {t : ι → TE} (h : ∀ i, PE X e (t i)) : PE X e (fun σ H Q => ∃ i, t i σ H Q) := ⟨fun pins s σ H Q I ⟨i, q⟩ => (h i).run pins s σ H Q I q⟩
theorem lookup_none {f : Str} : ∀ {fs : List (Str × V)} {ids : List Nat}, fs.map (·.1) = ids.map k.fd → (∀ i, k.fd i ≠ f) → fs.lookup f = none
  | [], _, _, _ => rfl
  | p :: fs, [], e, _ => by simp at e
  | p :: fs, i :: ids, e, h => by
    simp only [List.map_cons, List.cons.injEq] at e
    rw [show p = (p.1, p.2) from rfl, List.lookup_cons, e.1]
    rw [show (f == k.fd i) = false from beq_eq_false_iff_ne.mpr fun q => h i q.symm]
    exact lookup_none e.2 h
theorem mth_red {m : Nat} {mn : Str} {eo : E} (hm : ∀ i, k.fd i ≠ mn) {σ : St} {H : Hp} {Q : VK} (h : tE k C orc (.mth eo m ies) σ H Q) :
    ∃ q : Nat × Nat, C.mth q.1 m = some q.2 ∧ tMeth (k.ca q.1) mn (spF k C orc q.2 (ies.length + 1)) [] C8.E0 (tE k C orc eo) (tEs k C orc ies) σ H Q := by
  obtain ⟨F, G, fp, G', d, b, E1, h, q⟩ := h
  rw [ev] at h
  obtain ⟨G1, x, h1, h⟩ := R.bind_inv h
  obtain ⟨hb1, h⟩ := ite_bad h
  obtain ⟨G2, r, h2, h⟩ := R.bind_inv h
  have ln : r.1.length = ies.length := evs_len (ds := r.1) (b := r.2) h2
  split at h
  · rename_i c ids vs hx
    split at h
    · rename_i f hf
      refine ⟨(c, f), hf, F, G, fp, G1, x.1, x.2, E1, h1, fun H1 fp1 v1 E1 T1 S1 R1 => ?_⟩
      rw [hx] at R1
      have R1c := R1
      cases (show RepX k (if x.2 = true then F else Own F fp1) H1 v1 (.ins c ids vs) from R1) with
      | @ins a dx _ fs _ _ ht hn hk rl =>
        refine ⟨a, dx, fs, rfl, ht, lookup_none hk hm, F, G1, fp1, G2, r.1, r.2, E1, h2, fun H2 fp2 vs2 E2 T2 S2 R2 => ?_⟩
        split at h
        · rename_i os d' ho
          have hG : G2 = G' := by injection h
          have hd : fl d' (x.2 || r.2) = (d, b) := by injection h
          subst hG
          have R1' := (VRep.tr E1 T2 (show VRep k F fp1 H1 (.ref a) _ x.2 from R1c) fun z => S2 (bor hb1 z)).or1 E2 (c := r.2)
          have R2' : VReps k F fp2 H2 vs2 r.1 (x.2 || r.2) := VReps.weak E2 (show VReps k F fp2 H2 vs2 r.1 r.2 from R2) fun e => by rw [e, Bool.or_true]
          rw [List.append_nil]
          refine pure_call (b := x.2 || r.2) (ds := .ins c ids vs :: r.1) E2 (.cons R1' R2') (by rw [List.length_cons, ln]) ho fun H' v s r' => ?_
          have := r'.fl
          rw [hd] at this
          exact q H' fp2 v (E2.same s) ((T1.trans T2).trans (same_tr s)) (fun m => by
            simp only [Py.E.mf, Bool.and_eq_true] at m
            exact same_trans (same_trans (S1 m.1) (S2 m.2)) s) this
        · cases h
    · cases h
  · cases h
end
end Py
end
section
set_option Elab.async false
set_option linter.all false
set_option maxRecDepth 100000
set_option maxHeartbeats 4000000
namespace Py
open PySem PySem.Spec PyProof.Rows L2 C8
section
variable {k : Ki} {C : Ctx} {orc : Orc} {X : Cx} {F : Addr → Prop} {σ : St} {H H' : Hp} {G : Py.Env} {fp fp' : Fp}
variable {x : Str} {p pos apos : Pos} {e o : Expr} {es : List Expr} {ies : List E} {j jj : Nat} {ea eb eo : E}
theorem star_all : ∀ {es : List Expr}, es.all noStar = true → ∀ (env : PySem.Env) (pos : Pos), (backTo pos (starEach es env)).all (fun x => !x.1) = true
  | [], _, _, _ => rfl
  | e :: es, h, env, pos => by
    rw [List.all_cons, Bool.and_eq_true] at h
    rw [star_cons h.1]
    exact star_all (es := es) h.2 env pos
theorem form_ok {env : PySem.Env} (hs : es.all noStar = true) (hl : es.length < 29) : methodCallForm (es.length + ([] : List Keyword).length) (backTo pos (starEach es env)) (backToKw pos (keywordEach [] env)) = true := by
  unfold methodCallForm
  rw [star_all hs]
  show (true && true && decide (es.length + 0 + 0 < 30)) = true
  simp; omega
theorem mth_eq {m : Str} {env : PySem.Env} (ho : attrOk o = true) (hs : es.all noStar = true) (hl : es.length < 29) (hline : (apos.endLine == pos.line) = true) :
    eval (.Call (.Attribute o m apos) es [] pos) env = (do
      let ov ← eval o env
      standAt apos.atName
      let (f, first) ← holding [ov] (getMethod ov m (do return (← importBound o env).getD true))
      callWith pos f first (backTo pos (starEach es env)) (backToKw pos (keywordEach [] env))) := by
  rw [arm_eval_Call, attBase ho]
  unfold methodCall calleeOf methodCallPos
  rw [form_ok hs hl]
  simp only [if_true, hline, Bool.not_true, Bool.or_true]
  rfl
/-- o.m(e, ..), o.m() -/
theorem se_mth {m : Nat} {mn : Str} (cs : ∀ c f, C.mth c m = some f → Met X.prog X.w X.K X.mg X.base jj (k.ca c) mn (spF k C orc f (ies.length + 1)) []) (hm : ∀ i, k.fd i ≠ mn) (hr : Room j X.A) (hk : jj ≤ j)
    (ho : attrOk o = true) (hs : es.all noStar = true) (hl : es.length < 29) (hn : es.length = ies.length) (hline : (apos.endLine == pos.line) = true) (hoo : PE X o (tE k C orc eo)) (ha : PA X es (tEs k C orc ies)) : PE X (.Call (.Attribute o mn apos) es [] pos) (tE k C orc (.mth eo m ies)) := by
  refine pe_imp (t := fun σ H Q => ∃ q : { q : Nat × Nat // C.mth q.1 m = some q.2 }, tMeth (k.ca q.1.1) mn (spF k C orc q.1.2 (ies.length + 1)) [] C8.E0 (tE k C orc eo) (tEs k C orc ies) σ H Q) (pe_ex fun q => ?_) fun σ H Q h => ?_
  · cases es with
    | cons e es =>
      have hs' := hs
      rw [List.all_cons, Bool.and_eq_true] at hs'
      exact pe_mt (cs _ _ q.2) hr hk hoo ha (star_cons hs'.1 _ _) (star_any hs'.2 _ _) (mth_eq ho hs hl hline)
    | nil =>
      refine pe_imp (pe_mt0 (cs _ _ q.2) hr hk hoo (mth_eq ho hs hl hline)) fun σ H Q h => ?_
      refine tE_mono h fun v H' ⟨a, dx, fs, e1, e2, e3, h⟩ => ⟨a, dx, fs, e1, e2, e3, ?_⟩
      obtain ⟨F, G, fp, G', ds, b, E1, h, q⟩ := h
      cases ies with
      | nil =>
        rw [evs] at h
        cases h
        exact q H' fp [] E1 (.refl _ _) (fun _ => ssame) .nil
      | cons _ _ => simp at hn
  · obtain ⟨q, h1, h2⟩ := mth_red hm h
    exact ⟨⟨q, h1⟩, h2⟩

/-! ### built-in functions -/
/-- len of an instance, by its own __len__ -/
structure LenOk (k : Ki) (C : Ctx) (orc : Orc) (P : Program) (w : World) (K : PySem.W.Frag) (mg : Str → Option Value) (base : Heap) (j c f : Nat) : Prop where
  ex : ∃ (fa : Addr) (fd : FuncData) (ps : List Str), PySem.W.findIn K (.ref (k.ca c)) "__len__" = some (some (.ref fa)) ∧ PySem.W.isFn K (.ref fa) = true ∧ FnOk P w K mg base C8.CX0 j fa fd ps (spF k C orc f 1) ∧ Binds K fd ps []
theorem len_ins {c f : Nat} (L : LenOk k C orc X.prog X.w X.K X.mg X.base jj c f) (hr : Room (jj + 1) X.A) : CallR X (.builtin "len") (fun vs H Q => ∃ a dx fs, vs = [.ref a] ∧ H a = some (.ins (k.ca c) dx fs) ∧ spF k C orc f 1 [.ref a] H (fun v H' => ∃ n : Int, v = .int n ∧ 0 ≤ n ∧ n < 2 ^ 62 ∧ Q (.int n) H') C8.E0) := by
  intro pins s σ H vs us Q I r z
  obtain ⟨a, dx, fs, rfl, ha, sp⟩ := z
  obtain ⟨fa, fd, ps, h1, h2, Fo, hb⟩ := L.ex
  rw [Vals.ref1 r]
  obtain ⟨mA, O, _⟩ := ins_get I.hok ha
  obtain ⟨od, J, _⟩ := O.look
  obtain ⟨m, Fr⟩ := I.fr
  refine PySem.W.len_K Fr I.ok.mod.kin J h1 h2 ?_
  have hl : ([Value.ref a] ++ []).length = ps.length := by
    have := Fo.len _ _ _ _ sp
    simpa using this
  refine wpAny_call (codeAny_mono (Fo.run X.A.in1 X.stack s H ⟨[.ref a], []⟩ [.ref a] [.ref a] _ C8.E0 hr.in1 I.env0.in1 (by have := hb s [.ref a] I.kIn hl; rwa [List.append_nil] at this) (.cons rfl .nil) sp) fun r s' hq => ?_)
  cases r with
  | error e => exact hq.elim
  | ok fl =>
    cases fl with
    | ret u =>
      obtain ⟨v, H', I', rv, n, rfl, n0, n1, q⟩ := I.after hq
      obtain ⟨t, rfl⟩ := rv
      exact ⟨⟨n0, by omega⟩, ⟨.int n, H', I'.tok _, ⟨_, rfl⟩, q⟩⟩
    | next => exact hq.elim
    | brk => exact hq.elim
    | cont => exact hq.elim
def bName : Bi → Str
  | .len => "len" | .sum => "sum" | .max => "max" | .min => "min" | .abs => "abs" | .int => "int" | .bool => "bool" | .tuple => "tuple" | .list => "list" | .set => "set"
  | .sorted => "sorted" | .all => "all" | .any => "any"
theorem boot_bi : ∀ b : Bi, bootBuiltins (bName b) = some (bVal b) ∧ bName b ≠ "__name__" ∧ (bName b == ("__debug__" : Str)) = false := by
  intro b
  cases b <;> exact ⟨by decide +kernel, by decide +kernel, by decide +kernel⟩
/-- f(e, ..), f a built-in function or type -/
theorem pe_bi {b : Bi} {r : List V → Hp → VK → Prop} {t : TA} (hc : CallR X (bVal b) r) (hg : Gl X (bName b)) (hm : X.mg (bName b) = none) (hs : (e :: es).all noStar = true) (ha : PA X (e :: es) t) : PE X (.Call (.Name (bName b) p) (e :: es) [] pos) (tCB r t) := by
  rw [List.all_cons, Bool.and_eq_true] at hs
  obtain ⟨h1, h2, h3⟩ := boot_bi b
  cases b <;> first
    | exact pe_callB hc hg hm h1 ha h2 h3 (star_cons hs.1 _ _) (star_any hs.2 _ _)
    | exact pe_callTy hc hg hm h1 ha h2 h3 (star_cons hs.1 _ _) (star_any hs.2 _ _)
theorem se_blt (B : XB k X) {b : Bi} (L : ∀ c f, C.lenOf c = some f → LenOk k C orc X.prog X.w X.K X.mg X.base jj c f) (hr : Room j X.A) (hk : jj + 1 ≤ j) (hg : Gl X (bName b)) (hm : X.mg (bName b) = none) (hx : bName b = x) (hs : (e :: es).all noStar = true)
    (ha : PA X (e :: es) (tEs k C orc ies)) : PE X (.Call (.Name x p) (e :: es) [] pos) (tE k C orc (.blt b ies)) := by
  subst hx
  have all : PE X (.Call (.Name (bName b) p) (e :: es) [] pos) (fun σ H Q => tCB (rBlt k b) (tEs k C orc ies) σ H Q ∨ ∃ q : { q : Nat × Nat // C.lenOf q.1 = some q.2 ∧ b = .len }, tCB (fun vs H Q => ∃ a dx fs, vs = [.ref a] ∧ H a = some (.ins (k.ca q.1.1) dx fs) ∧ spF k C orc q.1.2 1 [.ref a] H (fun v H' => ∃ n : Int, v = .int n ∧ 0 ≤ n ∧ n < 2 ^ 62 ∧ Q (.int n) H') C8.E0) (tEs k C orc ies) σ H Q) :=
    pe_or2 (pe_bi (cr_blt B.K B.calm B.P B.w b) hg hm hs ha) (pe_ex fun q => by
      obtain ⟨⟨c, f⟩, h1, rfl⟩ := q
      exact pe_bi (len_ins (L c f h1) (hr.mono hk)) hg hm hs ha)
  refine pe_imp all fun σ H Q ⟨F, G, fp, G', d, bb, E1, h, q⟩ => ?_
  rw [ev] at h
  obtain ⟨G1, r, h1, h⟩ := R.bind_inv h
  obtain ⟨h3, rfl⟩ := R.ofO_inv h
  unfold bltC at h3
  by_cases hi : notIns b r.1 = true
  · left
    rw [if_pos hi] at h3
    obtain ⟨d', h3, h4⟩ := Option.map_eq_some_iff.mp h3
    refine ⟨F, G, fp, G1, r.1, r.2, E1, h1, fun H1 fp1 vs E1 T1 S1 R1 => ⟨_, r.1, d', E1.pmB r.2, R1, h3, fun H2 v s r' => ?_⟩⟩
    have r' := VRep.fl (b := r.2) r'
    rw [h4] at r'
    exact q H2 fp1 v (E1.same s) (T1.trans (same_tr s)) (fun m => by simp only [Py.E.mf] at m; exact same_trans (S1 m) s) r'
  · right
    rw [if_neg hi] at h3
    obtain ⟨d', h9, h4⟩ := Option.map_eq_some_iff.mp h3
    clear h3
    cases h4
    have h3 := h9
    clear h9
    unfold lenI at h3
    split at h3
    · rename_i c ids vs hr1
      have hb : b = .len := by
        cases b <;> first | rfl | exact absurd rfl hi
      subst hb
      obtain ⟨f, hf, h9⟩ := Option.bind_eq_some_iff.mp h3
      clear h3
      have h3 := h9
      clear h9
      refine ⟨⟨(c, f), hf, rfl⟩, F, G, fp, G1, r.1, r.2, E1, h1, fun H1 fp1 ws E1 T1 S1 R1 => ?_⟩
      split at h3
      · rename_i os n ho
        split at h3
        · rename_i hc
          simp only [Bool.and_eq_true, decide_eq_true_eq] at hc
          cases h3
          rw [hr1] at R1
          obtain ⟨v, rfl, rv⟩ := repL1 R1
          have rv0 := rv
          cases rv with
          | ins ht hn hkk rl =>
            refine ⟨_, _, _, rfl, ht, ?_⟩
            refine pure_call (b := r.2) (ds := [.ins c ids vs]) E1 R1 rfl ho fun H' v s r' => ?_
            cases (show RepX k _ H' v (.int n) from r')
            exact ⟨n, rfl, hc.1, (ltp_int hc.2).2, q H' fp1 _ (E1.same s) (T1.trans (same_tr s)) (fun m => by simp only [Py.E.mf] at m; exact same_trans (S1 m) s) (RepX.int n)⟩
        · cases h3
      · cases h3
    · cases h3
theorem boot_set : bootBuiltins ("set" : Str) = some (.type "set") ∧ ("set" : Str) ≠ "__name__" ∧ (("set" : Str) == ("__debug__" : Str)) = false := ⟨by decide +kernel, by decide +kernel, by decide +kernel⟩
theorem one_red {e : Expr} (hs : noStar e = true) (he : PE X e (tE k C orc ea)) : PA X [e] (tCons (tE k C orc ea) tNil) := pa_cons he pa_nil (star_cons hs _ _)
theorem se_sets (B : XB k X) (hg : Gl X "set") (hm : X.mg "set" = none) (hs : noStar e = true) (he : PE X e (tE k C orc ea)) : PE X (.Call (.Name "set" p) [e] [] pos) (tE k C orc (.sets ea)) := by
  refine pe_imp (pe_callTy (set_of B.K B.calm B.P B.w B.units) hg hm boot_set.1 (one_red hs he) boot_set.2.1 boot_set.2.2 (star_cons hs _ _) rfl) fun σ H Q ⟨F, G, fp, G', d, bb, E1, h, q⟩ => ?_
  rw [ev] at h
  obtain ⟨G1, y, h1, h⟩ := R.bind_inv h
  refine ⟨F, G, fp, G1, y.1, y.2, E1, h1, fun H1 fp1 v E1 T1 S1 R1 => ?_⟩
  split at h
  · rename_i xs hy
    split at h
    · rename_i rs hrs
      obtain ⟨hc, h⟩ := ite_ok h
      have hG : G1 = G' := by injection h
      have hd : (D.set ((firstMet rs).map rowD), false) = (d, bb) := by injection h
      subst hG
      cases hd
      rw [hy] at R1
      exact ⟨_, Own F fp1, xs, rs, E1.pmB y.2, E1.pm, .cons R1 .nil, hrs, of_decide_eq_true hc, fun H2 w s r => q H2 fp1 w (E1.same s) (T1.trans (same_tr s)) (fun m => by simp only [Py.E.mf] at m; exact same_trans (S1 m) s) r⟩
    · cases h
  · cases h

/-! ### isinstance -/
def tyName : Ty → Str
  | .int => "int" | .bool => "bool" | .tuple => "tuple" | .list => "list" | .str => "str" | .dict => "dict" | _ => ""
theorem boot_ty : ∀ t : Ty, t.std = true → bootBuiltins (tyName t) = some (.type t.nm) ∧ tyName t ≠ "__name__" ∧ (tyName t == ("__debug__" : Str)) = false := by
  intro t h
  cases t <;> first | (cases h; done) | exact ⟨by decide +kernel, by decide +kernel, by decide +kernel⟩
theorem boot_isi : bootBuiltins ("isinstance" : Str) = some (.builtin "isinstance") ∧ ("isinstance" : Str) ≠ "__name__" ∧ (("isinstance" : Str) == ("__debug__" : Str)) = false := ⟨by decide +kernel, by decide +kernel, by decide +kernel⟩
theorem pe_ty {t : Ty} (ht : t.std = true) (hg : Gl X (tyName t)) (hm : X.mg (tyName t) = none) : PE X (.Name (tyName t) p) (tC (.ty t.nm)) := by
  obtain ⟨h1, h2, h3⟩ := boot_ty t ht
  exact pe_bltn hg hm h1 rfl h2 h3
theorem isi_red {tys : List Ty} {σ : St} {H : Hp} {Q : VK} (h : tE k C orc (.isi ea tys) σ H Q) : tE k C orc ea σ H fun v H1 => ∃ P d, Pm P H1 ∧ RepX k P H1 v d ∧ d.tyOk = true ∧ ∀ H2, Same H1 H2 → Q (.bl (tys.any d.hasTy)) H2 := by
  obtain ⟨F, G, fp, G', d, bb, E1, h, q⟩ := h
  rw [ev] at h
  obtain ⟨G1, y, h1, h⟩ := R.bind_inv h
  obtain ⟨hc, h⟩ := ite_ok h
  cases h
  exact ⟨F, G, fp, _, y.1, y.2, E1, h1, fun H1 fp1 v E1 T1 S1 R1 => ⟨_, y.1, E1.pmB y.2, R1, hc, fun H2 s => q H2 fp1 _ (E1.same s) (T1.trans (same_tr s)) (fun m => by simp only [Py.E.mf] at m; exact same_trans (S1 m) s) (RepX.bl _)⟩⟩
theorem se_isi1 (B : XB k X) {t : Ty} {p2 : Pos} (ht : t.std = true) (hgt : Gl X (tyName t)) (hmt : X.mg (tyName t) = none) (hg : Gl X "isinstance") (hm : X.mg "isinstance" = none) (hs : noStar e = true) (he : PE X e (tE k C orc ea)) :
    PE X (.Call (.Name "isinstance" p) [e, .Name (tyName t) p2] [] pos) (tE k C orc (.isi ea [t])) := by
  refine pe_imp (pe_callB (isi_one B.K) hg hm boot_isi.1 (pa_cons he (pa_cons (pe_ty ht hgt hmt) pa_nil rfl) (star_cons hs _ _)) boot_isi.2.1 boot_isi.2.2 (star_cons hs _ _) rfl) fun σ H Q h => ?_
  refine tE_mono (isi_red h) fun v H1 ⟨P, d, pm, r, ok, q⟩ => ⟨P, v, d, t, rfl, r, ok, ht, ?_⟩
  have := q H1 ssame
  simpa using this
theorem tys_pa : ∀ {ts : List Ty} {es : List Expr}, ts.all Ty.std = true → (∀ t ∈ ts, Gl X (tyName t) ∧ X.mg (tyName t) = none) → es.length = ts.length → (∀ (i : Nat) t, ts[i]? = some t → ∃ p, es[i]? = some (.Name (tyName t) p)) → PA X es (fun _ H Q => Q (ts.map fun t => .ty t.nm) H)
  | [], [], _, _, _, _ => pa_imp pa_nil fun _ _ _ h => h
  | [], _ :: _, _, _, h, _ => by simp at h
  | _ :: _, [], _, _, h, _ => by simp at h
  | t :: ts, e :: es, h1, h2, h3, h4 => by
    rw [List.all_cons, Bool.and_eq_true] at h1
    obtain ⟨p, hp⟩ := h4 0 t rfl
    simp only [List.getElem?_cons_zero, Option.some.injEq] at hp
    subst hp
    exact pa_imp (pa_cons (pe_ty h1.1 (h2 t List.mem_cons_self).1 (h2 t List.mem_cons_self).2) (tys_pa h1.2 (fun t z => h2 t (List.mem_cons_of_mem _ z)) (by simpa using h3) fun i t hi => by simpa using h4 (i + 1) t (by simpa using hi)) rfl) fun _ _ _ h => h
theorem se_isiT (B : XB k X) {ts : List Ty} {es : List Expr} {j2 : Nat} {p2 : Pos} (h1 : ts.all Ty.std = true) (h2 : ∀ t ∈ ts, Gl X (tyName t) ∧ X.mg (tyName t) = none) (h3 : es.length = ts.length) (h4 : ∀ (i : Nat) t, ts[i]? = some t → ∃ p, es[i]? = some (.Name (tyName t) p)) (h5 : ts.length ≤ 1000)
    (hg : Gl X "isinstance") (hm : X.mg "isinstance" = none) (hs : noStar e = true) (he : PE X e (tE k C orc ea)) : PE X (.Call (.Name "isinstance" p) [e, .Tuple es j2 p2] [] pos) (tE k C orc (.isi ea ts)) := by
  refine pe_imp (pe_callB (isi_tup B.K) hg hm boot_isi.1 (pa_cons he (pa_cons (pe_tup (tys_pa h1 h2 h3 h4)) pa_nil rfl) (star_cons hs _ _)) boot_isi.2.1 boot_isi.2.2 (star_cons hs _ _) rfl) fun σ H Q h => ?_
  refine tE_mono (isi_red h) fun v H1 ⟨P, d, pm, r, ok, q⟩ => ⟨by rw [List.length_map, sizeLine_eq]; omega, fun tp hp => ?_⟩
  have s : Same H1 (upd H1 tp (.tup (ts.map fun t => V.ty t.nm))) := same_new hp
  exact ⟨P, v, d, ts, tp, rfl, upd_same, r.mono (same_ext s) pm fun a z => .inl z, ok, h1, q _ s⟩

/-! ### methods of built-in types -/
theorem idx_at {x : D} : ∀ {xs : List D} {n : Nat}, idxOf x xs = some n → (∃ z, xs[n]? = some z ∧ D.eqv z x = true) ∧ ∀ m z, m < n → xs[m]? = some z → D.eqv z x = false
  | [], n, h => by cases h
  | y :: ys, n, h => by
    unfold idxOf at h
    split at h
    · rename_i hy
      cases h
      exact ⟨⟨y, rfl, hy⟩, fun m z hm => absurd hm (Nat.not_lt_zero _)⟩
    · rename_i hy
      obtain ⟨n', h', rfl⟩ := Option.map_eq_some_iff.mp h
      obtain ⟨⟨z, h1, h2⟩, h3⟩ := idx_at h'
      refine ⟨⟨z, by simpa using h1, h2⟩, fun m z hm hz => ?_⟩
      cases m with
      | zero => simp at hz; subst hz; simpa using hy
      | succ m => exact h3 m z (by omega) (by simpa using hz)
end
end Py
end
section
set_option Elab.async false
set_option linter.all false
set_option maxRecDepth 100000
set_option maxHeartbeats 4000000
namespace Py
open PySem PySem.Spec PyProof.Rows L2 C8
section
variable {k : Ki} {C : Ctx} {orc : Orc} {X : Cx} {F : Addr → Prop} {P : Addr → Prop} {σ : St} {H H' : Hp} {G : Py.Env} {fp fp' : Fp}
variable {x : Str} {p pos apos : Pos} {e o : Expr} {es : List Expr} {ies : List E} {j jj : Nat} {ea eb eo : E}
theorem few_ok {env : PySem.Env} (hs : es.all noStar = true) (hl : es.length < 29) : ((backTo pos (starEach es env)).all (fun x => !x.1) && (backToKw pos (keywordEach [] env)).all (fun x => x.1.isSome)
      && decide (es.length + ([] : List Keyword).length + (if ([] : List Keyword).isEmpty then 0 else 1) < 30)) = true := by
  rw [star_all hs]
  show (true && true && decide (es.length + 0 + 0 < 30)) = true
  simp; omega
theorem pyL_get : ∀ (xs : List D) (j : Nat), (D.pyL xs)[j]? = (xs[j]?).map D.py
  | [], j => by simp [D.pyL]
  | x :: xs, 0 => by simp [D.pyL]
  | x :: xs, j + 1 => by simp only [D.pyL, List.getElem?_cons_succ]; exact pyL_get xs j
theorem eqOkL_get : ∀ {n : Nat} {xs : List D} {j : Nat} {z : D}, D.eqOkL n xs = true → xs[j]? = some z → D.eqOk n z = true
  | n, [], j, z, _, h => by simp at h
  | n, x :: xs, 0, z, e, h => by
    simp only [D.eqOkL, Bool.and_eq_true] at e
    simp at h; subst h; exact e.1
  | n, x :: xs, j + 1, z, e, h => by
    simp only [D.eqOkL, Bool.and_eq_true] at e
    exact eqOkL_get e.2 (by simpa using h)
theorem se_index (B : XB k X) (ho : attrOk o = true) (hs : noStar e = true) (hline : (apos.endLine == pos.line) = true) (hoo : PE X o (tE k C orc eo)) (he : PE X e (tE k C orc ea)) :
    PE X (.Call (.Attribute o "index" apos) [e] [] pos) (tE k C orc (.met .index eo [ea])) := by
  have hs' : [e].all noStar = true := by rw [List.all_cons, hs]; rfl
  refine pe_imp (pe_bm PySem.F.plainAttrs_list PySem.F.slot_list_index PySem.F.type_list_index (mt_indexD (by have := B.units; omega)) hoo (ses_cons hs he ses_nil) (attBase ho _ _ _) (few_ok hs' (by show 1 < 29; decide)) hline (star_cons hs _ _) rfl) fun σ H Q ⟨F, G, fp, G', d, bb, E1, h, q⟩ => ?_
  rw [ev] at h
  obtain ⟨G1, y, h1, h⟩ := R.bind_inv h
  obtain ⟨hb1, h⟩ := ite_bad h
  obtain ⟨G2, r, h2, h⟩ := R.bind_inv h
  obtain ⟨h3, rfl⟩ := R.ofO_inv h
  obtain ⟨d', h4, h5⟩ := Option.map_eq_some_iff.mp h3
  unfold meth at h4
  split at h4
  · rename_i xs z _ hy hr
    split at h4
    · rename_i hm
      obtain ⟨n, h6, rfl⟩ := Option.map_eq_some_iff.mp h4
      unfold memOk at hm
      rw [Bool.and_eq_true] at hm
      refine ⟨F, G, fp, G1, y.1, y.2, E1, h1, fun H1 fp1 v E1 T1 S1 R1 => ?_⟩
      rw [hy] at R1
      have R1c := R1
      cases (show RepX k _ H1 v (.lst xs) from R1) with
      | @lst a vs _ ht rl =>
        refine ⟨.inl ⟨rfl, vs, ht.sq⟩, F, G1, fp1, G2, r.1, r.2, E1, h2, fun H2 fp2 ws E2 T2 S2 R2 => ?_⟩
        rw [hr] at R2
        obtain ⟨w, rfl, rw'⟩ := repL1 R2
        have R1' := VRep.tr E1 T2 (show VRep k F fp1 H1 (.ref a) (.lst xs) y.2 from R1c) fun q => S2 (bor hb1 q)
        obtain ⟨⟨z', e1, e2⟩, e3⟩ := idx_at h6
        have ok0 : D.eqOk 64 (.lst xs) = true := hm.2
        refine ⟨a, w, z.py, D.pyL xs, n, z'.py, rfl, rfl, by rw [B.K]; exact eqOk_dp R1' ok0, by rw [B.K]; exact eqOk_dp rw' hm.1, shaped_of ok0, shaped_of hm.1, ?_, ?_, ?_, ?_⟩
        · rw [pyL_get, e1]; rfl
        · rw [eqv_py _ _ (eqOkL_get hm.2 e1) hm.1]; exact e2
        · intro m zz hmn hz
          rw [pyL_get] at hz
          obtain ⟨z0, e4, rfl⟩ := Option.map_eq_some_iff.mp hz
          rw [eqv_py _ _ (eqOkL_get hm.2 e4) hm.1]
          exact e3 m z0 hmn e4
        · have rr : VRep k F fp2 H2 (.int (n : Int)) (.int (n : Int)) (y.2 || r.2) := RepX.int _
          have rr := rr.fl
          rw [h5] at rr
          exact q H2 fp2 _ E2 (T1.trans T2) (fun m => by
            simp only [Py.E.mf, Bool.and_eq_true] at m
            exact same_trans (S1 m.1) (S2 m.2)) rr
    · cases h4
  · rename_i hme _ _; cases hme
  · rename_i hme _ _; cases hme
  · cases h4

/-! ### an owned object is written -/
theorem EnvOk.write (Ee : EnvOk k F σ H G fp) {i : Nat} {a : Addr} {o' : HO} {m' : M} (hg : i < G.length) (ha : a ∈ fp i) (hm : Mut (some o')) (hv : ∃ x, σ[i]? = some (some x) ∧ RepM k (Own F fp) (upd H a o') x m' (fp i)) : EnvOk k F σ (upd H a o') (G.set i (.ow m')) fp where
  len := by rw [List.length_set]; exact Ee.len
  slot := fun jx => by
    by_cases e : jx = i
    · subst e
      rw [List.getElem?_set_self hg]
      exact hv
    · rw [List.getElem?_set_ne (Ne.symm e)]
      have ext : Ext (Own F fp) H (upd H a o') := fun b u h n => by
        rw [upd_ne (fun z => n (.inr ⟨i, by rw [z]; exact ha⟩))]; exact h
      have hs := Ee.slot jx
      cases hgj : G[jx]? with
      | none => rw [hgj] at hs; exact hs
      | some sl =>
        rw [hgj] at hs
        cases sl with
        | dead => exact hs
        | sh d => obtain ⟨⟨x, e1, r⟩, z⟩ := hs; exact ⟨⟨x, e1, r.mono ext Ee.pm fun _ q => .inl q⟩, z⟩
        | ow m =>
          obtain ⟨x, e1, r⟩ := hs
          exact ⟨x, e1, r.mono ext Ee.pm (fun _ q => .inl q) fun b hb => upd_ne fun z => e (Ee.dj jx i b hb (by rw [z]; exact ha))⟩
  nd := Ee.nd
  dj := Ee.dj
  df := Ee.df
  pm := fun b q => by
    by_cases e : b = a
    · rw [e, upd_same]; exact hm
    · rw [upd_ne e]; exact Ee.pm b q
theorem tr_write {i : Nat} {a : Addr} {o' : HO} (ha : a ∈ fp i) : Tr fp H fp (upd H a o') := ⟨fun b u h n => by rw [upd_ne (fun z => n i (by rw [z]; exact ha))]; exact h, fun jx b h => .inl ⟨jx, h⟩, fun b h => by
  by_cases e : b = a
  · rw [e, upd_same] at h; cases h
  · rwa [upd_ne e] at h⟩
theorem RepMs.snoc : ∀ {vs : List V} {ms : List M} {as : List Addr} {v : V} {d : D}, RepMs k P H vs ms as → RepX k P H v d → RepMs k P H (vs ++ [v]) (ms ++ [.leaf d]) as
  | _, _, _, v, d, .nil, r => .cons (as := []) (.leaf r) .nil
  | _, _, _, v, d, .cons (bs := bs) h t, r => .cons h (t.snoc r)
theorem RepMs.last : ∀ {vs : List V} {ms : List M} {as : List Addr} {d : D}, RepMs k P H vs ms as → ms.getLast? = some (.leaf d) → ∃ y, vs[vs.length - 1]? = some y ∧ RepX k P H y d ∧ RepMs k P H vs.dropLast ms.dropLast as
  | _, _, _, d, .nil, h => by cases h
  | _, _, _, d, .cons h .nil, e => by
    simp only [List.getLast?_singleton, Option.some.injEq] at e
    subst e
    cases h with
    | leaf r => exact ⟨_, rfl, r, .nil⟩
  | _, _, _, d, .cons (as := as) h (.cons h2 t), e => by
    rw [List.getLast?_cons_cons] at e
    obtain ⟨y, e1, r, s⟩ := (RepMs.cons h2 t).last e
    refine ⟨y, ?_, r, ?_⟩
    · simp only [List.length_cons, Nat.add_sub_cancel] at e1 ⊢
      simpa using e1
    · rw [List.dropLast_cons₂, List.dropLast_cons₂]
      exact .cons h s
theorem read_lst {i : Nat} (h : isLst (readM G i []) = true) : ∃ ms, G[i]? = some (.ow (.lst ms)) := by
  unfold readM at h
  cases hg : G[i]? with
  | none => rw [hg] at h; cases h
  | some s =>
    rw [hg] at h
    cases s with
    | dead => cases h
    | sh d => cases h
    | ow m =>
      cases m with
      | lst ms => exact ⟨ms, rfl⟩
      | _ => cases h
theorem updPl_inv {β : Type} {G G' : Py.Env} {i : Nat} {f : M → Option (M × β)} {b : β} (h : updPl G i [] f = .ok G' b) : ∃ m m', G[i]? = some (.ow m) ∧ f m = some (m', b) ∧ G' = G.set i (.ow m') := by
  unfold updPl at h
  split at h
  · rename_i m hg
    split at h
    · rename_i r hr
      cases h
      exact ⟨m, r.1, hg, hr, rfl⟩
    · cases h
  · cases h
theorem szLine_le {n : Nat} (h : decide (n < szLine) = true) : n < sizeLine := by rw [← szLine_eq]; exact of_decide_eq_true h
theorem se_append (B : XB k X) {i : Nat} (ho : attrOk o = true) (hs : noStar e = true) (hline : (apos.endLine == pos.line) = true) (hoo : PE X o (tP k i [])) (he : PE X e (tE k C orc ea)) :
    PE X (.Call (.Attribute o "append" apos) [e] [] pos) (tE k C orc (.mut .append i [] [ea])) := by
  have hs' : [e].all noStar = true := by rw [List.all_cons, hs]; rfl
  refine pe_imp (pe_bm PySem.F.plainAttrs_list PySem.F.slot_list_append PySem.F.type_list_append mt_append hoo (ses_cons hs he ses_nil) (attBase ho _ _ _) (few_ok hs' (by show 1 < 29; decide)) hline (star_cons hs _ _) rfl) fun σ H Q ⟨F, G, fp, G', d, bb, Ee, h, q⟩ => ?_
  rw [ev] at h
  obtain ⟨hc, h⟩ := ite_ok h
  rw [Bool.and_eq_true] at hc
  obtain ⟨ms0, hg0⟩ := read_lst hc.1
  obtain ⟨v, e0, r0⟩ := Ee.ow hg0
  obtain ⟨G1, r, h1, h⟩ := R.bind_inv h
  obtain ⟨hb1, h⟩ := ite_bad h
  obtain ⟨G2, y, h2, h⟩ := R.bind_inv h
  cases h
  obtain ⟨m, m', hg, hf, rfl⟩ := updPl_inv h2
  refine ⟨v, v, e0, .nil, ?_, F, G, fp, G1, r.1, r.2, Ee, h1, fun H1 fp1 vs E1 T1 S1 R1 => ?_⟩
  · generalize fp i = as0 at r0
    cases r0 with
    | lst ha _ => exact .inl ⟨rfl, _, .inl (.inl ha)⟩
  unfold mutM at hf
  split at hf
  · rename_i d1 xs hr
    split at hf
    · rename_i hz
      cases hf
      rw [hb1] at R1
      rw [hr] at R1
      obtain ⟨w, rfl, rw'⟩ := repL1 R1
      obtain ⟨v1, e1, r1⟩ := E1.ow hg
      rw [e0] at e1
      cases e1
      have nd := E1.nd i
      generalize hfp : fp1 i = as at r1 nd
      cases r1 with
      | @lst a vs _ as' ha rs =>
        have hai : a ∈ fp1 i := by rw [hfp]; exact List.mem_cons_self
        have ext : Ext (Own F fp1) H1 (upd H1 a (.lst (vs ++ [w]))) := fun b u h n => by
          rw [upd_ne (fun z => n (.inr ⟨i, by rw [z]; exact hai⟩))]; exact h
        refine ⟨a, vs, w, rfl, rfl, ha, ?_, ?_⟩
        · rw [rs.length]; exact szLine_le hz
        · refine q _ fp1 .non (E1.write (List.getElem?_eq_some_iff.mp hg).1 hai trivial ⟨.ref a, e0, ?_⟩) (T1.trans (tr_write hai)) (fun m => by simp [Py.E.mf] at m) .non
          rw [hfp]
          exact .lst upd_same ((rs.mono ext E1.pm (fun _ q => .inl q) fun b hb => upd_ne fun z => (List.nodup_cons.mp nd).1 (by rw [← z]; exact hb)).snoc (rw'.mono ext E1.pm fun _ q => .inl q))
    · cases hf
  · rename_i hme _; cases hme
  · cases hf
theorem se_pop (B : XB k X) {i : Nat} (ho : attrOk o = true) (hline : (apos.endLine == pos.line) = true) (hoo : PE X o (tP k i [])) : PE X (.Call (.Attribute o "pop" apos) [] [] pos) (tE k C orc (.mut .pop i [] [])) := by
  refine pe_imp (pe_bm0 PySem.F.plainAttrs_list PySem.F.slot_list_pop PySem.F.type_list_pop mt_pop hoo (attBase ho _ _ _) hline) fun σ H Q ⟨F, G, fp, G', d, bb, Ee, h, q⟩ => ?_
  rw [ev] at h
  obtain ⟨hc, h⟩ := ite_ok h
  obtain ⟨G1, r, h1, h⟩ := R.bind_inv h
  rw [evs] at h1
  cases h1
  obtain ⟨hb1, h⟩ := ite_bad h
  obtain ⟨G2, y, h2, h⟩ := R.bind_inv h
  cases h
  obtain ⟨m, m', hg, hf, rfl⟩ := updPl_inv h2
  obtain ⟨v, e0, r0⟩ := Ee.ow hg
  unfold mutM at hf
  split at hf
  · rename_i hr _; cases hr
  · rename_i xs _
    split at hf
    · rename_i dv hl
      cases hf
      have nd := Ee.nd i
      generalize hfp : fp i = as at r0 nd
      cases r0 with
      | @lst a vs _ as' ha rs =>
        have hai : a ∈ fp i := by rw [hfp]; exact List.mem_cons_self
        obtain ⟨w, e1, rw', rs'⟩ := rs.last hl
        have ext : Ext (Own F fp) H (upd H a (.lst vs.dropLast)) := fun b u h n => by
          rw [upd_ne (fun z => n (.inr ⟨i, by rw [z]; exact hai⟩))]; exact h
        refine ⟨.ref a, .ref a, e0, .nil, .inl ⟨rfl, vs, .inl (.inl ha)⟩, a, vs, w, rfl, rfl, ha, e1, ?_⟩
        refine q _ fp w (Ee.write (List.getElem?_eq_some_iff.mp hg).1 hai trivial ⟨.ref a, e0, ?_⟩) (tr_write hai) (fun m => by simp [Py.E.mf] at m) (rw'.mono ext Ee.pm fun _ q => .inl q)
        rw [hfp]
        exact .lst upd_same (rs'.mono ext Ee.pm (fun _ q => .inl q) fun b hb => upd_ne fun z => (List.nodup_cons.mp nd).1 (by rw [← z]; exact hb))
    · cases hf
  · cases hf
end
end Py
end
section
set_option Elab.async false
set_option linter.all false
set_option maxRecDepth 100000
set_option maxHeartbeats 4000000
namespace Py
open PySem PySem.Spec PyProof.Rows L2 C8
abbrev AR := D ⊕ (Nat × List Nat)
/-- the argument behind a place -/
def ioIx : List AR → Nat → Option Nat
  | [], _ => none
  | .inl _ :: rs, i => (ioIx rs i).map (· + 1)
  | .inr p :: rs, i => if p.1 = i then some 0 else (ioIx rs i).map (· + 1)
inductive ARs (k : Ki) (P : Addr → Prop) (H : Hp) (σ : St) : List V → List AR → Prop
  | nil : ARs k P H σ [] []
  | e {v : V} {d : D} {vs : List V} {rs : List AR} : RepX k P H v d → ARs k P H σ vs rs → ARs k P H σ (v :: vs) (.inl d :: rs)
  | io {v : V} {i : Nat} {vs : List V} {rs : List AR} : σ[i]? = some (some v) → ARs k P H σ vs rs → ARs k P H σ (v :: vs) (.inr (i, []) :: rs)
/-- the slots that are handed over -/
inductive OutR (G : Py.Env) : List AR → List Slot → Prop
  | nil : OutR G [] []
  | e {d : D} {rs : List AR} {ss : List Slot} : OutR G rs ss → OutR G (.inl d :: rs) (.sh d :: ss)
  | io {i : Nat} {m : M} {rs : List AR} {ss : List Slot} : G[i]? = some (.ow m) → ioIx rs i = none → OutR G rs ss → OutR G (.inr (i, []) :: rs) (.ow m :: ss)
theorem any_ix {i : Nat} : ∀ {rs : List AR}, (rs.any fun a => match a with | .inr q => q.1 == i | _ => false) = false → ioIx rs i = none
  | [], _ => rfl
  | .inl d :: rs, h => by
    simp only [List.any_cons, Bool.or_eq_false_iff] at h
    show (ioIx rs i).map _ = none
    rw [any_ix h.2]; rfl
  | .inr p :: rs, h => by
    simp only [List.any_cons, Bool.or_eq_false_iff] at h
    show (if p.1 = i then some 0 else (ioIx rs i).map (· + 1)) = none
    rw [if_neg (by simpa using h.1), any_ix h.2]; rfl
theorem outR_of {G : Py.Env} : ∀ {rs : List AR} {ss : List Slot}, outsA rs G = some ss → OutR G rs ss
  | [], ss, h => by simp [outsA] at h; subst h; exact .nil
  | .inl d :: rs, ss, h => by
    simp only [outsA, Option.map_eq_some_iff] at h
    obtain ⟨s, h1, rfl⟩ := h
    exact .e (outR_of h1)
  | .inr (i, fs) :: rs, ss, h => by
    simp only [outsA] at h
    split at h
    · cases h
    · rename_i hn
      split at h
      · rename_i m hg
        split at h
        · obtain ⟨s, h1, rfl⟩ := Option.map_eq_some_iff.mp h
          exact .io hg (any_ix (Bool.eq_false_iff.mpr hn)) (outR_of h1)
        · cases h
      · cases h
theorem back_spec : ∀ {rs : List AR} {os ss : List Slot} {G0 G G2 : Py.Env}, OutR G0 rs ss → backA rs os G = some G2 → (∀ i, ioIx rs i ≠ none → i < G.length) →
    G2.length = G.length ∧ ∀ i, (∀ j, ioIx rs i = some j → ∃ m, os[j]? = some (.ow m) ∧ G2[i]? = some (.ow m)) ∧ (ioIx rs i = none → G2[i]? = G[i]?)
  | [], os, ss, G0, G, G2, _, h, _ => by
    simp [backA] at h; subst h
    exact ⟨rfl, fun i => ⟨fun j hj => (by cases hj), fun _ => rfl⟩⟩
  | .inl d :: rs, os, ss, G0, G, G2, o, h, hl => by
   cases o with
   | e o =>
    cases os with
    | nil => simp [backA] at h
    | cons s os =>
      have h : backA rs os G = some G2 := h
      obtain ⟨h1, h2⟩ := back_spec o h fun i hi => hl i (by show (ioIx rs i).map _ ≠ none; cases e : ioIx rs i with
        | none => exact absurd e hi
        | some j => simp)
      refine ⟨h1, fun i => ⟨fun j hj => ?_, fun hn => ?_⟩⟩
      · obtain ⟨j', e, rfl⟩ := Option.map_eq_some_iff.mp (show (ioIx rs i).map (· + 1) = some j from hj)
        obtain ⟨m, e1, e2⟩ := (h2 i).1 j' e
        exact ⟨m, by simpa using e1, e2⟩
      · exact (h2 i).2 (by have : (ioIx rs i).map (· + 1) = none := hn; simpa using this)
  | .inr p :: rs, os, ss, G0, G, G2, o, h, hl => by
    cases o with
    | @io i0 m0 _ ss' hg hn o =>
      cases os with
      | nil => simp [backA] at h
      | cons s os =>
        cases s with
        | ow m =>
          have h : backA rs os (G.set i0 (.ow m)) = some G2 := h
          have l0 : i0 < G.length := hl i0 (by show (if i0 = i0 then some 0 else _) ≠ none; rw [if_pos rfl]; simp)
          obtain ⟨h1, h2⟩ := back_spec o h fun i hi => by
            rw [List.length_set]
            refine hl i ?_
            show (if i0 = i then some 0 else (ioIx rs i).map (· + 1)) ≠ none
            split
            · simp
            · cases e : ioIx rs i with
              | none => exact absurd e hi
              | some j => simp
          refine ⟨by rw [h1, List.length_set], fun i => ⟨fun j hj => ?_, fun hn2 => ?_⟩⟩
          · have hj : (if i0 = i then some 0 else (ioIx rs i).map (· + 1)) = some j := hj
            split at hj
            · rename_i e
              cases hj
              subst e
              refine ⟨m, rfl, ?_⟩
              rw [(h2 i0).2 hn, List.getElem?_set_self l0]
            · obtain ⟨j', e, rfl⟩ := Option.map_eq_some_iff.mp hj
              obtain ⟨m', e1, e2⟩ := (h2 i).1 j' e
              exact ⟨m', by simpa using e1, e2⟩
          · have hn2 : (if i0 = i then some 0 else (ioIx rs i).map (· + 1)) = none := hn2
            split at hn2
            · cases hn2
            · rename_i e
              rw [(h2 i).2 (by simpa using hn2), List.getElem?_set_ne e]
        | _ => simp [backA] at h
section
variable {k : Ki} {C : Ctx} {orc : Orc} {X : Cx} {F : Addr → Prop} {P : Addr → Prop} {σ : St} {H H' : Hp} {G : Py.Env} {fp fp' : Fp}
theorem ARs.length : ∀ {vs : List V} {rs : List AR}, ARs k P H σ vs rs → vs.length = rs.length
  | _, _, .nil => rfl
  | _, _, .e _ r => congrArg Nat.succ r.length
  | _, _, .io _ r => congrArg Nat.succ r.length
theorem ARs.tr (E1 : EnvOk k F σ H G fp) (t : Tr fp H fp' H') : ∀ {vs : List V} {rs : List AR}, ARs k (Own F fp) H σ vs rs → ARs k (Own F fp') H' σ vs rs
  | _, _, .nil => .nil
  | _, _, .e h r => .e (t.rep E1.pm h) (r.tr E1 t)
  | _, _, .io h r => .io h (r.tr E1 t)
/-- an argument at its place -/
def ARAt (k : Ki) (P : Addr → Prop) (H : Hp) (σ : St) (v : V) : AR → Prop
  | .inl d => RepX k P H v d
  | .inr p => p.2 = [] ∧ σ[p.1]? = some (some v)
theorem ARs.get : ∀ {vs : List V} {rs : List AR} {j : Nat} {r : AR}, ARs k P H σ vs rs → rs[j]? = some r → ∃ v, vs[j]? = some v ∧ ARAt k P H σ v r
  | _, _, _, _, .nil, h => by simp at h
  | _, _, 0, _, .e h t, q => by simp at q; subst q; exact ⟨_, rfl, h⟩
  | _, _, 0, _, .io h t, q => by simp at q; subst q; exact ⟨_, rfl, rfl, h⟩
  | _, _, j + 1, r, .e h t, q => by
    obtain ⟨v, h1, h2⟩ := t.get (j := j) (r := r) (by simpa using q)
    exact ⟨v, by simpa using h1, h2⟩
  | _, _, j + 1, r, .io h t, q => by
    obtain ⟨v, h1, h2⟩ := t.get (j := j) (r := r) (by simpa using q)
    exact ⟨v, by simpa using h1, h2⟩
theorem ARs.pick {vs : List V} {rs : List AR} (h : ARs k P H σ vs rs) : ∀ pm : List Nat, (∀ i ∈ pm, i < rs.length) → ARs k P H σ (pm.map fun i => vs.getD i .non) (pm.map fun i => rs.getD i (.inl .non))
  | [], _ => .nil
  | i :: pm, hp => by
    have hl := hp i List.mem_cons_self
    have hi : rs[i]? = some rs[i] := List.getElem?_eq_getElem hl
    obtain ⟨v, e1, r1⟩ := h.get hi
    have t := h.pick pm fun j q => hp j (List.mem_cons_of_mem _ q)
    show ARs k P H σ (vs.getD i .non :: _) (rs.getD i (.inl .non) :: _)
    rw [List.getD_eq_getElem?_getD, List.getD_eq_getElem?_getD, e1, hi]
    show ARs k P H σ (v :: _) (rs[i] :: _)
    generalize rs[i] = r at r1
    cases r with
    | inl d => exact .e r1 t
    | inr p =>
      obtain ⟨pi, pf⟩ := p
      obtain ⟨e2, e3⟩ := r1
      simp only at e2
      subst e2
      exact .io e3 t
theorem ioIx_get : ∀ {rs : List AR} {ss : List Slot} {i j : Nat}, OutR G rs ss → (ioIx rs i = some j ↔ rs[j]? = some (.inr (i, [])))
  | _, _, i, j, .nil => by simp [ioIx]
  | _, _, i, 0, .e o => by simp [ioIx]
  | _, _, i, j + 1, .e (rs := rs) o => by
    show (ioIx rs i).map (· + 1) = some (j + 1) ↔ _
    rw [List.getElem?_cons_succ, ← ioIx_get o (i := i) (j := j)]
    constructor
    · intro h; obtain ⟨j', e, h⟩ := Option.map_eq_some_iff.mp h; cases h; exact e
    · intro h; rw [h]; rfl
  | _, _, i, 0, .io (i := i0) (rs := rs) hg hn o => by
    show (if i0 = i then some 0 else (ioIx rs i).map (· + 1)) = some 0 ↔ _
    by_cases e : i0 = i
    · rw [if_pos e, e]; simp
    · rw [if_neg e]
      constructor
      · intro h; obtain ⟨j', _, h⟩ := Option.map_eq_some_iff.mp h; cases h
      · intro h; simp at h; exact absurd h e
  | _, _, i, j + 1, .io (i := i0) (rs := rs) hg hn o => by
    show (if i0 = i then some 0 else (ioIx rs i).map (· + 1)) = some (j + 1) ↔ _
    rw [List.getElem?_cons_succ, ← ioIx_get o (i := i) (j := j)]
    by_cases e : i0 = i
    · rw [if_pos e, ← e, hn]
      constructor
      · intro h; cases h
      · intro h; cases h
    · rw [if_neg e]
      constructor
      · intro h; obtain ⟨j', e, h⟩ := Option.map_eq_some_iff.mp h; cases h; exact e
      · intro h; rw [h]; rfl
theorem OutR.length : ∀ {rs : List AR} {ss : List Slot}, OutR G rs ss → ss.length = rs.length
  | _, _, .nil => rfl
  | _, _, .e o => congrArg Nat.succ o.length
  | _, _, .io _ _ o => congrArg Nat.succ o.length
def SlOf (G : Py.Env) (r : AR) (s : Slot) : Prop := match r with
  | .inl d => s = .sh d
  | .inr p => p.2 = [] ∧ ∃ m, s = .ow m ∧ G[p.1]? = some (.ow m)
theorem OutR.get : ∀ {rs : List AR} {ss : List Slot} {j : Nat} {r : AR}, OutR G rs ss → rs[j]? = some r → ∃ s, ss[j]? = some s ∧ SlOf G r s
  | _, _, _, _, .nil, h => by simp at h
  | _, _, 0, _, .e t, q => by simp at q; subst q; exact ⟨_, rfl, rfl⟩
  | _, _, 0, _, .io h _ t, q => by simp at q; subst q; exact ⟨_, rfl, rfl, _, rfl, h⟩
  | _, _, j + 1, r, .e t, q => by
    obtain ⟨v, h1, h2⟩ := t.get (j := j) (r := r) (by simpa using q)
    exact ⟨v, by simpa using h1, h2⟩
  | _, _, j + 1, r, .io h _ t, q => by
    obtain ⟨v, h1, h2⟩ := t.get (j := j) (r := r) (by simpa using q)
    exact ⟨v, by simpa using h1, h2⟩
/-- what the callee owns -/
def fpIn (fp : Fp) (rs : List AR) : Fp := fun j => match rs[j]? with
  | some (.inr p) => fp p.1
  | _ => []
theorem mem_fpIn {rs : List AR} {j : Nat} {a : Addr} (h : a ∈ fpIn fp rs j) : ∃ p, rs[j]? = some (.inr p) ∧ a ∈ fp p.1 := by
  unfold fpIn at h
  split at h
  · rename_i p e; exact ⟨p, e, h⟩
  · cases h
def fpBack (fp fpc : Fp) (rs : List AR) : Fp := fun i => match ioIx rs i with
  | some j => fpc j
  | none => fp i
theorem io_call (E1 : EnvOk k F σ H G fp) {vs : List V} {rs : List AR} {ss os : List Slot} {d : D} {G2 : Py.Env} {f np : Nat} {Q : VK} {E : XK} (ha : ARs k (Own F fp) H σ vs rs) (hl : vs.length = np) (hs : OutR G rs ss) (ho : orc f ss = .ok os d) (hb : backA rs os G = some G2)
    (q : ∀ H' fp' v, EnvOk k F σ H' G2 fp' → Tr fp H fp' H' → RepX k (Own F fp') H' v d → Q v H') : spF k C orc f np vs H Q E := by
  -- the places are apart
  have inrNil : ∀ {j : Nat} {p : Nat × List Nat}, rs[j]? = some (.inr p) → p = (p.1, []) := fun {j p} e => by
    obtain ⟨s, _, h2, _⟩ := hs.get e
    rw [← h2]
  have apart : ∀ {j j' : Nat} {p p' : Nat × List Nat}, rs[j]? = some (.inr p) → rs[j']? = some (.inr p') → p.1 = p'.1 → j = j' := fun {j j' p p'} e e' h => by
    rw [inrNil e] at e
    rw [inrNil e', ← h] at e'
    have h1 := (ioIx_get hs).mpr e
    have h2 := (ioIx_get hs).mpr e'
    rw [h1] at h2
    exact Option.some.inj h2
  let Fc : Addr → Prop := fun a => Own F fp a ∧ ∀ j, a ∉ fpIn fp rs j
  have sub1 : ∀ a, Own Fc (fpIn fp rs) a → Own F fp a := fun a z => by
    rcases z with z | ⟨j, z⟩
    · exact z.1
    · obtain ⟨p, _, h⟩ := mem_fpIn z
      exact .inr ⟨p.1, h⟩
  refine ⟨hl, Fc, ss, os, d, fpIn fp rs, ho, ?_, fun H' fpc v E' T' R' _ => ?_⟩
  · refine ⟨by rw [List.length_map, hs.length, ha.length], fun j => ?_, fun j => ?_, fun j j' a h1 h2 => ?_, fun j a h1 h2 => h2.2 j h1, E1.pm.sub sub1⟩
    · cases e : rs[j]? with
      | none =>
        have : ss[j]? = none := List.getElem?_eq_none (by rw [hs.length]; exact List.getElem?_eq_none_iff.mp e)
        rw [this]
        show fpIn fp rs j = []
        unfold fpIn; rw [e]
      | some r =>
        obtain ⟨v, e1, r1⟩ := ha.get e
        obtain ⟨s, e2, r2⟩ := hs.get e
        rw [List.getElem?_map, e1, e2]
        cases r with
        | inl d =>
          have r2 : s = .sh d := r2
          subst r2
          exact ⟨⟨v, rfl, (show RepX k (Own F fp) H v d from r1).sub sub1 E1.pm⟩, by unfold fpIn; rw [e]⟩
        | inr p =>
          obtain ⟨_, m, rfl, hg⟩ := r2
          obtain ⟨_, e3⟩ := r1
          obtain ⟨v', e4, rm⟩ := E1.ow hg
          rw [e3] at e4
          cases e4
          refine ⟨v, rfl, ?_⟩
          show RepM k _ H v m (fpIn fp rs j)
          rw [show fpIn fp rs j = fp p.1 from by unfold fpIn; rw [e]]
          exact rm.mono Ext.refl E1.pm (fun a z => .inl (sub1 a z)) fun _ _ => rfl
    · unfold fpIn
      split
      · exact E1.nd _
      · exact List.nodup_nil
    · obtain ⟨p, e, h1⟩ := mem_fpIn h1
      obtain ⟨p', e', h2⟩ := mem_fpIn h2
      exact apart e e' (E1.dj _ _ a h1 h2)
  · have lG : ∀ i, ioIx rs i ≠ none → i < G.length := fun i hi => by
      cases e : ioIx rs i with
      | none => exact absurd e hi
      | some j =>
        obtain ⟨s, _, _, m, _, hg⟩ := hs.get ((ioIx_get hs).mp e)
        exact (List.getElem?_eq_some_iff.mp hg).1
    obtain ⟨b1, b2⟩ := back_spec hs hb lG
    -- what is not handed over is the callee's frame
    have inF : ∀ i a, ioIx rs i = none → a ∈ fp i → Fc a := fun i a hi h => ⟨.inr ⟨i, h⟩, fun j z => by
      obtain ⟨p, e, h2⟩ := mem_fpIn z
      have : i = p.1 := E1.dj _ _ a h h2
      rw [inrNil e, ← this] at e
      rw [(ioIx_get hs).mpr e] at hi
      cases hi⟩
    have FF : ∀ a, F a → Fc a := fun a h => ⟨.inl h, fun j z => by
      obtain ⟨p, e, h2⟩ := mem_fpIn z
      exact E1.df _ a h2 h⟩
    have sub2 : ∀ a, Own F (fpBack fp fpc rs) a → Own Fc fpc a := fun a z => by
      rcases z with z | ⟨i, z⟩
      · exact .inl (FF a z)
      · unfold fpBack at z
        split at z
        · rename_i j e; exact .inr ⟨j, z⟩
        · rename_i e; exact .inl (inF i a e z)
    have new2 : ∀ i a, a ∈ fpBack fp fpc rs i → (∃ j, a ∈ fp j) ∨ H a = none := fun i a z => by
      unfold fpBack at z
      split at z
      · rename_i j e
        rcases T'.new j a z with ⟨j', z⟩ | z
        · obtain ⟨p, _, h⟩ := mem_fpIn z
          exact .inl ⟨p.1, h⟩
        · exact .inr z
      · exact .inl ⟨i, z⟩
    have T2 : Tr fp H (fpBack fp fpc rs) H' := ⟨fun a o h n => T'.keep a o h fun j z => by
      obtain ⟨p, _, h⟩ := mem_fpIn z
      exact n p.1 h, new2, fun a h => T'.stay a h⟩
    refine q H' (fpBack fp fpc rs) v ⟨by rw [b1]; exact E1.len, fun i => ?_, fun i => ?_, fun i i' a h1 h2 => ?_, fun i a h1 h2 => ?_, E'.pm.sub sub2⟩ T2 (R'.sub sub2 E'.pm)
    · cases e : ioIx rs i with
      | some j =>
        obtain ⟨m, e1, e2⟩ := (b2 i).1 j e
        obtain ⟨v', e3, rm⟩ := E'.ow e1
        obtain ⟨v2, e4, _, e5⟩ := ha.get ((ioIx_get hs).mp e)
        rw [List.getElem?_map, e4] at e3
        have e6 : v2 = v' := by simpa using e3
        rw [← e6] at rm
        rw [e2, e5]
        refine ⟨v2, rfl, ?_⟩
        show RepM k _ H' v2 m (fpBack fp fpc rs i)
        rw [show fpBack fp fpc rs i = fpc j from by unfold fpBack; rw [e]]
        exact rm.mono Ext.refl E'.pm (fun a z => .inl (sub2 a z)) fun _ _ => rfl
      | none =>
        rw [(b2 i).2 e]
        have hfp : fpBack fp fpc rs i = fp i := by unfold fpBack; rw [e]
        have hs1 := E1.slot i
        rw [hfp]
        cases hg : G[i]? with
        | none => rw [hg] at hs1; exact hs1
        | some sl =>
          rw [hg] at hs1
          cases sl with
          | dead => exact hs1
          | sh d => obtain ⟨⟨x, e1, r⟩, z⟩ := hs1; exact ⟨⟨x, e1, T2.rep E1.pm r⟩, z⟩
          | ow m =>
            obtain ⟨x, e1, r⟩ := hs1
            refine ⟨x, e1, r.mono T2.ext E1.pm T2.sub fun a h => ?_⟩
            obtain ⟨o, ho⟩ := r.there a h
            rw [ho]
            exact T'.keep a o ho (inF i a e h).2
    · unfold fpBack
      split
      · exact E'.nd _
      · exact E1.nd _
    · unfold fpBack at h1 h2
      split at h1
      · rename_i j e
        split at h2
        · rename_i j' e'
          have := E'.dj _ _ a h1 h2
          subst this
          have h3 := (ioIx_get hs).mp e
          rw [(ioIx_get hs).mp e'] at h3
          cases h3; rfl
        · rename_i e'
          exact absurd (inF i' a e' h2) (E'.df _ a h1)
      · rename_i e
        split at h2
        · rename_i j' e'
          exact absurd (inF i a e h1) (E'.df _ a h2)
        · exact E1.dj _ _ a h1 h2
    · unfold fpBack at h1
      split at h1
      · exact E'.df _ a h1 (FF a h2)
      · exact E1.df _ a h1 h2
def tA (k : Ki) (C : Ctx) (orc : Orc) (as : List Arg) : TA := fun σ H Q => ∃ F G fp G' rs, EnvOk k F σ H G fp ∧ evA C orc as G = .ok G' rs ∧ ∀ H' fp' vs, EnvOk k F σ H' G' fp' → Tr fp H fp' H' → ARs k (Own F fp') H' σ vs rs → Q vs H'
theorem sa_nil : PA X [] (tA k C orc []) := pa_imp pa_nil fun σ H Q ⟨F, G, fp, G', rs, Ee, h, q⟩ => by
  rw [evA] at h
  cases h
  exact q H fp [] Ee (.refl _ _) .nil
theorem sa_e {e : Expr} {es : List Expr} {ie : E} {as : List Arg} (hs : noStar e = true) (he : PE X e (tE k C orc ie)) (hes : PA X es (tA k C orc as)) : PA X (e :: es) (tA k C orc (.e ie :: as)) := by
  refine pa_imp (pa_cons he hes (star_cons hs es _)) fun σ H Q ⟨F, G, fp, G', rs, Ee, h, q⟩ => ?_
  rw [evA] at h
  obtain ⟨G1, x, h1, h⟩ := R.bind_inv h
  obtain ⟨hb1, h⟩ := ite_bad h
  obtain ⟨G2, r, h2, h⟩ := R.bind_inv h
  cases h
  refine ⟨F, G, fp, G1, x.1, x.2, Ee, h1, fun H1 fp1 v1 E1 T1 S1 R1 => ⟨F, G1, fp1, _, r, E1, h2, fun H2 fp2 vs E2 T2 R2 => ?_⟩⟩
  rw [hb1] at R1
  exact q H2 fp2 _ E2 (T1.trans T2) (.e (T2.rep E1.pm R1) R2)
theorem sa_io {e : Expr} {es : List Expr} {i : Nat} {as : List Arg} (hs : noStar e = true) (he : PE X e (tP k i [])) (hes : PA X es (tA k C orc as)) : PA X (e :: es) (tA k C orc (.io i [] :: as)) := by
  refine pa_imp (pa_cons he hes (star_cons hs es _)) fun σ H Q ⟨F, G, fp, G', rs, Ee, h, q⟩ => ?_
  rw [evA] at h
  obtain ⟨hc, h⟩ := ite_ok h
  obtain ⟨G2, r, h2, h⟩ := R.bind_inv h
  cases h
  rw [Bool.and_eq_true] at hc
  have : ∃ m, G[i]? = some (.ow m) := by
    have h0 := hc.1
    rw [List.getD_eq_getElem?_getD] at h0
    cases hg : G[i]? with
    | none => rw [hg] at h0; cases h0
    | some s =>
      rw [hg] at h0
      cases s with
      | ow m => exact ⟨m, rfl⟩
      | _ => cases h0
  obtain ⟨m, hg⟩ := this
  obtain ⟨v, e0, _⟩ := Ee.ow hg
  exact ⟨v, v, e0, .nil, F, G, fp, _, r, Ee, h2, fun H2 fp2 vs E2 T2 R2 => q H2 fp2 _ E2 T2 (.io e0 R2)⟩
theorem evA_len : ∀ {as : List Arg} {G G' : Py.Env} {rs : List AR}, evA C orc as G = .ok G' rs → rs.length = as.length
  | [], G, G', rs, h => by rw [evA] at h; cases h; rfl
  | .e x :: as, G, G', rs, h => by
    rw [evA] at h
    obtain ⟨G1, x, h1, h⟩ := R.bind_inv h
    obtain ⟨hb1, h⟩ := ite_bad h
    obtain ⟨G2, r, h2, h⟩ := R.bind_inv h
    cases h
    rw [List.length_cons, List.length_cons, evA_len h2]
  | .io i fs :: as, G, G', rs, h => by
    rw [evA] at h
    obtain ⟨hc, h⟩ := ite_ok h
    obtain ⟨G2, r, h2, h⟩ := R.bind_inv h
    cases h
    rw [List.length_cons, List.length_cons, evA_len h2]
theorem callO_red {f : Nat} {as : List Arg} {pm : List Nat} (hp : pmOk pm as.length = true) {σ : St} {H : Hp} {Q : VK} (h : tE k C orc (.callO f as pm) σ H Q) :
    tA k C orc as σ H fun vs H1 => vs.length = as.length ∧ spF k C orc f pm.length (pm.map fun i => vs.getD i .non) H1 Q C8.E0 := by
  obtain ⟨F, G, fp, G', d, b, Ee, h, q⟩ := h
  rw [ev] at h
  obtain ⟨G1, r, h1, h⟩ := R.bind_inv h
  have ln := evA_len h1
  refine ⟨F, G, fp, G1, r, Ee, h1, fun H1 fp1 vs E1 T1 R1 => ⟨by rw [R1.length, ln], ?_⟩⟩
  unfold callOw at h
  split at h
  · rename_i ss hss
    split at h
    · rename_i os d' ho
      split at h
      · rename_i G2 hb
        cases h
        refine io_call E1 (R1.pick pm fun i hi => ?_) (by rw [List.length_map]) (outR_of hss) ho hb fun H' fp' v E' T' R' => q H' fp' v E' (T1.trans T') (fun m => by simp [Py.E.mf] at m) R'
        rw [ln]; exact of_decide_eq_true (List.all_eq_true.mp hp i hi)
      · cases h
    · cases h
  · cases h
variable {x : Str} {p pos : Pos} {e : Expr} {es : List Expr} {as : List Arg} {j jj : Nat}
theorem se_callO {f : Nat} {pm : List Nat} (c : Cal X.prog X.w X.K X.mg X.base jj x (spF k C orc f pm.length) []) (hr : Room j X.A) (hk : jj ≤ j) (hg : Gl X x) (hdb : (x == ("__debug__" : Str)) = false) (hs : (e :: es).all noStar = true)
    (hp : pm = List.range as.length) (ha : PA X (e :: es) (tA k C orc as)) : PE X (.Call (.Name x p) (e :: es) [] pos) (tE k C orc (.callO f as pm)) := by
  rw [List.all_cons, Bool.and_eq_true] at hs
  refine pe_imp (pe_c c hr hk hg ha hdb (star_cons hs.1 _ _) (star_any hs.2 _ _)) fun σ H Q h => ?_
  have h := callO_red (by rw [hp]; exact List.all_eq_true.mpr fun i hi => decide_eq_true (List.mem_range.mp hi)) h
  obtain ⟨F, G, fp, G', rs, Ee, h, q⟩ := h
  refine ⟨F, G, fp, G', rs, Ee, h, fun H' fp' vs E' T R => ?_⟩
  obtain ⟨hl, q⟩ := q H' fp' vs E' T R
  rw [hp, ← hl, range_pick] at q
  rw [List.append_nil, hp, ← hl]
  exact q
end
end Py
end
section
set_option Elab.async false
set_option linter.all false
set_option maxRecDepth 100000
set_option maxHeartbeats 4000000
namespace Py
open PySem PySem.Spec PyProof.Rows L2 C8
/-! ### lists and tuples, walked alike -/
def SqK (K : PySem.W.Frag) (q : Bool) (H : Hp) (a : Addr) (xs : List V) : Prop := match q with
  | true => SqL K H a xs
  | false => SqT K H a xs
def ItSt (q : Bool) (h : Heap) (it a : Addr) (i : Nat) : Prop := match q with
  | true => h.IsListIter it a i
  | false => h.IsTupleIter it a i
def SeqIs (q : Bool) (h : Heap) (a : Addr) (its : Array Value) : Prop := match q with
  | true => h.IsList a its
  | false => h.IsTuple a its
def itOb (q : Bool) (a : Addr) : Obj := match q with
  | true => { cls := .type "list_iterator", data := .fields #[.ref a, .int 0 0] }
  | false => { cls := .type "tuple_iterator", data := .fields #[.ref a, .int 0 0] }
theorem begins_k (q : Bool) (a : Addr) (its : Array Value) : Begins (.ref a) (itOb q a) (fun h => SeqIs q h a its) := by
  cases q
  · exact begins_tuple a its
  · exact begins_list a its
theorem draws_k {prog : Program} {w : World} {A : Around} (q : Bool) (hh : A.handled = none) (it a : Addr) (hne : a ≠ it) (its : Array Value) :
    Draws prog w A it [it, a] its.size (fun i v => its[i]? = some v) (fun i h => ItSt q h it a i ∧ SeqIs q h a its) := by
  cases q
  · exact Draws.tuple hh it a hne its
  · exact Draws.list hh it a hne its
theorem ItSt.obj {q : Bool} {h : Heap} {it a : Addr} {i : Nat} (s : ItSt q h it a i) : ∃ o, h.get? it = some o ∧ ∀ v, o.data ≠ .cell v := by
  cases q <;> (obtain ⟨o, e, _, d⟩ := s; exact ⟨o, e, fun v z => by rw [d] at z; cases z⟩)
theorem ItSt.keep {q : Bool} {h h' : Heap} {it a : Addr} {i : Nat} (s : ItSt q h it a i) (k : ∀ o, h.get? it = some o → h'.get? it = some o) : ItSt q h' it a i := by
  cases q <;> (obtain ⟨o, e, c, d⟩ := s; exact ⟨o, k o e, c, d⟩)
theorem itOb_st {q : Bool} {h : Heap} {it a : Addr} (e : h.get? it = some (itOb q a)) : ItSt q h it a 0 := by
  cases q <;> exact ⟨_, e, rfl, rfl⟩
section
variable {X : Cx} {pins : List (Addr × Obj)} {σ : St} {H : Hp} {s : Shared} {q : Bool} {a : Addr} {xs ys : List V}
theorem inv_seq (I : Inv X pins σ H s) (h : SqK X.K q H a xs) : ∃ its : List Value, Vals xs its ∧ SeqIs q s.heap a its.toArray := by
  cases q
  · obtain ⟨its, r, t, _⟩ := I.tuple h; exact ⟨its, r, t⟩
  · obtain ⟨its, r, t, _⟩ := I.list h; exact ⟨its, r, t.isList⟩
theorem inv_inj (I : Inv X pins σ H s) (h : SqK X.K q H a xs) (h' : SqK X.K q H a ys) : xs = ys := by
  cases q
  · exact I.tuple_inj h h'
  · exact I.list_inj h h'
theorem SeqIs.lt {q : Bool} {h : Heap} {a : Addr} {its : Array Value} (s : SeqIs q h a its) : a < h.objs.size := by
  cases q
  · obtain ⟨o, e, _⟩ := s; exact Heap.lt_size e
  · obtain ⟨o, e, _⟩ := s; exact Heap.lt_size e
theorem ItSt.lt {q : Bool} {h : Heap} {it a : Addr} {i : Nat} (s : ItSt q h it a i) : it < h.objs.size := by
  obtain ⟨o, e, _⟩ := s.obj; exact Heap.lt_size e
end
/-! ### zip of three -/
def Itz3 (K : PySem.W.Frag) (q1 q2 q3 : Bool) (a b c : Addr) (n : Nat) : L2.It :=
  ⟨fun i H => i < n ∧ ∃ xs ys zs, SqK K q1 H a xs ∧ SqK K q2 H b ys ∧ SqK K q3 H c zs ∧ n = min (min xs.length ys.length) zs.length,
   fun i H v H' => ∃ T x y z, v = .ref T ∧ H T = none ∧ H' = upd H T (.tup [x, y, z]) ∧ (∀ xs, SqK K q1 H a xs → xs[i]? = some x) ∧ (∀ xs, SqK K q2 H b xs → xs[i]? = some y) ∧ (∀ xs, SqK K q3 H c xs → xs[i]? = some z),
   fun i H => i = n ∧ ∃ xs ys zs, SqK K q1 H a xs ∧ SqK K q2 H b ys ∧ SqK K q3 H c zs ∧ n = min (min xs.length ys.length) zs.length⟩
structure Ap3 (z TI TO i1 i2 i3 a b c : Addr) : Prop where
  S : ZipSep3 z TI TO i1 i2 i3 [i1, a] [i2, b] [i3, c]
  n1 : a ≠ i1
  n2 : b ≠ i2
  n3 : c ≠ i3
theorem turn_zip3 {P : Program} {w : World} {K : PySem.W.Frag} {elts : List Expr} {kk : Nat} {tpos : Pos} {q1 q2 q3 : Bool} {a b c z TI TO i1 i2 i3 : Addr} {n : Nat} (D : Ap3 z TI TO i1 i2 i3 a b c) :
    Turn P w K (.Tuple elts kk tpos) (Itz3 K q1 q2 q3 a b c n) [z, TI, TO, i1, i2, i3] z (fun i h => IsZip h z TI TO .none ∧ IsTupOf3 h TI (.ref i1) (.ref i2) (.ref i3) ∧ (∃ a1 a2 a3, IsTupOf3 h TO a1 a2 a3) ∧ ItSt q1 h i1 a i ∧ ItSt q2 h i2 b i ∧ ItSt q3 h i3 c i) where
  mem := by simp
  obj := fun i h st x hx => by
    obtain ⟨hz, hTI, ⟨x1, y1, z1, hTO⟩, s1, s2, s3⟩ := st
    have e' : x = z ∨ x = TI ∨ x = TO ∨ x = i1 ∨ x = i2 ∨ x = i3 := by simpa using hx
    rcases e' with e | e | e | e | e | e <;> rw [e]
    · exact ⟨_, hz, fun v q => nomatch q⟩
    · exact ⟨_, hTI, fun v q => nomatch q⟩
    · exact ⟨_, hTO, fun v q => nomatch q⟩
    · exact s1.obj
    · exact s2.obj
    · exact s3.obj
  keep := fun i h h' st k => by
    obtain ⟨hz, hTI, ⟨x1, y1, z1, hTO⟩, s1, s2, s3⟩ := st
    exact ⟨k z (by simp) _ hz, k TI (by simp) _ hTI, ⟨x1, y1, z1, k TO (by simp) _ hTO⟩, s1.keep fun o e => k i1 (by simp) o e, s2.keep fun o e => k i2 (by simp) o e, s3.keep fun o e => k i3 (by simp) o e⟩
  item := by
    intro X hP hw hK hc i pins s σ H E I hf st hg
    subst hP hw hK
    obtain ⟨hz, hTI, ⟨x0, y0, z0, hTO⟩, s1, s2, s3⟩ := st
    obtain ⟨hi, xs, ys, zs, hx, hy, hzz, hn⟩ := hg
    obtain ⟨its1, r1, p1⟩ := inv_seq I hx
    obtain ⟨its2, r2, p2⟩ := inv_seq I hy
    obtain ⟨its3, r3, p3⟩ := inv_seq I hzz
    have l1 := r1.length
    have l2 := r2.length
    have l3 := r3.length
    have hzl : z < s.heap.objs.size := Heap.lt_size hz
    have hh : X.A.in1.handled = none := I.ok.hd hc
    refine wpAny_pyNext_zipD3_item D.S (draws_k q1 hh i1 a D.n1 its1.toArray) (draws_k q2 hh i2 b D.n2 its2.toArray) (draws_k q3 hh i3 c D.n3 its3.toArray) hz hTI hTO ⟨s1, p1⟩ ⟨s2, p2⟩ ⟨s3, p3⟩ (by simp; omega) (by simp; omega) (by simp; omega) fun u1 u2 u3 h' tk e1 e2 e3 z' TO' t1 t2 t3 hT hsz hk => ?_
    refine ⟨_, rfl, wpAny_letOwnedTupleGo_zip (s := { s with heap := h', toks := tk }) z' fun h'' z'' sb => ?_⟩
    have hT2 : h''.get? s.heap.objs.size = some { cls := .type "tuple", data := .seq #[u1, u2, u3] } := (sb.2 _ (Nat.ne_of_gt hzl)).trans hT
    obtain ⟨v1, e4, rv1⟩ : ∃ v, xs[i]? = some v ∧ RelV v u1 := by
      have h0 : its1[i]? = some u1 := by simpa using e1
      have hl : i < xs.length := by omega
      obtain ⟨u, e5, r5⟩ := r1.get (List.getElem?_eq_getElem hl)
      rw [h0] at e5; cases e5
      exact ⟨_, List.getElem?_eq_getElem hl, r5⟩
    obtain ⟨v2, e5, rv2⟩ : ∃ v, ys[i]? = some v ∧ RelV v u2 := by
      have h0 : its2[i]? = some u2 := by simpa using e2
      have hl : i < ys.length := by omega
      obtain ⟨u, e5, r5⟩ := r2.get (List.getElem?_eq_getElem hl)
      rw [h0] at e5; cases e5
      exact ⟨_, List.getElem?_eq_getElem hl, r5⟩
    obtain ⟨v3, e6, rv3⟩ : ∃ v, zs[i]? = some v ∧ RelV v u3 := by
      have h0 : its3[i]? = some u3 := by simpa using e3
      have hl : i < zs.length := by omega
      obtain ⟨u, e5, r5⟩ := r3.get (List.getElem?_eq_getElem hl)
      rw [h0] at e5; cases e5
      exact ⟨_, List.getElem?_eq_getElem hl, r5⟩
    have new : ObjOk X.prog X.w (upd H s.heap.objs.size (.tup [v1, v2, v3])) h'' s.heap.objs.size (.tup [v1, v2, v3]) :=
      ⟨by show 3 ≤ sizeLine; decide, [u1, u2, u3], .cons rv1 (.cons rv2 (.cons rv3 .nil)), ⟨_, hT2, rfl, _, rfl⟩⟩
    have I1 : Inv X pins σ (upd H s.heap.objs.size (.tup [v1, v2, v3])) { s with heap := h'', toks := tk } :=
      I.turnedNew (ch := [z, TI, TO, i1, i2, i3]) (fun x o hb e => (sb.2 x (fun q' => hb (by simp [q']))).trans (hk x o (fun q' => hb (by simp [q'])) (fun q' => hb (by simp [q'])) (fun q' => hb (by simp [q'])) (fun q' => hb (by simp [q'])) (fun q' => hb (by simp [q'])) e)) hf (Nat.le_refl _) new
    have nz : ∀ {x : Addr} {o : Obj}, x ≠ z → h'.get? x = some o → h''.get? x = some o := fun {x o} e h => (sb.2 x e).trans h
    refine ⟨.ref s.heap.objs.size, _, I1, rfl, ⟨_, v1, v2, v3, rfl, I.hok.fresh (Nat.le_refl _), rfl, fun l hl => by rw [inv_inj I hl hx]; exact e4, fun l hl => by rw [inv_inj I hl hy]; exact e5, fun l hl => by rw [inv_inj I hl hzz]; exact e6⟩,
      ⟨z'', ?_, ⟨u1, u2, u3, nz D.S.TOz TO'⟩, t1.1.keep fun o e => nz (Ne.symm D.S.zi1) e, t2.1.keep fun o e => nz (Ne.symm D.S.zi2) e, t3.1.keep fun o e => nz (Ne.symm D.S.zi3) e⟩, fun x hx => ?_⟩
    · exact nz D.S.TIz (hk _ _ D.S.TIz D.S.TITO D.S.TIi1 D.S.TIi2 D.S.TIi3 hTI)
    · have hlt : x < s.heap.objs.size := by
        have e' : x = z ∨ x = TI ∨ x = TO ∨ x = i1 ∨ x = i2 ∨ x = i3 := by simpa using hx
        rcases e' with e | e | e | e | e | e <;> rw [e]
        · exact hzl
        · exact Heap.lt_size hTI
        · exact Heap.lt_size hTO
        · exact s1.lt
        · exact s2.lt
        · exact s3.lt
      rw [upd_ne (Nat.ne_of_lt hlt)]
      exact (hf x hx).1
  done := by
    intro X hP hw hK hc i pins s σ H E I hf st hg
    subst hP hw hK
    obtain ⟨hz, hTI, ⟨x0, y0, z0, hTO⟩, s1, s2, s3⟩ := st
    obtain ⟨hi, xs, ys, zs, hx, hy, hzz, hn⟩ := hg
    obtain ⟨its1, r1, p1⟩ := inv_seq I hx
    obtain ⟨its2, r2, p2⟩ := inv_seq I hy
    obtain ⟨its3, r3, p3⟩ := inv_seq I hzz
    have l1 := r1.length
    have l2 := r2.length
    have l3 := r3.length
    have hh : X.A.in1.handled = none := I.ok.hd hc
    exact wpAny_pyNext_zipD3_end D.S (draws_k q1 hh i1 a D.n1 its1.toArray) (draws_k q2 hh i2 b D.n2 its2.toArray) (draws_k q3 hh i3 c D.n3 its3.toArray) hz hTI hTO ⟨s1, p1⟩ ⟨s2, p2⟩ ⟨s3, p3⟩ (by simp; omega) (by simp; omega) (by simp; omega) (by simp; omega) fun h' tk hk =>
      ⟨rfl, I.turnedL (ch := [z, TI, TO, i1, i2, i3]) (fun x o hb e => hk x o (fun q' => hb (by simp [q'])) (fun q' => hb (by simp [q'])) (fun q' => hb (by simp [q'])) (fun q' => hb (by simp [q'])) (fun q' => hb (by simp [q'])) e) hf⟩
  self := fun A i s Q E st h => wpAny_pyIter_zip st.1 h
def iZip3 (K : PySem.W.Frag) (ta : TA) : TI := fun σ H R => ta σ H fun vs H1 => ∃ q1 q2 q3 a b c xs ys zs, vs = [.ref a, .ref b, .ref c] ∧ SqK K q1 H1 a xs ∧ SqK K q2 H1 b ys ∧ SqK K q3 H1 c zs ∧ R (Itz3 K q1 q2 q3 a b c (min (min xs.length ys.length) zs.length)) H1
theorem pi_zip3 {X : Cx} {e e2 e3 : Expr} {ta : TA} {p pos tpos : Pos} {elts : List Expr} {kk : Nat} (hg : Gl X "zip") (hm : X.mg "zip" = none) (ha : PA X [e, e2, e3] ta)
    (hs : starEach [e, e2, e3] X.env = (false, eval e X.env) :: starEach [e2, e3] X.env) (hpl : (backTo pos (starEach [e2, e3] X.env)).any (·.1) = false) :
    PI X (.Tuple elts kk tpos) (.Call (.Name "zip" p) [e, e2, e3] [] pos) (iZip3 X.K ta) := by
  refine ⟨fun pins s σ H R I h => ?_⟩
  refine Call_ (ld_blt I hg hm PyProof.Rows.boot_zip (PyProof.Rows.callWith_type1 (thn (ha.run pos pins s σ H _ I h) fun us s1 ⟨vs, H1, I1, r1, q1⟩ => ?_) hs hpl))
  obtain ⟨q1, q2, q3, a, b, c, xs, ys, zs, ex, hx, hy, hz, q⟩ := q1
  subst ex
  cases r1 with
  | cons r rr =>
    cases rr with
    | cons r' rr =>
      cases rr with
      | cons r'' rr =>
        cases rr
        cases r
        cases r'
        cases r''
        obtain ⟨its1, rv1, p1⟩ := inv_seq I1 hx
        obtain ⟨its2, rv2, p2⟩ := inv_seq I1 hy
        obtain ⟨its3, rv3, p3⟩ := inv_seq I1 hz
        refine zip_begins3 (begins_k q1 a its1.toArray) (begins_k q2 b its2.toArray) (begins_k q3 c its3.toArray) p1 p2 p3 fun h' hz' hTI hTO g1 g2 g3 hsz hk => wpAny_pyIter_zip hz' ?_
        have I2 : Inv X pins σ H1 { s1 with heap := h' } := I1.kept (t' := s1.toks) hk
        have la := p1.lt
        have lb := p2.lt
        have lc := p3.lt
        have S : ZipSep3 (s1.heap.objs.size + 5) (s1.heap.objs.size + 3) (s1.heap.objs.size + 4) s1.heap.objs.size (s1.heap.objs.size + 1) (s1.heap.objs.size + 2) [s1.heap.objs.size, a] [s1.heap.objs.size + 1, b] [s1.heap.objs.size + 2, c] :=
          zip_sep3 (fun x hx => by rw [List.mem_singleton.mp hx]; exact la) (fun x hx => by rw [List.mem_singleton.mp hx]; exact lb) (fun x hx => by rw [List.mem_singleton.mp hx]; exact lc)
        refine ⟨s1.heap.objs.size + 5, [s1.heap.objs.size + 5, s1.heap.objs.size + 3, s1.heap.objs.size + 4, s1.heap.objs.size, s1.heap.objs.size + 1, s1.heap.objs.size + 2], _, _, H1, rfl, I2,
          turn_zip3 ⟨S, Nat.ne_of_lt la, Nat.ne_of_lt (Nat.lt_succ_of_lt lb), Nat.ne_of_lt (Nat.lt_succ_of_lt (Nat.lt_succ_of_lt lc))⟩, ⟨hz', hTI, ⟨_, _, _, hTO⟩, itOb_st g1, itOb_st g2, itOb_st g3⟩, fun x hx => ?_, q⟩
        have hle : s1.heap.objs.size ≤ x := by
          have e' : x = s1.heap.objs.size + 5 ∨ x = s1.heap.objs.size + 3 ∨ x = s1.heap.objs.size + 4 ∨ x = s1.heap.objs.size ∨ x = s1.heap.objs.size + 1 ∨ x = s1.heap.objs.size + 2 := by simpa using hx
          rcases e' with e | e | e | e | e | e <;> rw [e] <;> first | exact Nat.le_add_right _ _ | exact Nat.le_refl _
        exact I1.fpOk hle (I1.hok.fresh hle)
/-! ### zip of two -/
def Itz2 (K : PySem.W.Frag) (q1 q2 : Bool) (a b : Addr) (n : Nat) : L2.It :=
  ⟨fun i H => i < n ∧ ∃ xs ys, SqK K q1 H a xs ∧ SqK K q2 H b ys ∧ n = min xs.length ys.length,
   fun i H v H' => ∃ T x y, v = .ref T ∧ H T = none ∧ H' = upd H T (.tup [x, y]) ∧ (∀ xs, SqK K q1 H a xs → xs[i]? = some x) ∧ (∀ xs, SqK K q2 H b xs → xs[i]? = some y),
   fun i H => i = n ∧ ∃ xs ys, SqK K q1 H a xs ∧ SqK K q2 H b ys ∧ n = min xs.length ys.length⟩
structure Ap2 (z TI TO i1 i2 a b : Addr) : Prop where
  S : ZipSep2 z TI TO i1 i2 [i1, a] [i2, b]
  n1 : a ≠ i1
  n2 : b ≠ i2
theorem turn_zip2 {P : Program} {w : World} {K : PySem.W.Frag} {elts : List Expr} {kk : Nat} {tpos : Pos} {q1 q2 : Bool} {a b z TI TO i1 i2 : Addr} {n : Nat} (D : Ap2 z TI TO i1 i2 a b) :
    Turn P w K (.Tuple elts kk tpos) (Itz2 K q1 q2 a b n) [z, TI, TO, i1, i2] z (fun i h => IsZip h z TI TO .none ∧ IsTupOf2 h TI (.ref i1) (.ref i2) ∧ (∃ a1 a2, IsTupOf2 h TO a1 a2) ∧ ItSt q1 h i1 a i ∧ ItSt q2 h i2 b i) where
  mem := by simp
  obj := fun i h st x hx => by
    obtain ⟨hz, hTI, ⟨x1, y1, hTO⟩, s1, s2⟩ := st
    have e' : x = z ∨ x = TI ∨ x = TO ∨ x = i1 ∨ x = i2 := by simpa using hx
    rcases e' with e | e | e | e | e <;> rw [e]
    · exact ⟨_, hz, fun v q => nomatch q⟩
    · exact ⟨_, hTI, fun v q => nomatch q⟩
    · exact ⟨_, hTO, fun v q => nomatch q⟩
    · exact s1.obj
    · exact s2.obj
  keep := fun i h h' st k => by
    obtain ⟨hz, hTI, ⟨x1, y1, hTO⟩, s1, s2⟩ := st
    exact ⟨k z (by simp) _ hz, k TI (by simp) _ hTI, ⟨x1, y1, k TO (by simp) _ hTO⟩, s1.keep fun o e => k i1 (by simp) o e, s2.keep fun o e => k i2 (by simp) o e⟩
  item := by
    intro X hP hw hK hc i pins s σ H E I hf st hg
    subst hP hw hK
    obtain ⟨hz, hTI, ⟨x0, y0, hTO⟩, s1, s2⟩ := st
    obtain ⟨hi, xs, ys, hx, hy, hn⟩ := hg
    obtain ⟨its1, r1, p1⟩ := inv_seq I hx
    obtain ⟨its2, r2, p2⟩ := inv_seq I hy
    have l1 := r1.length
    have l2 := r2.length
    have hzl : z < s.heap.objs.size := Heap.lt_size hz
    have hh : X.A.in1.handled = none := I.ok.hd hc
    refine wpAny_pyNext_zipD2_item D.S (draws_k q1 hh i1 a D.n1 its1.toArray) (draws_k q2 hh i2 b D.n2 its2.toArray) hz hTI hTO ⟨s1, p1⟩ ⟨s2, p2⟩ (by simp; omega) (by simp; omega) fun u1 u2 h' tk e1 e2 z' TO' t1 t2 hT hsz hk => ?_
    refine ⟨_, rfl, wpAny_letOwnedTupleGo_zip (s := { s with heap := h', toks := tk }) z' fun h'' z'' sb => ?_⟩
    have hT2 : h''.get? s.heap.objs.size = some { cls := .type "tuple", data := .seq #[u1, u2] } := (sb.2 _ (Nat.ne_of_gt hzl)).trans hT
    obtain ⟨v1, e4, rv1⟩ : ∃ v, xs[i]? = some v ∧ RelV v u1 := by
      have h0 : its1[i]? = some u1 := by simpa using e1
      have hl : i < xs.length := by omega
      obtain ⟨u, e5, r5⟩ := r1.get (List.getElem?_eq_getElem hl)
      rw [h0] at e5; cases e5
      exact ⟨_, List.getElem?_eq_getElem hl, r5⟩
    obtain ⟨v2, e5, rv2⟩ : ∃ v, ys[i]? = some v ∧ RelV v u2 := by
      have h0 : its2[i]? = some u2 := by simpa using e2
      have hl : i < ys.length := by omega
      obtain ⟨u, e5, r5⟩ := r2.get (List.getElem?_eq_getElem hl)
      rw [h0] at e5; cases e5
      exact ⟨_, List.getElem?_eq_getElem hl, r5⟩
    have new : ObjOk X.prog X.w (upd H s.heap.objs.size (.tup [v1, v2])) h'' s.heap.objs.size (.tup [v1, v2]) :=
      ⟨by show 2 ≤ sizeLine; decide, [u1, u2], .cons rv1 (.cons rv2 .nil), ⟨_, hT2, rfl, _, rfl⟩⟩
    have I1 : Inv X pins σ (upd H s.heap.objs.size (.tup [v1, v2])) { s with heap := h'', toks := tk } :=
      I.turnedNew (ch := [z, TI, TO, i1, i2]) (fun x o hb e => (sb.2 x (fun q' => hb (by simp [q']))).trans (hk x o (fun q' => hb (by simp [q'])) (fun q' => hb (by simp [q'])) (fun q' => hb (by simp [q'])) (fun q' => hb (by simp [q'])) e)) hf (Nat.le_refl _) new
    have nz : ∀ {x : Addr} {o : Obj}, x ≠ z → h'.get? x = some o → h''.get? x = some o := fun {x o} e h => (sb.2 x e).trans h
    refine ⟨.ref s.heap.objs.size, _, I1, rfl, ⟨_, v1, v2, rfl, I.hok.fresh (Nat.le_refl _), rfl, fun l hl => by rw [inv_inj I hl hx]; exact e4, fun l hl => by rw [inv_inj I hl hy]; exact e5⟩,
      ⟨z'', ?_, ⟨u1, u2, nz D.S.TOz TO'⟩, t1.1.keep fun o e => nz (Ne.symm D.S.zi1) e, t2.1.keep fun o e => nz (Ne.symm D.S.zi2) e⟩, fun x hx => ?_⟩
    · exact nz D.S.TIz (hk _ _ D.S.TIz D.S.TITO D.S.TIi1 D.S.TIi2 hTI)
    · have hlt : x < s.heap.objs.size := by
        have e' : x = z ∨ x = TI ∨ x = TO ∨ x = i1 ∨ x = i2 := by simpa using hx
        rcases e' with e | e | e | e | e <;> rw [e]
        · exact hzl
        · exact Heap.lt_size hTI
        · exact Heap.lt_size hTO
        · exact s1.lt
        · exact s2.lt
      rw [upd_ne (Nat.ne_of_lt hlt)]
      exact (hf x hx).1
  done := by
    intro X hP hw hK hc i pins s σ H E I hf st hg
    subst hP hw hK
    obtain ⟨hz, hTI, ⟨x0, y0, hTO⟩, s1, s2⟩ := st
    obtain ⟨hi, xs, ys, hx, hy, hn⟩ := hg
    obtain ⟨its1, r1, p1⟩ := inv_seq I hx
    obtain ⟨its2, r2, p2⟩ := inv_seq I hy
    have l1 := r1.length
    have l2 := r2.length
    have hh : X.A.in1.handled = none := I.ok.hd hc
    exact wpAny_pyNext_zipD2_end D.S (draws_k q1 hh i1 a D.n1 its1.toArray) (draws_k q2 hh i2 b D.n2 its2.toArray) hz hTI hTO ⟨s1, p1⟩ ⟨s2, p2⟩ (by simp; omega) (by simp; omega) (by simp; omega) fun h' tk hk =>
      ⟨rfl, I.turnedL (ch := [z, TI, TO, i1, i2]) (fun x o hb e => hk x o (fun q' => hb (by simp [q'])) (fun q' => hb (by simp [q'])) (fun q' => hb (by simp [q'])) (fun q' => hb (by simp [q'])) e) hf⟩
  self := fun A i s Q E st h => wpAny_pyIter_zip st.1 h
def iZip2 (K : PySem.W.Frag) (ta : TA) : TI := fun σ H R => ta σ H fun vs H1 => ∃ q1 q2 a b xs ys, vs = [.ref a, .ref b] ∧ SqK K q1 H1 a xs ∧ SqK K q2 H1 b ys ∧ R (Itz2 K q1 q2 a b (min xs.length ys.length)) H1
theorem pi_zip2 {X : Cx} {e e2 : Expr} {ta : TA} {p pos tpos : Pos} {elts : List Expr} {kk : Nat} (hg : Gl X "zip") (hm : X.mg "zip" = none) (ha : PA X [e, e2] ta)
    (hs : starEach [e, e2] X.env = (false, eval e X.env) :: starEach [e2] X.env) (hpl : (backTo pos (starEach [e2] X.env)).any (·.1) = false) :
    PI X (.Tuple elts kk tpos) (.Call (.Name "zip" p) [e, e2] [] pos) (iZip2 X.K ta) := by
  refine ⟨fun pins s σ H R I h => ?_⟩
  refine Call_ (ld_blt I hg hm PyProof.Rows.boot_zip (PyProof.Rows.callWith_type1 (thn (ha.run pos pins s σ H _ I h) fun us s1 ⟨vs, H1, I1, r1, q1⟩ => ?_) hs hpl))
  obtain ⟨q1, q2, a, b, xs, ys, ex, hx, hy, q⟩ := q1
  subst ex
  cases r1 with
  | cons r rr =>
    cases rr with
    | cons r' rr =>
        cases rr
        cases r
        cases r'
        obtain ⟨its1, rv1, p1⟩ := inv_seq I1 hx
        obtain ⟨its2, rv2, p2⟩ := inv_seq I1 hy
        refine zip_begins2 (begins_k q1 a its1.toArray) (begins_k q2 b its2.toArray) p1 p2 fun h' hz' hTI hTO g1 g2 hsz hk => wpAny_pyIter_zip hz' ?_
        have I2 : Inv X pins σ H1 { s1 with heap := h' } := I1.kept (t' := s1.toks) hk
        have la := p1.lt
        have lb := p2.lt
        have S : ZipSep2 (s1.heap.objs.size + 4) (s1.heap.objs.size + 2) (s1.heap.objs.size + 3) s1.heap.objs.size (s1.heap.objs.size + 1) [s1.heap.objs.size, a] [s1.heap.objs.size + 1, b] :=
          zip_sep2 (fun x hx => by rw [List.mem_singleton.mp hx]; exact la) (fun x hx => by rw [List.mem_singleton.mp hx]; exact lb)
        refine ⟨s1.heap.objs.size + 4, [s1.heap.objs.size + 4, s1.heap.objs.size + 2, s1.heap.objs.size + 3, s1.heap.objs.size, s1.heap.objs.size + 1], _, _, H1, rfl, I2,
          turn_zip2 ⟨S, Nat.ne_of_lt la, Nat.ne_of_lt (Nat.lt_succ_of_lt lb)⟩, ⟨hz', hTI, ⟨_, _, hTO⟩, itOb_st g1, itOb_st g2⟩, fun x hx => ?_, q⟩
        have hle : s1.heap.objs.size ≤ x := by
          have e' : x = s1.heap.objs.size + 4 ∨ x = s1.heap.objs.size + 2 ∨ x = s1.heap.objs.size + 3 ∨ x = s1.heap.objs.size ∨ x = s1.heap.objs.size + 1 := by simpa using hx
          rcases e' with e | e | e | e | e <;> rw [e] <;> first | exact Nat.le_add_right _ _ | exact Nat.le_refl _
        exact I1.fpOk hle (I1.hok.fresh hle)
end Py
end
section
set_option Elab.async false
set_option linter.all false
set_option maxRecDepth 100000
set_option maxHeartbeats 4000000
namespace Py
open PySem PySem.Spec PyProof.Rows L2 C8
/-- a walk yields the items -/
def Wk (k : Ki) (F : Addr → Prop) (fp : Fp) (H : Hp) (J : L2.It) (ds : List D) (b : Bool) : Prop :=
  ∀ H2 fp2 F2, (∀ a, F2 a → F a ∨ H a = none) → Pm (Own F2 fp2) H2 → Tr fp H fp2 H2 → (b = true → Same H H2) →
    J.stop ds.length H2 ∧ ∀ (i : Nat) d, ds[i]? = some d → J.go i H2 ∧ ∀ x H3, J.yld i H2 x H3 → Same H2 H3 ∧ RepX k (Own F2 fp2) H3 x d
def tI (k : Ki) (C : Ctx) (orc : Orc) (it : Py.It) : TI := fun σ H R => ∃ F G fp G' ds b, EnvOk k F σ H G fp ∧ evIt C orc it G = .ok G' (ds, b) ∧ ∀ J H' fp', EnvOk k F σ H' G' fp' → Tr fp H fp' H' → (it.mf = true → Same H H') → Wk k F fp' H' J ds b → R J H'
/-- a list or a tuple to be walked -/
def SqRep (k : Ki) (F : Addr → Prop) (fp : Fp) (H : Hp) (v : V) (ds : List D) (b : Bool) : Prop :=
  ∃ q a vs, v = .ref a ∧ SqK k.K q H a vs ∧ RepL k (Own F fp) H vs ds ∧ ∀ H2 fp2 F2, (∀ a, F2 a → F a ∨ H a = none) → Pm (Own F2 fp2) H2 → Tr fp H fp2 H2 → (b = true → Same H H2) → SqK k.K q H2 a vs ∧ RepL k (Own F2 fp2) H2 vs ds
def tSq (k : Ki) (C : Ctx) (orc : Orc) (e : E) : TE := fun σ H Q => ∃ F G fp G' ds b, EnvOk k F σ H G fp ∧ evSq C orc e G = .ok G' (ds, b) ∧ ∀ H' fp' v, EnvOk k F σ H' G' fp' → Tr fp H fp' H' → (e.mf = true → Same H H') → SqRep k F fp' H' v ds b → Q v H'
section
variable {k : Ki} {C : Ctx} {orc : Orc} {X : Cx} {F : Addr → Prop} {P : Addr → Prop} {σ : St} {H H' : Hp} {G : Py.Env} {fp fp' : Fp}
theorem own_later (t : Tr fp H fp' H') {F2 : Addr → Prop} (hF : ∀ a, F2 a → F a ∨ H a = none) : ∀ a, Own F2 fp' a → Own F fp a ∨ H a = none := fun a q => by
  rcases q with q | ⟨i, q⟩
  · exact (hF a q).imp (fun z => .inl z) id
  · exact (t.new i a q).imp (fun z => .inr z) id
theorem repL_later (pm : Pm (Own F fp) H) (t : Tr fp H fp' H') {F2 : Addr → Prop} (hF : ∀ a, F2 a → F a ∨ H a = none) {vs : List V} {ds : List D} (r : RepL k (Own F fp) H vs ds) : RepL k (Own F2 fp') H' vs ds := r.mono t.ext pm (own_later t hF)
theorem RepMs.leavesR : ∀ {vs : List V} {ms : List M} {as : List Addr} {ds : List D}, RepMs k P H vs ms as → M.leaves ms = some ds → RepL k P H vs ds ∧ as = []
  | _, _, _, _, .nil, h => by cases h; exact ⟨.nil, rfl⟩
  | _, _, _, ds, .cons (m := m) h t, e => by
    cases m with
    | leaf d =>
      obtain ⟨ds', e1, rfl⟩ := Option.map_eq_some_iff.mp (show (M.leaves _).map (d :: ·) = some ds from e)
      obtain ⟨r, ea⟩ := t.leavesR e1
      cases h with
      | leaf h => exact ⟨.cons h r, by rw [ea]; rfl⟩
    | _ => cases e
/-- a clean list or tuple -/
theorem items_sq (pm : Pm (Own F fp) H) {v : V} {d : D} {ds : List D} (r : RepX k (Own F fp) H v d) (h : items d = some ds) : SqRep k F fp H v ds false := by
  cases r with
  | @tup a vs _ ht rl =>
    cases h
    refine ⟨false, a, vs, rfl, ht, rl, fun H2 fp2 F2 hF pm2 t _ => ⟨sqt_mono t.ext pm ht, repL_later pm t hF rl⟩⟩
  | @fro a vs _ ht rl =>
    cases h
    refine ⟨true, a, vs, rfl, ht.sq, rl, fun H2 fp2 F2 hF pm2 t _ => ⟨(fro_mono t.ext pm ht).sq, repL_later pm t hF rl⟩⟩
  | @lst a vs _ ht rl =>
    cases h
    refine ⟨true, a, vs, rfl, .inl (.inl ht.1), rl, fun H2 fp2 F2 hF pm2 t _ => ⟨.inl (.inl (t.ext a _ ht.1 ht.2)), repL_later pm t hF rl⟩⟩
  | _ => cases h
/-- a borrowed one whose items are immutable -/
theorem items_sqB (pm : Pm F H) (pmO : Pm (Own F fp) H) {v : V} {d : D} {ds : List D} (r : RepX k F H v d) (h : items d = some ds) (hi : D.immL ds = true) : SqRep k F fp H v ds true := by
  cases r with
  | @tup a vs _ ht rl =>
    cases h
    exact ⟨false, a, vs, rfl, ht, RepL.imm rl hi, fun H2 fp2 F2 hF pm2 t s => ⟨sqt_mono (P := F) (same_ext (s rfl)) pm ht, repL_later pmO t hF (RepL.imm rl hi)⟩⟩
  | @fro a vs _ ht rl =>
    cases h
    exact ⟨true, a, vs, rfl, ht.sq, RepL.imm rl hi, fun H2 fp2 F2 hF pm2 t s => ⟨(fro_mono (P := F) (same_ext (s rfl)) pm ht).sq, repL_later pmO t hF (RepL.imm rl hi)⟩⟩
  | @lst a vs _ ht rl =>
    cases h
    exact ⟨true, a, vs, rfl, .inl (.inl ht.1), RepL.imm rl hi, fun H2 fp2 F2 hF pm2 t s => ⟨.inl (.inl (s rfl _ _ ht.1)), repL_later pmO t hF (RepL.imm rl hi)⟩⟩
  | _ => cases h
theorem seq_sq (pm : Pm (Own F fp) H) {v : V} {m : M} {ds : List D} {b : Bool} {as : List Addr} (r : RepM k (Own F fp) H v m as) (h : m.seq = some (ds, b)) : SqRep k F fp H v ds b := by
  cases r with
  | leaf r =>
    obtain ⟨ds', h1, h2⟩ := Option.map_eq_some_iff.mp (show (items _).map (fun ds => (ds, false)) = some (ds, b) from h)
    cases h2
    exact items_sq pm r h1
  | @lst a vs ms _ ha rs =>
    obtain ⟨ds', h1, h2⟩ := Option.map_eq_some_iff.mp (show (M.leaves ms).map (fun ds => (ds, true)) = some (ds, b) from h)
    cases h2
    have rl := (rs.leavesR h1).1
    exact ⟨true, a, vs, rfl, .inl (.inl ha), rl, fun H2 fp2 F2 hF pm2 t s => ⟨.inl (.inl (s rfl _ _ ha)), repL_later pm t hF rl⟩⟩
  | _ => cases h
theorem evSq_ev {e : E} (hn : notPth e = true) (G : Py.Env) : evSq C orc e G = (ev C orc e G).bind fun G1 v => .ofO G1 ((items v.1).bind fun ds => if v.2 && !D.immL ds then none else some (ds, v.2)) := by
  cases e <;> first | (cases hn; done) | simp only [evSq]
theorem sq_e {e : E} {o : Expr} (hn : notPth e = true) (he : PE X o (tE k C orc e)) : PE X o (tSq k C orc e) := by
  refine pe_imp he fun σ H Q ⟨F, G, fp, G', ds, b, Ee, h, q⟩ => ?_
  rw [evSq_ev hn] at h
  obtain ⟨G1, x, h1, h⟩ := R.bind_inv h
  obtain ⟨h3, rfl⟩ := R.ofO_inv h
  obtain ⟨ds', h4, h5⟩ := Option.bind_eq_some_iff.mp h3
  refine ⟨F, G, fp, G1, x.1, x.2, Ee, h1, fun H1 fp1 v E1 T1 S1 R1 => q H1 fp1 v E1 T1 S1 ?_⟩
  split at h5
  · cases h5
  · rename_i hc
    cases h5
    obtain ⟨xd, xb⟩ := x
    cases xb with
    | false => exact items_sq E1.pm R1 h4
    | true => exact items_sqB (E1.pmB true) E1.pm R1 h4 (by simpa using hc)
theorem sq_p {i : Nat} {gs : List Nat} {o : Expr} (ho : PE X o (tP k i gs)) : PE X o (tSq k C orc (.pth i gs)) := by
  refine pe_imp ho fun σ H Q ⟨F, G, fp, G', ds, b, Ee, h, q⟩ => ?_
  rw [evSq] at h
  obtain ⟨h3, rfl⟩ := R.ofO_inv h
  obtain ⟨m, h4, h5⟩ := Option.bind_eq_some_iff.mp h3
  obtain ⟨v, u, as, e, hp, r, sub⟩ := Ee.read h4
  exact ⟨v, u, e, hp, q H fp u Ee (.refl _ _) (fun _ => ssame) (seq_sq Ee.pm r h5)⟩
theorem SqRep.tr (E1 : EnvOk k F σ H G fp) (t : Tr fp H fp' H') (pm' : Pm (Own F fp') H') {v : V} {ds : List D} {b : Bool} (r : SqRep k F fp H v ds b) (s : b = true → Same H H') : SqRep k F fp' H' v ds b := by
  obtain ⟨q, a, vs, e, _, _, l⟩ := r
  obtain ⟨l1, l2⟩ := l H' fp' F (fun a z => .inl z) pm' t s
  exact ⟨q, a, vs, e, l1, l2, fun H2 fp2 F2 hF pm2 t2 s2 => l H2 fp2 F2 (fun a z => (hF a z).imp id fun z => t.stay a z) pm2 (t.trans t2) fun hb => same_trans (s hb) (s2 hb)⟩
end
end Py
end
section
set_option Elab.async false
set_option linter.all false
set_option maxRecDepth 100000
set_option maxHeartbeats 4000000
namespace Py
open PySem PySem.Spec PyProof.Rows L2 C8
def Itk (K : PySem.W.Frag) (q : Bool) (a : Addr) : L2.It := match q with
  | true => Itl K a
  | false => Itt K a
def iSeq (K : PySem.W.Frag) (tl : TE) : TI := fun σ H R => tl σ H fun x H1 => ∃ q a xs, x = .ref a ∧ SqK K q H1 a xs ∧ R (Itk K q a) H1
theorem pi_seq {X : Cx} {tg l : Expr} {tl : TE} (hl : PE X l tl) : PI X tg l (iSeq X.K tl) := by
  refine ⟨fun pins s σ H R I h => ?_⟩
  refine thn (hl.run pins s σ H _ I h) fun v s1 ⟨x, H1, I1, r1, q, a, xs, e, hq, qq⟩ => ?_
  subst e
  cases r1
  have fresh : FpOk X pins H1 s1.heap.objs.size := I1.fpOk (Nat.le_refl _) (I1.hok.fresh (Nat.le_refl _))
  cases q with
  | true =>
    obtain ⟨its, rv, p, hz⟩ := I1.list hq
    refine wpAny_pyIter_list p.isList ?_
    exact ⟨_, [s1.heap.objs.size], _, _, H1, rfl, I1.kept (t' := s1.toks) fun b o e => Heap.get?_push_of_some _ e, turn_list a _, ⟨_, Heap.get?_push_size _ rfl, rfl, rfl⟩, fun b hb => by rw [List.mem_singleton.mp hb]; exact fresh, qq⟩
  | false =>
    obtain ⟨its, rv, p, hz⟩ := I1.tuple hq
    refine wpAny_pyIter_tuple (show s1.heap.IsTuple a its.toArray from p) ?_
    exact ⟨_, [s1.heap.objs.size], _, _, H1, rfl, I1.kept (t' := s1.toks) fun b o e => Heap.get?_push_of_some _ e, turn_tuple a _, ⟨_, Heap.get?_push_size _ rfl, rfl, rfl⟩, fun b hb => by rw [List.mem_singleton.mp hb]; exact fresh, qq⟩
section
variable {k : Ki} {C : Ctx} {orc : Orc} {X : Cx} {F : Addr → Prop} {P : Addr → Prop} {σ : St} {H H' : Hp} {G : Py.Env} {fp fp' : Fp}
theorem wk_seq {a : Addr} {q : Bool} {vs : List V} {ds : List D} {b : Bool} (l : ∀ H2 fp2 F2, (∀ a, F2 a → F a ∨ H a = none) → Pm (Own F2 fp2) H2 → Tr fp H fp2 H2 → (b = true → Same H H2) → SqK k.K q H2 a vs ∧ RepL k (Own F2 fp2) H2 vs ds) : Wk k F fp H (Itk k.K q a) ds b := by
  intro H2 fp2 F2 hF pm2 t s
  obtain ⟨l1, l2⟩ := l H2 fp2 F2 hF pm2 t s
  cases q with
  | true =>
    refine ⟨⟨vs, l1, by rw [l2.length]; exact Nat.le_refl _⟩, fun i d hd => ?_⟩
    obtain ⟨v, e, r⟩ := l2.get hd
    exact ⟨⟨vs, v, l1, e⟩, fun x H3 y => ⟨by rw [y.1]; exact ssame, by
      have := y.2 vs l1
      rw [e] at this; cases this
      rw [y.1]; exact r⟩⟩
  | false =>
    refine ⟨⟨vs, l1, by rw [l2.length]; exact Nat.le_refl _⟩, fun i d hd => ?_⟩
    obtain ⟨v, e, r⟩ := l2.get hd
    exact ⟨⟨vs, v, l1, e⟩, fun x H3 y => ⟨by rw [y.1]; exact ssame, by
      have := y.2 vs l1
      rw [e] at this; cases this
      rw [y.1]; exact r⟩⟩
theorem si_e (B : XB k X) {tg l : Expr} {e : E} (hl : PE X l (tSq k C orc e)) : PI X tg l (tI k C orc (.e e)) := by
  refine pi_imp (pi_seq hl) fun σ H RR ⟨F, G, fp, G', ds, b, Ee, h, q⟩ => ?_
  rw [evIt] at h
  refine ⟨F, G, fp, G', ds, b, Ee, h, fun H1 fp1 v E1 T1 S1 r => ?_⟩
  obtain ⟨qq, a, vs, e, l1, _, l⟩ := r
  exact ⟨qq, a, vs, e, by rw [B.K]; exact l1, by rw [B.K]; exact q _ H1 fp1 E1 T1 S1 (wk_seq l)⟩
theorem rng_get {lo hi : Int} {i : Nat} {d : D} (h : (rangeD lo hi)[i]? = some d) : i < (hi - lo).toNat ∧ d = .int (lo + i) := by
  unfold rangeD at h
  rw [List.getElem?_map] at h
  obtain ⟨j, h1, rfl⟩ := Option.map_eq_some_iff.mp h
  obtain ⟨h2, h3⟩ := List.getElem?_eq_some_iff.mp h1
  rw [List.length_range] at h2
  rw [List.getElem_range] at h3
  exact ⟨h2, by rw [h3]⟩
theorem rng_len (lo hi : Int) : (rangeD lo hi).length = (hi - lo).toNat := by unfold rangeD; rw [List.length_map, List.length_range]
theorem wk_rng {lo hi : Int} {b : Bool} : Wk k F fp H (Itr lo (hi - lo).toNat) (rangeD lo hi) b := fun H2 fp2 F2 hF pm2 t s =>
  ⟨by rw [rng_len]; exact Nat.le_refl _, fun i d hd => by
    obtain ⟨h1, rfl⟩ := rng_get hd
    exact ⟨h1, fun x H3 y => ⟨by rw [y.1]; exact ssame, by rw [y.2]; exact .int _⟩⟩⟩
theorem rngOk_bd {i : Int} (h : rngOk i = true) : -(2 ^ 62) ≤ i ∧ i < 2 ^ 62 := by
  unfold rngOk at h
  have := ltp_int h
  omega
variable {tg a b c : Expr} {ea eb ec : E} {p pos p2 pos2 : Pos}
theorem star1 {a : Expr} (h : noStar a = true) (env : PySem.Env) : starEach [a] env = [(false, eval a env)] := star_cons h [] env
theorem asInt_some {d : D} {i : Int} (h : d.asInt = some i) : d = .int i := by
  cases d <;> simp [D.asInt] at h
  rw [h]
theorem si_rng1 (hg : Gl X "range") (hm : X.mg "range" = none) (hs : noStar a = true) (ha : PE X a (tE k C orc ea)) : PI X tg (.Call (.Name "range" p) [a] [] pos) (tI k C orc (.rng1 ea)) := by
  refine pi_imp (pi_range1 hg hm (one_red hs ha) (star1 hs _)) fun σ H RR ⟨F, G, fp, G', ds, b, Ee, h, q⟩ => ?_
  rw [evIt] at h
  obtain ⟨G1, x, h1, h⟩ := R.bind_inv h
  obtain ⟨h3, rfl⟩ := R.ofO_inv h
  obtain ⟨i, h4, h5⟩ := Option.bind_eq_some_iff.mp h3
  split at h5
  · rename_i hb
    cases h5
    obtain ⟨b1, b2⟩ := rngOk_bd hb
    refine ⟨F, G, fp, G1, x.1, x.2, Ee, h1, fun H1 fp1 v E1 T1 S1 R1 => ⟨i, ?_, b1, b2, ?_⟩⟩
    · rw [asInt_some h4] at R1
      rw [(show RepX k _ H1 v (.int i) from R1).int_inv]
    · have := q (Itr 0 (i - 0).toNat) H1 fp1 E1 T1 (fun m => S1 (by simpa [Py.It.mf] using m)) wk_rng
      simpa using this
  · cases h5
theorem si_rng2 (hg : Gl X "range") (hm : X.mg "range" = none) (hs : noStar a = true) (hs2 : noStar b = true) (ha : PE X a (tE k C orc ea)) (hb : PE X b (tE k C orc eb)) : PI X tg (.Call (.Name "range" p) [a, b] [] pos) (tI k C orc (.rng2 ea eb)) := by
  refine pi_imp (pi_range2 hg hm (pa_cons ha (one_red hs2 hb) (star_cons hs _ _)) (by rw [star_cons hs, star1 hs2]) (star1 hs2 _)) fun σ H RR ⟨F, G, fp, G', ds, bb, Ee, h, q⟩ => ?_
  rw [evIt] at h
  obtain ⟨G1, x, h1, h⟩ := R.bind_inv h
  obtain ⟨G2, y, h2, h⟩ := R.bind_inv h
  obtain ⟨h3, rfl⟩ := R.ofO_inv h
  obtain ⟨i, h4, h5⟩ := Option.bind_eq_some_iff.mp h3
  obtain ⟨j, h6, h7⟩ := Option.bind_eq_some_iff.mp h5
  split at h7
  · rename_i hb
    cases h7
    rw [Bool.and_eq_true] at hb
    obtain ⟨b1, b2⟩ := rngOk_bd hb.1
    obtain ⟨b3, b4⟩ := rngOk_bd hb.2
    refine ⟨F, G, fp, G1, x.1, x.2, Ee, h1, fun H1 fp1 v E1 T1 S1 R1 => ⟨F, G1, fp1, G2, y.1, y.2, E1, h2, fun H2 fp2 w E2 T2 S2 R2 => ⟨i, j, ?_, ⟨b1, b2, b3, b4⟩, ?_⟩⟩⟩
    · rw [asInt_some h4] at R1
      rw [asInt_some h6] at R2
      rw [(show RepX k _ H1 v (.int i) from R1).int_inv, (show RepX k _ H2 w (.int j) from R2).int_inv]
    · exact q _ H2 fp2 E2 (T1.trans T2) (fun m => by
        simp only [Py.It.mf, Bool.and_eq_true] at m
        exact same_trans (S1 m.1) (S2 m.2)) wk_rng
  · cases h7
/-! zip -/
theorem zipD_get : ∀ {xs ys : List D} {i : Nat} {d : D}, (zipD xs ys)[i]? = some d → ∃ x y, xs[i]? = some x ∧ ys[i]? = some y ∧ d = .tup [x, y]
  | [], ys, i, d, h => by simp [zipD] at h
  | x :: xs, [], i, d, h => by simp [zipD] at h
  | x :: xs, y :: ys, 0, d, h => by simp [zipD] at h; exact ⟨x, y, rfl, rfl, h.symm⟩
  | x :: xs, y :: ys, i + 1, d, h => by
    obtain ⟨x', y', h1, h2, h3⟩ := zipD_get (xs := xs) (ys := ys) (i := i) (d := d) (by simpa [zipD] using h)
    exact ⟨x', y', by simpa using h1, by simpa using h2, h3⟩
theorem zipD_len : ∀ (xs ys : List D), (zipD xs ys).length = min xs.length ys.length
  | [], ys => by simp [zipD]
  | x :: xs, [] => by simp [zipD]
  | x :: xs, y :: ys => by simp only [zipD, List.length_cons, zipD_len xs ys]; omega
theorem zipD3_get : ∀ {xs ys zs : List D} {i : Nat} {d : D}, (zipD3 xs ys zs)[i]? = some d → ∃ x y z, xs[i]? = some x ∧ ys[i]? = some y ∧ zs[i]? = some z ∧ d = .tup [x, y, z]
  | [], ys, zs, i, d, h => by simp [zipD3] at h
  | x :: xs, [], zs, i, d, h => by simp [zipD3] at h
  | x :: xs, y :: ys, [], i, d, h => by simp [zipD3] at h
  | x :: xs, y :: ys, z :: zs, 0, d, h => by simp [zipD3] at h; exact ⟨x, y, z, rfl, rfl, rfl, h.symm⟩
  | x :: xs, y :: ys, z :: zs, i + 1, d, h => by
    obtain ⟨x', y', z', h1, h2, h3, h4⟩ := zipD3_get (xs := xs) (ys := ys) (zs := zs) (i := i) (d := d) (by simpa [zipD3] using h)
    exact ⟨x', y', z', by simpa using h1, by simpa using h2, by simpa using h3, h4⟩
theorem zipD3_len : ∀ (xs ys zs : List D), (zipD3 xs ys zs).length = min (min xs.length ys.length) zs.length
  | [], ys, zs => by simp [zipD3]
  | x :: xs, [], zs => by simp [zipD3]
  | x :: xs, y :: ys, [] => by simp [zipD3]
  | x :: xs, y :: ys, z :: zs => by simp only [zipD3, List.length_cons, zipD3_len xs ys zs]; omega
theorem SqRep.get {v : V} {ds : List D} {b : Bool} (r : SqRep k F fp H v ds b) : ∃ q a vs, v = .ref a ∧ SqK k.K q H a vs ∧ vs.length = ds.length ∧ ∀ H2 fp2 F2, (∀ a, F2 a → F a ∨ H a = none) → Pm (Own F2 fp2) H2 → Tr fp H fp2 H2 → (b = true → Same H H2) → SqK k.K q H2 a vs ∧ RepL k (Own F2 fp2) H2 vs ds := by
  obtain ⟨q, a, vs, e, l1, l2, l⟩ := r
  exact ⟨q, a, vs, e, l1, l2.length, l⟩
theorem pm_none {P : Addr → Prop} (pm : Pm P H) {T : Addr} (h : H T = none) : ¬ P T := pm_free pm h
theorem si_zip (B : XB k X) {elts : List Expr} {kk : Nat} {tpos : Pos} (hg : Gl X "zip") (hm : X.mg "zip" = none) (hs : noStar a = true) (hs2 : noStar b = true) (ha : PE X a (tSq k C orc ea)) (hb : PE X b (tSq k C orc eb)) :
    PI X (.Tuple elts kk tpos) (.Call (.Name "zip" p) [a, b] [] pos) (tI k C orc (.zip ea eb)) := by
  have hpa : PA X [a, b] (tCons (tSq k C orc ea) (tCons (tSq k C orc eb) tNil)) := pa_cons ha (pa_cons hb pa_nil (star_cons hs2 _ _)) (star_cons hs _ _)
  refine pi_imp (pi_zip2 hg hm hpa (star_cons hs _ _) (by rw [star1 hs2]; rfl)) fun σ H RR ⟨F, G, fp, G', ds, bb, Ee, h, q⟩ => ?_
  rw [evIt] at h
  obtain ⟨G1, x, h1, h⟩ := R.bind_inv h
  obtain ⟨hb1, h⟩ := ite_bad h
  obtain ⟨G2, y, h2, h⟩ := R.bind_inv h
  cases h
  refine ⟨F, G, fp, G1, x.1, x.2, Ee, h1, fun H1 fp1 v E1 T1 S1 R1 => ⟨F, G1, fp1, _, y.1, y.2, E1, h2, fun H2 fp2 w E2 T2 S2 R2 => ?_⟩⟩
  obtain ⟨q1, a1, vs, e1, l1, n1, L1⟩ := (R1.tr E1 T2 E2.pm fun z => S2 (bor hb1 z)).get
  obtain ⟨q2, a2, ws, e2, l2, n2, L2⟩ := R2.get
  subst e1
  subst e2
  refine ⟨q1, q2, a1, a2, vs, ws, rfl, by rw [B.K]; exact l1, by rw [B.K]; exact l2, ?_⟩
  refine q _ H2 fp2 E2 (T1.trans T2) (fun m => by
    simp only [Py.It.mf, Bool.and_eq_true] at m
    exact same_trans (S1 m.1) (S2 m.2)) fun H3 fp3 F3 hF pm3 t s => ?_
  obtain ⟨m1, r1⟩ := L1 H3 fp3 F3 hF pm3 t fun z => s (by rw [z]; rfl)
  obtain ⟨m2, r2⟩ := L2 H3 fp3 F3 hF pm3 t fun z => s (by rw [z, Bool.or_true])
  rw [B.K, zipD_len, ← n1, ← n2]
  refine ⟨⟨rfl, vs, ws, m1, m2, rfl⟩, fun i d hd => ?_⟩
  obtain ⟨d1, d2, g1, g2, rfl⟩ := zipD_get hd
  obtain ⟨v1, g3, rv1⟩ := r1.get g1
  obtain ⟨v2, g4, rv2⟩ := r2.get g2
  have i1 := (List.getElem?_eq_some_iff.mp g3).1
  have i2 := (List.getElem?_eq_some_iff.mp g4).1
  refine ⟨⟨by omega, vs, ws, m1, m2, rfl⟩, fun u H4 ⟨T, x', y', e5, hT, e6, f1, f2⟩ => ?_⟩
  have f1 := f1 vs m1
  have f2 := f2 ws m2
  rw [g3] at f1; cases f1
  rw [g4] at f2; cases f2
  subst e5
  subst e6
  have sm : Same H3 (upd H3 T (.tup [v1, v2])) := same_new hT
  exact ⟨sm, .tup (.inl (.inl upd_same)) (.cons (rv1.mono (same_ext sm) pm3 fun a z => .inl z) (.cons (rv2.mono (same_ext sm) pm3 fun a z => .inl z) .nil))⟩
theorem si_zip3 (B : XB k X) {elts : List Expr} {kk : Nat} {tpos : Pos} (hg : Gl X "zip") (hm : X.mg "zip" = none) (hs : noStar a = true) (hs2 : noStar b = true) (hs3 : noStar c = true) (ha : PE X a (tSq k C orc ea)) (hb : PE X b (tSq k C orc eb)) (hc : PE X c (tSq k C orc ec)) :
    PI X (.Tuple elts kk tpos) (.Call (.Name "zip" p) [a, b, c] [] pos) (tI k C orc (.zip3 ea eb ec)) := by
  have hpa : PA X [a, b, c] (tCons (tSq k C orc ea) (tCons (tSq k C orc eb) (tCons (tSq k C orc ec) tNil))) := pa_cons ha (pa_cons hb (pa_cons hc pa_nil (star_cons hs3 _ _)) (star_cons hs2 _ _)) (star_cons hs _ _)
  refine pi_imp (pi_zip3 hg hm hpa (star_cons hs _ _) (by rw [star_cons hs2, star1 hs3]; rfl)) fun σ H RR ⟨F, G, fp, G', ds, bb, Ee, h, q⟩ => ?_
  rw [evIt] at h
  obtain ⟨G1, x, h1, h⟩ := R.bind_inv h
  obtain ⟨hb1, h⟩ := ite_bad h
  obtain ⟨G2, y, h2, h⟩ := R.bind_inv h
  obtain ⟨hb2, h⟩ := ite_bad h
  obtain ⟨G3, z, h3, h⟩ := R.bind_inv h
  cases h
  refine ⟨F, G, fp, G1, x.1, x.2, Ee, h1, fun H1 fp1 v E1 T1 S1 R1 => ⟨F, G1, fp1, G2, y.1, y.2, E1, h2, fun H2 fp2 w E2 T2 S2 R2 => ⟨F, G2, fp2, _, z.1, z.2, E2, h3, fun H2' fp2' w' E2' T2' S2' R3 => ?_⟩⟩⟩
  have bm : x.2 = true → eb.mf = true ∧ ec.mf = true := fun z => by have := bor hb1 z; simpa using this
  obtain ⟨q1, a1, vs, e1, l1, n1, L1⟩ := ((R1.tr E1 T2 E2.pm fun z => S2 (bm z).1).tr E2 T2' E2'.pm fun z => S2' (bm z).2).get
  obtain ⟨q2, a2, ws, e2, l2, n2, L2⟩ := (R2.tr E2 T2' E2'.pm fun z => S2' (bor hb2 z)).get
  obtain ⟨q3, a3, us, e3, l3, n3, L3⟩ := R3.get
  subst e1
  subst e2
  subst e3
  refine ⟨q1, q2, q3, a1, a2, a3, vs, ws, us, rfl, by rw [B.K]; exact l1, by rw [B.K]; exact l2, by rw [B.K]; exact l3, ?_⟩
  refine q _ H2' fp2' E2' ((T1.trans T2).trans T2') (fun m => by
    simp only [Py.It.mf, Bool.and_eq_true] at m
    exact same_trans (same_trans (S1 m.1) (S2 m.2.1)) (S2' m.2.2)) fun H3 fp3 F3 hF pm3 t s => ?_
  obtain ⟨m1, r1⟩ := L1 H3 fp3 F3 hF pm3 t fun z => s (by rw [z]; rfl)
  obtain ⟨m2, r2⟩ := L2 H3 fp3 F3 hF pm3 t fun z => s (by rw [z]; simp)
  obtain ⟨m3, r3⟩ := L3 H3 fp3 F3 hF pm3 t fun z => s (by rw [z]; simp)
  rw [B.K, zipD3_len, ← n1, ← n2, ← n3]
  refine ⟨⟨rfl, vs, ws, us, m1, m2, m3, rfl⟩, fun i d hd => ?_⟩
  obtain ⟨d1, d2, d3, g1, g2, g0, rfl⟩ := zipD3_get hd
  obtain ⟨v1, g3, rv1⟩ := r1.get g1
  obtain ⟨v2, g4, rv2⟩ := r2.get g2
  obtain ⟨v3, g5, rv3⟩ := r3.get g0
  have i1 := (List.getElem?_eq_some_iff.mp g3).1
  have i2 := (List.getElem?_eq_some_iff.mp g4).1
  have i3 := (List.getElem?_eq_some_iff.mp g5).1
  refine ⟨⟨by omega, vs, ws, us, m1, m2, m3, rfl⟩, fun u H4 ⟨T, x', y', z', e5, hT, e6, f1, f2, f3⟩ => ?_⟩
  have f1 := f1 vs m1
  have f2 := f2 ws m2
  have f3 := f3 us m3
  rw [g3] at f1; cases f1
  rw [g4] at f2; cases f2
  rw [g5] at f3; cases f3
  subst e5
  subst e6
  have sm : Same H3 (upd H3 T (.tup [v1, v2, v3])) := same_new hT
  exact ⟨sm, .tup (.inl (.inl upd_same)) (.cons (rv1.mono (same_ext sm) pm3 fun a z => .inl z) (.cons (rv2.mono (same_ext sm) pm3 fun a z => .inl z) (.cons (rv3.mono (same_ext sm) pm3 fun a z => .inl z) .nil)))⟩
end
end Py
end
section
set_option Elab.async false
set_option linter.all false
set_option maxRecDepth 100000
set_option maxHeartbeats 4000000
namespace Py
open PySem PySem.Spec PyProof.Rows L2 C8
mutual
def tgs : Tg → List Nat
  | .n i => [i]
  | .t ts => tgsL ts
  | .skip => []
def tgsL : List Tg → List Nat
  | [] => []
  | t :: ts => tgs t ++ tgsL ts
end
theorem wipe_get (G : Py.Env) (i : Nat) : ∀ vs : List Nat, (Py.wipe G vs)[i]? = if i ∈ vs ∧ i < G.length then some .dead else G[i]?
  | [] => by simp [Py.wipe]
  | v :: vs => by
    have hl : ∀ vs : List Nat, (Py.wipe G vs).length = G.length := by
      intro vs
      induction vs with
      | nil => rfl
      | cons v vs ih => show ((Py.wipe G vs).set v .dead).length = _; rw [List.length_set, ih]
    show ((Py.wipe G vs).set v .dead)[i]? = _
    by_cases e : v = i
    · subst e
      by_cases h : v < G.length
      · rw [List.getElem?_set_self (by rw [hl]; exact h)]
        simp [h]
      · rw [List.getElem?_eq_none (by rw [List.length_set, hl]; omega)]
        simp [h, List.getElem?_eq_none (Nat.le_of_not_lt h)]
    · rw [List.getElem?_set_ne e, wipe_get G i vs]
      have : i ≠ v := fun z => e z.symm
      simp [this]
theorem wipe_len (G : Py.Env) : ∀ vs : List Nat, (Py.wipe G vs).length = G.length
  | [] => rfl
  | v :: vs => by show ((Py.wipe G vs).set v .dead).length = _; rw [List.length_set, wipe_len G vs]
theorem wipeS_get (σ : St) (i : Nat) : ∀ vs : List Nat, (L2.wipe σ vs)[i]? = if i ∈ vs ∧ i < σ.length then some none else σ[i]?
  | [] => by simp [L2.wipe]
  | v :: vs => by
    show ((L2.wipe σ vs).set v none)[i]? = _
    by_cases e : v = i
    · subst e
      by_cases h : v < σ.length
      · rw [List.getElem?_set_self (by rw [wipe_length]; exact h)]
        simp [h]
      · rw [List.getElem?_eq_none (by rw [List.length_set, wipe_length]; omega)]
        simp [h, List.getElem?_eq_none (Nat.le_of_not_lt h)]
    · rw [List.getElem?_set_ne e, wipeS_get σ i vs]
      have : i ≠ v := fun z => e z.symm
      simp [this]
theorem unwipe_len (G0 G : Py.Env) : ∀ vs : List Nat, (unwipe G0 G vs).length = G.length
  | [] => rfl
  | v :: vs => by show ((unwipe G0 G vs).set v _).length = _; rw [List.length_set, unwipe_len G0 G vs]
theorem unwipe_get (G0 G : Py.Env) (i : Nat) : ∀ vs : List Nat, (unwipe G0 G vs)[i]? = if i ∈ vs ∧ i < G.length then some (G0.getD i .dead) else G[i]?
  | [] => by simp [unwipe]
  | v :: vs => by
    show ((unwipe G0 G vs).set v (G0.getD v .dead))[i]? = _
    by_cases e : v = i
    · subst e
      by_cases h : v < G.length
      · rw [List.getElem?_set_self (by rw [unwipe_len]; exact h)]
        simp [h]
      · rw [List.getElem?_eq_none (by rw [List.length_set, unwipe_len]; omega)]
        simp [h, List.getElem?_eq_none (Nat.le_of_not_lt h)]
    · rw [List.getElem?_set_ne e, unwipe_get G0 G i vs]
      have : i ≠ v := fun z => e z.symm
      simp [this]
theorem wipe_eq {σ σ' : St} {vs : List Nat} (hl : σ'.length = σ.length) (h : ∀ i, i ∉ vs → σ'[i]? = σ[i]?) : L2.wipe σ' vs = L2.wipe σ vs := by
  apply List.ext_getElem?
  intro i
  rw [wipeS_get, wipeS_get, hl]
  by_cases hi : i ∈ vs
  · by_cases hl2 : i < σ.length
    · rw [if_pos ⟨hi, hl2⟩, if_pos ⟨hi, hl2⟩]
    · rw [if_neg (fun z => hl2 z.2), if_neg (fun z => hl2 z.2), List.getElem?_eq_none (by omega), List.getElem?_eq_none (by omega)]
  · rw [if_neg (fun z => hi z.1), if_neg (fun z => hi z.1), h i hi]
section
variable {k : Ki} {C : Ctx} {orc : Orc} {X : Cx} {F : Addr → Prop} {P : Addr → Prop} {σ : St} {H H' : Hp} {G : Py.Env} {fp fp' : Fp}
def tG (k : Ki) (tg : Tg) : TG := fun v σ H Q => ∃ F G fp d G', EnvOk k F σ H G fp ∧ RepX k (Own F fp) H v d ∧ asgT tg d G = .ok G' () ∧ ∀ σ' fp', EnvOk k F σ' H G' fp' → Tr fp H fp' H → (∀ i, i ∉ tgs tg → σ'[i]? = σ[i]?) → Q σ' H
def tGs (k : Ki) (ts : List Tg) : TGs := fun vs σ H Q => ∃ F G fp ds G', EnvOk k F σ H G fp ∧ RepL k (Own F fp) H vs ds ∧ asgL ts ds G = .ok G' () ∧ ∀ σ' fp', EnvOk k F σ' H G' fp' → Tr fp H fp' H → (∀ i, i ∉ tgsL ts → σ'[i]? = σ[i]?) → Q σ' H
theorem pg_imp {tg : Expr} {t t' : TG} (h : PG X tg t) (i : ∀ v σ H Q, t' v σ H Q → t v σ H Q) : PG X tg t' := ⟨fun pins s σ H v u Q I r q => h.run pins s σ H v u Q I r (i v σ H Q q)⟩
theorem pgs_imp {ts : List Expr} {t t' : TGs} (h : PGs X ts t) (i : ∀ v σ H Q, t' v σ H Q → t v σ H Q) : PGs X ts t' := ⟨fun pins s σ H v u Q I r q => h.run pins s σ H v u Q I r (i v σ H Q q)⟩
theorem sg_n {i : Nat} {x : Str} {pos : Pos} (hN : X.N.Nodup) (hi : X.N[i]? = some x) (hx : Loc X.env.scope x) (hf : X.fn x = true ∨ X.env.scope.names.lookup x = some .local) : PG X (.Name x pos) (tG k (.n i)) := by
  refine pg_imp (pg_name hN hi hx hf) fun v σ H Q ⟨F, G, fp, d, G', E1, r, h, q⟩ => ?_
  simp only [asgT] at h
  split at h
  · rename_i hl
    cases h
    refine q _ _ (E1.store (v := some v) (of_decide_eq_true hl) ⟨⟨v, rfl, r.sub own_less E1.pm⟩, rfl⟩ fun m z => by cases z) tr_less fun j hj => ?_
    rw [List.getElem?_set_ne]
    intro e
    exact hj (by rw [← e]; exact List.mem_singleton.mpr rfl)
  · cases h
theorem sgs_nil : PGs X [] (tGs k []) := pgs_imp pgs_nil fun vs σ H Q ⟨F, G, fp, ds, G', E1, r, h, q⟩ => by
  cases r with
  | nil =>
    simp only [asgL] at h
    cases h
    exact ⟨rfl, q σ fp E1 (.refl _ _) fun _ _ => rfl⟩
  | cons _ _ => simp [asgL] at h
theorem asg_star {e : Expr} (h : noStar e = true) (es : List Expr) (env : PySem.Env) : assignEach (e :: es) env = (false, assign e env) :: assignEach es env := by
  cases e <;> first | rfl | cases h
theorem sgs_cons {e : Expr} {es : List Expr} {t : Tg} {ts : List Tg} (hs : noStar e = true) (h1 : PG X e (tG k t)) (h2 : PGs X es (tGs k ts)) : PGs X (e :: es) (tGs k (t :: ts)) := by
  refine pgs_imp (pgs_cons h1 h2 (by rw [asg_star hs]; rfl)) fun vs σ H Q ⟨F, G, fp, ds, G', E1, r, h, q⟩ => ?_
  cases r with
  | nil => simp [asgL] at h
  | @cons v d vs ds rv rvs =>
    simp only [asgL] at h
    obtain ⟨G1, u, h1, h2⟩ := R.bind_inv h
    refine ⟨v, vs, rfl, F, G, fp, d, G1, E1, rv, h1, fun σ1 fp1 E2 T1 s1 => ⟨F, G1, fp1, ds, G', E2, T1.repL E1.pm rvs, h2, fun σ2 fp2 E3 T2 s2 => q σ2 fp2 E3 (T1.trans T2) fun i hi => ?_⟩⟩
    have hi' : i ∉ tgs t ∧ i ∉ tgsL ts := by
      have : i ∉ tgs t ++ tgsL ts := hi
      simpa using this
    rw [s2 i hi'.2, s1 i hi'.1]
theorem asgL_len : ∀ {ts : List Tg} {ds : List D} {G G' : Py.Env}, asgL ts ds G = .ok G' () → ds.length = ts.length
  | [], [], _, _, _ => rfl
  | [], _ :: _, _, _, h => by simp [asgL] at h
  | _ :: _, [], _, _, h => by simp [asgL] at h
  | t :: ts, d :: ds, G, G', h => by
    simp only [asgL] at h
    obtain ⟨G1, u, h1, h2⟩ := R.bind_inv h
    rw [List.length_cons, List.length_cons, asgL_len h2]
theorem asg_len : ∀ {es : List Expr}, es.all noStar = true → ∀ env : PySem.Env, (assignEach es env).length = es.length ∧ (assignEach es env).findIdx? (·.1) = none
  | [], _, _ => ⟨rfl, rfl⟩
  | e :: es, h, env => by
    rw [List.all_cons, Bool.and_eq_true] at h
    obtain ⟨h1, h2⟩ := asg_len (es := es) h.2 env
    rw [asg_star h.1]
    refine ⟨by rw [List.length_cons, List.length_cons, h1], ?_⟩
    rw [List.findIdx?_cons]
    simp [h2]
theorem sg_t (B : XB k X) {es : List Expr} {ts : List Tg} {j : Nat} {pos : Pos} (hs : es.all noStar = true) (hl : es.length = ts.length) (h : PGs X es (tGs k ts)) : PG X (.Tuple es j pos) (tG k (.t ts)) := by
  obtain ⟨a1, a2⟩ := asg_len hs X.env
  refine pg_imp (pg_tup B.calm h a1 a2) fun v σ H Q ⟨F, G, fp, d, G', E1, r, h, q⟩ => ?_
  cases r with
  | @tup a vs ds ht rl =>
    have h : asgL ts ds G = .ok G' () := by simpa [asgT] using h
    refine ⟨a, vs, rfl, by rw [B.K]; exact ht, by rw [rl.length, hl]; exact asgL_len h, F, G, fp, ds, G', E1, rl, h, fun σ' fp' E2 T s => q σ' fp' E2 T fun i hi => s i hi⟩
  | _ => simp [asgT] at h
/-! tests of a comprehension -/
def tF (k : Ki) (C : Ctx) (orc : Orc) (es : List E) : TT := fun σ H Q => ∃ F G fp G' b, EnvOk k F σ H G fp ∧ evIfs C orc es G = .ok G' b ∧ ∀ H' fp', EnvOk k F σ H' G' fp' → Tr fp H fp' H' → (E.mfL es = true → Same H H') → Q b H'
theorem pts_imp {es : List Expr} {t t' : TT} (h : PTs X es t) (i : ∀ σ H Q, t' σ H Q → t σ H Q) : PTs X es t' := ⟨fun pins s σ H Q I q => h.run pins s σ H Q I (i σ H Q q)⟩
theorem sf_nil : PTs X [] (tF k C orc []) := pts_imp pts_nil fun σ H Q ⟨F, G, fp, G', b, Ee, h, q⟩ => by
  rw [evIfs] at h
  cases h
  exact q H fp Ee (.refl _ _) fun _ => ssame
theorem sf_one {c : Expr} {e : E} (h : PT X c (tT k C orc e)) : PTs X [c] (tF k C orc [e]) := pts_imp (pts_one h) fun σ H Q ⟨F, G, fp, G', b, Ee, h, q⟩ => by
  rw [evIfs] at h
  obtain ⟨G1, x, h1, h⟩ := R.bind_inv h
  refine ⟨F, G, fp, G1, x, Ee, h1, fun H1 fp1 E1 T1 S1 => ?_⟩
  cases x with
  | true =>
    simp only [if_true] at h
    rw [evIfs] at h
    cases h
    exact q H1 fp1 E1 T1 fun m => by simp only [Py.E.mfL, Bool.and_eq_true] at m; exact S1 m.1
  | false =>
    simp only [Bool.false_eq_true, if_false] at h
    cases h
    exact q H1 fp1 E1 T1 fun m => by simp only [Py.E.mfL, Bool.and_eq_true] at m; exact S1 m.1
/-! ### the environment of a comprehension -/
def fpWipe (fp : Fp) (vs : List Nat) : Fp := fun i => if i ∈ vs then [] else fp i
theorem fpWipe_sub {vs : List Nat} {i : Nat} {a : Addr} (h : a ∈ fpWipe fp vs i) : a ∈ fp i := by
  unfold fpWipe at h
  split at h
  · cases h
  · exact h
theorem ownWipe {vs : List Nat} : ∀ a, Own F (fpWipe fp vs) a → Own F fp a := fun a q => q.imp id fun ⟨i, h⟩ => ⟨i, fpWipe_sub h⟩
theorem EnvOk.wipe (E1 : EnvOk k F σ H G fp) (vs : List Nat) : EnvOk k F (L2.wipe σ vs) H (Py.wipe G vs) (fpWipe fp vs) where
  len := by rw [wipe_length, wipe_len]; exact E1.len
  slot := fun i => by
    rw [wipe_get, wipeS_get, E1.len]
    by_cases hi : i ∈ vs
    · have hf : fpWipe fp vs i = [] := by unfold fpWipe; rw [if_pos hi]
      rw [hf]
      by_cases hl : i < G.length
      · rw [if_pos ⟨hi, hl⟩, if_pos ⟨hi, hl⟩]; exact rfl
      · rw [if_neg (fun z => hl z.2), if_neg (fun z => hl z.2), List.getElem?_eq_none (Nat.le_of_not_lt hl)]; exact rfl
    · rw [if_neg (fun z => hi z.1), if_neg (fun z => hi z.1)]
      have hf : fpWipe fp vs i = fp i := by unfold fpWipe; rw [if_neg hi]
      rw [hf]
      have hs := E1.slot i
      cases hg : G[i]? with
      | none => rw [hg] at hs; exact hs
      | some sl =>
        rw [hg] at hs
        cases sl with
        | dead => exact hs
        | sh d => obtain ⟨⟨x, e, r⟩, z⟩ := hs; exact ⟨⟨x, e, r.sub ownWipe E1.pm⟩, z⟩
        | ow m => obtain ⟨x, e, r⟩ := hs; exact ⟨x, e, r.mono Ext.refl E1.pm (fun a q => .inl (ownWipe a q)) fun _ _ => rfl⟩
  nd := fun i => by
    unfold fpWipe
    split
    · exact List.nodup_nil
    · exact E1.nd i
  dj := fun i j a h1 h2 => E1.dj i j a (fpWipe_sub h1) (fpWipe_sub h2)
  df := fun i a h => E1.df i a (fpWipe_sub h)
  pm := E1.pm.sub ownWipe
theorem tr_wipe {vs : List Nat} : Tr fp H (fpWipe fp vs) H := ⟨fun _ _ h _ => h, fun i a h => .inl ⟨i, fpWipe_sub h⟩, fun _ h => h⟩
/-- the slots' heap changed where nobody looks -/
theorem EnvOk.chg (E1 : EnvOk k F σ H G fp) {F' : Addr → Prop} {D : Addr} {o : HO} (hF : ∀ a, F' a ↔ F a ∨ a = D) (hD : F D ∨ H D = none) (hm : Mut (some o)) : EnvOk k F' σ (upd H D o) G fp := by
  have nD : ∀ i, D ∉ fp i := fun i q => by
    rcases hD with z | z
    · exact E1.df i D q z
    · exact pm_free E1.pm z (.inr ⟨i, q⟩)
  have sub : ∀ a, Own F' fp a → Own F fp a ∨ H a = none := fun a q => by
    rcases q with q | q
    · rcases (hF a).mp q with z | z
      · exact .inl (.inl z)
      · rw [z]; exact hD.imp (fun z => .inl z) id
    · exact .inl (.inr q)
  have ext : Ext (Own F fp) H (upd H D o) := fun b u h n => by
    by_cases e : b = D
    · rw [e] at h n
      rcases hD with z | z
      · exact absurd (.inl z) n
      · rw [z] at h; cases h
    · rw [upd_ne e]; exact h
  refine ⟨E1.len, fun i => ?_, E1.nd, E1.dj, fun i a h z => ?_, fun a q => ?_⟩
  · have hs := E1.slot i
    cases hg : G[i]? with
    | none => rw [hg] at hs; exact hs
    | some sl =>
      rw [hg] at hs
      cases sl with
      | dead => exact hs
      | sh d => obtain ⟨⟨x, e, r⟩, z⟩ := hs; exact ⟨⟨x, e, r.mono ext E1.pm sub⟩, z⟩
      | ow m => obtain ⟨x, e, r⟩ := hs; exact ⟨x, e, r.mono ext E1.pm sub fun a h => upd_ne fun z => nD i (by rw [← z]; exact h)⟩
  · rcases (hF a).mp z with z | z
    · exact E1.df i a h z
    · exact nD i (by rw [← z]; exact h)
  · by_cases e : a = D
    · rw [e, upd_same]; exact hm
    · rw [upd_ne e]
      rcases sub a q with z | z
      · exact E1.pm a z
      · rcases q with q | ⟨i, q⟩
        · rcases (hF a).mp q with y | y
          · exact E1.pm a (.inl y)
          · exact absurd y e
        · exact E1.pm a (.inr ⟨i, q⟩)
/-- the frame forgotten in part -/
theorem own_frame {F' : Addr → Prop} (h : ∀ a, F a → F' a) : ∀ a, Own F fp a → Own F' fp a := fun a q => q.imp (h a) id
/-- back in the def -/
theorem EnvOk.unwipe {F' F1 : Addr → Prop} {G1 : Py.Env} {fp1 : Fp} {H1 : Hp} {vs : List Nat} (E1 : EnvOk k F1 σ H1 G1 fp1) (E2 : EnvOk k F' (L2.wipe σ vs) H G fp) (hF : ∀ a, F a → F' a) (hF1 : ∀ a, F a → F1 a ∨ H1 a = none) (T : Tr fp1 H1 fp H) (ha : anyOw G1 vs = false)
    (hd : ∀ v ∈ vs, ∀ s, G[v]? = some s → s = .dead) : EnvOk k F σ H (Py.unwipe G1 G vs) fp where
  len := by rw [unwipe_len, ← E2.len, wipe_length]
  slot := fun i => by
    rw [unwipe_get]
    have lG : G.length = σ.length := by rw [← E2.len, wipe_length]
    have lG1 : σ.length = G1.length := E1.len
    by_cases hi : i ∈ vs
    · have hf : fp i = [] := by
        have := E2.slot i
        cases hg : G[i]? with
        | none => rw [hg] at this; exact this
        | some s => rw [hg, hd i hi s hg] at this; exact this
      by_cases hl : i < G.length
      · rw [if_pos ⟨hi, hl⟩, hf]
        have hs := E1.slot i
        have g1 : G1[i]? = some G1[i] := List.getElem?_eq_getElem (by omega)
        rw [List.getD_eq_getElem?_getD, g1]
        rw [g1] at hs
        have no : (G1.getD i .dead).isOw = false := by
          unfold anyOw at ha
          exact (by simpa using (List.any_eq_false.mp ha) i hi)
        rw [List.getD_eq_getElem?_getD, g1] at no
        show SlotOk k _ H σ[i]? [] (some G1[i])
        have no : (G1[i]).isOw = false := no
        generalize G1[i] = s at hs no
        cases s with
        | dead => exact rfl
        | sh d =>
          obtain ⟨⟨x, e, r⟩, z⟩ := hs
          exact ⟨⟨x, e, r.mono T.ext E1.pm fun a q => q.elim (fun q => (hF1 a q).imp (fun z => .inl z) id) fun ⟨i, q⟩ => (T.new i a q).imp (fun z => .inr z) id⟩, rfl⟩
        | ow m => cases no
      · rw [if_neg (fun z => hl z.2), List.getElem?_eq_none (Nat.le_of_not_lt hl), hf]; exact rfl
    · rw [if_neg (fun z => hi z.1)]
      have hs := E2.slot i
      rw [wipeS_get, if_neg (fun z => hi z.1)] at hs
      cases hg : G[i]? with
      | none => rw [hg] at hs; exact hs
      | some sl =>
        rw [hg] at hs
        cases sl with
        | dead => exact hs
        | sh d => obtain ⟨⟨x, e, r⟩, z⟩ := hs; exact ⟨⟨x, e, r.sub (own_frame hF) E2.pm⟩, z⟩
        | ow m => obtain ⟨x, e, r⟩ := hs; exact ⟨x, e, r.mono Ext.refl E2.pm (fun a q => .inl (own_frame hF a q)) fun _ _ => rfl⟩
  nd := E2.nd
  dj := E2.dj
  df := fun i a h z => E2.df i a h (hF a z)
  pm := E2.pm.sub (own_frame hF)
end
end Py
end
section
set_option Elab.async false
set_option linter.all false
set_option maxRecDepth 100000
set_option maxHeartbeats 4000000
namespace Py
open PySem PySem.Spec PyProof.Rows L2 C8
section
variable {k : Ki} {C : Ctx} {orc : Orc} {X : Cx} {F : Addr → Prop} {P : Addr → Prop} {σ : St} {H H' : Hp} {G : Py.Env} {fp fp' : Fp}
/-- the reading of an expression that gives a new list or dict -/
def tEf (k : Ki) (C : Ctx) (orc : Orc) (e : E) : TE := fun σ H Q => ∃ F G fp G' d, EnvOk k F σ H G fp ∧ ev C orc e G = .ok G' (d, false) ∧ ∀ H' fp' v m, EnvOk k F σ H' G' fp' → Tr fp H fp' H' → (e.mf = true → Same H H') → RepX k (Own F fp') H' v d → own1 d = some m → Fr k F σ fp H G' fp' H' v m → Q v H'
theorem tEf_of {e : E} (hb : ∀ G G' d b, ev C orc e G = .ok G' (d, b) → b = false) {σ : St} {H : Hp} {Q : VK} (h : tE k C orc e σ H Q) : tEf k C orc e σ H Q := by
  obtain ⟨F, G, fp, G', d, b, Ee, h, q⟩ := h
  have := hb _ _ _ _ h
  subst this
  exact ⟨F, G, fp, G', d, Ee, h, fun H' fp' v m E' T S R _ _ => q H' fp' v E' T S R⟩
theorem pe_ef {e : Expr} {ie : E} (hb : ∀ G G' d b, ev C orc ie G = .ok G' (d, b) → b = false) (h : PE X e (tEf k C orc ie)) : PE X e (tE k C orc ie) := pe_imp h fun _ _ _ h => tEf_of hb h
theorem leaves_rep {vs : List V} {ds : List D} (r : RepL k P H vs ds) : RepMs k P H vs (ds.map .leaf) [] := RepMs.leaves r
/-- a new list just laid -/
theorem fr_new {a : Addr} {vs : List V} {ds : List D} {o : HO} (E1 : EnvOk k F σ H G fp) (hn : H a = none) (ho : o = .lst vs) (r : RepL k (Own F fp) H vs ds) : Fr k F σ fp H G fp (upd H a o) (.ref a) (.lst (ds.map .leaf)) := by
  subst ho
  have s : Same H (upd H a (.lst vs)) := same_new hn
  refine ⟨a, rfl, E1.fresh s hn (by rw [upd_same]; trivial), .lst upd_same (leaves_rep (r.mono (same_ext s) E1.pm fun x q => ?_)), .inr hn⟩
  rcases q with (q | q) | q
  · exact .inl (.inl q)
  · rw [q]; exact .inr hn
  · exact .inl (.inr q)
theorem Fr.tr {fp0 : Fp} {H0 : Hp} {G' : Py.Env} {v : V} {m : M} (t : Tr fp0 H0 fp H) (f : Fr k F σ fp H G' fp' H' v m) : Fr k F σ fp0 H0 G' fp' H' v m := by
  obtain ⟨a, e, Ea, r, h⟩ := f
  refine ⟨a, e, Ea, r, ?_⟩
  rcases h with ⟨j, h⟩ | h
  · exact t.new j a h
  · exact .inr (t.stay a h)
theorem sef_lst {es : List Expr} {ies : List E} {pos : Pos} (hl : ies.length ≤ 10000) (h : PA X es (tEs k C orc ies)) : PE X (.List es pos) (tEf k C orc (.lst ies)) := by
  refine pe_imp (pe_lst h) fun σ H Q ⟨F, G, fp, G', d, Ee, h, q⟩ => ?_
  rw [ev] at h
  obtain ⟨G1, r, h1, h⟩ := R.bind_inv h
  obtain ⟨hb1, h⟩ := ite_bad h
  cases h
  refine ⟨F, G, fp, _, r.1, r.2, Ee, h1, fun H1 fp1 vs E1 T1 S1 R1 => ⟨?_, fun p hp => ?_⟩⟩
  · rw [R1.length, evs_len (ds := r.1) (b := r.2) h1, sizeLine_eq]; omega
  · rw [hb1] at R1
    have s : Same H1 (upd H1 p (.lst vs)) := same_new hp
    exact q _ fp1 _ _ (E1.same s) (T1.trans (same_tr s)) (fun m => by simp only [Py.E.mf] at m; exact same_trans (S1 m) s)
      (.lst ⟨upd_same, pm_free E1.pm hp⟩ (RepL.mono (same_ext s) E1.pm (fun a z => .inl z) R1)) rfl ((fr_new E1 hp rfl R1).tr T1)
theorem sef_dic0 {pos : Pos} : PE X (.Dict [] [] pos) (tEf k C orc .dic0) := by
  refine pe_imp pe_dnewK fun σ H Q ⟨F, G, fp, G', d, Ee, h, q⟩ => ?_
  rw [ev] at h
  cases h
  intro p hp
  have s : Same H (upd H p (.dK [])) := same_new hp
  exact q _ fp _ _ (Ee.same s) (same_tr s) (fun m => s) (.dic upd_same (pm_free Ee.pm hp) rfl .nil) rfl ⟨p, rfl, Ee.fresh s hp (by rw [upd_same]; trivial), .dic upd_same rfl .nil, .inr hp⟩
/-- a turn of a comprehension, on data -/
def lcTurn (C : Ctx) (orc : Orc) (own : List Nat) (tg : Tg) (ifs : List E) (elt : E) (d : D) (G2 : Py.Env) : R (List D) :=
  (asgT tg d G2).bind fun G3 _ => (evIfs C orc ifs G3).bind fun G4 k => if k then (ev C orc elt G4).bind fun G5 x => if x.2 then .bad else .ok (Py.wipe G5 own) [x.1] else .ok (Py.wipe G4 own) []
theorem ev_lc (own : List Nat) (tg : Tg) (it : Py.It) (ifs : List E) (elt : E) (G : Py.Env) : ev C orc (.lc own tg it ifs elt) G = (evIt C orc it G).bind fun G1 r => if r.2 && !(E.mfL ifs && elt.mf) || anyOw G1 own then .bad else
      (compLoop (lcTurn C orc own tg ifs elt) r.1 (Py.wipe G1 own)).bind fun G2 ds => if lenOk ds.length then .ok (Py.unwipe G1 G2 own) (.lst ds, false) else .bad := by
  rw [ev]; rfl
theorem comp_cons {f : D → Py.Env → R (List D)} {d : D} {ds : List D} {G G2 : Py.Env} {r : List D} (h : compLoop f (d :: ds) G = .ok G2 r) : ∃ G1 o r', f d G = .ok G1 o ∧ compLoop f ds G1 = .ok G2 r' ∧ r = o ++ r' := by
  unfold compLoop at h
  obtain ⟨G1, o, h1, h⟩ := R.bind_inv h
  obtain ⟨G3, r', h2, h⟩ := R.bind_inv h
  cases h
  exact ⟨G1, o, r', h1, h2, rfl⟩
/-- what a turn has done -/
structure LcIn (k : Ki) (C : Ctx) (orc : Orc) (own : List Nat) (tg : Tg) (ifs : List E) (elt : E) (F : Addr → Prop) (σ : St) (fp1 : Fp) (H1 : Hp) (mf : Bool) (G2 : Py.Env) (items ds : List D) (D : Addr) (i : Nat) (H : Hp) : Prop where
  ex : ∃ G fp acc dacc rest, EnvOk k (fun a => F a ∨ a = D) (L2.wipe σ own) H G fp ∧ Tr fp1 H1 fp H ∧ (mf = true → Same H1 H) ∧ H D = some (.lst acc) ∧ RepL k (Own (fun a => F a ∨ a = D) fp) H acc dacc ∧
    compLoop (lcTurn C orc own tg ifs elt) (items.drop i) G = .ok G2 rest ∧ dacc ++ rest = ds ∧ ∀ v ∈ own, ∀ s, G[v]? = some s → s = .dead
theorem wipe_dead {own : List Nat} : ∀ v ∈ own, ∀ s, (Py.wipe G own)[v]? = some s → s = .dead := fun v hv s h => by
  rw [wipe_get] at h
  split at h
  · cases h; rfl
  · rename_i hn
    have : ¬ v < G.length := fun z => hn ⟨hv, z⟩
    rw [List.getElem?_eq_none (Nat.le_of_not_lt this)] at h
    cases h
/-- the new list is changed: what stood ahead of it stands -/
theorem tr_acc {fp1 fp : Fp} {H1 : Hp} {D : Addr} {o : HO} (t : Tr fp1 H1 fp H) (hD : H1 D = none) : Tr fp1 H1 fp (upd H D o) where
  keep := fun a u h n => by
    rw [upd_ne (fun z => by rw [z, hD] at h; cases h)]
    exact t.keep a u h n
  new := t.new
  stay := fun a h => by
    by_cases e : a = D
    · rw [e]; exact hD
    · rw [upd_ne e] at h; exact t.stay a h
theorem same_acc {H1 : Hp} {D : Addr} {o : HO} (s : Same H1 H) (hD : H1 D = none) : Same H1 (upd H D o) := fun a u h => by
  rw [upd_ne (fun z => by rw [z, hD] at h; cases h)]
  exact s a u h
mutual
theorem asgT_len : ∀ {t : Tg} {d : D} {G G' : Py.Env}, asgT t d G = .ok G' () → G'.length = G.length
  | .n i, d, G, G', h => by
    simp only [asgT] at h
    split at h
    · cases h; rw [List.length_set]
    · cases h
  | .skip, d, G, G', h => by simp [asgT] at h
  | .t ts, d, G, G', h => by
    cases d with
    | tup xs => exact asgLs_len (by simpa [asgT] using h)
    | _ => simp [asgT] at h
theorem asgLs_len : ∀ {ts : List Tg} {ds : List D} {G G' : Py.Env}, asgL ts ds G = .ok G' () → G'.length = G.length
  | [], [], _, _, h => by simp [asgL] at h; rw [h]
  | [], _ :: _, _, _, h => by simp [asgL] at h
  | _ :: _, [], _, _, h => by simp [asgL] at h
  | t :: ts, d :: ds, G, G', h => by
    simp only [asgL] at h
    obtain ⟨G1, u, h1, h2⟩ := R.bind_inv h
    rw [asgLs_len h2, asgT_len h1]
end
theorem lc_red {own : List Nat} {tg : Tg} {it : Py.It} {ifs : List E} {elt : E} (htg : ∀ i ∈ tgs tg, i ∈ own) (hK : X.K = k.K) {σ : St} {H : Hp} {Q : VK} (h : tEf k C orc (.lc own tg it ifs elt) σ H Q) :
    tLc (tI k C orc it) (tG k tg) (tF k C orc ifs) (tE k C orc elt) own σ H Q := by
  obtain ⟨F, G, fp, G', d, Ee, h, q⟩ := h
  rw [ev_lc] at h
  obtain ⟨G1, r, h1, h⟩ := R.bind_inv h
  obtain ⟨hc, h⟩ := ite_bad h
  obtain ⟨G2, ds, h2, h⟩ := R.bind_inv h
  obtain ⟨hl, h⟩ := ite_ok h
  cases h
  rw [Bool.or_eq_false_iff] at hc
  have hz : ds.length ≤ sizeLine := lenOk_le hl
  have hmf : r.2 = true → (E.mfL ifs && elt.mf) = true := fun e => bor hc.1 e
  refine ⟨F, G, fp, G1, r.1, r.2, Ee, h1, fun J H1 fp1 E1 T1 S1 wk D hD => ?_⟩
  have nFD : ¬ F D := fun z => by have := E1.pm D (.inl z); rw [hD] at this; exact this
  refine ⟨fun i m Hx => m = r.1.length - i ∧ i ≤ r.1.length ∧ LcIn k C orc own tg ifs elt F σ fp1 H1 (E.mfL ifs && elt.mf) G2 r.1 ds D i Hx, ⟨r.1.length, rfl, Nat.zero_le _, ⟨Py.wipe G1 own, fpWipe fp1 own, [], [], ds, ?_⟩⟩, ?_⟩
  · refine ⟨(E1.wipe own).chg (fun a => Iff.rfl) (.inr hD) trivial, tr_acc tr_wipe hD, fun _ => same_acc ssame hD, upd_same, .nil, h2, rfl, wipe_dead⟩
  · rintro i m Hx ⟨rfl, hi, ⟨Gx, fpx, acc, dacc, rest, Ex, Tx, Sx, hDx, rl, hcl, hds, hdead⟩⟩
    obtain ⟨wst, wgo⟩ := wk Hx fpx (fun a => F a ∨ a = D) (fun a z => z.imp id fun z => by rw [z]; exact hD) Ex.pm Tx fun e => Sx (hmf e)
    by_cases hlt : i < r.1.length
    · right
      have hd : r.1[i]? = some r.1[i] := List.getElem?_eq_getElem hlt
      obtain ⟨jgo, jy⟩ := wgo i _ hd
      generalize hdi : r.1[i] = di at hd jy
      have hdr : r.1.drop i = di :: r.1.drop (i + 1) := by rw [List.drop_eq_getElem_cons hlt, hdi]
      rw [hdr] at hcl
      obtain ⟨Gy, o, rest', t1, t2, rfl⟩ := comp_cons hcl
      unfold lcTurn at t1
      obtain ⟨G3, u3, t3, t1⟩ := R.bind_inv t1
      obtain ⟨G4, kb, t4, t1⟩ := R.bind_inv t1
      refine ⟨jgo, fun Hy => LcIn k C orc own tg ifs elt F σ fp1 H1 (E.mfL ifs && elt.mf) G2 r.1 ds D (i + 1) Hy, fun Hy hy => ⟨r.1.length - (i + 1), by omega, rfl, hlt, hy⟩, fun x Hy y => ?_⟩
      obtain ⟨sy, ry⟩ := jy x Hy y
      have Ey := Ex.same sy
      refine ⟨_, Gx, fpx, di, G3, Ey, ry, t3, fun σ2 fp2 E2 T2 s2 => ⟨?_, ?_⟩⟩
      · have hl2 : σ2.length = σ.length := by
          have : G3.length = Gx.length := asgT_len t3
          rw [E2.len, this, ← Ex.len, wipe_length]
        have : L2.wipe σ2 own = L2.wipe (L2.wipe σ own) own := wipe_eq (by rw [wipe_length]; exact hl2) fun j hj => s2 j fun z => hj (htg j z)
        rw [this]
        exact wipe_eq (wipe_length _ _) fun j hj => by rw [wipeS_get, if_neg (fun z => hj z.1)]
      · have wq : L2.wipe σ2 own = L2.wipe σ own := by
          have hl2 : σ2.length = σ.length := by
            rw [E2.len, asgT_len t3, ← Ex.len, wipe_length]
          have : L2.wipe σ2 own = L2.wipe (L2.wipe σ own) own := wipe_eq (by rw [wipe_length]; exact hl2) fun j hj => s2 j fun z => hj (htg j z)
          rw [this]
          exact wipe_eq (wipe_length _ _) fun j hj => by rw [wipeS_get, if_neg (fun z => hj z.1)]
        refine ⟨_, G3, fp2, G4, kb, E2, t4, fun H4 fp4 E4 T4 S4 => ?_⟩
        have smf : (E.mfL ifs && elt.mf) = true → Same H1 H4 := fun z => by
          rw [Bool.and_eq_true] at z
          exact same_trans (same_trans (Sx (by rw [z.1, z.2]; rfl)) sy) (S4 z.1)
        have T14 : Tr fp1 H1 fp4 H4 := ((Tx.trans (same_tr sy)).trans T2).trans T4
        have keepD : ∀ {fpa fpb : Fp} {Ha Hb : Hp} {Ga : Py.Env}, EnvOk k (fun a => F a ∨ a = D) σ2 Ha Ga fpa → Tr fpa Ha fpb Hb → ∀ {o : HO}, Ha D = some o → Hb D = some o := fun {fpa fpb Ha Hb Ga} Ea Ta {o} hh => Ta.keep D _ hh fun j z => Ea.df j D z (.inr rfl)
        have hD4 : H4 D = some (.lst acc) := keepD E2 T4 (sy D _ hDx)
        have rl4 : RepL k (Own (fun a => F a ∨ a = D) fp4) H4 acc dacc := T4.repL E2.pm (T2.repL Ey.pm (rl.mono (same_ext sy) Ex.pm fun a z => .inl z))
        cases kb with
        | false =>
          simp only [Bool.false_eq_true, if_false] at t1 ⊢
          cases t1
          have E5 := E4.wipe own
          rw [wq] at E5
          exact ⟨_, _, acc, dacc, rest', E5, T14.trans tr_wipe, smf, hD4, tr_wipe.repL E4.pm rl4, t2, hds, wipe_dead⟩
        | true =>
          simp only [if_true] at t1 ⊢
          obtain ⟨G5, xv, t5, t1⟩ := R.bind_inv t1
          obtain ⟨hxb, t1⟩ := ite_bad t1
          cases t1
          refine ⟨_, G4, fp4, G5, xv.1, xv.2, E4, t5, fun H5 fp5 yv E5 T5 S5 R5 => ⟨acc, keepD E4 T5 hD4, ?_, ?_⟩⟩
          · have : dacc.length < ds.length := by rw [← hds]; simp
            rw [rl.length]; omega
          · rw [hxb] at R5
            have E6 := (E5.wipe own).chg (F' := fun a => F a ∨ a = D) (D := D) (o := .lst (acc ++ [yv])) (fun a => ⟨fun z => .inl z, fun z => z.elim id fun z => .inr z⟩) (.inl (.inr rfl)) trivial
            rw [wq] at E6
            have ext : Ext (Own (fun a => F a ∨ a = D) (fpWipe fp5 own)) H5 (upd H5 D (.lst (acc ++ [yv]))) := fun b u hb n => by
              rw [upd_ne (fun z => n (.inl (.inr z)))]; exact hb
            have pm5 := (E5.wipe own).pm
            have up : ∀ {vs ds}, RepL k (Own (fun a => F a ∨ a = D) fp5) H5 vs ds → RepL k (Own (fun a => F a ∨ a = D) (fpWipe fp5 own)) (upd H5 D (.lst (acc ++ [yv]))) vs ds := fun {vs ds} r => (tr_wipe.repL E5.pm r).mono ext pm5 fun a z => .inl z
            refine ⟨_, _, acc ++ [yv], dacc ++ [xv.1], rest', E6, tr_acc ((T14.trans T5).trans tr_wipe) hD, fun z => same_acc (same_trans (smf z) (S5 (by rw [Bool.and_eq_true] at z; exact z.2))) hD, upd_same, ?_, t2, ?_, wipe_dead⟩
            · exact (up (T5.repL E4.pm rl4)).append (up (.cons R5 .nil))
            · rw [← hds, List.append_assoc]
    · left
      have e : i = r.1.length := by omega
      subst e
      rw [List.drop_length] at hcl
      cases hcl
      rw [List.append_nil] at hds
      subst hds
      have nO : ¬ Own F fpx D := fun z => by
        rcases z with z | ⟨j, z⟩
        · exact nFD z
        · exact Ex.df j D z (.inr rfl)
      refine ⟨wst, q Hx fpx (.ref D) (.lst (dacc.map .leaf)) (E1.unwipe Ex (fun a z => .inl z) (fun a z => .inl z) Tx hc.2 hdead) (T1.trans Tx) (fun mm => ?_) (RepX.lst ⟨hDx, nO⟩ (rl.sub (own_frame fun a z => .inl z) Ex.pm)) rfl ?_⟩
      · simp only [Py.E.mf, Bool.and_eq_true] at mm
        exact same_trans (S1 mm.1) (Sx (by rw [mm.2.1, mm.2.2]; rfl))
      · exact ⟨D, rfl, E1.unwipe Ex (fun a z => z) (fun a z => z.imp id fun z => by rw [z]; exact hD) Tx hc.2 hdead, .lst hDx (leaves_rep rl), .inr (T1.stay D hD)⟩
end
end Py
namespace Py
open PySem PySem.Spec PyProof.Rows L2 C8
section
variable {k : Ki} {C : Ctx} {orc : Orc} {X : Cx}
def notSet : Expr → Bool
  | .Set _ _ _ => false
  | _ => true
theorem folded {e : Expr} (h : notSet e = true) (env : PySem.Env) (x : Value) : foldedSetIterable e env x = pure x := by
  cases e <;> first | rfl | cases h
/-- [elt for tg in it if ..] -/
theorem lc_clean {own : List Nat} {tg : Tg} {it : Py.It} {ifs : List E} {elt : E} (G G' : Py.Env) (d : D) (b : Bool) (h : ev C orc (.lc own tg it ifs elt) G = .ok G' (d, b)) : b = false := by
  rw [ev_lc] at h
  obtain ⟨G1, r, h1, h⟩ := R.bind_inv h
  obtain ⟨hc, h⟩ := ite_bad h
  obtain ⟨G2, ds, h2, h⟩ := R.bind_inv h
  obtain ⟨hl, h⟩ := ite_ok h
  cases h; rfl
theorem lst_clean {es : List E} (G G' : Py.Env) (d : D) (b : Bool) (h : ev C orc (.lst es) G = .ok G' (d, b)) : b = false := by
  rw [ev] at h
  obtain ⟨G1, r, h1, h⟩ := R.bind_inv h
  obtain ⟨hb1, h⟩ := ite_bad h
  cases h; rfl
theorem sef_lc (B : XB k X) {elt tg iter : Expr} {ifs : List Expr} {scope : Scope} {own : List (Str × Nat)} {pos : Pos} {tgi : Tg} {iti : Py.It} {ifsi : List E} {elti : E} (hi : PI X tg iter (tI k C orc iti)) (ok : BlkOk X.N X.env.scope scope own)
    (hg : ∀ (s : Shared) (H : Hp) (C : Addr) (cl : List (Str × Addr)) (fp : List Addr), PG (X.blk s H scope (compEnvC scope cl C X.env) fp) tg (tG k tgi)) (ht : ∀ (s : Shared) (H : Hp) (A : Addr) (cl : List (Str × Addr)) (fp : List Addr), PTs (X.blk s H scope (compEnvC scope cl A X.env) fp) ifs (tF k C orc ifsi))
    (he : ∀ (s : Shared) (H : Hp) (A : Addr) (cl : List (Str × Addr)) (fp : List Addr), PE (X.blk s H scope (compEnvC scope cl A X.env) fp) elt (tE k C orc elti)) (hs : notSet iter = true) (htg : ∀ i ∈ tgs tgi, i ∈ own.map (·.2)) :
    PE X (.ListComp elt [⟨tg, iter, ifs, 0⟩] scope pos) (tEf k C orc (.lc (own.map (·.2)) tgi iti ifsi elti)) :=
  pe_imp (pe_lc B.calm B.nd hi ok hg ht he (folded hs _)) fun _ _ _ h => lc_red htg B.K h
end
end Py
end
section
set_option Elab.async false
set_option linter.all false
set_option maxRecDepth 100000
set_option maxHeartbeats 4000000
namespace Py
open PySem PySem.Spec PyProof.Rows L2 C8
section
variable {k : Ki} {C : Ctx} {orc : Orc} {X : Cx} {F : Addr → Prop} {P : Addr → Prop} {σ : St} {H H' : Hp} {G : Py.Env} {fp fp' : Fp}
variable {x : Str} {p pos apos : Pos} {e : Expr} {es : List Expr} {ies : List E} {j jj : Nat}
theorem imm_own {d : D} {m : M} (h : own1 d = some m) : d.imm = false := by
  cases d <;> simp [own1] at h <;> rfl
theorem sef_call {f : Nat} {pm : List Nat} (hf : C.fr f = true) (c : Cal X.prog X.w X.K X.mg X.base jj x (spF k C orc f pm.length) []) (hr : Room j X.A) (hk : jj ≤ j) (hg : Gl X x) (hdb : (x == ("__debug__" : Str)) = false) (hs : (e :: es).all noStar = true)
    (hp : pm = List.range ies.length) (ha : PA X (e :: es) (tEs k C orc ies)) : PE X (.Call (.Name x p) (e :: es) [] pos) (tEf k C orc (.call f ies pm)) := by
  rw [List.all_cons, Bool.and_eq_true] at hs
  refine pe_imp (pe_c c hr hk hg ha hdb (star_cons hs.1 _ _) (star_any hs.2 _ _)) fun σ H Q ⟨F, G, fp, G', d, Ee, h, q⟩ => ?_
  rw [ev] at h
  obtain ⟨G1, r, h1, h⟩ := R.bind_inv h
  have ln : r.1.length = ies.length := evs_len (ds := r.1) (b := r.2) h1
  refine ⟨F, G, fp, G1, r.1, r.2, Ee, h1, fun H1 fp1 vs E1 T1 S1 R1 => ?_⟩
  split at h
  · rename_i os d' ho
    have hG : G1 = G' := by injection h
    have hd : fl d' r.2 = (d, false) := by injection h
    subst hG
    have e1 : d' = d := congrArg Prod.fst hd
    subst e1
    rw [List.append_nil]
    have hl : vs.length = ies.length := by rw [R1.length, ln]
    have ho' : orc f (r.1.map .sh) = .ok os d' := by
      rw [hp, ← ln] at ho
      have : (List.range r.1.length).map (fun k => Slot.sh (r.1.getD k .non)) = r.1.map .sh := by
        have h0 := congrArg (List.map Slot.sh) (range_pick D.non r.1)
        rw [List.map_map] at h0
        exact h0
      rw [this] at ho
      exact ho
    by_cases hb : r.2 = false
    · rw [hb] at R1
      refine pure_callF E1 R1 (by rw [ln, hp, List.length_range]) ho' hf fun H' v m s r' hm fr => ?_
      exact q H' fp1 v m (E1.same s) (T1.trans (same_tr s)) (fun mm => by simp only [Py.E.mf] at mm; exact same_trans (S1 mm) s) r' hm (fr.tr T1)
    · -- borrowed: no new object comes
      have hb : r.2 = true := by simpa using hb
      have him : d'.imm = true := by
        have := congrArg Prod.snd hd
        unfold fl at this
        rw [hb] at this
        simpa using this
      refine ⟨by rw [hl, hp, List.length_range], _, _, os, d', fp0, ho', env_args (E1.pmB r.2) R1, fun H' fp' v E' T R fr => ?_⟩
      obtain ⟨m, hm, _⟩ := fr hf
      rw [imm_own hm] at him
      cases him
  · cases h
end
end Py
end
section
set_option Elab.async false
set_option linter.all false
set_option maxRecDepth 100000
set_option maxHeartbeats 4000000
namespace Py
open PySem PySem.Spec PyProof.Rows L2 C8
/-- what is wanted behind a statement, by its outcome -/
def OutQ (k : Ki) (fr : Bool) (F : Addr → Prop) (σ' : St) (fp0 : Fp) (H0 : Hp) (G' : Py.Env) (fp' : Fp) (H' : Hp) (D : Ends) (o : Out) : Prop := match o with
  | .next => D.nx σ' H'
  | .brk => D.bk σ' H'
  | .cont => D.ct σ' H'
  | .ret d => ∀ v, RepX k (Own F fp') H' v d → (fr = true → ∃ m, own1 d = some m ∧ Fr k F σ' fp0 H0 G' fp' H' v m) → D.rt v H'
def tS (k : Ki) (C : Ctx) (orc : Orc) (fr : Bool) (fx : List Nat) (st : S) : TS := fun D σ H => ∃ F G fp G' o, EnvOk k F σ H G fp ∧ evS C orc st G = .ok G' o ∧
  ∀ σ' H' fp', EnvOk k F σ' H' G' fp' → Tr fp H fp' H' → (∀ i ∈ fx, σ'[i]? = σ[i]?) → OutQ k fr F σ' fp H G' fp' H' D o
def tSs (k : Ki) (C : Ctx) (orc : Orc) (fr : Bool) (fx : List Nat) (sts : List S) : TS := fun D σ H => ∃ F G fp G' o, EnvOk k F σ H G fp ∧ evSs C orc sts G = .ok G' o ∧
  ∀ σ' H' fp', EnvOk k F σ' H' G' fp' → Tr fp H fp' H' → (∀ i ∈ fx, σ'[i]? = σ[i]?) → OutQ k fr F σ' fp H G' fp' H' D o
section
variable {k : Ki} {C : Ctx} {orc : Orc} {X : Cx} {F : Addr → Prop} {P : Addr → Prop} {σ σ' : St} {H H' : Hp} {G G' : Py.Env} {fp fp' : Fp} {fr : Bool} {fx : List Nat}
/-- an outcome seen from further back -/
theorem OutQ.back {fp0 : Fp} {H0 : Hp} {D : Ends} {o : Out} (t : Tr fp0 H0 fp H) (q : OutQ k fr F σ' fp0 H0 G' fp' H' D o) : OutQ k fr F σ' fp H G' fp' H' D o := by
  cases o with
  | ret d => exact fun v r f => q v r fun e => let ⟨m, hm, f⟩ := f e; ⟨m, hm, f.tr t⟩
  | _ => exact q
theorem sss_nil : PSs X [] (tSs k C orc fr fx []) := pss_imp pss_nil fun D σ H ⟨F, G, fp, G', o, Ee, h, q⟩ => by
  rw [evSs] at h
  cases h
  exact q σ H fp Ee (.refl _ _) fun _ _ => rfl
theorem sss_cons {s : Stmt} {rest : List Stmt} {st : S} {sts : List S} (h1 : PS X s (tS k C orc fr fx st)) (h2 : PSs X rest (tSs k C orc fr fx sts)) : PSs X (s :: rest) (tSs k C orc fr fx (st :: sts)) := by
  refine pss_imp (pss_cons h1 h2) fun D σ H ⟨F, G, fp, G', o, Ee, h, q⟩ => ?_
  rw [evSs] at h
  obtain ⟨G1, o1, e1, h⟩ := R.bind_inv h
  cases o1 with
  | next =>
    exact ⟨F, G, fp, G1, .next, Ee, e1, fun σ1 H1 fp1 E1 T1 f1 => ⟨F, G1, fp1, G', o, E1, h, fun σ2 H2 fp2 E2 T2 f2 => (q σ2 H2 fp2 E2 (T1.trans T2) fun i hi => by rw [f2 i hi, f1 i hi]).back T1⟩⟩
  | ret d => cases h; exact ⟨F, G, fp, _, .ret d, Ee, e1, fun σ1 H1 fp1 E1 T1 f1 => q σ1 H1 fp1 E1 T1 f1⟩
  | brk => cases h; exact ⟨F, G, fp, _, .brk, Ee, e1, fun σ1 H1 fp1 E1 T1 f1 => q σ1 H1 fp1 E1 T1 f1⟩
  | cont => cases h; exact ⟨F, G, fp, _, .cont, Ee, e1, fun σ1 H1 fp1 E1 T1 f1 => q σ1 H1 fp1 E1 T1 f1⟩
/-! assignments -/
def notComp : Expr → Bool
  | .ListComp _ _ _ _ => false | .SetComp _ _ _ _ => false | .DictComp _ _ _ _ _ => false | _ => true
theorem sw_no {e : Expr} (h : notComp e = true) (tg : Option Expr) (l : Nat) (env : PySem.Env) : swapsWith e tg l env = pure false := by
  cases e <;> first | rfl | cases h
theorem sw_cell {e : Expr} {y : Str} {py : Pos} {env : PySem.Env} (h : (env.scope.names.lookup y == some .local) = false) (l : Nat) : swapsWith e (some (.Name y py)) l env = pure false := by
  cases e <;> first
    | rfl
    | (unfold swapsWith
       have : (env.kindOf y == some .local) = false := h
       simp only [this, Bool.and_false, Bool.false_and])
def notName : Expr → Bool
  | .Name _ _ => false | _ => true
theorem sw_tg {t : Expr} (h : notName t = true) (e : Expr) (l : Nat) (env : PySem.Env) : swapsWith e (some t) l env = pure false := by
  cases t <;> first | (cases h; done) | (cases e <;> rfl)
def notTup : Expr → Bool
  | .Tuple _ _ _ => false | _ => true
theorem sw_st {t e : Expr} (h : notTup e = true) (env : PySem.Env) : swappedStores [t] e env = pure none := by
  cases e <;> first | (cases h; done) | (cases t <;> rfl)
def plainTg : Expr → Bool
  | .Tuple _ _ _ => false | .List _ _ => false | _ => true
theorem sw_st2 {t e : Expr} (h : plainTg t = true) (env : PySem.Env) : swappedStores [t] e env = pure none := by
  cases t <;> first | (cases h; done) | rfl
theorem asg_map {t : Expr} (h : noStar t = true) (env : PySem.Env) : (assignEach [t] env).map (·.2) = [assign t env] := by rw [asg_star h]; rfl
variable {tg e : Expr} {pos : Pos} {ie : E} {tgi : Tg}
theorem asg_red (hfx : ∀ i ∈ fx, i ∉ tgs tgi) {D : Ends} {σ : St} {H : Hp} (h : tS k C orc fr fx (.asg tgi ie) D σ H) : tAsg (tE k C orc ie) (tG k tgi) D σ H := by
  obtain ⟨F, G, fp, G', o, Ee, h, q⟩ := h
  rw [evS] at h
  obtain ⟨G1, x, h1, h⟩ := R.bind_inv h
  obtain ⟨hb, h⟩ := ite_bad h
  obtain ⟨G2, u, h2, h⟩ := R.bind_inv h
  cases h
  refine ⟨F, G, fp, G1, x.1, x.2, Ee, h1, fun H1 fp1 v E1 T1 S1 R1 => ?_⟩
  rw [hb] at R1
  exact ⟨F, G1, fp1, x.1, _, E1, R1, h2, fun σ' fp' E2 T2 s => q σ' H1 fp' E2 (T1.trans T2) fun i hi => s i (hfx i hi)⟩
/-- target = e, e no comprehension (or the target no name) -/
theorem ss_asg (hs : ∀ l, swapsWith e (some tg) l X.env = pure false) (hw : notTup e = true ∨ plainTg tg = true) (hst : noStar tg = true) (hfx : ∀ i ∈ fx, i ∉ tgs tgi) (he : PE X e (tE k C orc ie)) (hg : PG X tg (tG k tgi)) :
    PS X (.Assign [tg] e pos) (tS k C orc fr fx (.asg tgi ie)) :=
  ps_imp (ps_asg he hg (by show swapsWith e (some tg) _ _ = _; exact hs _) (hw.elim (fun h => sw_st h _) fun h => sw_st2 h _) (asg_map hst _)) fun D σ H h => asg_red hfx h
/-- an owned object in a slot -/
theorem EnvOk.takes {a : Addr} {m : M} {fp0 : Fp} {H0 : Hp} {i : Nat} (E1 : EnvOk k F σ H G fp) (Ea : EnvOk k (fun x => F x ∨ x = a) σ H G fp) (rm : RepM k (Own (fun x => F x ∨ x = a) fp) H (.ref a) m [a]) (nO : ¬ Own F fp a) (hi : i < G.length) (T : Tr fp0 H0 fp H) (ha : (∃ j, a ∈ fp0 j) ∨ H0 a = none) :
    EnvOk k F (σ.set i (some (.ref a))) H (G.set i (.ow m)) (fpSet fp i [a]) ∧ Tr fp0 H0 (fpSet fp i [a]) H := by
  have sub : ∀ x, Own F (fpSet fp i [a]) x → Own (fun x => F x ∨ x = a) fp x := fun x q => by
    rcases q with q | ⟨j, q⟩
    · exact .inl (.inl q)
    · by_cases e : j = i
      · rw [e, fpSet_same] at q; exact .inl (.inr (List.mem_singleton.mp q))
      · rw [fpSet_ne e] at q; exact .inr ⟨j, q⟩
  refine ⟨⟨by rw [List.length_set, List.length_set]; exact E1.len, fun j => ?_, fun j => ?_, fun j l x h1 h2 => ?_, fun j x h1 h2 => ?_, Ea.pm.sub sub⟩, ⟨T.keep, fun j x q => ?_, T.stay⟩⟩
  · by_cases e : j = i
    · subst e
      rw [fpSet_same, List.getElem?_set_self (by rw [E1.len]; exact hi), List.getElem?_set_self hi]
      exact ⟨_, rfl, rm.mono Ext.refl Ea.pm (fun x q => .inl (sub x q)) fun _ _ => rfl⟩
    · rw [List.getElem?_set_ne (Ne.symm e), List.getElem?_set_ne (Ne.symm e), fpSet_ne e]
      have hs := Ea.slot j
      cases hg : G[j]? with
      | none => rw [hg] at hs; exact hs
      | some sl =>
        rw [hg] at hs
        cases sl with
        | dead => exact hs
        | sh d => obtain ⟨⟨x, e, r⟩, z⟩ := hs; exact ⟨⟨x, e, r.sub sub Ea.pm⟩, z⟩
        | ow m => obtain ⟨x, e, r⟩ := hs; exact ⟨x, e, r.mono Ext.refl Ea.pm (fun a q => .inl (sub a q)) fun _ _ => rfl⟩
  · by_cases e : j = i
    · rw [e, fpSet_same]; simp
    · rw [fpSet_ne e]; exact E1.nd j
  · by_cases e : j = i
    · by_cases e2 : l = i
      · rw [e, e2]
      · rw [e, fpSet_same] at h1; rw [fpSet_ne e2] at h2
        rw [List.mem_singleton.mp h1] at h2
        exact absurd (.inr ⟨l, h2⟩) nO
    · by_cases e2 : l = i
      · rw [e2, fpSet_same] at h2; rw [fpSet_ne e] at h1
        rw [List.mem_singleton.mp h2] at h1
        exact absurd (.inr ⟨j, h1⟩) nO
      · rw [fpSet_ne e] at h1; rw [fpSet_ne e2] at h2; exact E1.dj j l x h1 h2
  · by_cases e : j = i
    · rw [e, fpSet_same] at h1; rw [List.mem_singleton.mp h1] at h2; exact nO (.inl h2)
    · rw [fpSet_ne e] at h1; exact E1.df j x h1 h2
  · by_cases e : j = i
    · rw [e, fpSet_same] at q; rw [List.mem_singleton.mp q]; exact ha
    · rw [fpSet_ne e] at q; exact T.new j x q
theorem own_free {v : V} {d : D} {m : M} (r : RepX k P H v d) (h : own1 d = some m) : ∀ a, v = .ref a → ¬ P a := fun a e => by
  subst e
  cases r with
  | lst ht _ => exact ht.2
  | dic _ hn _ _ => exact hn
  | _ => simp [own1] at h
theorem asgO_red {i : Nat} (hfx : i ∉ fx) {D : Ends} {σ : St} {H : Hp} (h : tS k C orc fr fx (.asgO i ie) D σ H) : tAsg (tEf k C orc ie) (gName i) D σ H := by
  obtain ⟨F, G, fp, G', o, Ee, h, q⟩ := h
  rw [evS] at h
  obtain ⟨G1, x, h1, h⟩ := R.bind_inv h
  obtain ⟨hb, h⟩ := ite_bad h
  split at h
  · rename_i m hm
    obtain ⟨hl, h⟩ := ite_ok h
    cases h
    obtain ⟨xd, xb⟩ := x
    simp only at hb hm
    subst hb
    refine ⟨F, G, fp, G1, xd, Ee, h1, fun H1 fp1 v m' E1 T1 S1 R1 hm' f => ?_⟩
    rw [hm] at hm'
    cases hm'
    obtain ⟨a, rfl, Ea, rm, ha⟩ := f
    obtain ⟨E2, T2⟩ := E1.takes Ea rm (own_free R1 hm a rfl) (of_decide_eq_true hl) T1 ha
    exact q _ H1 _ E2 T2 fun j hj => List.getElem?_set_ne fun e => hfx (by rw [e]; exact hj)
  · cases h
variable {x : Str} {p : Pos} {i : Nat}
theorem ss_asgO (hN : X.N.Nodup) (hi : X.N[i]? = some x) (hx : Loc X.env.scope x) (hf : X.fn x = true ∨ X.env.scope.names.lookup x = some .local) (hs : ∀ l, swapsWith e (some (.Name x p)) l X.env = pure false) (hfx : i ∉ fx) (he : PE X e (tEf k C orc ie)) : PS X (.Assign [.Name x p] e pos) (tS k C orc fr fx (.asgO i ie)) :=
  ps_imp (ps_set hN hi hx he (hs _) hf) fun D σ H h => asgO_red hfx h
/-- the state, a name stored -/
theorem gName_of {D : Ends} {te : TE} {σ : St} {H : Hp} (h : tAsg te (tG k (.n i)) D σ H) (hm : ∀ σ H Q Q', (∀ v H', Q v H' → Q' v H') → te σ H Q → te σ H Q') : tAsg te (gName i) D σ H := hm σ H _ _ (fun v H1 ⟨F, G, fp, d, G', E1, r, h, q⟩ => by
  simp only [asgT] at h
  split at h
  · rename_i hl
    cases h
    refine q _ _ (E1.store (v := some v) (of_decide_eq_true hl) ⟨⟨v, rfl, r.sub own_less E1.pm⟩, rfl⟩ fun m z => by cases z) tr_less fun j hj => ?_
    rw [List.getElem?_set_ne]
    intro e
    exact hj (by rw [← e]; exact List.mem_singleton.mpr rfl)
  · cases h) h
end
end Py
end
section
set_option Elab.async false
set_option linter.all false
set_option maxRecDepth 100000
set_option maxHeartbeats 4000000
namespace Py
open PySem PySem.Spec PyProof.Rows L2 C8
section
variable {k : Ki} {C : Ctx} {orc : Orc} {X : Cx} {F : Addr → Prop} {P : Addr → Prop} {σ σ' : St} {H H' : Hp} {G G' : Py.Env} {fp fp' : Fp} {fr : Bool} {fx : List Nat}
variable {tg e : Expr} {pos p : Pos} {ie : E} {tgi : Tg} {x : Str} {i : Nat}
/-! name = [.. for ..] on one line -/
theorem ss_asgLc (B : XB k X) {y : Str} {py : Pos} {elt tg iter : Expr} {ifs : List Expr} {scope : Scope} {own : List (Str × Nat)} {pos spos : Pos} {tgi : Tg} {iti : Py.It} {ifsi : List E} {elti : E} (hk : X.env.scope.kind = .function) (hy : X.N[i]? = some y) (hyl : X.env.scope.names.lookup y = some .local)
    (hl : (py.line == pos.line) = true) (ha : (scope.names.any fun (n, k) => n == y && (k == .local || k == .cell)) = false) (hfx : i ∉ fx)
    (hi : PI X tg iter (tI k C orc iti)) (ok : BlkOk X.N X.env.scope scope own)
    (hg : ∀ (s : Shared) (H : Hp) (C : Addr) (cl : List (Str × Addr)) (fp : List Addr), PG (X.blk s H scope (compEnvC scope cl C X.env) fp) tg (tG k tgi)) (ht : ∀ (s : Shared) (H : Hp) (A : Addr) (cl : List (Str × Addr)) (fp : List Addr), PTs (X.blk s H scope (compEnvC scope cl A X.env) fp) ifs (tF k C orc ifsi))
    (he : ∀ (s : Shared) (H : Hp) (A : Addr) (cl : List (Str × Addr)) (fp : List Addr), PE (X.blk s H scope (compEnvC scope cl A X.env) fp) elt (tE k C orc elti)) (hs : notSet iter = true) (htg : ∀ i ∈ tgs tgi, i ∈ own.map (·.2)) (ow : Bool) :
    PS X (.Assign [.Name y py] (.ListComp elt [⟨tg, iter, ifs, 0⟩] scope pos) spos) (tS k C orc fr fx (if ow = true then .asgO i (.lc (own.map (·.2)) tgi iti ifsi elti) else .asg (.n i) (.lc (own.map (·.2)) tgi iti ifsi elti))) := by
  refine ps_imp (ps_setLc B.calm B.nd hy hyl (sw_true hk hyl hl ha) hi ok hg ht he (folded hs _)) fun D σ H h => ?_
  cases ow with
  | true =>
    have h1 : tEf k C orc (.lc (own.map (·.2)) tgi iti ifsi elti) σ H fun x H1 => gName i x σ H1 D.nx := asgO_red hfx h
    exact lc_red htg B.K h1
  | false =>
    have h1 := gName_of (te := tE k C orc (.lc (own.map (·.2)) tgi iti ifsi elti)) (asg_red (tgi := .n i) (fun j hj e => by
      have : j = i := by simpa [tgs] using e
      exact hfx (by rw [← this]; exact hj)) h) fun σ H Q Q' a b => tE_mono b a
    have h2 : tE k C orc (.lc (own.map (·.2)) tgi iti ifsi elti) σ H fun x H1 => gName i x σ H1 D.nx := h1
    exact lc_red htg B.K (tEf_of (fun _ _ _ _ => lc_clean _ _ _ _) h2)
/-! o[i] = e -/
theorem allLeaf_nil : ∀ {vs : List V} {ms : List M} {as : List Addr}, RepMs k P H vs ms as → allLeaf ms = true → as = []
  | _, _, _, .nil, _ => rfl
  | _, _, _, .cons (m := m) h t, e => by
    cases m with
    | leaf d => cases h with
      | leaf r => rw [allLeaf_nil t e]; rfl
    | _ => cases e
theorem rep_set : ∀ {vs : List V} {ms : List M} {j : Nat} {v : V} {d : D}, RepMs k P H vs ms [] → allLeaf ms = true → RepX k P H v d → RepMs k P H (vs.set j v) (ms.set j (.leaf d)) []
  | [], _, j, v, d, .nil, _, _ => .nil
  | v0 :: vs, m0 :: ms, j, v, d, hh, e, r => by
    generalize hz : ([] : List Addr) = z at hh
    cases hh with
    | @cons _ _ _ _ as bs h t =>
      cases m0 with
      | leaf d0 =>
        cases h with
        | leaf h =>
          have hb : bs = [] := by simpa using hz.symm
          subst hb
          cases j with
          | zero => exact .cons (as := []) (.leaf r) t
          | succ j => exact .cons (as := []) (.leaf h) (rep_set t e r)
      | _ => cases e
theorem put_rep {f : Nat} {v : V} {d : D} (r : RepX k P H v d) : ∀ {fs : List (Str × V)} {ids : List Nat} {ms : List M}, fs.map (·.1) = ids.map k.fd → RepMs k P H (fs.map (·.2)) ms [] → allLeaf ms = true →
    (∀ ms', fldSet ids ms f (.leaf d) = some ms' → (putF (k.fd f) v fs).map (·.1) = ids.map k.fd ∧ RepMs k P H ((putF (k.fd f) v fs).map (·.2)) ms' []) ∧
    (fldSet ids ms f (.leaf d) = none → (putF (k.fd f) v fs).map (·.1) = (ids ++ [f]).map k.fd ∧ RepMs k P H ((putF (k.fd f) v fs).map (·.2)) (ms ++ [.leaf d]) [])
  | [], [], ms, _, h, _ => by
    cases h
    refine ⟨fun ms' e => by simp [fldSet] at e, fun _ => ⟨rfl, .cons (as := []) (.leaf r) .nil⟩⟩
  | [], _ :: _, ms, e, _, _ => by simp at e
  | _ :: _, [], ms, e, _, _ => by simp at e
  | q :: fs, i :: ids, [], e, h, _ => by cases h
  | (q1, q2) :: fs, i :: ids, m0 :: ms, e, h, hl => by
    simp only [List.map_cons, List.cons.injEq] at e
    generalize hz : ([] : List Addr) = z at h
    cases h with
    | @cons _ _ _ _ as bs h t =>
      cases m0 with
      | leaf d0 =>
        cases h with
        | leaf h =>
          have hb : bs = [] := by simpa using hz.symm
          subst hb
          have hput : putF (k.fd f) v ((q1, q2) :: fs) = if q1 = k.fd f then (q1, v) :: fs else (q1, q2) :: putF (k.fd f) v fs := rfl
          by_cases hif : i = f
          · have hq : q1 = k.fd f := by rw [e.1, hif]
            rw [hput, if_pos hq]
            simp only [fldSet, if_pos hif]
            refine ⟨fun ms' e2 => ?_, fun e2 => by cases e2⟩
            cases e2
            exact ⟨by rw [List.map_cons, List.map_cons, e.1, e.2], .cons (as := []) (.leaf r) t⟩
          · have hq : ¬ q1 = k.fd f := fun z => hif (k.inj _ _ (by rw [← e.1, z]))
            rw [hput, if_neg hq]
            simp only [fldSet, if_neg hif]
            obtain ⟨p1, p2⟩ := put_rep r (f := f) e.2 t hl
            refine ⟨fun ms' e2 => ?_, fun e2 => ?_⟩
            · obtain ⟨ms2, e3, rfl⟩ := Option.map_eq_some_iff.mp e2
              obtain ⟨a1, a2⟩ := p1 ms2 e3
              exact ⟨by rw [List.map_cons, List.map_cons, a1, e.1], .cons (as := []) (.leaf h) a2⟩
            · obtain ⟨a1, a2⟩ := p2 (by simpa using e2)
              refine ⟨?_, .cons (as := []) (.leaf h) a2⟩
              rw [List.map_cons, a1, List.cons_append, List.map_cons, e.1]; rfl
      | _ => cases hl
theorem ps_or2 {s : Stmt} {t t' : TS} (h : PS X s t) (h' : PS X s t') : PS X s (fun D σ H => t D σ H ∨ t' D σ H) := ⟨fun pins s σ H D I q => q.elim (h.run pins s σ H D I) (h'.run pins s σ H D I)⟩
variable {o kx : Expr} {ik : E}
theorem asg_sub {i : Expr} (h : noSl i = true) (o : Expr) (pos : Pos) (env : PySem.Env) (v : Value) : assign (.Subscript o i pos) env v = (do
      let ov ← holding [v] (eval o env)
      let iv ← holding [v, ov] (eval i env)
      standAt pos
      holding [v, ov, iv] (setItem ov iv v)
      release [v, ov, iv] []) := by
  cases i <;> first | rfl | cases h
theorem any_key {y : D} {key : Key} (hy : keyV y = some key) : ∀ {ks : List D} {kvs : List (Key × V)}, ks.map keyV = kvs.map (fun p => some p.1) → ks.any (keyEq · y) = kvs.any fun kv => decide (kv.1 = key)
  | [], [], _ => rfl
  | [], _ :: _, h => by simp at h
  | _ :: _, [], h => by simp at h
  | c :: ks, q :: kvs, h => by
    simp only [List.map_cons, List.cons.injEq] at h
    rw [List.any_cons, List.any_cons, keyEq_iff h.1 hy, any_key hy h.2]
theorem zip_rep {y : D} {key : Key} (hy : keyV y = some key) {v : V} {d : D} (r : RepX k P H v d) : ∀ {ks : List D} {kvs : List (Key × V)} {ms : List M}, ks.map keyV = kvs.map (fun p => some p.1) → RepMs k P H (kvs.map (·.2)) ms [] → allLeaf ms = true →
    RepMs k P H ((kvs.map fun kv => if kv.1 = key then (kv.1, v) else kv).map (·.2)) (List.zipWith (fun k' v' => if keyEq k' y then M.leaf d else v') ks ms) []
  | [], [], _, _, .nil, _ => .nil
  | [], _ :: _, _, h, _, _ => by simp at h
  | _ :: _, [], _, h, _, _ => by simp at h
  | c :: ks, q :: kvs, [], h, hm, _ => by cases hm
  | c :: ks, (q1, q2) :: kvs, m0 :: ms, h, hm, hl => by
    simp only [List.map_cons, List.cons.injEq] at h
    generalize hz : ([] : List Addr) = z at hm
    cases hm with
    | @cons _ _ _ _ as bs h0 t =>
      cases m0 with
      | leaf d0 =>
        cases h0 with
        | leaf h0 =>
          have hb : bs = [] := by simpa using hz.symm
          subst hb
          have ih := zip_rep hy r h.2 t hl
          rw [List.map_cons, List.map_cons, List.zipWith_cons_cons]
          refine .cons (as := []) ?_ ih
          rw [keyEq_iff h.1 hy]
          by_cases e : q1 = key
          · rw [if_pos e, if_pos (decide_eq_true e)]; exact .leaf r
          · rw [if_neg e, if_neg (by simpa using e)]; exact .leaf h0
      | _ => cases hl
/-- o[k] = e, o an owned list or dict -/
theorem ss_set (B : XB k X) {pos' : Pos} (hst : noSl kx = true) (he : PE X e (tE k C orc ie)) (ho : PE X o (tP k i [])) (hk : PE X kx (tE k C orc ik)) : PS X (.Assign [.Subscript o kx pos'] e pos) (tS k C orc fr fx (.set i [] ik ie)) := by
  refine ps_imp (ps_or2 (ps_asg he (pg_sub ho hk set_list (asg_sub hst _ _ _)) (show swapsWith e (some (.Subscript o kx pos')) pos.line X.env = pure false from sw_tg rfl _ _ _) (sw_st2 rfl _) (asg_map rfl _)) (ps_dput (by have := B.units; omega) ho hk he (sw_tg rfl _ _ _))) fun D σ H ⟨F, G, fp, G', oo, Ee, h, q⟩ => ?_
  rw [evS] at h
  obtain ⟨G1, x, h1, h⟩ := R.bind_inv h
  obtain ⟨hb, h⟩ := ite_bad h
  rw [Bool.or_eq_false_iff, Bool.or_eq_false_iff] at hb
  obtain ⟨⟨hxb, hkm⟩, hrd⟩ := hb
  have hkm : ik.mf = true := by simpa using hkm
  obtain ⟨G2, y, h2, h⟩ := R.bind_inv h
  obtain ⟨G3, u, h3, h⟩ := R.bind_inv h
  cases h
  obtain ⟨m, m', hg, hf, rfl⟩ := updPl_inv h3
  have rd : ∀ {H1 fp1} (E1 : EnvOk k F σ H1 G1 fp1), ∃ w, σ[i]? = some (some w) := fun {H1 fp1} E1 => by
    have : ∃ m0, readM G1 i [] = some m0 := by
      cases hr : readM G1 i [] with
      | none => rw [hr] at hrd; cases hrd
      | some m0 => exact ⟨m0, rfl⟩
    obtain ⟨m0, hm0⟩ := this
    obtain ⟨w, _, _, e, _⟩ := E1.read hm0
    exact ⟨w, e⟩
  -- where the object and the key have come
  have main : ∀ {H1 fp1 v H2 fp2 w}, EnvOk k F σ H1 G1 fp1 → Tr fp H fp1 H1 → RepX k (Own F fp1) H1 v x.1 → EnvOk k F σ H2 G2 fp2 → Tr fp1 H1 fp2 H2 → (∃ P2, RepX k P2 H2 w y.1) →
      ∃ a, σ[i]? = some (some (.ref a)) ∧ ((∃ vs j, H2 a = some (.lst vs) ∧ (∃ kk, w = .int kk ∧ L2.ixN vs.length kk = some j) ∧ D.nx σ (upd H2 a (.lst (vs.set j v)))) ∨ ∃ kvs key, H2 a = some (.dK kvs) ∧ w = kV key ∧ kvs.length < sizeLine ∧ D.nx σ (upd H2 a (.dK (putK kvs key v)))) := by
    intro H1 fp1 v H2 fp2 w E1 T1 R1 E2 T2 ⟨P2, R2⟩
    obtain ⟨v0, e0, r0⟩ := E2.ow hg
    have R1' := T2.rep E1.pm R1
    have nd := E2.nd i
    have T12 := T1.trans T2
    unfold setM at hf
    split at hf
    · rename_i xs
      split at hf
      · rename_i kk hyk
        rw [hyk] at R2
        split at hf
        · rename_i hal
          obtain ⟨j, hj, hm⟩ := Option.map_eq_some_iff.mp hf
          cases hm
          generalize hfp : fp2 i = as at r0 nd
          cases r0 with
          | @lst a vs _ as' ha rs =>
            have hai : a ∈ fp2 i := by rw [hfp]; exact List.mem_cons_self
            have has : as' = [] := allLeaf_nil rs hal
            subst has
            have ext : Ext (Own F fp2) H2 (upd H2 a (.lst (vs.set j v))) := fun b u h n => by
              rw [upd_ne (fun z => n (.inr ⟨i, by rw [z]; exact hai⟩))]; exact h
            refine ⟨a, e0, .inl ⟨vs, j, ha, ⟨kk, R2.int_inv, by rw [rs.length, ← ixN_eq]; exact hj⟩, ?_⟩⟩
            refine q σ _ fp2 (E2.write (List.getElem?_eq_some_iff.mp hg).1 hai trivial ⟨.ref a, e0, ?_⟩) (T12.trans (tr_write hai)) fun _ _ => rfl
            rw [hfp]
            exact .lst upd_same (rep_set (rs.mono ext E2.pm (fun _ q => .inl q) fun b hb => by cases hb) hal (R1'.mono ext E2.pm fun _ q => .inl q))
        · cases hf
      · cases hf
    · rename_i ks ms
      split at hf
      · rename_i hc
        rw [Bool.and_eq_true, Bool.and_eq_true] at hc
        obtain ⟨hkey, hal, hz⟩ := hc
        cases hf
        obtain ⟨key, ke⟩ := isKey_key hkey
        generalize hfp : fp2 i = as at r0 nd
        cases r0 with
        | @dic a kvs _ _ as' ha hks rs =>
          have hai : a ∈ fp2 i := by rw [hfp]; exact List.mem_cons_self
          have has : as' = [] := allLeaf_nil rs hal
          subst has
          have ext : Ext (Own F fp2) H2 (upd H2 a (.dK (putK kvs key v))) := fun b u h n => by
            rw [upd_ne (fun z => n (.inr ⟨i, by rw [z]; exact hai⟩))]; exact h
          have hlen : kvs.length < sizeLine := by
            have := congrArg List.length hks
            simp only [List.length_map] at this
            rw [← this]; exact szLine_le hz
          refine ⟨a, e0, .inr ⟨kvs, key, ha, key_rel ke R2, hlen, ?_⟩⟩
          refine q σ _ fp2 (E2.write (List.getElem?_eq_some_iff.mp hg).1 hai trivial ⟨.ref a, e0, ?_⟩) (T12.trans (tr_write hai)) fun _ _ => rfl
          rw [hfp]
          have rs' := rs.mono (P' := Own F fp2) ext E2.pm (fun _ q => .inl q) fun b hb => by cases hb
          have R1'' := R1'.mono ext E2.pm (P' := Own F fp2) fun _ q => .inl q
          unfold mPut
          rw [any_key ke hks]
          by_cases hh : (kvs.any fun kv => decide (kv.1 = key)) = true
          · have hp : putK kvs key v = kvs.map (fun kv => if kv.1 = key then (kv.1, v) else kv) := if_pos hh
            rw [if_pos hh]
            refine .dic (by rw [upd_same, hp]) ?_ (zip_rep ke R1'' hks rs' hal)
            rw [hks, List.map_map]
            apply List.map_congr_left
            intro p _
            show some p.1 = some (if p.1 = key then (p.1, v) else p).1
            split <;> rfl
          · have hp : putK kvs key v = kvs ++ [(key, v)] := if_neg hh
            rw [if_neg hh]
            refine .dic (by rw [upd_same, hp]) ?_ ?_
            · rw [List.map_append, List.map_append, hks]; show _ ++ [keyV y.1] = _ ++ [some key]; rw [ke]
            · rw [List.map_append]; exact rs'.snoc R1''
      · cases hf
    · cases hf
  -- which of the two
  have which : (∃ xs, m = .lst xs) ∨ ∃ ks ms, m = .dic ks ms := by
    cases m with
    | lst xs => exact .inl ⟨xs, rfl⟩
    | dic ks ms => exact .inr ⟨ks, ms, rfl⟩
    | _ => simp [setM] at hf
  rcases which with ⟨xs, hm⟩ | ⟨ks, ms, hm⟩
  · left
    refine ⟨F, G, fp, G1, x.1, x.2, Ee, h1, fun H1 fp1 v E1 T1 S1 R1 => ?_⟩
    rw [hxb] at R1
    obtain ⟨w0, ew⟩ := rd E1
    refine ⟨w0, w0, ew, .nil, F, G1, fp1, G2, y.1, y.2, E1, h2, fun H2 fp2 w E2 T2 S2 R2 => ?_⟩
    obtain ⟨a, e0, hcase⟩ := main E1 T1 R1 E2 T2 ⟨_, R2⟩
    rw [ew] at e0
    cases e0
    rcases hcase with ⟨vs, j, ha, ⟨kk, e1, e2⟩, qq⟩ | ⟨kvs, key, ha, _⟩
    · exact ⟨a, vs, kk, j, rfl, e1, ha, e2, qq⟩
    · obtain ⟨v0, e3, r0⟩ := E2.ow hg
      rw [ew] at e3
      cases e3
      rw [hm] at r0
      generalize fp2 i = as at r0
      cases r0 with
      | lst hh _ => rw [ha] at hh; cases hh
  · right
    refine ⟨F, G, fp, G1, x.1, x.2, Ee, h1, fun H1 fp1 v E1 T1 S1 R1 => ?_⟩
    rw [hxb] at R1
    obtain ⟨w0, ew⟩ := rd E1
    refine ⟨w0, w0, ew, .nil, F, G1, fp1, G2, y.1, y.2, E1, h2, fun H2 fp2 w E2 T2 S2 R2 => ?_⟩
    obtain ⟨a, e0, hcase⟩ := main E1 T1 R1 E2 T2 ⟨_, R2⟩
    rw [ew] at e0
    cases e0
    rcases hcase with ⟨vs, j, ha, _⟩ | ⟨kvs, key, ha, e1, hlen, qq⟩
    · obtain ⟨v0, e3, r0⟩ := E2.ow hg
      rw [ew] at e3
      cases e3
      rw [hm] at r0
      generalize fp2 i = as at r0
      cases r0 with
      | dic hh _ _ => rw [ha] at hh; cases hh
    · subst e1
      exact ⟨a, _, rfl, DPut.k ha hlen, qq⟩
end
end Py
end
section
set_option Elab.async false
set_option linter.all false
set_option maxRecDepth 100000
set_option maxHeartbeats 4000000
namespace Py
open PySem PySem.Spec PyProof.Rows L2 C8
section
variable {k : Ki} {C : Ctx} {orc : Orc} {X : Cx} {F : Addr → Prop} {P : Addr → Prop} {σ σ' : St} {H H' : Hp} {G G' : Py.Env} {fp fp' : Fp} {fr : Bool} {fx : List Nat}
variable {o e : Expr} {pos p : Pos} {ie : E} {x : Str} {i : Nat}
/-- o.f = e, o an owned instance -/
theorem ss_fset (B : XB k X) {f : Nat} {pos' : Pos} (A : AttOk k f) (hx : k.fd f = x) (hs : notComp e = true) (he : PE X e (tE k C orc ie)) (ho : PE X o (tP k i [])) : PS X (.Assign [.Attribute o x pos'] e pos) (tS k C orc fr fx (.fset i [] f ie)) := by
  subst hx
  refine ps_imp (ps_fld ho he (sw_no hs _ _ _)) fun D σ H ⟨F, G, fp, G', oo, Ee, h, q⟩ => ?_
  rw [evS] at h
  obtain ⟨G1, x, h1, h⟩ := R.bind_inv h
  obtain ⟨hxb, h⟩ := ite_bad h
  obtain ⟨G3, u, h3, h⟩ := R.bind_inv h
  cases h
  obtain ⟨m, m', hg, hf, rfl⟩ := updPl_inv h3
  refine ⟨F, G, fp, G1, x.1, x.2, Ee, h1, fun H1 fp1 v E1 T1 S1 R1 => ?_⟩
  rw [hxb] at R1
  obtain ⟨v0, e0, r0⟩ := E1.ow hg
  refine ⟨v0, v0, e0, .nil, ?_⟩
  unfold fsetM at hf
  split at hf
  · rename_i c ids ms
    split at hf
    · rename_i hc
      rw [Bool.and_eq_true] at hc
      have nd := E1.nd i
      generalize hfp : fp1 i = as at r0 nd
      cases r0 with
      | @ins a dx _ fs _ _ as' ha hks rs =>
        have hai : a ∈ fp1 i := by rw [hfp]; exact List.mem_cons_self
        have has : as' = [] := allLeaf_nil rs hc.1
        subst has
        have ext : Ext (Own F fp1) H1 (upd H1 a (.ins (k.ca c) dx (putF (k.fd f) v fs))) := fun b u h n => by
          rw [upd_ne (fun z => n (.inr ⟨i, by rw [z]; exact hai⟩))]; exact h
        have hlen : fs.length < 1000 := by
          have := congrArg List.length hks
          simp only [List.length_map] at this
          rw [this]; exact of_decide_eq_true hc.2
        refine ⟨a, _, dx, fs, rfl, ha, by rw [B.K]; exact A.cls c, by rw [B.K]; exact A.no c, hlen, ?_⟩
        obtain ⟨p1, p2⟩ := put_rep (R1.mono (P' := Own F fp1) ext E1.pm fun _ q => .inl q) (f := f) hks (rs.mono (P' := Own F fp1) ext E1.pm (fun _ q => .inl q) fun b hb => by cases hb) hc.1
        have fin : ∀ {ids' ms'}, (putF (k.fd f) v fs).map (·.1) = ids'.map k.fd → RepMs k (Own F fp1) (upd H1 a (.ins (k.ca c) dx (putF (k.fd f) v fs))) ((putF (k.fd f) v fs).map (·.2)) ms' [] → m' = .ins c ids' ms' → D.nx σ (upd H1 a (.ins (k.ca c) dx (putF (k.fd f) v fs))) := fun {ids' ms'} a1 a2 em => by
          subst em
          refine q σ _ fp1 (E1.write (List.getElem?_eq_some_iff.mp hg).1 hai trivial ⟨.ref a, e0, ?_⟩) (T1.trans (tr_write hai)) fun _ _ => rfl
          rw [hfp]
          exact .ins upd_same a1 a2
        cases hfs : fldSet ids ms f (.leaf x.1) with
        | some ms' =>
          rw [hfs] at hf
          obtain ⟨a1, a2⟩ := p1 ms' hfs
          exact fin a1 a2 (by simpa using (Option.some.inj hf).symm)
        | none =>
          rw [hfs] at hf
          obtain ⟨a1, a2⟩ := p2 hfs
          exact fin a1 a2 (by simpa using (Option.some.inj hf).symm)
    · cases hf
  · cases hf
/-! name op= e -/
def augOk : BinO → Bool
  | .pow => false | .mul => false | .fdiv => false | _ => true
theorem ip_bin (o : BinO) (ho : augOk o = true) : PIp X (opOf o) (fun x y H Q => ∃ i j r, x = .int i ∧ y = .int j ∧ binop o (.int i) (.int j) = some (.int r) ∧ Q (.int r) H) := by
  intro pins s σ H x y v u Q I rx ry ⟨i, j, r, e1, e2, h, q⟩
  subst e1 e2
  cases o with
  | pow => cases ho
  | mul => cases ho
  | fdiv => cases ho
  | add => cases h; exact iop_add pins s σ H _ _ v u Q I rx ry ⟨_, _, rfl, rfl, q⟩
  | sub => cases h; exact iop_sub pins s σ H _ _ v u Q I rx ry ⟨_, _, rfl, rfl, q⟩
  | band => cases h; exact iop_and pins s σ H _ _ v u Q I rx ry ⟨_, _, rfl, rfl, q⟩
  | bor => cases h; exact iop_or pins s σ H _ _ v u Q I rx ry ⟨_, _, rfl, rfl, q⟩
  | bxor => cases h; exact iop_xor pins s σ H _ _ v u Q I rx ry ⟨_, _, rfl, rfl, q⟩
  | mod =>
    simp only [binop] at h
    split at h
    · rename_i hz
      cases h
      exact iop_mod pins s σ H _ _ v u Q I rx ry ⟨_, _, rfl, rfl, of_decide_eq_true hz, q⟩
    · cases h
  | shl =>
    simp only [binop] at h
    split at h
    · rename_i hz
      simp only [Bool.and_eq_true, decide_eq_true_eq] at hz
      cases h
      exact iop_shl pins s σ H _ _ v u Q I rx ry ⟨_, _, rfl, rfl, cpow_ok hz, q⟩
    · cases h
  | shr =>
    simp only [binop] at h
    split at h
    · rename_i hz
      cases h
      exact iop_shr pins s σ H _ _ v u Q I rx ry ⟨_, _, rfl, rfl, of_decide_eq_true hz, q⟩
    · cases h
theorem bin_int {o : BinO} {i : Int} {y d : D} (ho : augOk o = true) (h : binop o (.int i) y = some d) : ∃ j r, y = .int j ∧ d = .int r := by
  cases o <;> first | (cases ho; done) | skip
  all_goals
    cases y <;> simp [binop] at h <;> first
      | exact ⟨_, _, rfl, h.symm⟩
      | exact ⟨_, _, rfl, h.2.symm⟩
theorem ss_aug {op : BinO} {opx : Operator} (ho : augOk op = true) (hop : opOf op = opx) (hN : X.N.Nodup) (hi : X.N[i]? = some x) (hx : Loc X.env.scope x) (hf : X.fn x = true ∨ X.env.scope.names.lookup x = some .local) (hfx : i ∉ fx) (he : PE X e (tE k C orc ie)) : PS X (.AugAssign (.Name x p) opx e pos) (tS k C orc fr fx (.aug i op ie)) := by
  subst hop
  refine ps_imp (ps_aug hN hi hx he (ip_bin op ho) hf) fun D σ H ⟨F, G, fp, G', oo, Ee, h, q⟩ => ?_
  rw [evS] at h
  split at h
  · rename_i d0 hg
    obtain ⟨G1, y, h1, h⟩ := R.bind_inv h
    split at h
    · rename_i i0 d hd hbin
      cases h
      obtain ⟨v, e0, r0⟩ := Ee.sh hg
      rw [r0.int_inv] at e0
      obtain ⟨j, r, e1, e2⟩ := bin_int ho hbin
      subst e2
      refine ⟨_, e0, F, G, fp, G1, y.1, y.2, Ee, h1, fun H1 fp1 w E1 T1 S1 R1 => ?_⟩
      rw [e1] at R1 hbin
      rw [(show RepX k _ H1 w (.int j) from R1).int_inv]
      refine ⟨i0, j, r, rfl, rfl, hbin, ?_⟩
      have hl : i < G1.length := by
        rw [← E1.len, Ee.len]; exact (List.getElem?_eq_some_iff.mp hg).1
      refine q _ H1 _ (E1.store (v := some (.int r)) hl ⟨⟨_, rfl, .int r⟩, rfl⟩ fun m z => by cases z) (T1.trans tr_less) fun l hl2 => ?_
      exact List.getElem?_set_ne fun e => hfx (by rw [e]; exact hl2)
    · cases h
  · cases h
/-! the small statements -/
theorem ss_expr (hs : notComp e = true) (he : PE X e (tE k C orc ie)) : PS X (.Expr e pos) (tS k C orc fr fx (.expr ie)) := ps_imp (ps_expr he (sw_no hs _ _ _)) fun D σ H ⟨F, G, fp, G', oo, Ee, h, q⟩ => by
  rw [evS] at h
  obtain ⟨G1, x, h1, h⟩ := R.bind_inv h
  cases h
  exact ⟨F, G, fp, _, x.1, x.2, Ee, h1, fun H1 fp1 v E1 T1 S1 R1 => q σ H1 fp1 E1 T1 fun _ _ => rfl⟩
theorem ss_doc {t : Str} {j : Nat} {pos' : Pos} : PS X (.Expr (.Constant (.str t) j pos') pos) (tS k C orc fr fx .pass) := ps_imp ps_doc fun D σ H ⟨F, G, fp, G', oo, Ee, h, q⟩ => by
  rw [evS] at h
  cases h
  exact q σ H fp Ee (.refl _ _) fun _ _ => rfl
theorem ss_pass : PS X (.Pass pos) (tS k C orc fr fx .pass) := ps_imp ps_pass fun D σ H ⟨F, G, fp, G', oo, Ee, h, q⟩ => by
  rw [evS] at h
  cases h
  exact q σ H fp Ee (.refl _ _) fun _ _ => rfl
theorem ss_brk : PS X (.Break pos) (tS k C orc fr fx .brk) := ps_imp ps_break fun D σ H ⟨F, G, fp, G', oo, Ee, h, q⟩ => by
  rw [evS] at h
  cases h
  exact q σ H fp Ee (.refl _ _) fun _ _ => rfl
theorem ss_cont : PS X (.Continue pos) (tS k C orc fr fx .cont) := ps_imp ps_continue fun D σ H ⟨F, G, fp, G', oo, Ee, h, q⟩ => by
  rw [evS] at h
  cases h
  exact q σ H fp Ee (.refl _ _) fun _ _ => rfl
theorem ss_raise {st : Stmt} : PS X st (tS k C orc fr fx .raise) := ⟨fun pins s σ H D I ⟨F, G, fp, G', oo, Ee, h, q⟩ => by rw [evS] at h; cases h⟩
theorem ss_ret (hf : fr = false) (he : PE X e (tE k C orc ie)) : PS X (.Return (some e) pos) (tS k C orc fr fx (.ret ie)) := ps_imp (ps_ret he) fun D σ H ⟨F, G, fp, G', oo, Ee, h, q⟩ => by
  rw [evS] at h
  obtain ⟨G1, x, h1, h⟩ := R.bind_inv h
  obtain ⟨hb, h⟩ := ite_bad h
  cases h
  refine ⟨F, G, fp, _, x.1, x.2, Ee, h1, fun H1 fp1 v E1 T1 S1 R1 => ?_⟩
  rw [hb] at R1
  exact q σ H1 fp1 E1 T1 (fun _ _ => rfl) v R1 fun z => by rw [hf] at z; cases z
theorem ss_retF (he : PE X e (tEf k C orc ie)) : PS X (.Return (some e) pos) (tS k C orc fr fx (.ret ie)) := ps_imp (ps_ret he) fun D σ H ⟨F, G, fp, G', oo, Ee, h, q⟩ => by
  rw [evS] at h
  obtain ⟨G1, x, h1, h⟩ := R.bind_inv h
  obtain ⟨hb, h⟩ := ite_bad h
  cases h
  obtain ⟨xd, xb⟩ := x
  simp only at hb
  subst hb
  exact ⟨F, G, fp, _, xd, Ee, h1, fun H1 fp1 v m E1 T1 S1 R1 hm f => q σ H1 fp1 E1 T1 (fun _ _ => rfl) v R1 fun _ => ⟨m, hm, f⟩⟩
theorem ss_retN (hf : fr = false) : PS X (.Return none pos) (tS k C orc fr fx .retN) := ps_imp ps_retN fun D σ H ⟨F, G, fp, G', oo, Ee, h, q⟩ => by
  rw [evS] at h
  cases h
  exact q σ H fp Ee (.refl _ _) (fun _ _ => rfl) .non .non fun z => by rw [hf] at z; cases z
theorem allLeaf_own : ∀ {ms : List M}, allLeaf ms = true → ∃ ds : List D, ms = ds.map .leaf ∧ M.fzL ms = ds
  | [], _ => ⟨[], rfl, rfl⟩
  | .leaf d :: ms, h => by
    obtain ⟨ds, e1, e2⟩ := allLeaf_own (ms := ms) h
    exact ⟨d :: ds, by rw [e1]; rfl, by show d :: M.fzL ms = d :: ds; rw [e2]⟩
  | .lst _ :: _, h => by cases h
  | .dic _ _ :: _, h => by cases h
  | .ins _ _ _ :: _, h => by cases h
theorem ss_retO (hi : X.N[i]? = some x) (hv : Vis X.env.scope x) (hd : (x == ("__debug__" : Str)) = false) (hcd : (x == ("__classdict__" : Str)) = false) : PS X (.Return (some (.Name x p)) pos) (tS k C orc fr fx (.retO i)) := ps_imp (ps_ret (pe_var hi hv hd hcd)) fun D σ H ⟨F, G, fp, G', oo, Ee, h, q⟩ => by
  rw [evS] at h
  split at h
  · rename_i m hg
    obtain ⟨hfl, h⟩ := ite_ok h
    cases h
    obtain ⟨v, e0, _, r1⟩ := Ee.freeze hg
    have E1 : EnvOk k F σ H (G.set i .dead) (fpSet fp i []) := by
      have := Ee.store (v := some v) (s := .dead) (List.getElem?_eq_some_iff.mp hg).1 rfl (fun _ z => by cases z)
      rwa [set_get e0] at this
    refine ⟨v, e0, q σ H _ E1 tr_less (fun _ _ => rfl) v r1 fun _ => ?_⟩
    obtain ⟨v', e1, rm⟩ := Ee.ow hg
    rw [e0] at e1
    cases e1
    have root : ∃ a, v = .ref a ∧ fp i = [a] ∧ own1 m.fz = some m := by
      generalize hfp : fp i = as at rm
      cases rm with
      | lst ha rs =>
        have := allLeaf_nil rs hfl
        subst this
        obtain ⟨ds, e2, e3⟩ := allLeaf_own hfl
        exact ⟨_, rfl, rfl, by show some (M.lst ((M.fzL _).map .leaf)) = _; rw [e3, ← e2]⟩
      | dic ha hk rs =>
        have := allLeaf_nil rs hfl
        subst this
        obtain ⟨ds, e2, e3⟩ := allLeaf_own hfl
        exact ⟨_, rfl, rfl, by show some (M.dic _ ((M.fzL _).map .leaf)) = _; rw [e3, ← e2]⟩
      | leaf _ => cases hfl
      | ins _ _ _ => cases hfl
    obtain ⟨a, rfl, hfp, ho⟩ := root
    have sub : ∀ y, Own (fun x => F x ∨ x = a) (fpSet fp i []) y → Own F fp y := fun y z => by
      rcases z with (z | z) | ⟨j, z⟩
      · exact .inl z
      · exact .inr ⟨i, by rw [hfp, z]; simp⟩
      · by_cases e : j = i
        · rw [e, fpSet_same] at z; cases z
        · rw [fpSet_ne e] at z; exact .inr ⟨j, z⟩
    refine ⟨m, ho, a, rfl, ?_, ?_, .inl ⟨i, by rw [hfp]; simp⟩⟩
    · refine ⟨E1.len, fun j => ?_, E1.nd, E1.dj, fun j y h1 h2 => ?_, Ee.pm.sub sub⟩
      · by_cases e : j = i
        · subst e
          rw [fpSet_same, List.getElem?_set_self (List.getElem?_eq_some_iff.mp hg).1]
          exact rfl
        · rw [List.getElem?_set_ne (Ne.symm e), fpSet_ne e]
          have hs := Ee.slot j
          cases hgj : G[j]? with
          | none => rw [hgj] at hs; exact hs
          | some sl =>
            rw [hgj] at hs
            cases sl with
            | dead => exact hs
            | sh d => obtain ⟨⟨x, e, r⟩, z⟩ := hs; exact ⟨⟨x, e, r.sub sub Ee.pm⟩, z⟩
            | ow m => obtain ⟨x, e, r⟩ := hs; exact ⟨x, e, r.mono Ext.refl Ee.pm (fun a q => .inl (sub a q)) fun _ _ => rfl⟩
      · rcases h2 with h2 | h2
        · exact E1.df j y h1 h2
        · by_cases e : j = i
          · rw [e, fpSet_same] at h1; cases h1
          · rw [fpSet_ne e] at h1
            exact e (Ee.dj j i y h1 (by rw [hfp, h2]; simp))
    · rw [← hfp]
      exact rm.mono Ext.refl Ee.pm (fun y z => .inl (sub y z)) fun _ _ => rfl
  · cases h
end
end Py
end
section
set_option Elab.async false
set_option linter.all false
set_option maxRecDepth 100000
set_option maxHeartbeats 4000000
namespace Py
open PySem PySem.Spec PyProof.Rows L2 C8
section
variable {k : Ki} {C : Ctx} {orc : Orc} {X : Cx} {F : Addr → Prop} {P : Addr → Prop} {σ σ' : St} {H H' : Hp} {G G' : Py.Env} {fp fp' : Fp} {fr : Bool} {fx : List Nat}
variable {o e : Expr} {pos p : Pos} {ie : E} {x : Str} {i : Nat}
theorem ss_ite {c : Expr} {a b : List Stmt} {ic : E} {ia ib : List S} (hc : PT X c (tT k C orc ic)) (ha : PSs X a (tSs k C orc fr fx ia)) (hb : PSs X b (tSs k C orc fr fx ib)) : PS X (.If c a b pos) (tS k C orc fr fx (.ite ic ia ib)) := by
  refine ps_imp (ps_if hc ha hb) fun D σ H ⟨F, G, fp, G', oo, Ee, h, q⟩ => ?_
  rw [evS] at h
  obtain ⟨G1, kb, h1, h⟩ := R.bind_inv h
  refine ⟨F, G, fp, G1, kb, Ee, h1, fun H1 fp1 E1 T1 S1 => ?_⟩
  cases kb with
  | true =>
    simp only [if_true] at h ⊢
    exact ⟨F, G1, fp1, G', oo, E1, h, fun σ2 H2 fp2 E2 T2 f2 => (q σ2 H2 fp2 E2 (T1.trans T2) f2).back T1⟩
  | false =>
    simp only [Bool.false_eq_true, if_false] at h ⊢
    exact ⟨F, G1, fp1, G', oo, E1, h, fun σ2 H2 fp2 E2 T2 f2 => (q σ2 H2 fp2 E2 (T1.trans T2) f2).back T1⟩
theorem ss_for (B : XB k X) (hxe : X.xe = fun _ _ => False) {tg iter : Expr} {body : List Stmt} {tgi : Tg} {iti : Py.It} {ib : List S} (hs : notSet iter = true) (hfx : ∀ j ∈ fx, j ∉ tgs tgi) (hi : PI X tg iter (tI k C orc iti)) (hg : PG X tg (tG k tgi)) (hb : PSs X body (tSs k C orc fr fx ib)) :
    PS X (.For tg iter body [] pos) (tS k C orc fr fx (.for_ tgi iti ib)) := by
  have hp : PassesOwn (model X.prog X.w) X.A X.env X.xe := by rw [hxe]; exact .never
  refine ps_imp (ps_for hp B.calm hi hg hb (folded hs _)) fun D σ H ⟨F, G, fp, G', oo, Ee, h, q⟩ => ?_
  rw [evS] at h
  obtain ⟨G1, r, h1, h⟩ := R.bind_inv h
  obtain ⟨hr, h⟩ := ite_bad h
  refine ⟨F, G, fp, G1, r.1, r.2, Ee, h1, fun J H1 fp1 E1 T1 S1 wk => ?_⟩
  refine ⟨fun i m σx Hx => m = r.1.length - i ∧ i ≤ r.1.length ∧ ∃ Gx fpx, EnvOk k F σx Hx Gx fpx ∧ Tr fp1 H1 fpx Hx ∧ (∀ j ∈ fx, σx[j]? = σ[j]?) ∧ forLoop (asgT tgi) (evSs C orc ib) (r.1.drop i) Gx = .ok G' oo, ⟨r.1.length, rfl, Nat.zero_le _, G1, fp1, E1, .refl _ _, fun _ _ => rfl, h⟩, ?_⟩
  rintro i m σx Hx ⟨rfl, hi, Gx, fpx, Ex, Tx, hfix, hl⟩
  obtain ⟨wst, wgo⟩ := wk Hx fpx F (fun a z => .inl z) Ex.pm Tx fun z => by rw [hr] at z; cases z
  by_cases hlt : i < r.1.length
  · right
    have hd : r.1[i]? = some r.1[i] := List.getElem?_eq_getElem hlt
    obtain ⟨jgo, jy⟩ := wgo i _ hd
    generalize hdi : r.1[i] = di at hd jy
    have hdr : r.1.drop i = di :: r.1.drop (i + 1) := by rw [List.drop_eq_getElem_cons hlt, hdi]
    rw [hdr] at hl
    unfold forLoop at hl
    obtain ⟨G3, u, t1, hl⟩ := R.bind_inv hl
    obtain ⟨Gb, ob, t2, hl⟩ := R.bind_inv hl
    refine ⟨jgo, fun σy Hy => ∃ Gy fpy, EnvOk k F σy Hy Gy fpy ∧ Tr fp1 H1 fpy Hy ∧ (∀ j ∈ fx, σy[j]? = σ[j]?) ∧ forLoop (asgT tgi) (evSs C orc ib) (r.1.drop (i + 1)) Gy = .ok G' oo, fun σy Hy hy => ⟨r.1.length - (i + 1), by omega, rfl, hlt, hy⟩, fun x Hy y => ?_⟩
    obtain ⟨sy, ry⟩ := jy x Hy y
    have Ey := Ex.same sy
    have Ty := Tx.trans (same_tr (fp := fpx) sy)
    refine ⟨F, Gx, fpx, di, G3, Ey, ry, t1, fun σ2 fp2 E2 T2 s2 => ⟨F, G3, fp2, Gb, ob, E2, t2, fun σ3 H3 fp3 E3 T3 f3 => ?_⟩⟩
    have T123 := (Ty.trans T2).trans T3
    have fix3 : ∀ j ∈ fx, σ3[j]? = σ[j]? := fun j hj => by rw [f3 j hj, s2 j (hfx j hj), hfix j hj]
    cases ob with
    | next => exact ⟨Gb, fp3, E3, T123, fix3, hl⟩
    | cont => exact ⟨Gb, fp3, E3, T123, fix3, hl⟩
    | brk => cases hl; exact q σ3 H3 fp3 E3 (T1.trans T123) fix3
    | ret d => cases hl; exact (q σ3 H3 fp3 E3 (T1.trans T123) fix3).back ((T1.trans Ty).trans T2)
  · left
    have e : i = r.1.length := by omega
    subst e
    rw [List.drop_length] at hl
    unfold forLoop at hl
    cases hl
    exact ⟨wst, q σx Hx fpx Ex (T1.trans Tx) hfix⟩
theorem ss_while (hxe : X.xe = fun _ _ => False) {c : Expr} {body : List Stmt} {ic : E} {ib : List S} (hc : PT X c (tT k C orc ic)) (hb : PSs X body (tSs k C orc fr fx ib)) : PS X (.While c body [] pos) (tS k C orc fr fx (.while_ ic ib)) := by
  have hp : PassesOwn (model X.prog X.w) X.A X.env X.xe := by rw [hxe]; exact .never
  refine ps_imp (ps_while hp hc hb) fun D σ H ⟨F, G, fp, G', oo, Ee, h, q⟩ => ?_
  rw [evS] at h
  refine ⟨fun m σx Hx => ∃ Gx fpx, EnvOk k F σx Hx Gx fpx ∧ Tr fp H fpx Hx ∧ (∀ j ∈ fx, σx[j]? = σ[j]?) ∧ whileLoop (evT C orc ic) (evSs C orc ib) m Gx = .ok G' oo, ⟨C.wh, G, fp, Ee, .refl _ _, fun _ _ => rfl, h⟩, ?_⟩
  rintro m σx Hx ⟨Gx, fpx, Ex, Tx, hfix, hl⟩
  cases m with
  | zero => simp [whileLoop] at hl
  | succ m =>
    unfold whileLoop at hl
    obtain ⟨G1, kb, t1, hl⟩ := R.bind_inv hl
    refine ⟨F, Gx, fpx, G1, kb, Ex, t1, fun H1 fp1 E1 T1 S1 => ?_⟩
    cases kb with
    | false =>
      simp only [Bool.false_eq_true, if_false] at hl ⊢
      cases hl
      exact q σx H1 fp1 E1 (Tx.trans T1) hfix
    | true =>
      simp only [if_true] at hl ⊢
      obtain ⟨Gb, ob, t2, hl⟩ := R.bind_inv hl
      refine ⟨fun σy Hy => ∃ Gy fpy, EnvOk k F σy Hy Gy fpy ∧ Tr fp H fpy Hy ∧ (∀ j ∈ fx, σy[j]? = σ[j]?) ∧ whileLoop (evT C orc ic) (evSs C orc ib) m Gy = .ok G' oo, fun σy Hy hy => ⟨m, Nat.lt_succ_self _, hy⟩, F, G1, fp1, Gb, ob, E1, t2, fun σ3 H3 fp3 E3 T3 f3 => ?_⟩
      have T3' := (Tx.trans T1).trans T3
      have fix3 : ∀ j ∈ fx, σ3[j]? = σ[j]? := fun j hj => by rw [f3 j hj, hfix j hj]
      cases ob with
      | next => exact ⟨Gb, fp3, E3, T3', fix3, hl⟩
      | cont => exact ⟨Gb, fp3, E3, T3', fix3, hl⟩
      | brk => cases hl; exact q σ3 H3 fp3 E3 T3' fix3
      | ret d => cases hl; exact (q σ3 H3 fp3 E3 T3' fix3).back (Tx.trans T1)
theorem ss_try (hxe : X.xe = fun _ _ => False) {body : List Stmt} {h0 : ExceptHandler} {hs : List ExceptHandler} {ib : List S} (hb : PSs X body (tSs k C orc fr fx ib)) : PS X (.Try body (h0 :: hs) [] [] pos) (tS k C orc fr fx (.try_ ib)) := by
  refine ps_imp (ps_try_never (fun e s z => by rw [hxe] at z; exact z) hb pss_nil) fun D σ H ⟨F, G, fp, G', oo, Ee, h, q⟩ => ?_
  rw [evS] at h
  exact ⟨F, G, fp, G', oo, Ee, h, q⟩

/-! ### a def -/
theorem start_get (N : List Str) (vs : List V) (i : Nat) : (L2.start N vs)[i]? = if i < vs.length then (vs.map some)[i]? else if i < N.length then some none else none := by
  unfold L2.start
  by_cases h : i < vs.length
  · rw [if_pos h, List.getElem?_append_left (by rw [List.length_map]; exact h)]
  · rw [if_neg h, List.getElem?_append_right (by rw [List.length_map]; omega), List.length_map, List.getElem?_replicate]
    by_cases h2 : i < N.length
    · rw [if_pos h2, if_pos (by omega)]
    · rw [if_neg h2, if_neg (by omega)]
theorem enter_env {N : List Str} {vs : List V} {as : List Slot} (E1 : EnvOk k F (vs.map some) H as fp) (hl : as.length ≤ N.length) : EnvOk k F (L2.start N vs) H (enter N.length as) fp := by
  have hlen : vs.length = as.length := by have := E1.len; rw [List.length_map] at this; exact this
  refine ⟨?_, fun i => ?_, E1.nd, E1.dj, E1.df, E1.pm⟩
  · unfold L2.start enter
    rw [List.length_append, List.length_append, List.length_map, List.length_replicate, List.length_replicate, hlen]
  · have hs := E1.slot i
    rw [start_get]
    unfold enter
    by_cases h : i < as.length
    · rw [if_pos (by omega), List.getElem?_append_left h]; exact hs
    · rw [List.getElem?_append_right (by omega)]
      have hf : fp i = [] := by
        rw [List.getElem?_eq_none (Nat.le_of_not_lt h)] at hs; exact hs
      rw [hf, List.getElem?_replicate]
      repeat (first | exact rfl | split)
/-- the owned parameters, where they are -/
def ioFrom : List Bool → Nat → List Nat
  | [], _ => []
  | true :: bs, n => n :: ioFrom bs (n + 1)
  | false :: bs, n => ioFrom bs (n + 1)
theorem leave_get : ∀ {bs : List Bool} {G : Py.Env} {os : List Slot}, leave bs G = some os → os.length = bs.length ∧ ∀ i : Nat, os[i]? = none ∨ os[i]? = some Slot.dead ∨ ∃ m, os[i]? = some (Slot.ow m) ∧ G[i]? = some (Slot.ow m) ∧ bs[i]? = some true
  | [], G, os, h => by
    simp [leave] at h; subst h; exact ⟨rfl, fun i => .inl (by simp)⟩
  | true :: bs, [], os, h => by simp [leave] at h
  | true :: bs, .ow m :: G, os, h => by
    simp only [leave] at h
    obtain ⟨os', h1, rfl⟩ := Option.map_eq_some_iff.mp h
    obtain ⟨l, g⟩ := leave_get h1
    refine ⟨by simp [l], fun i => ?_⟩
    cases i with
    | zero => exact .inr (.inr ⟨m, rfl, rfl, rfl⟩)
    | succ i => simpa using g i
  | true :: bs, .sh d :: G, os, h => by simp [leave] at h
  | true :: bs, .dead :: G, os, h => by simp [leave] at h
  | false :: bs, [], os, h => by simp [leave] at h
  | false :: bs, s :: G, os, h => by
    simp only [leave] at h
    obtain ⟨os', h1, rfl⟩ := Option.map_eq_some_iff.mp h
    obtain ⟨l, g⟩ := leave_get h1
    refine ⟨by simp [l], fun i => ?_⟩
    cases i with
    | zero => exact .inr (.inl rfl)
    | succ i => simpa using g i
theorem io_mem : ∀ {bs : List Bool} {n i : Nat}, bs[i]? = some true → n + i ∈ ioFrom bs n
  | [], n, i, h => by simp at h
  | true :: bs, n, 0, _ => by simp [ioFrom]
  | false :: bs, n, 0, h => by simp at h
  | true :: bs, n, i + 1, h => by
    have := io_mem (n := n + 1) (i := i) (bs := bs) (by simpa using h)
    simp only [ioFrom, List.mem_cons]
    right
    rwa [show n + (i + 1) = n + 1 + i from by omega]
  | false :: bs, n, i + 1, h => by
    have := io_mem (n := n + 1) (i := i) (bs := bs) (by simpa using h)
    simp only [ioFrom]
    rwa [show n + (i + 1) = n + 1 + i from by omega]
def fpLeave (fp : Fp) (os : List Slot) : Fp := fun i => match os[i]? with
  | some (.ow _) => fp i
  | _ => []
theorem fpLeave_sub {os : List Slot} {i : Nat} {a : Addr} (h : a ∈ fpLeave fp os i) : a ∈ fp i := by
  unfold fpLeave at h
  split at h
  · exact h
  · cases h
theorem leave_env {bs : List Bool} {vs : List V} {os : List Slot} (E1 : EnvOk k F σ H G fp) (h : leave bs G = some os) (hl : vs.length = bs.length) (hfix : ∀ i ∈ ioFrom bs 0, σ[i]? = (vs.map some)[i]?) : EnvOk k F (vs.map some) H os (fpLeave fp os) := by
  obtain ⟨lo, g⟩ := leave_get h
  have sub : ∀ a, Own F (fpLeave fp os) a → Own F fp a := fun a q => q.imp id fun ⟨i, z⟩ => ⟨i, fpLeave_sub z⟩
  refine ⟨by rw [List.length_map, lo, hl], fun i => ?_, fun i => ?_, fun i j a h1 h2 => E1.dj i j a (fpLeave_sub h1) (fpLeave_sub h2), fun i a h1 => E1.df i a (fpLeave_sub h1), E1.pm.sub sub⟩
  · rcases g i with e | e | ⟨m, e, e2, e3⟩
    · rw [e]; show fpLeave fp os i = []; unfold fpLeave; rw [e]
    · rw [e]; show fpLeave fp os i = []; unfold fpLeave; rw [e]
    · rw [e]
      obtain ⟨x, ex, r⟩ := E1.ow e2
      have hf : fpLeave fp os i = fp i := by unfold fpLeave; rw [e]
      have hi := hfix i (by have := io_mem (n := 0) e3; simpa using this)
      refine ⟨x, by rw [← hi]; exact ex, ?_⟩
      rw [hf]
      exact r.mono Ext.refl E1.pm (fun a q => .inl (sub a q)) fun _ _ => rfl
  · unfold fpLeave
    split
    · exact E1.nd i
    · exact List.nodup_nil
theorem tr_leave {os : List Slot} : Tr fp H (fpLeave fp os) H := ⟨fun _ _ h _ => h, fun i a h => .inl ⟨i, fpLeave_sub h⟩, fun _ h => h⟩
/-- what a def's body reaches is what the def promises -/
theorem fn_red {C : Ctx} {orc : Orc} {Fn0 : Fn} {N : List Str} {f : Nat} {vs : List V} {H : Hp} {Q : VK} {E : XK} {orc' : Orc} (hN : Fn0.n = N.length) (hfr : C.fr f = Fn0.fr) (ho : ∀ as, orc' f as = runFn C orc Fn0 as) (h : spF k C orc' f Fn0.io.length vs H Q E) :
    tSs k C orc Fn0.fr (ioFrom Fn0.io 0) Fn0.body { nx := fun _ H' => Q .non H', rt := Q } (L2.start N vs) H := by
  obtain ⟨hlen, F, as, os, d, fp, hrun, E1, q⟩ := h
  rw [ho] at hrun
  unfold runFn at hrun
  split at hrun
  · rename_i hc
    rw [Bool.and_eq_true, decide_eq_true_eq] at hc
    have hal : as.length ≤ N.length := by rw [← hN]; exact hc.2
    have Es := enter_env E1 hal
    rw [hN] at hrun
    split at hrun
    · rename_i G o hev
      refine ⟨F, _, fp, G, o, Es, hev, fun σ' H' fp' E' T fix => ?_⟩
      split at hrun
      · rename_i os' hlv
        have hlb : vs.length = Fn0.io.length := hlen
        have fixv : ∀ i ∈ ioFrom Fn0.io 0, σ'[i]? = (vs.map some)[i]? := fun i hi => by
          rw [fix i hi, start_get]
          have : ∀ {bs : List Bool} {n i : Nat}, i ∈ ioFrom bs n → i < n + bs.length := by
            intro bs
            induction bs with
            | nil => intro n i h; cases h
            | cons b bs ih =>
              intro n i h
              cases b with
              | true =>
                simp only [ioFrom, List.mem_cons] at h
                rcases h with h | h
                · rw [h, List.length_cons]; omega
                · have := ih h; rw [List.length_cons]; omega
              | false => have := ih (show i ∈ ioFrom bs (n + 1) from h); rw [List.length_cons]; omega
          have := this hi
          rw [if_pos (by omega)]
        have E2 := leave_env (vs := vs) E' hlv hlb fixv
        split at hrun
        · rename_i d'
          have e1 : os' = os := by injection hrun
          have e2 : d' = d := by injection hrun
          subst e1 e2
          intro v R fr
          refine q H' _ v E2 (T.trans tr_leave) (R.sub (fun a z => z.imp id fun ⟨i, y⟩ => ⟨i, fpLeave_sub y⟩) E'.pm) fun hf => ?_
          rw [hfr] at hf
          obtain ⟨m, hm, a, ev, Ea, rm, ha⟩ := fr hf
          refine ⟨m, hm, a, ev, leave_env Ea hlv hlb fixv, ?_, ha⟩
          exact rm.mono Ext.refl Ea.pm (fun y z => .inl (z.imp id fun ⟨i, y⟩ => ⟨i, fpLeave_sub y⟩)) fun _ _ => rfl
        · split at hrun
          · cases hrun
          · rename_i hnf
            have e1 : os' = os := by injection hrun
            have e2 : D.non = d := by injection hrun
            subst e1 e2
            exact q H' _ .non E2 (T.trans tr_leave) .non fun hf => by rw [hfr] at hf; exact absurd hf hnf
        · cases hrun
      · cases hrun
    · cases hrun
  · cases hrun
end
end Py
end
section
set_option Elab.async false
set_option linter.all false
set_option maxRecDepth 100000
set_option maxHeartbeats 4000000
namespace Py
open PySem PySem.Spec PyProof.Rows L2 C8
/-! ### the checker: terms against the program's syntax -/
/-- where one stands: the def's names, the scope that runs, a block's written scope, the slots that are not stored to, does the def give a new object -/
structure SC where
  N : List Str
  sc : Scope
  fn : Option Scope
  fx : List Nat
  fr : Bool
/-- what is known of the module -/
structure TD where
  fns : List (Str × Nat × Nat)
  kws : List (Str × Nat × List Str × List Nat)
  cls : List (Str × Nat × Nat × Nat)
  mts : List (Nat × Str × Nat)
  fds : List (Nat × Str)
  bis : List Str
  frs : List Nat
inductive Q where
  | e (S : SC) (e : Expr) (i : E) | f (S : SC) (e : Expr) (i : E) | t (S : SC) (e : Expr) (i : E) | w (S : SC) (e : Expr) (i : E)
  | es (S : SC) (es : List Expr) (is : List E) | ks (S : SC) (es : List Keyword) (is : List E) | o (S : SC) (e : Option Expr) (i : E)
  | p (S : SC) (e : Expr) (i : Nat) (gs : List Nat) | a (S : SC) (es : List Expr) (as : List Arg)
  | q (S : SC) (e : Expr) (i : E) | it (S : SC) (tg e : Expr) (i : Py.It) | g (S : SC) (e : Expr) (t : Tg) | gs (S : SC) (es : List Expr) (ts : List Tg)
  | ifs (S : SC) (es : List Expr) (is : List E)
  | s (S : SC) (st : Stmt) (i : Py.S) | ss (S : SC) (sts : List Stmt) (is : List Py.S)
def okName (x : Str) : Bool := !(x == ("__debug__" : Str)) && !(x == ("__classdict__" : Str))
def ckVis (S : SC) (x : Str) (i : Nat) : Bool := (S.N[i]? == some x) && (match S.sc.names.lookup x with | some .local => true | some .cell => true | some .free => true | _ => false) && okName x
def ckLoc (S : SC) (x : Str) (i : Nat) : Bool := (S.N[i]? == some x) && (match S.sc.names.lookup x with
  | some .local => true
  | some .cell => (match S.fn with | none => true | some sc => sc.names.lookup x == some .cell)
  | _ => false)
def ckGl (S : SC) (x : Str) : Bool := S.sc.names.lookup x == some .globalImplicit
/-- a built-in name -/
def ckBi (td : TD) (S : SC) (x : Str) : Bool := ckGl S x && td.bis.contains x
def ownOf (S : SC) (own : List Nat) : List (Str × Nat) := own.map fun i => (S.N.getD i ("" : Str), i)
def inBlk (S : SC) (scope : Scope) : SC := { S with sc := relS scope S.sc, fn := some scope }
def ckLc (r : Q → Bool) (S : SC) (elt tg iter : Expr) (ifs : List Expr) (scope : Scope) (own : List Nat) (tgi : Tg) (iti : Py.It) (ifsi : List E) (elti : E) : Bool :=
  notSet iter && (blkC S.N S.sc scope (ownOf S own) && ((tgs tgi).all own.contains && (r (.it S tg iter iti) && (r (.g (inBlk S scope) tg tgi) && (r (.ifs (inBlk S scope) ifs ifsi) && r (.e (inBlk S scope) elt elti))))))
def stE (td : TD) (r : Q → Bool) (S : SC) (e : Expr) (ie : E) : Bool := match ie with
  | .var i => (match e with | .Name x _ => ckVis S x i | _ => false)
  | .pth i gs => r (.p S e i gs)
  | .con d => (match e with | .Constant c _ _ => ckCon c d | _ => false)
  | .bin o a b => (match e with | .BinOp x op y _ => decide (opOf o = op) && (r (.e S x a) && r (.e S y b)) | _ => false)
  | .un o a => (match e with | .UnaryOp op x _ => decide (unOf o = op) && r (.e S x a) | _ => false)
  | .cmp o a b => (match e with | .Compare x [op] [y] _ => decide (cmpOf o = op) && (noSetE y && (r (.e S x a) && r (.e S y b))) | _ => false)
  | .chain o o' a b c => (match e with | .Compare x [op, op'] [y, z] _ => decide (cmpOf o = op) && (decide (cmpOf o' = op') && (noSetE z && (r (.e S x a) && (r (.e S y b) && r (.e S z c))))) | _ => false)
  | .and a b => (match e with
    | .BoolOp .And [x, y] _ => r (.e S x a) && r (.e S y b)
    | .BoolOp .And (x :: y :: z :: rest) pos => r (.e S x a) && r (.e S (.BoolOp .And (y :: z :: rest) pos) b)
    | _ => false)
  | .or a b => (match e with
    | .BoolOp .Or [x, y] _ => r (.e S x a) && r (.e S y b)
    | .BoolOp .Or (x :: y :: z :: rest) pos => r (.e S x a) && r (.e S (.BoolOp .Or (y :: z :: rest) pos) b)
    | _ => false)
  | .not a => (match e with | .UnaryOp .Not x _ => r (.e S x a) | _ => false)
  | .ife c a b => (match e with | .IfExp z x y _ => r (.t S z c) && (r (.e S x a) && r (.e S y b)) | _ => false)
  | .tup is => (match e with | .Tuple es _ _ => decide (is.length ≤ 10000) && r (.es S es is) | _ => false)
  | .lst _ => r (.f S e ie)
  | .dic0 => (match e with | .Dict [] [] _ => true | _ => false)
  | .idx a b => (match e with | .Subscript x y _ => noSl y && ((match a with | .pth i gs => r (.p S x i gs) | a => r (.e S x a)) && r (.e S y b)) | _ => false)
  | .sli a lo hi => (match e with | .Subscript x (.Slice l h none _) _ => r (.e S x a) && (r (.o S l lo) && r (.o S h hi)) | _ => false)
  | .att a f => (match e with | .Attribute x nm _ => td.fds.contains (f, nm) && (attrOk x && r (.e S x a)) | _ => false)
  | .call f is pm => (match e with
    | .Call (.Name x _) es [] _ => okName x && (ckGl S x && (td.fns.contains (x, f, pm.length) && (decide (pm = List.range is.length) && (es.all noStar && (decide (es.length = is.length) && r (.es S es is))))))
    | .Call (.Name x _) [] kws _ => okName x && (ckGl S x && (td.kws.contains (x, f, kwNames kws, pm) && (allKw kws && (pmOk pm is.length && (decide ((kwNames kws).length = is.length) && r (.ks S kws is))))))
    | _ => false)
  | .callO f as pm => (match e with
    | .Call (.Name x _) (y :: es) [] _ => okName x && (ckGl S x && (td.fns.contains (x, f, pm.length) && (decide (pm = List.range as.length) && ((y :: es).all noStar && r (.a S (y :: es) as)))))
    | _ => false)
  | .blt b is => (match e with | .Call (.Name x _) (y :: es) [] _ => (bName b == x) && (ckBi td S x && ((y :: es).all noStar && r (.es S (y :: es) is))) | _ => false)
  | .sets a => (match e with | .Call (.Name x _) [y] [] _ => (x == ("set" : Str)) && (ckBi td S x && (noStar y && r (.e S y a))) | _ => false)
  | .isi a ts => (match e with
    | .Call (.Name x _) [y, .Name z _] [] _ => (x == ("isinstance" : Str)) && (ckBi td S x && (noStar y && (r (.e S y a) && (match ts with | [t] => t.std && ((tyName t == z) && ckBi td S z) | _ => false))))
    | .Call (.Name x _) [y, .Tuple es _ _] [] _ => (x == ("isinstance" : Str)) && (ckBi td S x && (noStar y && (r (.e S y a) && (ts.all Ty.std && (decide (ts.length ≤ 1000) && (ckTys td S es ts))))))
    | _ => false)
  | .met m a is => (match m, e, is with
    | .index, .Call (.Attribute o x apos) [y] [] pos, [b] => (x == ("index" : Str)) && (attrOk o && (noStar y && ((apos.endLine == pos.line) && (r (.e S o a) && r (.e S y b)))))
    | _, _, _ => false)
  | .mth a m is => (match e with
    | .Call (.Attribute o x apos) es [] pos => td.mts.contains (m, x, is.length + 1) && (attrOk o && (es.all noStar && (decide (es.length < 29) && (decide (es.length = is.length) && ((apos.endLine == pos.line) && (r (.e S o a) && r (.es S es is)))))))
    | _ => false)
  | .mut m i gs is => (match m, e, is with
    | .append, .Call (.Attribute o x apos) [y] [] pos, [b] => (x == ("append" : Str)) && (gs.isEmpty && (attrOk o && (noStar y && ((apos.endLine == pos.line) && (r (.p S o i []) && r (.e S y b))))))
    | .pop, .Call (.Attribute o x apos) [] [] pos, [] => (x == ("pop" : Str)) && (gs.isEmpty && (attrOk o && ((apos.endLine == pos.line) && r (.p S o i []))))
    | _, _, _ => false)
  | .new c is => (match e with
    | .Call (.Name x _) (y :: es) [] _ => okName x && (ckGl S x && (td.cls.any (fun q => q.1 == x && q.2.1 == c && q.2.2.2 == is.length + 1) && ((y :: es).all noStar && r (.es S (y :: es) is))))
    | _ => false)
  | .lc _ _ _ _ _ => r (.f S e ie)
  | .lc2 _ _ _ _ _ _ _ _ => false
where ckTys (td : TD) (S : SC) : List Expr → List Ty → Bool
  | [], [] => true
  | .Name z _ :: es, t :: ts => (tyName t == z) && (ckBi td S z && ckTys td S es ts)
  | _, _ => false
/-- expressions that give a new object -/
def stF (td : TD) (r : Q → Bool) (S : SC) (e : Expr) (ie : E) : Bool := match ie with
  | .lst is => (match e with | .List es _ => decide (is.length ≤ 10000) && r (.es S es is) | _ => false)
  | .dic0 => (match e with | .Dict [] [] _ => true | _ => false)
  | .lc own tgi iti ifsi elti => (match e with | .ListComp elt [⟨tg, iter, ifs, 0⟩] scope _ => ckLc r S elt tg iter ifs scope own tgi iti ifsi elti | _ => false)
  | .call f is pm => (match e with
    | .Call (.Name x _) (y :: es) [] _ => td.frs.contains f && (okName x && (ckGl S x && (td.fns.contains (x, f, pm.length) && (decide (pm = List.range is.length) && ((y :: es).all noStar && r (.es S (y :: es) is))))))
    | _ => false)
  | _ => false
def notBool : E → Bool
  | .and _ _ => false | .or _ _ => false | .not _ => false | _ => true
def stT (r : Q → Bool) (S : SC) (e : Expr) (ie : E) : Bool := match e with
  | .BoolOp _ _ _ => r (.w S e ie)
  | .UnaryOp .Not x _ => (match ie with | .not a => r (.t S x a) | _ => false)
  | .Compare x [op] [y] _ => (match ie with | .cmp o a b => decide (cmpOf o = op) && (noSetE y && (r (.e S x a) && r (.e S y b))) | _ => false)
  | .Compare x [op, op'] [y, z] _ => (match ie with | .chain o o' a b c => decide (cmpOf o = op) && (decide (cmpOf o' = op') && (noSetE z && (r (.e S x a) && (r (.e S y b) && r (.e S z c))))) | _ => false)
  | e => plainT e && (notBool ie && r (.e S e ie))
def stW (r : Q → Bool) (S : SC) (e : Expr) (ie : E) : Bool := match ie with
  | .and a b => (match e with
    | .BoolOp .And [x, y] _ => r (.t S x a) && r (.t S y b)
    | .BoolOp .And (x :: y :: z :: rest) pos => r (.t S x a) && r (.w S (.BoolOp .And (y :: z :: rest) pos) b)
    | _ => false)
  | .or a b => (match e with
    | .BoolOp .Or [x, y] _ => r (.t S x a) && r (.t S y b)
    | .BoolOp .Or (x :: y :: z :: rest) pos => r (.t S x a) && r (.w S (.BoolOp .Or (y :: z :: rest) pos) b)
    | _ => false)
  | _ => false
def stP (td : TD) (r : Q → Bool) (S : SC) (e : Expr) (i : Nat) (gs : List Nat) : Bool := match e with
  | .Name x _ => ckVis S x i && gs.isEmpty
  | .Attribute o x _ => (match gs.getLast? with
    | some f => td.fds.contains (f, x) && (attrOk o && r (.p S o i gs.dropLast))
    | none => false)
  | _ => false
def stI (td : TD) (r : Q → Bool) (S : SC) (tg e : Expr) (it : Py.It) : Bool := match it with
  | .e a => r (.q S e a)
  | .rng1 a => (match e with | .Call (.Name x _) [y] [] _ => (x == ("range" : Str)) && (ckBi td S x && (noStar y && r (.e S y a))) | _ => false)
  | .rng2 a b => (match e with | .Call (.Name x _) [y, z] [] _ => (x == ("range" : Str)) && (ckBi td S x && (noStar y && (noStar z && (r (.e S y a) && r (.e S z b))))) | _ => false)
  | .zip a b => (match tg, e with | .Tuple _ _ _, .Call (.Name x _) [y, z] [] _ => (x == ("zip" : Str)) && (ckBi td S x && (noStar y && (noStar z && (r (.q S y a) && r (.q S z b))))) | _, _ => false)
  | .zip3 a b c => (match tg, e with | .Tuple _ _ _, .Call (.Name x _) [y, z, u] [] _ => (x == ("zip" : Str)) && (ckBi td S x && (noStar y && (noStar z && (noStar u && (r (.q S y a) && (r (.q S z b) && r (.q S u c))))))) | _, _ => false)
  | _ => false
def noFx (S : SC) (t : Tg) : Bool := S.fx.all fun i => !(tgs t).contains i
def isComp : Expr → Bool
  | .ListComp _ _ _ _ => true | _ => false
/-- does the store to this name stand behind the value as it is -/
def ckSw (S : SC) (tg e : Expr) : Bool := notComp e || (match tg with | .Name y _ => !(S.sc.names.lookup y == some .local) | _ => true)
def stS (td : TD) (r : Q → Bool) (S : SC) (st : Stmt) (i : Py.S) : Bool := match i with
  | .asg t a => (match st with
    | .Assign [tg] e _ => noFx S t && (if ckSw S tg e then (notTup e || plainTg tg) && (noStar tg && (r (.e S e a) && r (.g S tg t))) else
      (match tg, e, t, a with
      | .Name y py, .ListComp elt [⟨tg2, iter, ifs, 0⟩] scope pos, .n i, .lc own tgi iti ifsi elti => ckNm S y py pos scope i && ckLc r S elt tg2 iter ifs scope own tgi iti ifsi elti
      | _, _, _, _ => false))
    | _ => false)
  | .asgO i a => (match st with
    | .Assign [.Name y py] e _ => !S.fx.contains i && (if ckSw S (.Name y py) e then ckLoc S y i && r (.f S e a) else
      (match e, a with
      | .ListComp elt [⟨tg2, iter, ifs, 0⟩] scope pos, .lc own tgi iti ifsi elti => ckNm S y py pos scope i && ckLc r S elt tg2 iter ifs scope own tgi iti ifsi elti
      | _, _ => false))
    | _ => false)
  | .set i gs ik a => (match st with | .Assign [.Subscript o kx _] e _ => gs.isEmpty && (noSl kx && (r (.e S e a) && (r (.p S o i []) && r (.e S kx ik)))) | _ => false)
  | .fset i gs f a => (match st with | .Assign [.Attribute o x _] e _ => gs.isEmpty && (td.fds.contains (f, x) && (notComp e && (r (.e S e a) && r (.p S o i [])))) | _ => false)
  | .aug i op a => (match st with | .AugAssign (.Name x _) opx e _ => augOk op && (decide (opOf op = opx) && (ckLoc S x i && (!S.fx.contains i && r (.e S e a)))) | _ => false)
  | .expr a => (match st with | .Expr e _ => notComp e && r (.e S e a) | _ => false)
  | .ret a => (match st with | .Return (some e) _ => if S.fr then r (.f S e a) else r (.e S e a) | _ => false)
  | .retN => (match st with | .Return none _ => !S.fr | _ => false)
  | .retO i => (match st with | .Return (some (.Name x _)) _ => ckVis S x i | _ => false)
  | .ite c a b => (match st with | .If z x y _ => r (.t S z c) && (r (.ss S x a) && r (.ss S y b)) | _ => false)
  | .for_ t it b => (match st with | .For tg iter body [] _ => notSet iter && (noFx S t && (r (.it S tg iter it) && (r (.g S tg t) && r (.ss S body b)))) | _ => false)
  | .while_ c b => (match st with | .While z body [] _ => r (.t S z c) && r (.ss S body b) | _ => false)
  | .brk => (match st with | .Break _ => true | _ => false)
  | .cont => (match st with | .Continue _ => true | _ => false)
  | .pass => (match st with | .Pass _ => true | .Expr (.Constant (.str _) _ _) _ => true | _ => false)
  | .raise => true
  | .try_ b => (match st with | .Try body (_ :: _) [] [] _ => r (.ss S body b) | _ => false)
where ckNm (S : SC) (y : Str) (py pos : Pos) (scope : Scope) (i : Nat) : Bool :=
  (S.N[i]? == some y) && ((S.sc.names.lookup y == some .local) && ((py.line == pos.line) && (!(scope.names.any fun (n, k) => n == y && (k == .local || k == .cell)) && !S.fx.contains i)))
def step (td : TD) (r : Q → Bool) : Q → Bool
  | .e S e i => stE td r S e i
  | .f S e i => stF td r S e i
  | .t S e i => stT r S e i
  | .w S e i => stW r S e i
  | .es S es is => (match es, is with
    | [], [] => true
    | e :: es, i :: is => noStar e && (r (.e S e i) && r (.es S es is))
    | _, _ => false)
  | .ks S es is => (match es, is with
    | [], [] => true
    | ⟨_, e, _⟩ :: es, i :: is => r (.e S e i) && r (.ks S es is)
    | _, _ => false)
  | .o S e i => (match e with
    | none => (match i with | .con .non => true | _ => false)
    | some e => notNonE i && r (.e S e i))
  | .p S e i gs => stP td r S e i gs
  | .a S es as => (match es, as with
    | [], [] => true
    | e :: es, .e i :: as => noStar e && (r (.e S e i) && r (.a S es as))
    | e :: es, .io i [] :: as => noStar e && (r (.p S e i []) && r (.a S es as))
    | _, _ => false)
  | .q S e i => (match i with
    | .pth j gs => r (.p S e j gs)
    | i => r (.e S e i))
  | .it S tg e i => stI td r S tg e i
  | .g S e t => (match e, t with
    | .Name x _, .n i => ckLoc S x i
    | .Tuple es _ _, .t ts => es.all noStar && (decide (es.length = ts.length) && r (.gs S es ts))
    | _, _ => false)
  | .gs S es ts => (match es, ts with
    | [], [] => true
    | e :: es, t :: ts => noStar e && (r (.g S e t) && r (.gs S es ts))
    | _, _ => false)
  | .ifs S es is => (match es, is with
    | [], [] => true
    | [e], [i] => r (.t S e i)
    | _, _ => false)
  | .s S st i => stS td r S st i
  | .ss S sts is => (match sts, is with
    | [], [] => true
    | st :: sts, i :: is => r (.s S st i) && r (.ss S sts is)
    | _, _ => false)
def ck (td : TD) : Nat → Q → Bool
  | 0, _ => false
  | n + 1, q => step td (ck td n) q
end Py
end
section
set_option Elab.async false
set_option linter.all false
set_option maxRecDepth 100000
set_option maxHeartbeats 4000000
namespace Py
open PySem PySem.Spec PyProof.Rows L2 C8
/-- what the module keeps of its table, with room for calls j deep -/
structure TOk (td : TD) (k : Ki) (C : Ctx) (orc : Orc) (mg : Str → Option Value) (base : Heap) (j : Nat) : Prop where
  fns : ∀ x f np, (x, f, np) ∈ td.fns → Cal k.P k.w k.K mg base j x (spF k C orc f np) []
  kws : ∀ x f ks pm, (x, f, ks, pm) ∈ td.kws → CalK k.P k.w k.K mg base j x (spF k C orc f pm.length) ks pm
  cls : ∀ x c f np, (x, c, f, np) ∈ td.cls → C.init c = some f ∧ ∃ jj, jj + 1 ≤ j + 1 ∧ Mak k.P k.w k.K mg base jj x (k.ca c) (spF k C orc f np) []
  mts : ∀ m x np, (m, x, np) ∈ td.mts → (∀ i, k.fd i ≠ x) ∧ ∀ c f, C.mth c m = some f → Met k.P k.w k.K mg base j (k.ca c) x (spF k C orc f np) []
  lens : ∀ c f, C.lenOf c = some f → LenOk k C orc k.P k.w k.K mg base j c f
  fds : ∀ f x, (f, x) ∈ td.fds → AttOk k f ∧ k.fd f = x
  bis : ∀ x, x ∈ td.bis → mg x = none
  frs : ∀ f, f ∈ td.frs → C.fr f = true
structure XOk (k : Ki) (mg : Str → Option Value) (base : Heap) (j : Nat) (S : SC) (X : Cx) : Prop where
  B : XB k X
  mg : X.mg = mg
  base : X.base = base
  N : X.N = S.N
  sc : X.env.scope = S.sc
  kind : X.env.scope.kind = .function
  fn : ∀ x, match S.fn with | none => X.fn x = true | some sc => X.fn x = (sc.names.lookup x == some .cell)
  xe : X.xe = fun _ _ => False
  room : Room (j + 1) X.A
section
variable {td : TD} {k : Ki} {C : Ctx} {orc : Orc} {mg : Str → Option Value} {base : Heap} {j : Nat}
def Sem (k : Ki) (C : Ctx) (orc : Orc) (mg : Str → Option Value) (base : Heap) (j : Nat) : Q → Prop
  | .e S e i => ∀ X, XOk k mg base j S X → PE X e (tE k C orc i)
  | .f S e i => ∀ X, XOk k mg base j S X → PE X e (tEf k C orc i)
  | .t S e i => ∀ X, XOk k mg base j S X → PT X e (tT k C orc i)
  | .w S e i => ∀ X, XOk k mg base j S X → PW X e (tT k C orc i)
  | .es S es is => ∀ X, XOk k mg base j S X → PA X es (tEs k C orc is)
  | .ks S es is => ∀ X, XOk k mg base j S X → PK X es (tEs k C orc is)
  | .o S e i => ∀ X, XOk k mg base j S X → PO X e (tO k C orc i)
  | .p S e i gs => ∀ X, XOk k mg base j S X → PE X e (tP k i gs)
  | .a S es as => ∀ X, XOk k mg base j S X → PA X es (tA k C orc as)
  | .q S e i => ∀ X, XOk k mg base j S X → PE X e (tSq k C orc i)
  | .it S tg e i => ∀ X, XOk k mg base j S X → PI X tg e (tI k C orc i)
  | .g S e t => ∀ X, XOk k mg base j S X → PG X e (tG k t)
  | .gs S es ts => ∀ X, XOk k mg base j S X → PGs X es (tGs k ts)
  | .ifs S es is => ∀ X, XOk k mg base j S X → PTs X es (tF k C orc is)
  | .s S st i => ∀ X, XOk k mg base j S X → PS X st (tS k C orc S.fr S.fx i)
  | .ss S sts is => ∀ X, XOk k mg base j S X → PSs X sts (tSs k C orc S.fr S.fx is)
theorem and2 {a b : Bool} (h : (a && b) = true) : a = true ∧ b = true := by simpa using h
theorem nm_ok {x : Str} (h : okName x = true) : (x == ("__debug__" : Str)) = false ∧ (x == ("__classdict__" : Str)) = false := by
  unfold okName at h
  simpa using h
theorem vis_ok {S : SC} {X : Cx} {x : Str} {i : Nat} (O : XOk k mg base j S X) (h : ckVis S x i = true) : X.N[i]? = some x ∧ Vis X.env.scope x ∧ (x == ("__debug__" : Str)) = false ∧ (x == ("__classdict__" : Str)) = false := by
  unfold ckVis at h
  obtain ⟨h, h3⟩ := and2 h
  obtain ⟨h1, h2⟩ := and2 h
  refine ⟨by rw [O.N]; simpa using h1, ?_, nm_ok h3⟩
  unfold Vis
  rw [O.sc]
  split at h2 <;> simp_all
theorem loc_ok {S : SC} {X : Cx} {x : Str} {i : Nat} (O : XOk k mg base j S X) (h : ckLoc S x i = true) : X.N[i]? = some x ∧ L2.Loc X.env.scope x ∧ (X.fn x = true ∨ X.env.scope.names.lookup x = some .local) := by
  unfold ckLoc at h
  obtain ⟨h1, h2⟩ := and2 h
  refine ⟨by rw [O.N]; simpa using h1, ?_⟩
  have fn := O.fn x
  unfold L2.Loc
  rw [O.sc]
  split at h2
  · rename_i e; exact ⟨.inl e, .inr e⟩
  · rename_i e
    refine ⟨.inr e, .inl ?_⟩
    split at h2
    · rename_i e2; rw [e2] at fn; exact fn
    · rename_i sc e2; rw [e2] at fn; rw [fn]; exact h2
  · cases h2
theorem gl_ok {S : SC} {X : Cx} {x : Str} (O : XOk k mg base j S X) (h : ckGl S x = true) : Gl X x := by
  unfold ckGl at h
  show X.env.scope.names.lookup x = _
  rw [O.sc]
  simpa using h
theorem bi_ok {S : SC} {X : Cx} {x : Str} (T : TOk td k C orc mg base j) (O : XOk k mg base j S X) (h : ckBi td S x = true) : Gl X x ∧ X.mg x = none := by
  obtain ⟨h1, h2⟩ := and2 h
  exact ⟨gl_ok O h1, by rw [O.mg]; exact T.bis x (by simpa using h2)⟩
theorem cal_ok {S : SC} {X : Cx} {x : Str} {f np : Nat} (T : TOk td k C orc mg base j) (O : XOk k mg base j S X) (h : td.fns.contains (x, f, np) = true) : Cal X.prog X.w X.K X.mg X.base j x (spF k C orc f np) [] := by
  rw [O.B.P, O.B.w, O.B.K, O.mg, O.base]
  exact T.fns x f np (by simpa using h)
theorem own_snd (S : SC) (own : List Nat) : (ownOf S own).map (·.2) = own := by
  unfold ownOf
  rw [List.map_map]
  exact List.map_id _
theorem blk_ok {S : SC} {X : Cx} (O : XOk k mg base j S X) {scope : Scope} (hk : scope.kind = .function) (s : Shared) (H : Hp) (A : Addr) (cl : List (Str × Addr)) (fp : List Addr) : XOk k mg base j (inBlk S scope) (X.blk s H scope (compEnvC scope cl A X.env) fp) := by
  refine ⟨⟨O.B.K, O.B.P, O.B.w, O.B.calm, O.B.units, O.B.nd⟩, O.mg, O.base, O.N, ?_, hk, fun x => rfl, rfl, O.room⟩
  show relS scope X.env.scope = relS scope S.sc
  rw [O.sc]
/-- a comprehension's parts -/
theorem lc_ok {r : Q → Bool} (hr : ∀ q, r q = true → Sem k C orc mg base j q) {S : SC} {X : Cx} (O : XOk k mg base j S X) {elt tg iter : Expr} {ifs : List Expr} {scope : Scope} {own : List Nat} {tgi : Tg} {iti : Py.It} {ifsi : List E} {elti : E}
    (h : ckLc r S elt tg iter ifs scope own tgi iti ifsi elti = true) : notSet iter = true ∧ BlkOk X.N X.env.scope scope (ownOf S own) ∧ (∀ i ∈ tgs tgi, i ∈ (ownOf S own).map (·.2)) ∧ PI X tg iter (tI k C orc iti) ∧
    (∀ (s : Shared) (H : Hp) (C : Addr) (cl : List (Str × Addr)) (fp : List Addr), PG (X.blk s H scope (compEnvC scope cl C X.env) fp) tg (tG k tgi)) ∧ (∀ (s : Shared) (H : Hp) (A : Addr) (cl : List (Str × Addr)) (fp : List Addr), PTs (X.blk s H scope (compEnvC scope cl A X.env) fp) ifs (tF k C orc ifsi)) ∧
    (∀ (s : Shared) (H : Hp) (A : Addr) (cl : List (Str × Addr)) (fp : List Addr), PE (X.blk s H scope (compEnvC scope cl A X.env) fp) elt (tE k C orc elti)) := by
  obtain ⟨h1, h⟩ := and2 h
  obtain ⟨h2, h⟩ := and2 h
  obtain ⟨h3, h⟩ := and2 h
  obtain ⟨h4, h⟩ := and2 h
  obtain ⟨h5, h⟩ := and2 h
  obtain ⟨h6, h7⟩ := and2 h
  have ok := blkOk_by h2
  rw [← O.N, ← O.sc] at ok
  refine ⟨h1, ok, fun i hi => ?_, hr _ h4 X O, fun s H A cl fp => hr _ h5 _ (blk_ok O ok.kind s H A cl fp), fun s H A cl fp => hr _ h6 _ (blk_ok O ok.kind s H A cl fp), fun s H A cl fp => hr _ h7 _ (blk_ok O ok.kind s H A cl fp)⟩
  rw [own_snd]
  simpa using List.all_eq_true.mp h3 i hi
theorem sef_lc' (B : XB k X) {elt tg iter : Expr} {ifs : List Expr} {scope : Scope} {own : List (Str × Nat)} {ow : List Nat} (e : own.map (·.2) = ow) {pos : Pos} {tgi : Tg} {iti : Py.It} {ifsi : List E} {elti : E} (hi : PI X tg iter (tI k C orc iti)) (ok : BlkOk X.N X.env.scope scope own)
    (hg : ∀ (s : Shared) (H : Hp) (C : Addr) (cl : List (Str × Addr)) (fp : List Addr), PG (X.blk s H scope (compEnvC scope cl C X.env) fp) tg (tG k tgi)) (ht : ∀ (s : Shared) (H : Hp) (A : Addr) (cl : List (Str × Addr)) (fp : List Addr), PTs (X.blk s H scope (compEnvC scope cl A X.env) fp) ifs (tF k C orc ifsi))
    (he : ∀ (s : Shared) (H : Hp) (A : Addr) (cl : List (Str × Addr)) (fp : List Addr), PE (X.blk s H scope (compEnvC scope cl A X.env) fp) elt (tE k C orc elti)) (hs : notSet iter = true) (htg : ∀ i ∈ tgs tgi, i ∈ own.map (·.2)) :
    PE X (.ListComp elt [⟨tg, iter, ifs, 0⟩] scope pos) (tEf k C orc (.lc ow tgi iti ifsi elti)) := by
  subst e
  exact sef_lc B hi ok hg ht he hs htg
theorem stF_ok (T : TOk td k C orc mg base j) {r : Q → Bool} (hr : ∀ q, r q = true → Sem k C orc mg base j q) {S : SC} {e : Expr} {ie : E} (h : stF td r S e ie = true) : ∀ X, XOk k mg base j S X → PE X e (tEf k C orc ie) := by
  intro X O
  cases ie <;> simp only [stF] at h <;> first | (cases h; done) | skip
  case lst is =>
    split at h
    · obtain ⟨h1, h2⟩ := and2 h
      exact sef_lst (of_decide_eq_true h1) (hr _ h2 X O)
    · cases h
  case dic0 =>
    split at h
    · exact sef_dic0
    · cases h
  case call f is pm =>
    split at h
    · obtain ⟨h1, h⟩ := and2 h
      obtain ⟨h2, h⟩ := and2 h
      obtain ⟨h3, h⟩ := and2 h
      obtain ⟨h4, h⟩ := and2 h
      obtain ⟨h5, h⟩ := and2 h
      obtain ⟨h6, h7⟩ := and2 h
      exact sef_call (T.frs f (by simpa using h1)) (cal_ok T O h4) O.room (Nat.le_succ _) (gl_ok O h3) (nm_ok h2).1 h6 (of_decide_eq_true h5) (hr _ h7 X O)
    · cases h
  case lc own tgi iti ifsi elti =>
    split at h
    · obtain ⟨a1, a2, a3, a4, a5, a6, a7⟩ := lc_ok hr O h
      exact sef_lc' O.B (own_snd S own) a4 a2 a5 a6 a7 a1 a3
    · cases h
end
end Py
end
section
set_option Elab.async false
set_option linter.all false
set_option maxRecDepth 100000
set_option maxHeartbeats 4000000
namespace Py
open PySem PySem.Spec PyProof.Rows L2 C8
section
variable {td : TD} {k : Ki} {C : Ctx} {orc : Orc} {mg : Str → Option Value} {base : Heap} {j : Nat}
theorem ckTys_ok {S : SC} {X : Cx} (T : TOk td k C orc mg base j) (O : XOk k mg base j S X) : ∀ {es : List Expr} {ts : List Ty}, stE.ckTys td S es ts = true →
    (∀ t ∈ ts, Gl X (tyName t) ∧ X.mg (tyName t) = none) ∧ es.length = ts.length ∧ ∀ (i : Nat) t, ts[i]? = some t → ∃ p, es[i]? = some (.Name (tyName t) p)
  | [], [], _ => ⟨fun t h => absurd h (by simp), rfl, fun i t h => by simp at h⟩
  | [], _ :: _, h => by simp [stE.ckTys] at h
  | e :: es, [], h => by cases e <;> simp [stE.ckTys] at h
  | e :: es, t :: ts, h => by
    cases e <;> simp only [stE.ckTys] at h <;> try (cases h; done)
    rename_i z p
    obtain ⟨h1, h⟩ := and2 h
    obtain ⟨h2, h3⟩ := and2 h
    have e1 : tyName t = z := by simpa using h1
    obtain ⟨a, b, c⟩ := ckTys_ok T O h3
    refine ⟨fun u hu => ?_, by simp [b], fun i u hu => ?_⟩
    · rcases List.mem_cons.mp hu with rfl | hu
      · rw [e1]; exact bi_ok T O h2
      · exact a u hu
    · cases i with
      | zero => simp at hu; subst hu; exact ⟨p, by simp [e1]⟩
      | succ i => simpa using c i u (by simpa using hu)
theorem tail_and {X : Cx} {y : Expr} {pos : Pos} {t : TE} (h : PE X y t) : PE X (.BoolOp .And [y] pos) t := L2.pe_one h
theorem tail_or {X : Cx} {y : Expr} {pos : Pos} {t : TE} (h : PE X y t) : PE X (.BoolOp .Or [y] pos) t := L2.pe_one h
theorem stE_ok (T : TOk td k C orc mg base j) {r : Q → Bool} (hr : ∀ q, r q = true → Sem k C orc mg base j q) {S : SC} {e : Expr} {ie : E} (h : stE td r S e ie = true) : ∀ X, XOk k mg base j S X → PE X e (tE k C orc ie) := by
  intro X O
  have B := O.B
  cases ie <;> simp only [stE] at h <;> first | (cases h; done) | skip
  case var i =>
    split at h
    · obtain ⟨a, b, c, d⟩ := vis_ok O h
      exact se_var a b c d
    · cases h
  case pth i gs => exact se_pth (hr _ h X O)
  case con d =>
    split at h
    · exact se_con h
    · cases h
  case bin o a b =>
    split at h
    · obtain ⟨h1, h⟩ := and2 h
      obtain ⟨h2, h3⟩ := and2 h
      exact se_bin B (of_decide_eq_true h1) (hr _ h2 X O) (hr _ h3 X O)
    · cases h
  case un o a =>
    split at h
    · obtain ⟨h1, h2⟩ := and2 h
      exact se_un B (of_decide_eq_true h1) (hr _ h2 X O)
    · cases h
  case cmp o a b =>
    split at h
    · obtain ⟨h1, h⟩ := and2 h
      obtain ⟨h2, h⟩ := and2 h
      obtain ⟨h3, h4⟩ := and2 h
      exact se_cmp B (of_decide_eq_true h1) h2 (hr _ h3 X O) (hr _ h4 X O)
    · cases h
  case chain o o' a b c =>
    split at h
    · obtain ⟨h1, h⟩ := and2 h
      obtain ⟨h2, h⟩ := and2 h
      obtain ⟨h3, h⟩ := and2 h
      obtain ⟨h4, h⟩ := and2 h
      obtain ⟨h5, h6⟩ := and2 h
      exact se_chain B (of_decide_eq_true h1) (of_decide_eq_true h2) h3 (hr _ h4 X O) (hr _ h5 X O) (hr _ h6 X O)
    · cases h
  case and a b =>
    split at h
    · obtain ⟨h1, h2⟩ := and2 h
      exact se_and B (hr _ h1 X O) (tail_and (hr _ h2 X O))
    · obtain ⟨h1, h2⟩ := and2 h
      exact se_and B (hr _ h1 X O) (hr _ h2 X O)
    · cases h
  case or a b =>
    split at h
    · obtain ⟨h1, h2⟩ := and2 h
      exact se_or B (hr _ h1 X O) (tail_or (hr _ h2 X O))
    · obtain ⟨h1, h2⟩ := and2 h
      exact se_or B (hr _ h1 X O) (hr _ h2 X O)
    · cases h
  case not a =>
    split at h
    · exact se_not B (hr _ h X O)
    · cases h
  case ife c a b =>
    split at h
    · obtain ⟨h1, h⟩ := and2 h
      obtain ⟨h2, h3⟩ := and2 h
      exact se_ife (hr _ h1 X O) (hr _ h2 X O) (hr _ h3 X O)
    · cases h
  case tup is =>
    split at h
    · obtain ⟨h1, h2⟩ := and2 h
      exact se_tup (of_decide_eq_true h1) (hr _ h2 X O)
    · cases h
  case lst is => exact pe_ef lst_clean (hr _ h X O)
  case dic0 =>
    split at h
    · exact se_dic0
    · cases h
  case idx a b =>
    split at h
    · obtain ⟨h1, h⟩ := and2 h
      obtain ⟨h2, h3⟩ := and2 h
      cases a <;> simp only at h2
      case pth i gs => exact se_idxP B h1 (hr _ h2 X O) (hr _ h3 X O)
      all_goals exact se_idx B rfl h1 (hr _ h2 X O) (hr _ h3 X O)
    · cases h
  case sli a lo hi =>
    split at h
    · obtain ⟨h1, h⟩ := and2 h
      obtain ⟨h2, h3⟩ := and2 h
      exact se_sli B (hr _ h1 X O) (hr _ h2 X O) (hr _ h3 X O)
    · cases h
  case att a f =>
    split at h
    · obtain ⟨h1, h⟩ := and2 h
      obtain ⟨h2, h3⟩ := and2 h
      obtain ⟨A, hx⟩ := T.fds f _ (by simpa using h1)
      exact se_att B A hx h2 (hr _ h3 X O)
    · cases h
  case call f is pm =>
    split at h
    · rename_i x p es pos
      obtain ⟨h2, h⟩ := and2 h
      obtain ⟨h3, h⟩ := and2 h
      obtain ⟨h4, h⟩ := and2 h
      obtain ⟨h5, h⟩ := and2 h
      obtain ⟨h6, h⟩ := and2 h
      obtain ⟨h7, h8⟩ := and2 h
      have c := cal_ok T O h4
      have e5 := of_decide_eq_true h5
      have e7 := of_decide_eq_true h7
      cases es with
      | nil =>
        cases is with
        | nil => subst e5; exact se_call0 c O.room (Nat.le_succ _) (gl_ok O h3) (nm_ok h2).1
        | cons => simp at e7
      | cons y es => exact se_call c O.room (Nat.le_succ _) (gl_ok O h3) (nm_ok h2).1 h6 e5 (hr _ h8 X O)
    · obtain ⟨h2, h⟩ := and2 h
      obtain ⟨h3, h⟩ := and2 h
      obtain ⟨h4, h⟩ := and2 h
      obtain ⟨h5, h⟩ := and2 h
      obtain ⟨h6, h⟩ := and2 h
      obtain ⟨h7, h8⟩ := and2 h
      have c := T.kws _ _ _ _ (by simpa using h4)
      rw [← B.P, ← B.w, ← B.K, ← O.mg, ← O.base] at c
      exact se_callK c O.room (Nat.le_succ _) (gl_ok O h3) (nm_ok h2).1 h5 h6 (of_decide_eq_true h7) (hr _ h8 X O)
    · cases h
  case callO f as pm =>
    split at h
    · obtain ⟨h2, h⟩ := and2 h
      obtain ⟨h3, h⟩ := and2 h
      obtain ⟨h4, h⟩ := and2 h
      obtain ⟨h5, h⟩ := and2 h
      obtain ⟨h6, h7⟩ := and2 h
      exact se_callO (cal_ok T O h4) O.room (Nat.le_succ _) (gl_ok O h3) (nm_ok h2).1 h6 (of_decide_eq_true h5) (hr _ h7 X O)
    · cases h
  case blt b is =>
    split at h
    · obtain ⟨h1, h⟩ := and2 h
      obtain ⟨h2, h⟩ := and2 h
      obtain ⟨h3, h4⟩ := and2 h
      have e1 := eq_of_beq h1
      obtain ⟨g, m⟩ := bi_ok T O h2
      refine se_blt B (jj := j) (fun c f hl => ?_) O.room (Nat.le_refl _) (by rw [e1]; exact g) (by rw [e1]; exact m) e1 h3 (hr _ h4 X O)
      have := T.lens c f hl
      rw [← B.P, ← B.w, ← B.K, ← O.mg, ← O.base] at this
      exact this
    · cases h
  case sets a =>
    split at h
    · obtain ⟨h1, h⟩ := and2 h
      obtain ⟨h2, h⟩ := and2 h
      obtain ⟨h3, h4⟩ := and2 h
      have e1 := eq_of_beq h1
      subst e1
      obtain ⟨g, m⟩ := bi_ok T O h2
      exact se_sets B g m h3 (hr _ h4 X O)
    · cases h
  case isi a ts =>
    split at h
    · have i1 := (and2 h).1
      replace h := (and2 h).2
      have i2 := (and2 h).1
      replace h := (and2 h).2
      have i3 := (and2 h).1
      replace h := (and2 h).2
      have i4 := (and2 h).1
      replace h := (and2 h).2
      have e1 := eq_of_beq i1
      subst e1
      obtain ⟨g, m⟩ := bi_ok T O i2
      split at h
      · obtain ⟨i5, h⟩ := and2 h
        obtain ⟨i6, i7⟩ := and2 h
        have e2 := eq_of_beq i6
        subst e2
        obtain ⟨g2, m2⟩ := bi_ok T O i7
        exact se_isi1 B i5 g2 m2 g m i3 (hr _ i4 X O)
      · exact absurd h (by simp)
    · obtain ⟨h1, h⟩ := and2 h
      obtain ⟨h2, h⟩ := and2 h
      obtain ⟨h3, h⟩ := and2 h
      obtain ⟨h4, h⟩ := and2 h
      obtain ⟨h5, h⟩ := and2 h
      obtain ⟨h6, h7⟩ := and2 h
      have e1 := eq_of_beq h1
      subst e1
      obtain ⟨g, m⟩ := bi_ok T O h2
      obtain ⟨a1, a2, a3⟩ := ckTys_ok T O h7
      exact se_isiT B h5 a1 a2 a3 (of_decide_eq_true h6) g m h3 (hr _ h4 X O)
    · cases h
  case met m a is =>
    split at h
    · obtain ⟨h1, h⟩ := and2 h
      obtain ⟨h2, h⟩ := and2 h
      obtain ⟨h3, h⟩ := and2 h
      obtain ⟨h4, h⟩ := and2 h
      obtain ⟨h5, h6⟩ := and2 h
      have e1 := eq_of_beq h1
      subst e1
      exact se_index B h2 h3 h4 (hr _ h5 X O) (hr _ h6 X O)
    · cases h
  case mth a m is =>
    split at h
    · obtain ⟨h1, h⟩ := and2 h
      obtain ⟨h2, h⟩ := and2 h
      obtain ⟨h3, h⟩ := and2 h
      obtain ⟨h4, h⟩ := and2 h
      obtain ⟨h5, h⟩ := and2 h
      obtain ⟨h6, h⟩ := and2 h
      obtain ⟨h7, h8⟩ := and2 h
      obtain ⟨a1, a2⟩ := T.mts _ _ _ (by simpa using h1)
      refine se_mth (fun c f hc => ?_) a1 O.room (Nat.le_succ _) h2 h3 (of_decide_eq_true h4) (of_decide_eq_true h5) h6 (hr _ h7 X O) (hr _ h8 X O)
      have := a2 c f hc
      rw [← B.P, ← B.w, ← B.K, ← O.mg, ← O.base] at this
      exact this
    · cases h
  case «mut» m i gs is =>
    split at h
    · obtain ⟨h1, h⟩ := and2 h
      obtain ⟨h2, h⟩ := and2 h
      obtain ⟨h3, h⟩ := and2 h
      obtain ⟨h4, h⟩ := and2 h
      obtain ⟨h5, h⟩ := and2 h
      obtain ⟨h6, h7⟩ := and2 h
      have e1 := eq_of_beq h1
      subst e1
      have e2 : gs = [] := by simpa using h2
      subst e2
      exact se_append B h3 h4 h5 (hr _ h6 X O) (hr _ h7 X O)
    · obtain ⟨h1, h⟩ := and2 h
      obtain ⟨h2, h⟩ := and2 h
      obtain ⟨h3, h⟩ := and2 h
      obtain ⟨h5, h6⟩ := and2 h
      have e1 := eq_of_beq h1
      subst e1
      have e2 : gs = [] := by simpa using h2
      subst e2
      exact se_pop B h3 h5 (hr _ h6 X O)
    · cases h
  case new c is =>
    split at h
    · obtain ⟨h2, h⟩ := and2 h
      obtain ⟨h3, h⟩ := and2 h
      obtain ⟨h4, h⟩ := and2 h
      obtain ⟨h5, h6⟩ := and2 h
      obtain ⟨⟨x', c', f, np⟩, hq, hh⟩ := List.any_eq_true.mp h4
      obtain ⟨hh, hh3⟩ := and2 hh
      obtain ⟨hh1, hh2⟩ := and2 hh
      have e1 := eq_of_beq hh1
      have e2 : c' = c := by simpa using hh2
      have e3 := eq_of_beq hh3
      subst e1 e2 e3
      obtain ⟨a1, jj, a2, a3⟩ := T.cls _ _ _ _ hq
      rw [← B.P, ← B.w, ← B.K, ← O.mg, ← O.base] at a3
      exact se_new a1 a3 O.room a2 (gl_ok O h3) (nm_ok h2).1 h5 (hr _ h6 X O)
    · cases h
  case lc own tgi iti ifsi elti => exact pe_ef lc_clean (hr _ h X O)
theorem not_okT {ie : E} : notBool ie = true → match ie with | .and _ _ => False | .or _ _ => False | .not _ => False | _ => True := by
  intro h; cases ie <;> first | trivial | cases h
theorem stT_ok (T : TOk td k C orc mg base j) {r : Q → Bool} (hr : ∀ q, r q = true → Sem k C orc mg base j q) {S : SC} {e : Expr} {ie : E} (h : stT r S e ie = true) : ∀ X, XOk k mg base j S X → PT X e (tT k C orc ie) := by
  intro X O
  have B := O.B
  unfold stT at h
  split at h
  · exact (hr _ h X O).pt
  · split at h
    · exact st_not (hr _ h X O)
    · cases h
  · split at h
    · obtain ⟨h1, h⟩ := and2 h
      obtain ⟨h2, h⟩ := and2 h
      obtain ⟨h3, h4⟩ := and2 h
      exact st_cmp B (of_decide_eq_true h1) h2 (hr _ h3 X O) (hr _ h4 X O)
    · cases h
  · split at h
    · obtain ⟨h1, h⟩ := and2 h
      obtain ⟨h2, h⟩ := and2 h
      obtain ⟨h3, h⟩ := and2 h
      obtain ⟨h4, h⟩ := and2 h
      obtain ⟨h5, h6⟩ := and2 h
      exact st_chain B (of_decide_eq_true h1) (of_decide_eq_true h2) h3 (hr _ h4 X O) (hr _ h5 X O) (hr _ h6 X O)
    · cases h
  · obtain ⟨h1, h⟩ := and2 h
    obtain ⟨h2, h3⟩ := and2 h
    exact st_truth B h1 (not_okT h2) (hr _ h3 X O)
theorem stW_ok (T : TOk td k C orc mg base j) {r : Q → Bool} (hr : ∀ q, r q = true → Sem k C orc mg base j q) {S : SC} {e : Expr} {ie : E} (h : stW r S e ie = true) : ∀ X, XOk k mg base j S X → PW X e (tT k C orc ie) := by
  intro X O
  cases ie <;> simp only [stW] at h <;> first | (cases h; done) | skip
  case and a b =>
    split at h
    · obtain ⟨h1, h2⟩ := and2 h
      exact sw_and (hr _ h1 X O) (sw_and1 (hr _ h2 X O))
    · obtain ⟨h1, h2⟩ := and2 h
      exact sw_and (hr _ h1 X O) (hr _ h2 X O)
    · cases h
  case or a b =>
    split at h
    · obtain ⟨h1, h2⟩ := and2 h
      exact sw_or (hr _ h1 X O) (sw_and1 (hr _ h2 X O))
    · obtain ⟨h1, h2⟩ := and2 h
      exact sw_or (hr _ h1 X O) (hr _ h2 X O)
    · cases h
theorem drop_last {α : Type} : ∀ {l : List α} {f : α}, l.getLast? = some f → l.dropLast ++ [f] = l
  | [], _, h => by simp at h
  | [a], _, h => by simp at h; simp [h]
  | a :: b :: l, f, h => by
    have := drop_last (l := b :: l) (f := f) (by simpa using h)
    simpa using this
theorem stP_ok (T : TOk td k C orc mg base j) {r : Q → Bool} (hr : ∀ q, r q = true → Sem k C orc mg base j q) {S : SC} {e : Expr} {i : Nat} {gs : List Nat} (h : stP td r S e i gs = true) : ∀ X, XOk k mg base j S X → PE X e (tP k i gs) := by
  intro X O
  unfold stP at h
  split at h
  · obtain ⟨h1, h2⟩ := and2 h
    have e2 : gs = [] := by simpa using h2
    subst e2
    obtain ⟨a, b, c, d⟩ := vis_ok O h1
    exact sp_name a b c d
  · split at h
    · rename_i f e1
      obtain ⟨h1, h⟩ := and2 h
      obtain ⟨h2, h3⟩ := and2 h
      obtain ⟨A, hx⟩ := T.fds f _ (by simpa using h1)
      have e9 : gs = gs.dropLast ++ [f] := (drop_last e1).symm
      rw [e9]
      exact sp_att O.B A hx h2 (hr _ h3 X O)
    · cases h
  · cases h
theorem stI_ok (T : TOk td k C orc mg base j) {r : Q → Bool} (hr : ∀ q, r q = true → Sem k C orc mg base j q) {S : SC} {tg e : Expr} {it : Py.It} (h : stI td r S tg e it = true) : ∀ X, XOk k mg base j S X → PI X tg e (tI k C orc it) := by
  intro X O
  have B := O.B
  cases it <;> simp only [stI] at h <;> first | (cases h; done) | skip
  case e a => exact si_e B (hr _ h X O)
  case rng1 a =>
    split at h
    · obtain ⟨h1, h⟩ := and2 h
      obtain ⟨h2, h⟩ := and2 h
      obtain ⟨h3, h4⟩ := and2 h
      have e1 := eq_of_beq h1
      subst e1
      obtain ⟨g, m⟩ := bi_ok T O h2
      exact si_rng1 g m h3 (hr _ h4 X O)
    · cases h
  case rng2 a b =>
    split at h
    · obtain ⟨h1, h⟩ := and2 h
      obtain ⟨h2, h⟩ := and2 h
      obtain ⟨h3, h⟩ := and2 h
      obtain ⟨h4, h⟩ := and2 h
      obtain ⟨h5, h6⟩ := and2 h
      have e1 := eq_of_beq h1
      subst e1
      obtain ⟨g, m⟩ := bi_ok T O h2
      exact si_rng2 g m h3 h4 (hr _ h5 X O) (hr _ h6 X O)
    · cases h
  case zip a b =>
    split at h
    · obtain ⟨h1, h⟩ := and2 h
      obtain ⟨h2, h⟩ := and2 h
      obtain ⟨h3, h⟩ := and2 h
      obtain ⟨h4, h⟩ := and2 h
      obtain ⟨h5, h6⟩ := and2 h
      have e1 := eq_of_beq h1
      subst e1
      obtain ⟨g, m⟩ := bi_ok T O h2
      exact si_zip B g m h3 h4 (hr _ h5 X O) (hr _ h6 X O)
    · cases h
  case zip3 a b c =>
    split at h
    · obtain ⟨h1, h⟩ := and2 h
      obtain ⟨h2, h⟩ := and2 h
      obtain ⟨h3, h⟩ := and2 h
      obtain ⟨h4, h⟩ := and2 h
      obtain ⟨h4', h⟩ := and2 h
      obtain ⟨h5, h⟩ := and2 h
      obtain ⟨h6, h7⟩ := and2 h
      have e1 := eq_of_beq h1
      subst e1
      obtain ⟨g, m⟩ := bi_ok T O h2
      exact si_zip3 B g m h3 h4 h4' (hr _ h5 X O) (hr _ h6 X O) (hr _ h7 X O)
    · cases h
end
end Py
end
section
set_option Elab.async false
set_option linter.all false
set_option maxRecDepth 100000
set_option maxHeartbeats 4000000
namespace Py
open PySem PySem.Spec PyProof.Rows L2 C8
section
variable {td : TD} {k : Ki} {C : Ctx} {orc : Orc} {mg : Str → Option Value} {base : Heap} {j : Nat}
theorem sw_ok {S : SC} {X : Cx} (O : XOk k mg base j S X) {tg e : Expr} (h : ckSw S tg e = true) (l : Nat) : swapsWith e (some tg) l X.env = pure false := by
  unfold ckSw at h
  rw [Bool.or_eq_true] at h
  rcases h with h | h
  · exact sw_no h _ _ _
  · split at h
    · rename_i y py
      refine sw_cell ?_ l
      rw [O.sc]
      simpa using h
    · rename_i hn
      cases tg <;> first | exact sw_tg rfl _ _ _ | exact absurd rfl (hn _ _)
theorem fx_ok {S : SC} {t : Tg} (h : noFx S t = true) : ∀ i ∈ S.fx, i ∉ tgs t := fun i hi => by
  have := List.all_eq_true.mp h i hi
  simpa using this
theorem ss_asgLc' {X : Cx} {fr : Bool} {fx : List Nat} {i : Nat} (B : XB k X) {y : Str} {py : Pos} {elt tg iter : Expr} {ifs : List Expr} {scope : Scope} {own : List (Str × Nat)} {wn : List Nat} (ew : own.map (·.2) = wn) {pos spos : Pos} {tgi : Tg} {iti : Py.It} {ifsi : List E} {elti : E} (hk : X.env.scope.kind = .function) (hy : X.N[i]? = some y) (hyl : X.env.scope.names.lookup y = some .local)
    (hl : (py.line == pos.line) = true) (ha : (scope.names.any fun (n, k) => n == y && (k == .local || k == .cell)) = false) (hfx : i ∉ fx)
    (hi : PI X tg iter (tI k C orc iti)) (ok : BlkOk X.N X.env.scope scope own)
    (hg : ∀ (s : Shared) (H : Hp) (C : Addr) (cl : List (Str × Addr)) (fp : List Addr), PG (X.blk s H scope (compEnvC scope cl C X.env) fp) tg (tG k tgi)) (ht : ∀ (s : Shared) (H : Hp) (A : Addr) (cl : List (Str × Addr)) (fp : List Addr), PTs (X.blk s H scope (compEnvC scope cl A X.env) fp) ifs (tF k C orc ifsi))
    (he : ∀ (s : Shared) (H : Hp) (A : Addr) (cl : List (Str × Addr)) (fp : List Addr), PE (X.blk s H scope (compEnvC scope cl A X.env) fp) elt (tE k C orc elti)) (hs : notSet iter = true) (htg : ∀ i ∈ tgs tgi, i ∈ own.map (·.2)) :
    PS X (.Assign [.Name y py] (.ListComp elt [⟨tg, iter, ifs, 0⟩] scope pos) spos) (tS k C orc fr fx (.asgO i (.lc wn tgi iti ifsi elti))) ∧ PS X (.Assign [.Name y py] (.ListComp elt [⟨tg, iter, ifs, 0⟩] scope pos) spos) (tS k C orc fr fx (.asg (.n i) (.lc wn tgi iti ifsi elti))) := by
  subst ew
  exact ⟨ss_asgLc B hk hy hyl hl ha hfx hi ok hg ht he hs htg true, ss_asgLc B hk hy hyl hl ha hfx hi ok hg ht he hs htg false⟩
theorem asgLc_ok {r : Q → Bool} (hr : ∀ q, r q = true → Sem k C orc mg base j q) {S : SC} {X : Cx} (O : XOk k mg base j S X) {y : Str} {py pos spos : Pos} {i : Nat} {elt tg iter : Expr} {ifs : List Expr} {scope : Scope} {own : List Nat} {tgi : Tg} {iti : Py.It} {ifsi : List E} {elti : E}
    (hn : stS.ckNm S y py pos scope i = true) (h : ckLc r S elt tg iter ifs scope own tgi iti ifsi elti = true) :
    PS X (.Assign [.Name y py] (.ListComp elt [⟨tg, iter, ifs, 0⟩] scope pos) spos) (tS k C orc S.fr S.fx (.asgO i (.lc own tgi iti ifsi elti))) ∧ PS X (.Assign [.Name y py] (.ListComp elt [⟨tg, iter, ifs, 0⟩] scope pos) spos) (tS k C orc S.fr S.fx (.asg (.n i) (.lc own tgi iti ifsi elti))) := by
  obtain ⟨n1, hn⟩ := and2 hn
  obtain ⟨n2, hn⟩ := and2 hn
  obtain ⟨n3, hn⟩ := and2 hn
  obtain ⟨n4, n5⟩ := and2 hn
  obtain ⟨a1, a2, a3, a4, a5, a6, a7⟩ := lc_ok hr O h
  exact ss_asgLc' O.B (own_snd S own) O.kind (by rw [O.N]; simpa using n1) (by rw [O.sc]; simpa using n2) n3 (by simpa using n4) (by simpa using n5) a4 a2 a5 a6 a7 a1 a3
theorem stS_ok (T : TOk td k C orc mg base j) {r : Q → Bool} (hr : ∀ q, r q = true → Sem k C orc mg base j q) {S : SC} {st : Stmt} {i : Py.S} (h : stS td r S st i = true) : ∀ X, XOk k mg base j S X → PS X st (tS k C orc S.fr S.fx i) := by
  intro X O
  have B := O.B
  cases i <;> simp only [stS] at h <;> first | (cases h; done) | skip
  case asg t a =>
    split at h
    · have i1 := (and2 h).1
      replace h := (and2 h).2
      split at h
      · rename_i hsw
        obtain ⟨j1, h⟩ := and2 h
        obtain ⟨j2, h⟩ := and2 h
        obtain ⟨j3, j4⟩ := and2 h
        exact ss_asg (sw_ok O hsw) (by simpa using j1) j2 (fx_ok i1) (hr _ j3 X O) (hr _ j4 X O)
      · split at h
        · obtain ⟨j1, j2⟩ := and2 h
          exact (asgLc_ok hr O j1 j2).2
        · cases h
    · cases h
  case asgO i a =>
    split at h
    · have i1 := (and2 h).1
      replace h := (and2 h).2
      split at h
      · rename_i hsw
        obtain ⟨j1, j2⟩ := and2 h
        obtain ⟨l1, l2, l3⟩ := loc_ok O j1
        exact ss_asgO B.nd l1 l2 l3 (sw_ok O hsw) (by simpa using i1) (hr _ j2 X O)
      · split at h
        · obtain ⟨j1, j2⟩ := and2 h
          exact (asgLc_ok hr O j1 j2).1
        · cases h
    · cases h
  case «set» i gs ik a =>
    split at h
    · obtain ⟨h1, h⟩ := and2 h
      obtain ⟨h2, h⟩ := and2 h
      obtain ⟨h3, h⟩ := and2 h
      obtain ⟨h4, h5⟩ := and2 h
      have e2 : gs = [] := by simpa using h1
      subst e2
      exact ss_set B h2 (hr _ h3 X O) (hr _ h4 X O) (hr _ h5 X O)
    · cases h
  case fset i gs f a =>
    split at h
    · obtain ⟨h1, h⟩ := and2 h
      obtain ⟨h2, h⟩ := and2 h
      obtain ⟨h3, h⟩ := and2 h
      obtain ⟨h4, h5⟩ := and2 h
      have e2 : gs = [] := by simpa using h1
      subst e2
      obtain ⟨A, hx⟩ := T.fds f _ (by simpa using h2)
      exact ss_fset B A hx h3 (hr _ h4 X O) (hr _ h5 X O)
    · cases h
  case aug i op a =>
    split at h
    · obtain ⟨h1, h⟩ := and2 h
      obtain ⟨h2, h⟩ := and2 h
      obtain ⟨h3, h⟩ := and2 h
      obtain ⟨h4, h5⟩ := and2 h
      obtain ⟨l1, l2, l3⟩ := loc_ok O h3
      exact ss_aug h1 (of_decide_eq_true h2) B.nd l1 l2 l3 (by simpa using h4) (hr _ h5 X O)
    · cases h
  case expr a =>
    split at h
    · obtain ⟨h1, h2⟩ := and2 h
      exact ss_expr h1 (hr _ h2 X O)
    · cases h
  case ret a =>
    split at h
    · split at h
      · exact ss_retF (hr _ h X O)
      · rename_i hf
        exact ss_ret (by simpa using hf) (hr _ h X O)
    · cases h
  case retN =>
    split at h
    · exact ss_retN (by simpa using h)
    · cases h
  case retO i =>
    split at h
    · obtain ⟨a, b, c, d⟩ := vis_ok O h
      exact ss_retO a b c d
    · cases h
  case ite c a b =>
    split at h
    · obtain ⟨h1, h⟩ := and2 h
      obtain ⟨h2, h3⟩ := and2 h
      exact ss_ite (hr _ h1 X O) (hr _ h2 X O) (hr _ h3 X O)
    · cases h
  case for_ t it b =>
    split at h
    · obtain ⟨h1, h⟩ := and2 h
      obtain ⟨h2, h⟩ := and2 h
      obtain ⟨h3, h⟩ := and2 h
      obtain ⟨h4, h5⟩ := and2 h
      exact ss_for B O.xe h1 (fx_ok h2) (hr _ h3 X O) (hr _ h4 X O) (hr _ h5 X O)
    · cases h
  case while_ c b =>
    split at h
    · obtain ⟨h1, h2⟩ := and2 h
      exact ss_while O.xe (hr _ h1 X O) (hr _ h2 X O)
    · cases h
  case brk =>
    split at h
    · exact ss_brk
    · cases h
  case cont =>
    split at h
    · exact ss_cont
    · cases h
  case pass =>
    split at h
    · exact ss_pass
    · exact ss_doc
    · cases h
  case raise => exact ss_raise
  case try_ b =>
    split at h
    · exact ss_try O.xe (hr _ h X O)
    · cases h
theorem step_ok (T : TOk td k C orc mg base j) {r : Q → Bool} (hr : ∀ q, r q = true → Sem k C orc mg base j q) (q : Q) (h : step td r q = true) : Sem k C orc mg base j q := by
  cases q with
  | e S e i => exact stE_ok T hr h
  | f S e i => exact stF_ok T hr h
  | t S e i => exact stT_ok T hr h
  | w S e i => exact stW_ok T hr h
  | es S es is =>
    intro X O
    simp only [step] at h
    split at h
    · exact ses_nil
    · obtain ⟨h1, h⟩ := and2 h
      obtain ⟨h2, h3⟩ := and2 h
      exact ses_cons h1 (hr _ h2 X O) (hr _ h3 X O)
    · cases h
  | ks S es is =>
    intro X O
    simp only [step] at h
    split at h
    · exact sks_nil
    · obtain ⟨h2, h3⟩ := and2 h
      exact sks_cons (hr _ h2 X O) (hr _ h3 X O)
    · cases h
  | o S e i =>
    intro X O
    simp only [step] at h
    split at h
    · split at h
      · exact so_none
      · cases h
    · obtain ⟨h2, h3⟩ := and2 h
      exact so_some h2 (hr _ h3 X O)
  | p S e i gs => exact stP_ok T hr h
  | a S es as =>
    intro X O
    simp only [step] at h
    split at h
    · exact sa_nil
    · obtain ⟨h1, h⟩ := and2 h
      obtain ⟨h2, h3⟩ := and2 h
      exact sa_e h1 (hr _ h2 X O) (hr _ h3 X O)
    · obtain ⟨h1, h⟩ := and2 h
      obtain ⟨h2, h3⟩ := and2 h
      exact sa_io h1 (hr _ h2 X O) (hr _ h3 X O)
    · cases h
  | q S e i =>
    intro X O
    cases i <;> simp only [step] at h
    case pth i gs => exact sq_p (hr _ h X O)
    all_goals exact sq_e rfl (hr _ h X O)
  | it S tg e i => exact stI_ok T hr h
  | g S e t =>
    intro X O
    simp only [step] at h
    split at h
    · obtain ⟨l1, l2, l3⟩ := loc_ok O h
      exact sg_n O.B.nd l1 l2 l3
    · obtain ⟨h1, h⟩ := and2 h
      obtain ⟨h2, h3⟩ := and2 h
      exact sg_t O.B h1 (of_decide_eq_true h2) (hr _ h3 X O)
    · cases h
  | gs S es ts =>
    intro X O
    simp only [step] at h
    split at h
    · exact sgs_nil
    · obtain ⟨h1, h⟩ := and2 h
      obtain ⟨h2, h3⟩ := and2 h
      exact sgs_cons h1 (hr _ h2 X O) (hr _ h3 X O)
    · cases h
  | ifs S es is =>
    intro X O
    simp only [step] at h
    split at h
    · exact sf_nil
    · exact sf_one (hr _ h X O)
    · cases h
  | s S st i => exact stS_ok T hr h
  | ss S sts is =>
    intro X O
    simp only [step] at h
    split at h
    · exact sss_nil
    · obtain ⟨h2, h3⟩ := and2 h
      exact sss_cons (hr _ h2 X O) (hr _ h3 X O)
    · cases h
theorem ck_ok (T : TOk td k C orc mg base j) : ∀ (n : Nat) (q : Q), ck td n q = true → Sem k C orc mg base j q
  | 0, _, h => by simp [ck] at h
  | n + 1, q, h => step_ok T (ck_ok T n) q h
end
end Py
end
section
set_option Elab.async false
set_option linter.all false
set_option maxRecDepth 100000
set_option maxHeartbeats 4000000
namespace Py
open PySem PySem.Spec PyProof.Rows L2 C8
/-! ### the table of defs -/
structure Df where
  N : List Str
  ps : List Str
  name : Str
  qual : Str
  args : Arguments
  body : List Stmt
  scope : Scope
/-- one def as it stands, checked -/
structure DfOk (td : TD) (k : Ki) (C : Ctx) (fa : Nat → Addr) (fd : Nat → FuncData) (i : Nat) (D : Df) (F : Fn) : Prop where
  fn : FunD k.K D.name D.qual D.args D.body D.scope [] [] (fa i) (fd i)
  sc : FnScope D.N D.ps D.scope
  n : F.n = D.N.length
  io : F.io.length = D.ps.length
  fr : C.fr i = F.fr
  ck : ∃ fuel, ck td fuel (.ss ⟨D.N, D.scope, none, ioFrom F.io 0, F.fr⟩ D.body F.body) = true
/-- what the module's facts say of the table's rows -/
structure TabOk (td : TD) (k : Ki) (C : Ctx) (fns : List Fn) (dfs : List Df) (fa : Nat → Addr) (fd : Nat → FuncData) (mg : Str → Option Value) : Prop where
  len : dfs.length = fns.length
  def_ : ∀ i D F, dfs[i]? = some D → fns[i]? = some F → DfOk td k C fa fd i D F
  binds : ∀ i D, dfs[i]? = some D → Binds k.K (fd i) D.ps []
  fns : ∀ x f np, (x, f, np) ∈ td.fns → ∃ D, dfs[f]? = some D ∧ D.ps.length = np ∧ mg x = some (.ref (fa f))
  kws : ∀ x f ks pm, (x, f, ks, pm) ∈ td.kws → ∃ D g, dfs[f]? = some D ∧ D.ps.length = pm.length ∧ mg x = some (.ref (fa f)) ∧ KBn k.K (fd f) D.ps 0 ks g (fun _ zs => pm.map fun i => zs.getD i .non)
  cls : ∀ x c f np, (x, c, f, np) ∈ td.cls → C.init c = some f ∧ ∃ D, dfs[f]? = some D ∧ D.ps.length = np ∧ mg x = some (.ref (k.ca c)) ∧ Mk k.K (k.ca c) (fa f)
  mts : ∀ m x np, (m, x, np) ∈ td.mts → (∀ i, k.fd i ≠ x) ∧ ∀ c f, C.mth c m = some f → ∃ D, dfs[f]? = some D ∧ D.ps.length = np ∧ Cls k.K (k.ca c) ∧ Meth k.K (k.ca c) x (fa f)
  lens : ∀ c f, C.lenOf c = some f → ∃ D, dfs[f]? = some D ∧ D.ps.length = 1 ∧ PySem.W.findIn k.K (.ref (k.ca c)) "__len__" = some (some (.ref (fa f))) ∧ PySem.W.isFn k.K (.ref (fa f)) = true
  fds : ∀ f x, (f, x) ∈ td.fds → AttOk k f ∧ k.fd f = x
  bis : ∀ x, x ∈ td.bis → mg x = none
  frs : ∀ f, f ∈ td.frs → C.fr f = true
section
variable {td : TD} {k : Ki} {C : Ctx} {fns : List Fn} {dfs : List Df} {fa : Nat → Addr} {fd : Nat → FuncData} {mg : Str → Option Value} {base : Heap} {j : Nat}
theorem tok_of (T : TabOk td k C fns dfs fa fd mg) {orc : Orc} (Fo : ∀ i (D : Df), dfs[i]? = some D → FnOk k.P k.w k.K mg base C8.CX0 j (fa i) (fd i) D.ps (spF k C orc i D.ps.length)) : TOk td k C orc mg base j := by
  have keep : ∀ i D, dfs[i]? = some D → PySem.W.keepIn k.K (.ref (fa i)) = true := fun i D hD => by
    have hl : i < fns.length := by
      rw [← T.len]
      exact (List.getElem?_eq_some_iff.mp hD).1
    exact (T.def_ i D fns[i] hD (List.getElem?_eq_getElem hl)).fn.kp
  refine ⟨fun x f np h => ?_, fun x f ks pm h => ?_, fun x c f np h => ?_, fun m x np h => ?_, fun c f h => ?_, T.fds, T.bis, T.frs⟩
  · obtain ⟨D, hD, e, hm⟩ := T.fns x f np h
    have := Fo f D hD
    rw [e] at this
    exact ⟨fa f, fd f, D.ps, [], this, hm, keep f D hD, T.binds f D hD, .nil⟩
  · obtain ⟨D, g, hD, e, hm, hk⟩ := T.kws x f ks pm h
    have := Fo f D hD
    rw [e] at this
    exact ⟨fa f, fd f, D.ps, g, this, hm, keep f D hD, hk⟩
  · obtain ⟨hc, D, hD, e, hm, mk⟩ := T.cls x c f np h
    have := Fo f D hD
    rw [e] at this
    exact ⟨hc, j, Nat.le_refl _, fa f, fd f, D.ps, [], mk, this, hm, T.binds f D hD, .nil⟩
  · obtain ⟨a, b⟩ := T.mts m x np h
    refine ⟨a, fun c f hc => ?_⟩
    obtain ⟨D, hD, e, c1, m1⟩ := b c f hc
    have := Fo f D hD
    rw [e] at this
    exact ⟨fa f, fd f, D.ps, [], c1, m1, this, T.binds f D hD, .nil⟩
  · obtain ⟨D, hD, e, c1, m1⟩ := T.lens c f h
    have := Fo f D hD
    rw [e] at this
    exact ⟨fa f, fd f, D.ps, c1, m1, this, T.binds f D hD⟩
/-- every def keeps its promise, calls d deep -/
theorem tab_ok (T : TabOk td k C fns dfs fa fd mg) : ∀ (d i : Nat) (D : Df), dfs[i]? = some D → FnOk k.P k.w k.K mg base C8.CX0 (2 * d + 1) (fa i) (fd i) D.ps (spF k C (callN C fns d) i D.ps.length)
  | 0, i, D, hD => by
    have hl : i < fns.length := by rw [← T.len]; exact (List.getElem?_eq_some_iff.mp hD).1
    have d1 := T.def_ i D fns[i] hD (List.getElem?_eq_getElem hl)
    refine d1.fn.ok d1.sc (fun vs H Q E h => h.1) (fun cdv A outer s H vs Q E hr h => ?_)
    obtain ⟨_, F, as, os, d, fp, e, _⟩ := h
    simp only [callN] at e
    cases e
  | d + 1, i, D, hD => by
    have hl : i < fns.length := by rw [← T.len]; exact (List.getElem?_eq_some_iff.mp hD).1
    have hF : fns[i]? = some fns[i] := List.getElem?_eq_getElem hl
    have d1 := T.def_ i D fns[i] hD hF
    have tk : TOk td k C (callN C fns d) mg base (2 * d + 1) := tok_of T fun i D hD => tab_ok T d i D hD
    refine FnOk.mono (j := (2 * d + 2) + 1) (d1.fn.ok d1.sc (fun vs H Q E h => h.1) (fun cdv A outer s H vs Q E hr h => ?_)) (by omega)
    obtain ⟨fuel, hck⟩ := d1.ck
    have sem := ck_ok tk fuel _ hck
    refine ⟨_, PSs.nox (sem _ ?_), fn_red (Fn0 := fns[i]) (f := i) d1.n d1.fr (fun as => ?_) (by rw [d1.io]; exact h)⟩
    · refine ⟨⟨rfl, rfl, rfl, rfl, ?_, d1.sc.nd⟩, rfl, rfl, rfl, rfl, d1.sc.kind, fun x => rfl, rfl, hr⟩
      have := hr.un
      show (A.deeper _).units + 100 < cLine
      omega
    · simp only [callN, hF]
end
end Py
end
section
set_option Elab.async false
set_option linter.all false
set_option maxRecDepth 100000
set_option maxHeartbeats 4000000
namespace Py
open PySem PySem.Spec PyProof.Rows L2 C8
theorem look_none {ps : List Str} {us : List Value} (hl : us.length = ps.length) : ∀ n ∈ ps, ((ps.zip us).lookup n).isNone = false := by
  induction ps generalizing us with
  | nil => intro n h; cases h
  | cons p ps ih =>
    cases us with
    | nil => simp at hl
    | cons u us =>
      intro n h
      rw [List.zip_cons_cons, List.lookup_cons]
      cases e : n == p with
      | true => rfl
      | false =>
        have hne : n ≠ p := by simpa using e
        exact ih (by simpa using hl) n ((List.mem_cons.mp h).resolve_left hne)
theorem look_map {ps : List Str} (nd : ps.Nodup) {us : List Value} (hl : us.length = ps.length) : ps.filterMap (fun n => ((ps.zip us).lookup n).map (n, ·)) = ps.zip us := by
  have : ∀ (qs : List Str) (vs : List Value) (f : Str → Option Value), vs.length = qs.length → (∀ i (h : i < qs.length), f qs[i] = vs[i]?) → qs.filterMap (fun n => (f n).map (n, ·)) = qs.zip vs := by
    intro qs
    induction qs with
    | nil => intro vs f _ _; rfl
    | cons q qs ih =>
      intro vs f h1 h2
      cases vs with
      | nil => simp at h1
      | cons v vs =>
        have := h2 0 (by simp)
        simp at this
        rw [List.filterMap_cons, this]
        simp only [Option.map_some, List.zip_cons_cons]
        rw [ih vs f (by simpa using h1) fun i h => by
          have := h2 (i + 1) (by simpa using h)
          rw [List.getElem_cons_succ, List.getElem?_cons_succ] at this
          exact this]
  refine this ps us _ hl fun i h => ?_
  clear this
  induction ps generalizing us i with
  | nil => simp at h
  | cons p ps ih =>
    cases us with
    | nil => simp at hl
    | cons u us =>
      rw [List.zip_cons_cons, List.lookup_cons]
      cases i with
      | zero => simp
      | succ i =>
        have hh : i < ps.length := by simpa using h
        have hne : ((p :: ps)[i + 1] == p) = false := by
          simp only [List.getElem_cons_succ, beq_eq_false_iff_ne]
          intro e
          exact (List.nodup_cons.mp nd).1 (e ▸ List.getElem_mem hh)
        rw [hne]
        simpa using ih (List.nodup_cons.mp nd).2 (by simpa using hl) i hh
theorem bind_plain {fd : FuncData} (h1 : fd.params.posonlyargs = []) (h2 : fd.params.vararg = none) (h3 : fd.params.kwonlyargs = []) (h4 : fd.params.kwarg = none) (hdf : fd.defaults = .none) (nd : (fd.params.args.map (·.arg)).Nodup) (us : List Value) (hl : us.length = (fd.params.args.map (·.arg)).length) :
    bindArgs fd ⟨us, []⟩ = pure ((fd.params.args.map (·.arg)).zip us) := by
  have e1 : seqItems? Value.none = pure none := rfl
  have e2 : ((fd.params.args.map (·.arg)).filter fun n => (((fd.params.args.map (·.arg)).zip us).lookup n).isNone) = [] := List.filter_eq_nil_iff.mpr fun n hn => by rw [look_none hl n hn]; simp
  have e3 := look_map nd hl
  have e4 : decide (us.length > (fd.params.args.map (·.arg)).length) = false := by simp [hl]
  unfold bindArgs
  simp only [h1, h2, h3, h4, hdf, e1, List.map_nil, List.nil_append, List.append_nil, pure_bind, Option.getD_none]
  clear h1 h2 h3 h4 hdf e1 nd
  revert us
  generalize fd.params.args.map (·.arg) = ps
  intro us hl e2 e3 e4
  simp [hl, e2, e3, List.take_length]
end Py
end
section
set_option Elab.async false
set_option linter.all false
set_option maxRecDepth 100000
set_option maxHeartbeats 4000000
namespace Py
open PySem PySem.Spec PyProof.Rows L2 C8
/-! ### a law's table, by one look at its data -/
structure Law where
  names : List (List Str)
  fns : List Fn
  cn : List Str
  fl : List Str
  inits : List (Nat × Nat)
  lens : List (Nat × Nat)
  mths : List (Nat × Nat × Nat)
  frs : List Nat
  wh : Nat
  td : TD
def find2 : List (Nat × Nat) → Nat → Option Nat
  | [], _ => none
  | (a, b) :: l, c => if c = a then some b else find2 l c
def find3 : List (Nat × Nat × Nat) → Nat → Nat → Option Nat
  | [], _, _ => none
  | (a, b, f) :: l, c, m => if c = a ∧ m = b then some f else find3 l c m
theorem find2_mem : ∀ {l : List (Nat × Nat)} {c f : Nat}, find2 l c = some f → (c, f) ∈ l
  | (a, b) :: l, c, f, h => by
    unfold find2 at h
    split at h
    · rename_i e; cases h; rw [e]; exact List.mem_cons_self
    · exact List.mem_cons_of_mem _ (find2_mem h)
theorem find3_mem : ∀ {l : List (Nat × Nat × Nat)} {c m f : Nat}, find3 l c m = some f → (c, m, f) ∈ l
  | (a, b, g) :: l, c, m, f, h => by
    unfold find3 at h
    split at h
    · rename_i e; cases h; rw [e.1, e.2]; exact List.mem_cons_self
    · exact List.mem_cons_of_mem _ (find3_mem h)
def Law.ctx (L : Law) : Ctx where
  init := find2 L.inits
  lenOf := find2 L.lens
  mth := find3 L.mths
  wh := L.wh
  fr := fun f => L.frs.contains f
/-- the fields' names; past the list: strings that no text holds -/
def fdName (l : List Str) (i : Nat) : Str := match l[i]? with
  | some s => s
  | none => ⟨#[1114112 + i]⟩
def plainS (s : Str) : Bool := s.cps.all fun c => decide (c < 1114112)
theorem plainS_ne {s : Str} (h : plainS s = true) (i : Nat) : s ≠ ⟨#[1114112 + i]⟩ := fun e => by
  subst e
  simp [plainS] at h
  omega
theorem nodup_idx {α : Type} : ∀ {l : List α} {i j : Nat} {a : α}, l.Nodup → l[i]? = some a → l[j]? = some a → i = j
  | [], _, _, _, _, h, _ => by simp at h
  | x :: l, 0, 0, _, _, _, _ => rfl
  | x :: l, 0, j + 1, a, nd, h1, h2 => by
    simp at h1 h2
    subst h1
    exact absurd (List.mem_of_getElem? h2) (List.nodup_cons.mp nd).1
  | x :: l, i + 1, 0, a, nd, h1, h2 => by
    simp at h1 h2
    subst h2
    exact absurd (List.mem_of_getElem? h1) (List.nodup_cons.mp nd).1
  | x :: l, i + 1, j + 1, a, nd, h1, h2 => by
    exact congrArg (· + 1) (nodup_idx (l := l) (i := i) (j := j) (a := a) (List.nodup_cons.mp nd).2 (by simpa using h1) (by simpa using h2))
theorem fdName_inj {l : List Str} (nd : l.Nodup) (h : l.all plainS = true) (f g : Nat) (e : fdName l f = fdName l g) : f = g := by
  have pl : ∀ i s, l[i]? = some s → plainS s = true := fun i s hs => List.all_eq_true.mp h s (List.mem_of_getElem? hs)
  unfold fdName at e
  split at e <;> split at e
  · rename_i a ea _ b eb
    subst e
    exact nodup_idx nd ea (by rw [eb])
  · rename_i a ea _ eb
    exact absurd e (plainS_ne (pl _ _ ea) _)
  · rename_i ea _ b eb
    exact absurd e.symm (plainS_ne (pl _ _ eb) _)
  · have := congrArg (fun s : Str => s.cps.toList) e
    simp at this
    exact this
theorem fdName_ne {l : List Str} {x : Str} (hx : plainS x = true) (hn : l.contains x = false) (i : Nat) : fdName l i ≠ x := fun e => by
  unfold fdName at e
  split at e
  · rename_i s es
    subst e
    have := List.mem_of_getElem? es
    simp at hn
    exact hn this
  · exact plainS_ne hx i e.symm
def dfOf (N : List Str) (d : He.DefD) : Df := ⟨N, d.params.args.map (·.arg), d.name, d.qual, d.params, d.body, d.scope⟩
/-- the class whose number is c -/
def Law.cls (L : Law) (c : Nat) : Str := L.cn.getD c (L.cn.headD Str.empty)
def defC (L : Law) (fuel i : Nat) (N : List Str) (d : He.DefD) (F : Fn) : Bool :=
  (d.dfl.isEmpty && d.kwd.isEmpty) && ((d.params.posonlyargs.isEmpty && (d.params.vararg.isNone && (d.params.kwonlyargs.isEmpty && d.params.kwarg.isNone))) &&
  (scC N (d.params.args.map (·.arg)) d.scope && (decide (d.params.args.map (·.arg)).Nodup && (decide (F.n = N.length) && (decide (F.io.length = (d.params.args.map (·.arg)).length) && ((L.ctx.fr i == F.fr) &&
  ck L.td fuel (.ss ⟨N, d.scope, none, ioFrom F.io 0, F.fr⟩ d.body F.body)))))))
def allC (L : Law) (fuel : Nat) : Nat → List (List Str) → List He.DefD → List Fn → Bool
  | i, N :: Ns, d :: ds, F :: Fs => defC L fuel i N d F && allC L fuel (i + 1) Ns ds Fs
  | _, [], [], [] => true
  | _, _, _, _ => false
def hasGlo (fa : List He.Fa) (x : Str) : Bool := fa.any fun | .glo y => y == x | _ => false
def hasFree (fa : List He.Fa) (x : Str) : Bool := fa.any fun | .free y => y == x | _ => false
def hasCls (fa : List He.Fa) (x : Str) : Bool := fa.any fun | .cls y => y == x | _ => false
def hasMkr (fa : List He.Fa) (x : Str) : Bool := fa.any fun | .mkr y => y == x | _ => false
def hasNoat (fa : List He.Fa) (x f : Str) : Bool := fa.any fun | .noat y g => y == x && g == f | _ => false
def hasMeth (fa : List He.Fa) (x f : Str) : Bool := fa.any fun | .meth y g => y == x && g == f | _ => false
/-- the def number f stands there, with np parameters -/
def isAt (fn : List He.DefD) (f np : Nat) (p : Str × Option Str) : Bool := match fn[f]? with
  | some d => decide (d.at_ = p) && decide ((d.params.args.map (·.arg)).length = np)
  | none => false
def rowsC (L : Law) (fa : List He.Fa) (fn : List He.DefD) : Bool :=
  (L.td.fns.all fun q => hasGlo fa q.1 && isAt fn q.2.1 q.2.2 (q.1, none)) &&
  ((L.td.kws.all fun q => hasGlo fa q.1 && isAt fn q.2.1 q.2.2.2.length (q.1, none)) &&
  ((L.td.cls.all fun q => hasGlo fa q.1 && (hasMkr fa q.1 && ((L.cls q.2.1 == q.1) && (decide (find2 L.inits q.2.1 = some q.2.2.1) && isAt fn q.2.2.1 q.2.2.2 (q.1, some "__init__"))))) &&
  ((L.td.mts.all fun q => plainS q.2.1 && (!L.fl.contains q.2.1 && L.mths.all fun r => !(decide (r.2.1 = q.1)) || (hasMeth fa (L.cls r.1) q.2.1 && (hasCls fa (L.cls r.1) && isAt fn r.2.2 q.2.2 (L.cls r.1, some q.2.1))))) &&
  ((L.lens.all fun q => hasMeth fa (L.cls q.1) "__len__" && isAt fn q.2 1 (L.cls q.1, some "__len__")) &&
  ((L.td.fds.all fun q => decide (L.fl[q.1]? = some q.2) && ((L.cls 0 :: L.cn).all fun c => hasCls fa c && hasNoat fa c q.2)) &&
  ((L.td.bis.all fun x => hasFree fa x) && ((L.td.frs.all fun f => L.frs.contains f) && (decide L.fl.Nodup && L.fl.all plainS))))))))
/-! ### .. and what it says -/
def fdOf (K : PySem.W.Frag) (a : Addr) : FuncData := match K.lookup a with
  | some ⟨_, _, .func fd, _⟩ => fd
  | _ => default
theorem fdOf_eq {K : PySem.W.Frag} {x qual : Str} {params : Arguments} {body : List Stmt} {scope : Scope} {dvs : List V} {kws : List (Str × V)} {f : Addr} {fd : FuncData} (F : FunD K x qual params body scope dvs kws f fd) : fdOf K f = fd := by
  obtain ⟨oc, od, dV, kV, doc, pm, an, cdv, ct, osl, e, lk, _⟩ := F.ex
  unfold fdOf
  rw [lk]
def Law.ki (L : Law) (P : Program) (w : World) (K : PySem.W.Frag) (nd : L.fl.Nodup) (h : L.fl.all plainS = true) : Ki where
  P := P
  w := w
  K := K
  ca := fun c => He.ga K (L.cls c)
  fd := fdName L.fl
  inj := fdName_inj nd h
theorem any_pick {α : Type} {p : α → Bool} {l : List α} (h : l.any p = true) : ∃ a ∈ l, p a = true := by simpa using List.any_eq_true.mp h
section
variable {fa : List He.Fa} {fn : List He.DefD} {K : PySem.W.Frag} {h : Heap} {mg : Str → Option Value}
theorem says_fact (c : He.SaysD fa fn K) {f : He.Fa} (hf : f ∈ fa) : f.ok K = true := by
  obtain ⟨i, hi⟩ := List.mem_iff_getElem?.mp hf
  exact c.fact i hi
theorem glo_of (X : K.In h) (G : h.Ns mainGlobals mg) (c : He.SaysD fa fn K) {x : Str} (e : hasGlo fa x = true) : mg x = some (.ref (He.ga K x)) := by
  obtain ⟨f, hf, e⟩ := any_pick e
  cases f <;> first | (cases e; done) | skip
  have e := eq_of_beq e
  subst e
  exact He.glo_ok X G (says_fact c hf)
theorem free_of (X : K.In h) (G : h.Ns mainGlobals mg) (c : He.SaysD fa fn K) {x : Str} (e : hasFree fa x = true) : mg x = none := by
  obtain ⟨f, hf, e⟩ := any_pick e
  cases f <;> first | (cases e; done) | skip
  have e := eq_of_beq e
  subst e
  exact He.free_ok X G (says_fact c hf)
theorem cls_of (c : He.SaysD fa fn K) {x : Str} (e : hasCls fa x = true) : Cls K (He.ga K x) := by
  obtain ⟨f, hf, e⟩ := any_pick e
  cases f <;> first | (cases e; done) | skip
  have e := eq_of_beq e
  subst e
  exact He.cls_ok (says_fact c hf)
theorem mkr_of (c : He.SaysD fa fn K) {x : Str} (e : hasMkr fa x = true) : Mk K (He.ga K x) (He.ma K (He.ga K x) "__init__") := by
  obtain ⟨f, hf, e⟩ := any_pick e
  cases f <;> first | (cases e; done) | skip
  have e := eq_of_beq e
  subst e
  exact He.mkr_ok (says_fact c hf)
theorem noat_of (c : He.SaysD fa fn K) {x g : Str} (e : hasNoat fa x g = true) : NoAttr K (He.ga K x) g := by
  obtain ⟨f, hf, e⟩ := any_pick e
  cases f <;> first | (cases e; done) | skip
  obtain ⟨e, e2⟩ := and2 e
  have e := eq_of_beq e
  have e2 := eq_of_beq e2
  subst e e2
  exact He.noat_ok (says_fact c hf)
theorem meth_of (c : He.SaysD fa fn K) {x g : Str} (e : hasMeth fa x g = true) : Meth K (He.ga K x) g (He.ma K (He.ga K x) g) := by
  obtain ⟨f, hf, e⟩ := any_pick e
  cases f <;> first | (cases e; done) | skip
  obtain ⟨e, e2⟩ := and2 e
  have e := eq_of_beq e
  have e2 := eq_of_beq e2
  subst e e2
  exact He.meth_ok (says_fact c hf)
def faOf (fn : List He.DefD) (K : PySem.W.Frag) (i : Nat) : Addr := match fn[i]? with
  | some d => He.fAd K d.at_
  | none => 0
def dfsOf : List (List Str) → List He.DefD → List Df
  | N :: Ns, d :: ds => dfOf N d :: dfsOf Ns ds
  | _, _ => []
theorem allC_get {L : Law} {fuel : Nat} : ∀ {i : Nat} {Ns : List (List Str)} {ds : List He.DefD} {Fs : List Fn}, allC L fuel i Ns ds Fs = true → (dfsOf Ns ds).length = Fs.length ∧ ∀ j D, (dfsOf Ns ds)[j]? = some D → ∃ N d F, Ns[j]? = some N ∧ ds[j]? = some d ∧ Fs[j]? = some F ∧ D = dfOf N d ∧ defC L fuel (i + j) N d F = true
  | i, [], [], [], _ => ⟨rfl, fun j D h => by simp [dfsOf] at h⟩
  | i, N :: Ns, d :: ds, F :: Fs, h => by
    obtain ⟨h1, h2⟩ := and2 (show (defC L fuel i N d F && allC L fuel (i + 1) Ns ds Fs) = true from h)
    obtain ⟨a, b⟩ := allC_get h2
    refine ⟨by simp [dfsOf, a], fun j D hD => ?_⟩
    cases j with
    | zero =>
      simp [dfsOf] at hD
      exact ⟨N, d, F, rfl, rfl, rfl, hD.symm, h1⟩
    | succ j =>
      obtain ⟨N', d', F', e1, e2, e3, e4, e5⟩ := b j D (by simpa [dfsOf] using hD)
      exact ⟨N', d', F', by simpa using e1, by simpa using e2, by simpa using e3, e4, by rw [show i + (j + 1) = i + 1 + j by omega]; exact e5⟩
  | _, [], [], _ :: _, h => by simp [allC] at h
  | _, [], _ :: _, _, h => by simp [allC] at h
  | _, _ :: _, [], _, h => by simp [allC] at h
  | _, _ :: _, _ :: _, [], h => by simp [allC] at h
theorem dfs_some : ∀ {Ns : List (List Str)} {ds : List He.DefD} {Fs : List Fn} {L : Law} {fuel i : Nat}, allC L fuel i Ns ds Fs = true → ∀ {j : Nat} {d : He.DefD}, ds[j]? = some d → ∃ N, (dfsOf Ns ds)[j]? = some (dfOf N d)
  | N :: Ns, d :: ds, F :: Fs, L, fuel, i, h, 0, d', e => by
    simp at e
    subst e
    exact ⟨N, rfl⟩
  | N :: Ns, d :: ds, F :: Fs, L, fuel, i, h, j + 1, d', e => by
    obtain ⟨h1, h2⟩ := and2 (show (defC L fuel i N d F && allC L fuel (i + 1) Ns ds Fs) = true from h)
    obtain ⟨N', e'⟩ := dfs_some h2 (show ds[j]? = some d' by simpa using e)
    exact ⟨N', by simpa [dfsOf] using e'⟩
  | [], [], [], _, _, _, _, _, _, e => by simp at e
  | [], [], _ :: _, _, _, _, h, _, _, _ => by simp [allC] at h
  | [], _ :: _, _, _, _, _, h, _, _, _ => by simp [allC] at h
  | _ :: _, [], _, _, _, _, h, _, _, _ => by simp [allC] at h
  | _ :: _, _ :: _, [], _, _, _, h, _, _, _ => by simp [allC] at h
theorem isAt_of {f np : Nat} {p : Str × Option Str} (h : isAt fn f np p = true) : ∃ d, fn[f]? = some d ∧ d.at_ = p ∧ (d.params.args.map (·.arg)).length = np := by
  unfold isAt at h
  split at h
  · rename_i d e
    obtain ⟨h1, h2⟩ := and2 h
    exact ⟨d, e, of_decide_eq_true h1, of_decide_eq_true h2⟩
  · cases h
end
end Py
end
section
set_option Elab.async false
set_option linter.all false
set_option maxRecDepth 100000
set_option maxHeartbeats 4000000
namespace Py
open PySem PySem.Spec PyProof.Rows L2 C8
section
variable {fa : List He.Fa} {fn : List He.DefD} {K : PySem.W.Frag} {h : Heap} {mg : Str → Option Value} {L : Law} {fuel : Nat}
theorem kbn_of {x qual : Str} {params : Arguments} {body : List Stmt} {scope : Scope} {f : Addr} {fd : FuncData} {ps ks : List Str} {pm : List Nat} (F : FunD K x qual params body scope [] [] f fd)
    (hb : ∀ (kV doc pm' : Value) (an : Option Addr) (cdv ct : Value) (ws : List Value), ws.length = ks.length → bindArgs (PySem.W.fnOf x qual params body scope .none kV doc pm' an cdv ct) ⟨[], ks.zip ws⟩ = pure (ps.zip (pm.map fun i => ws.getD i .none))) :
    KBn K fd ps 0 ks (fun _ ws => pm.map fun i => ws.getD i .none) (fun _ zs => pm.map fun i => zs.getD i .non) := by
  obtain ⟨oc, od, dV, kV, doc, pm', an, cdv, ct, osl, rfl, lk, hcd, hD, hK⟩ := F.ex
  rcases hD with ⟨_, rfl⟩ | ⟨e, _⟩
  · refine ⟨fun s us ws X l1 l2 => ?_, fun {vs us zs ws} r1 r2 => ?_⟩
    · have : us = [] := List.length_eq_zero_iff.mp l1
      subst this
      exact .of_eq (hb kV doc pm' an cdv ct ws l2)
    · clear hb
      induction pm with
      | nil => exact .nil
      | cons i pm ih =>
        refine .cons ?_ ih
        show RelV (zs.getD i .non) (ws.getD i .none)
        rw [List.getD_eq_getElem?_getD, List.getD_eq_getElem?_getD]
        cases e : zs[i]? with
        | none => rw [Vals.none_of r2 e]; rfl
        | some z =>
          obtain ⟨u, e1, e2⟩ := Vals.get r2 e
          rw [e1]
          exact e2
  · exact absurd rfl e
theorem bindsP {x qual : Str} {params : Arguments} {body : List Stmt} {scope : Scope} {f : Addr} {fd : FuncData} (F : FunD K x qual params body scope [] [] f fd) (h1 : params.posonlyargs = []) (h2 : params.vararg = none) (h3 : params.kwonlyargs = []) (h4 : params.kwarg = none) (nd : (params.args.map (·.arg)).Nodup) : Binds K fd (params.args.map (·.arg)) [] :=
  F.bindsN fun kV doc pm an cdv ct us hl => bind_plain (fd := PySem.W.fnOf x qual params body scope .none kV doc pm an cdv ct) h1 h2 h3 h4 rfl nd us hl
theorem cls_mem (L : Law) (cc : Nat) : L.cls cc ∈ L.cls 0 :: L.cn := by
  have g : ∀ (l : List Str) (c : Nat) (d : Str), l.getD c d ∈ d :: l := fun l c d => by
    rw [List.getD_eq_getElem?_getD]
    cases e : l[c]? with
    | some y => exact List.mem_cons_of_mem _ (List.mem_of_getElem? e)
    | none => exact List.mem_cons_self
  have h0 : L.cls 0 = L.cn.headD Str.empty := by
    unfold Law.cls
    cases L.cn <;> rfl
  rw [h0]
  exact g _ _ _
/-- what the keyword calls bind -/
def KwsOk (L : Law) (fn : List He.DefD) : Prop := ∀ x f ks pm, (x, f, ks, pm) ∈ L.td.kws → ∀ d, fn[f]? = some d → ∀ (kV doc pm' : Value) (an : Option Addr) (cdv ct : Value) (ws : List Value), ws.length = ks.length →
  bindArgs (PySem.W.fnOf d.name d.qual d.params d.body d.scope .none kV doc pm' an cdv ct) ⟨[], ks.zip ws⟩ = pure ((d.params.args.map (·.arg)).zip (pm.map fun i => ws.getD i .none))
theorem law_tab (X : K.In h) (G : h.Ns mainGlobals mg) (c : He.SaysD fa fn K) (ha : allC L fuel 0 L.names fn L.fns = true) (hr : rowsC L fa fn = true) (hk : KwsOk L fn) (P : Program) (w : World) :
    ∃ nd pl, TabOk L.td (L.ki P w K nd pl) L.ctx L.fns (dfsOf L.names fn) (faOf fn K) (fun i => fdOf K (faOf fn K i)) mg := by
  obtain ⟨r1, hr⟩ := and2 hr
  obtain ⟨r2, hr⟩ := and2 hr
  obtain ⟨r3, hr⟩ := and2 hr
  obtain ⟨r4, hr⟩ := and2 hr
  obtain ⟨r5, hr⟩ := and2 hr
  obtain ⟨r6, hr⟩ := and2 hr
  obtain ⟨r7, hr⟩ := and2 hr
  obtain ⟨r8, hr⟩ := and2 hr
  obtain ⟨r9, r10⟩ := and2 hr
  have nd := of_decide_eq_true r9
  obtain ⟨hlen, hget⟩ := allC_get ha
  refine ⟨nd, r10, ?_⟩
  have fun_ : ∀ {i : Nat} {N : List Str} {d : He.DefD} {F : Fn} {j : Nat}, fn[i]? = some d → defC L fuel j N d F = true → FunD K d.name d.qual d.params d.body d.scope [] [] (faOf fn K i) (fdOf K (faOf fn K i)) := by
    intro i N d F j e hd
    obtain ⟨h1, _⟩ := and2 hd
    obtain ⟨h1, h2⟩ := and2 h1
    obtain ⟨fd, Fd⟩ := c.def_ i e
    have e1 : d.dvs K = [] := by unfold He.DefD.dvs; rw [List.isEmpty_iff.mp h1]; rfl
    have e2 : d.kws K = [] := by unfold He.DefD.kws; rw [List.isEmpty_iff.mp h2]; rfl
    rw [e1, e2] at Fd
    have e3 : faOf fn K i = He.fAd K d.at_ := by unfold faOf; rw [e]
    rw [e3, fdOf_eq Fd]
    exact Fd
  have df : ∀ {f : Nat} {d : He.DefD}, fn[f]? = some d → ∃ D, (dfsOf L.names fn)[f]? = some D ∧ D.ps = d.params.args.map (·.arg) := fun e => by
    obtain ⟨N, e'⟩ := dfs_some ha e
    exact ⟨_, e', rfl⟩
  have adr : ∀ {f : Nat} {d : He.DefD}, fn[f]? = some d → faOf fn K f = He.fAd K d.at_ := fun e => by unfold faOf; rw [e]
  refine ⟨hlen, fun i D F hD hF => ?_, fun i D hD => ?_, fun x f np hm => ?_, fun x f ks pm hm => ?_, fun x cc f np hm => ?_, fun m x np hm => ?_, fun cc f hm => ?_, fun f x hm => ?_, fun x hm => ?_, fun f hm => ?_⟩
  · obtain ⟨N, d, F', e1, e2, e3, rfl, hd⟩ := hget i D hD
    rw [hF] at e3
    cases e3
    have fu := fun_ e2 hd
    rw [Nat.zero_add] at hd
    obtain ⟨_, hd⟩ := and2 hd
    obtain ⟨_, hd⟩ := and2 hd
    obtain ⟨h1, hd⟩ := and2 hd
    obtain ⟨h2, hd⟩ := and2 hd
    obtain ⟨h3, hd⟩ := and2 hd
    obtain ⟨h4, hd⟩ := and2 hd
    obtain ⟨h5, h6⟩ := and2 hd
    exact ⟨fu, fnScope_by h1, of_decide_eq_true h3, of_decide_eq_true h4, eq_of_beq h5, fuel, h6⟩
  · obtain ⟨N, d, F', e1, e2, e3, rfl, hd⟩ := hget i D hD
    have fu := fun_ e2 hd
    obtain ⟨_, hd⟩ := and2 hd
    obtain ⟨p, hd⟩ := and2 hd
    obtain ⟨p1, p⟩ := and2 p
    obtain ⟨p2, p⟩ := and2 p
    obtain ⟨p3, p4⟩ := and2 p
    obtain ⟨h1, hd⟩ := and2 hd
    obtain ⟨h2, hd⟩ := and2 hd
    exact bindsP fu (List.isEmpty_iff.mp p1) (Option.isNone_iff_eq_none.mp p2) (List.isEmpty_iff.mp p3) (Option.isNone_iff_eq_none.mp p4) (of_decide_eq_true h2)
  · obtain ⟨a, b⟩ := and2 (List.all_eq_true.mp r1 _ hm)
    obtain ⟨d, e1, e2, e3⟩ := isAt_of b
    obtain ⟨D, e4, e5⟩ := df e1
    refine ⟨D, e4, by rw [e5]; exact e3, ?_⟩
    rw [glo_of X G c a, adr e1, e2]
    rfl
  · obtain ⟨a, b⟩ := and2 (List.all_eq_true.mp r2 _ hm)
    obtain ⟨d, e1, e2, e3⟩ := isAt_of b
    obtain ⟨N, e4⟩ := dfs_some ha e1
    obtain ⟨N', d', F', g1, g2, g3, g4, hd⟩ := hget f _ e4
    rw [e1] at g2
    cases g2
    refine ⟨_, _, e4, e3, ?_, kbn_of (fun_ e1 hd) (hk x f ks pm hm d e1)⟩
    rw [glo_of X G c a, adr e1, e2]
    rfl
  · obtain ⟨a, b⟩ := and2 (List.all_eq_true.mp r3 _ hm)
    obtain ⟨b, q⟩ := and2 b
    obtain ⟨q1, q⟩ := and2 q
    obtain ⟨q2, q3⟩ := and2 q
    obtain ⟨d, e1, e2, e3⟩ := isAt_of q3
    obtain ⟨D, e4, e5⟩ := df e1
    have ec : (L.ki P w K nd r10).ca cc = He.ga K x := congrArg (He.ga K) (eq_of_beq q1)
    refine ⟨of_decide_eq_true q2, D, e4, by rw [e5]; exact e3, ?_, ?_⟩
    · rw [ec]; exact glo_of X G c a
    · rw [ec, adr e1, e2]
      exact mkr_of c b
  · obtain ⟨a, b⟩ := and2 (List.all_eq_true.mp r4 _ hm)
    obtain ⟨b1, b2⟩ := and2 b
    refine ⟨fdName_ne a (by simpa using b1), fun cc f hf => ?_⟩
    have := List.all_eq_true.mp b2 _ (find3_mem hf)
    simp only [decide_true, Bool.not_true, Bool.false_or] at this
    obtain ⟨q1, q⟩ := and2 this
    obtain ⟨q2, q3⟩ := and2 q
    obtain ⟨d, e1, e2, e3⟩ := isAt_of q3
    obtain ⟨D, e4, e5⟩ := df e1
    refine ⟨D, e4, by rw [e5]; exact e3, cls_of c q2, ?_⟩
    rw [adr e1, e2]
    exact meth_of c q1
  · obtain ⟨q1, q3⟩ := and2 (List.all_eq_true.mp r5 _ (find2_mem hm))
    obtain ⟨d, e1, e2, e3⟩ := isAt_of q3
    obtain ⟨D, e4, e5⟩ := df e1
    have M := meth_of c q1
    refine ⟨D, e4, by rw [e5]; exact e3, ?_, ?_⟩
    · rw [adr e1, e2]; exact M.at_
    · rw [adr e1, e2]; exact M.fn
  · obtain ⟨q1, q2⟩ := and2 (List.all_eq_true.mp r6 _ hm)
    have ef : fdName L.fl f = x := by unfold fdName; rw [of_decide_eq_true q1]
    have all : ∀ cc : Nat, Cls K (He.ga K (L.cls cc)) ∧ NoAttr K (He.ga K (L.cls cc)) x := fun cc => by
      have hmem := cls_mem L cc
      obtain ⟨u1, u2⟩ := and2 (List.all_eq_true.mp q2 _ hmem)
      exact ⟨cls_of c u1, noat_of c u2⟩
    refine ⟨⟨fun cc => (all cc).1, fun cc => ?_⟩, ef⟩
    show NoAttr K _ (fdName L.fl f)
    rw [ef]
    exact (all cc).2
  · exact free_of X G c (List.all_eq_true.mp r7 _ hm)
  · exact List.all_eq_true.mp r8 _ hm
end
end Py
end
section
set_option Elab.async false
set_option linter.all false
set_option maxRecDepth 100000
set_option maxHeartbeats 4000000
namespace Py
open PySem PySem.Spec PyProof.Rows L2 C8
section
variable {fa : List He.Fa} {fn : List He.DefD} {K : PySem.W.Frag} {h : Heap} {mg : Str → Option Value} {L : Law} {fuel : Nat}
theorem repL_script {k : Ki} {P : Addr → Prop} {H : Hp} : ∀ ns : List Int, RepL k P H (ns.map V.int) (ns.map D.int)
  | [] => .nil
  | n :: ns => .cons (.int n) (repL_script ns)
theorem law_facts (X : K.In h) (G : h.Ns mainGlobals mg) (c : He.SaysD fa fn K) (ha : allC L fuel 0 L.names fn L.fns = true) (hr : rowsC L fa fn = true) (hk : KwsOk L fn) {P : Program} {w : World} {iL d n : Nat} {f : Addr} {x : Str} (hat : isAt fn iL 1 ("law", none) = true) (hx : (fn[iL]?.map fun d => d.params.args.map (·.arg)) = some [x])
    (hgl : hasGlo fa "law" = true) (hmg : mg ("law" : Str) = some (.ref f)) (hlaw : ∀ ns : List Int, ns.length ≤ n → ∃ os, callN L.ctx L.fns d iL [.sh (.fro (ns.map D.int))] = .ok os (.bl true)) :
    ∃ (fd : FuncData) (sp : Sp), (∀ (s : Shared) (v : Value), BindsTo s fd ⟨[v], []⟩ [(x, v)]) ∧ (∀ (H : Hp) (a : Addr) (ns : List Int), ns.length ≤ n → Only H → SqL K H a (ns.map V.int) → sp [.ref a] H (fun v _ => v = .bl true) fun _ _ _ => False) ∧
      ∀ base : Heap, K.In base → base.Ns mainGlobals mg → FnOk P w K mg base C8.CX0 (2 * d + 1) f fd [x] sp := by
  obtain ⟨nd, pl, T⟩ := law_tab X G c ha hr hk P w
  obtain ⟨dL, e1, e2, e3⟩ := isAt_of hat
  rw [e1] at hx
  have hx : dL.params.args.map (·.arg) = [x] := by simpa using hx
  obtain ⟨N, e4⟩ := dfs_some ha e1
  have ef : faOf fn K iL = f := by
    have g := hmg.symm.trans (glo_of X G c hgl)
    have : faOf fn K iL = He.ga K "law" := by
      unfold faOf
      rw [e1]
      show He.fAd K dL.at_ = _
      rw [e2]
      rfl
    rw [this]
    injection g with g
    injection g with g
    exact g.symm
  refine ⟨fdOf K (faOf fn K iL), spF (L.ki P w K nd pl) L.ctx (callN L.ctx L.fns d) iL 1, fun s v => ?_, fun H a ns hl hO hS => ?_, fun base hb1 hb2 => ?_⟩
  · obtain ⟨hlen, hget⟩ := allC_get ha
    obtain ⟨N', d', F', g1, g2, g3, g4, hd⟩ := hget iL _ e4
    rw [e1] at g2
    cases g2
    have fu := (T.def_ iL _ F' e4 g3).fn
    obtain ⟨_, hd⟩ := and2 hd
    obtain ⟨p, hd⟩ := and2 hd
    obtain ⟨p1, p⟩ := and2 p
    obtain ⟨p2, p⟩ := and2 p
    obtain ⟨p3, p4⟩ := and2 p
    obtain ⟨h1, hd⟩ := and2 hd
    obtain ⟨h2, hd⟩ := and2 hd
    have := FunD.bindsA (ps := dL.params.args.map fun a : PySem.Arg => a.arg) fu (fun kV doc pm an cdv ct us hl => bind_plain (fd := PySem.W.fnOf dL.name dL.qual dL.params dL.body dL.scope .none kV doc pm an cdv ct) (List.isEmpty_iff.mp p1) (Option.isNone_iff_eq_none.mp p2) (List.isEmpty_iff.mp p3) (Option.isNone_iff_eq_none.mp p4) rfl (of_decide_eq_true h2) us hl) s [v] (by rw [hx]; rfl)
    rw [hx] at this
    exact this
  · obtain ⟨os, ho⟩ := hlaw ns hl
    have fr : FroAt (L.ki P w K nd pl) H a (ns.map V.int) := by
      rcases hS with (hS | hS) | hS
      · rcases hO a with q | ⟨o, xs, q⟩
        · rw [q] at hS; cases hS
        · rw [q] at hS; cases hS
      · exact .inl hS
      · exact .inr hS
    refine ⟨rfl, fun _ => False, _, os, .bl true, fp0, ho, ?_, fun H' fp' v E' T' R _ => by cases R; rfl⟩
    exact env_args (vs := [.ref a]) (ds := [.fro (ns.map D.int)]) (P := fun _ => False) (fun _ z => z.elim) (.cons (.fro fr (repL_script ns)) .nil)
  · have := tab_ok (base := base) T d iL _ e4
    rw [show (dfOf N dL).ps = [x] from hx, ef] at this
    rw [ef]
    exact this
end
end Py
end
section
set_option Elab.async false
set_option linter.all false
set_option maxRecDepth 100000
set_option maxHeartbeats 4000000
namespace Py
open PySem PySem.Spec PyProof.Rows L2 C8
/-- one row of the keyword calls -/
def KwRow (fn : List He.DefD) (q : Str × Nat × List Str × List Nat) : Prop := ∀ d, fn[q.2.1]? = some d → ∀ (kV doc pm' : Value) (an : Option Addr) (cdv ct : Value) (ws : List Value), ws.length = q.2.2.1.length →
  bindArgs (PySem.W.fnOf d.name d.qual d.params d.body d.scope .none kV doc pm' an cdv ct) ⟨[], q.2.2.1.zip ws⟩ = pure ((d.params.args.map (·.arg)).zip (q.2.2.2.map fun i => ws.getD i .none))
inductive KwRows (fn : List He.DefD) : List (Str × Nat × List Str × List Nat) → Prop
  | nil : KwRows fn []
  | cons {q : Str × Nat × List Str × List Nat} {l : List (Str × Nat × List Str × List Nat)} : KwRow fn q → KwRows fn l → KwRows fn (q :: l)
theorem KwRows.mem {fn : List He.DefD} : ∀ {l : List (Str × Nat × List Str × List Nat)}, KwRows fn l → ∀ q ∈ l, KwRow fn q
  | _, .cons h t, q, hq => by
    rcases List.mem_cons.mp hq with rfl | hq
    · exact h
    · exact t.mem q hq
theorem kws_of {L : Law} {fn : List He.DefD} (h : KwRows fn L.td.kws) : KwsOk L fn := fun x f ks pm hm d hd => h.mem _ hm d hd
theorem kw_row {fn : List He.DefD} {q : Str × Nat × List Str × List Nat} {d : He.DefD} (e : fn[q.2.1]? = some d)
    (h : ∀ (kV doc pm' : Value) (an : Option Addr) (cdv ct : Value) (ws : List Value), ws.length = q.2.2.1.length →
  bindArgs (PySem.W.fnOf d.name d.qual d.params d.body d.scope .none kV doc pm' an cdv ct) ⟨[], q.2.2.1.zip ws⟩ = pure ((d.params.args.map (·.arg)).zip (q.2.2.2.map fun i => ws.getD i .none))) : KwRow fn q := fun d' hd => by
  rw [e] at hd
  cases hd
  exact h
end Py
end
section
set_option Elab.async false
set_option linter.all false
set_option maxRecDepth 100000
set_option maxHeartbeats 0
namespace Hd
open PySem PySem.Spec PyProof.Rows L2
def top (i : Nat) : Stmt := PySem.Challenge.pw_learnrealm_k97_taken_one_by_one.main.body.getD i (.Pass ⟨0, 0, 0, 0⟩)
def d0 : He.DefD := ⟨("_wall", none), "_wall", "_wall", defArgs (top 0), defBody (top 0), defScope (top 0), [], []⟩
def d1 : He.DefD := ⟨("InvalidNumber", some "__init__"), "__init__", "InvalidNumber.__init__", defArgs (inClass (top 3) 0), defBody (inClass (top 3) 0), defScope (inClass (top 3) 0), [], []⟩
def d2 : He.DefD := ⟨("InvalidRow", some "__init__"), "__init__", "InvalidRow.__init__", defArgs (inClass (top 4) 0), defBody (inClass (top 4) 0), defScope (inClass (top 4) 0), [], []⟩
def d3 : He.DefD := ⟨("InvalidRules", some "__init__"), "__init__", "InvalidRules.__init__", defArgs (inClass (top 5) 0), defBody (inClass (top 5) 0), defScope (inClass (top 5) 0), [], []⟩
def d4 : He.DefD := ⟨("InvalidPoints", some "__init__"), "__init__", "InvalidPoints.__init__", defArgs (inClass (top 6) 0), defBody (inClass (top 6) 0), defScope (inClass (top 6) 0), [], []⟩
def d5 : He.DefD := ⟨("is_integer", none), "is_integer", "is_integer", defArgs (top 8), defBody (top 8), defScope (top 8), [], []⟩
def d6 : He.DefD := ⟨("is_number", none), "is_number", "is_number", defArgs (top 9), defBody (top 9), defScope (top 9), [], []⟩
def d7 : He.DefD := ⟨("is_value", none), "is_value", "is_value", defArgs (top 11), defBody (top 11), defScope (top 11), [], []⟩
def d8 : He.DefD := ⟨("is_row", none), "is_row", "is_row", defArgs (top 12), defBody (top 12), defScope (top 12), [], []⟩
def d9 : He.DefD := ⟨("is_number_below", none), "is_number_below", "is_number_below", defArgs (top 14), defBody (top 14), defScope (top 14), [], []⟩
def d10 : He.DefD := ⟨("all_below", none), "all_below", "all_below", defArgs (top 15), defBody (top 15), defScope (top 15), [], []⟩
def d11 : He.DefD := ⟨("are_numbers_below", none), "are_numbers_below", "are_numbers_below", defArgs (top 16), defBody (top 16), defScope (top 16), [], []⟩
def d12 : He.DefD := ⟨("look_at_rounds", none), "look_at_rounds", "look_at_rounds", defArgs (top 18), defBody (top 18), defScope (top 18), [], []⟩
def d13 : He.DefD := ⟨("look_at_numbers", none), "look_at_numbers", "look_at_numbers", defArgs (top 19), defBody (top 19), defScope (top 19), [], []⟩
def d14 : He.DefD := ⟨("right_weight", none), "right_weight", "right_weight", defArgs (top 20), defBody (top 20), defScope (top 20), [], []⟩
def d15 : He.DefD := ⟨("heaviest_rule", none), "heaviest_rule", "heaviest_rule", defArgs (top 21), defBody (top 21), defScope (top 21), [], []⟩
def d16 : He.DefD := ⟨("doubled", none), "doubled", "doubled", defArgs (top 22), defBody (top 22), defScope (top 22), [], []⟩
def d17 : He.DefD := ⟨("play", none), "play", "play", defArgs (top 23), defBody (top 23), defScope (top 23), [], []⟩
def d18 : He.DefD := ⟨("taken", none), "taken", "taken", defArgs (top 24), defBody (top 24), defScope (top 24), [], []⟩
def d19 : He.DefD := ⟨("weights_behind", none), "weights_behind", "weights_behind", defArgs (top 25), defBody (top 25), defScope (top 25), [], []⟩
def d20 : He.DefD := ⟨("wrong_at", none), "wrong_at", "wrong_at", defArgs (top 26), defBody (top 26), defScope (top 26), [], []⟩
def d21 : He.DefD := ⟨("wrong_counts", none), "wrong_counts", "wrong_counts", defArgs (top 27), defBody (top 27), defScope (top 27), [], []⟩
def d22 : He.DefD := ⟨("yes_at", none), "yes_at", "yes_at", defArgs (top 28), defBody (top 28), defScope (top 28), [], []⟩
def d23 : He.DefD := ⟨("voted_by", none), "voted_by", "voted_by", defArgs (top 29), defBody (top 29), defScope (top 29), [], []⟩
def d24 : He.DefD := ⟨("are_rows", none), "are_rows", "are_rows", defArgs (top 31), defBody (top 31), defScope (top 31), [], []⟩
def d25 : He.DefD := ⟨("Rules", some "__init__"), "__init__", "Rules.__init__", defArgs (inClass (top 32) 0), defBody (inClass (top 32) 0), defScope (inClass (top 32) 0), [], []⟩
def d26 : He.DefD := ⟨("Rules", some "__eq__"), "__eq__", "Rules.__eq__", defArgs (inClass (top 32) 1), defBody (inClass (top 32) 1), defScope (inClass (top 32) 1), [], []⟩
def d27 : He.DefD := ⟨("Rules", some "__len__"), "__len__", "Rules.__len__", defArgs (inClass (top 32) 2), defBody (inClass (top 32) 2), defScope (inClass (top 32) 2), [], []⟩
def d28 : He.DefD := ⟨("Rules", some "has"), "has", "Rules.has", defArgs (inClass (top 32) 3), defBody (inClass (top 32) 3), defScope (inClass (top 32) 3), [], []⟩
def d29 : He.DefD := ⟨("Rules", some "look_at_row"), "look_at_row", "Rules.look_at_row", defArgs (inClass (top 32) 4), defBody (inClass (top 32) 4), defScope (inClass (top 32) 4), [], []⟩
def d30 : He.DefD := ⟨("Rules", some "seen_at"), "seen_at", "Rules.seen_at", defArgs (inClass (top 32) 5), defBody (inClass (top 32) 5), defScope (inClass (top 32) 5), [], []⟩
def d31 : He.DefD := ⟨("Rules", some "turned"), "turned", "Rules.turned", defArgs (inClass (top 32) 6), defBody (inClass (top 32) 6), defScope (inClass (top 32) 6), [], []⟩
def d32 : He.DefD := ⟨("Rules", some "look_at_size"), "look_at_size", "Rules.look_at_size", defArgs (inClass (top 32) 7), defBody (inClass (top 32) 7), defScope (inClass (top 32) 7), [], []⟩
def d33 : He.DefD := ⟨("Rules", some "both"), "both", "Rules.both", defArgs (inClass (top 32) 8), defBody (inClass (top 32) 8), defScope (inClass (top 32) 8), [], []⟩
def d34 : He.DefD := ⟨("Rules", some "either"), "either", "Rules.either", defArgs (inClass (top 32) 9), defBody (inClass (top 32) 9), defScope (inClass (top 32) 9), [], []⟩
def d35 : He.DefD := ⟨("Rules", some "unlike"), "unlike", "Rules.unlike", defArgs (inClass (top 32) 10), defBody (inClass (top 32) 10), defScope (inClass (top 32) 10), [], []⟩
def d36 : He.DefD := ⟨("Rules", some "beside"), "beside", "Rules.beside", defArgs (inClass (top 32) 11), defBody (inClass (top 32) 11), defScope (inClass (top 32) 11), [], []⟩
def d37 : He.DefD := ⟨("Rules", some "with_rule"), "with_rule", "Rules.with_rule", defArgs (inClass (top 32) 12), defBody (inClass (top 32) 12), defScope (inClass (top 32) 12), [], []⟩
def d38 : He.DefD := ⟨("Rules", some "without"), "without", "Rules.without", defArgs (inClass (top 32) 13), defBody (inClass (top 32) 13), defScope (inClass (top 32) 13), [], []⟩
def d39 : He.DefD := ⟨("Rules", some "others"), "others", "Rules.others", defArgs (inClass (top 32) 14), defBody (inClass (top 32) 14), defScope (inClass (top 32) 14), [], []⟩
def d40 : He.DefD := ⟨("Rules", some "is_closed"), "is_closed", "Rules.is_closed", defArgs (inClass (top 32) 15), defBody (inClass (top 32) 15), defScope (inClass (top 32) 15), [], []⟩
def d41 : He.DefD := ⟨("Rules", some "is_shown"), "is_shown", "Rules.is_shown", defArgs (inClass (top 32) 16), defBody (inClass (top 32) 16), defScope (inClass (top 32) 16), [], []⟩
def d42 : He.DefD := ⟨("Rules", some "fitting"), "fitting", "Rules.fitting", defArgs (inClass (top 32) 17), defBody (inClass (top 32) 17), defScope (inClass (top 32) 17), [], []⟩
def d43 : He.DefD := ⟨("_law_box", none), "_law_box", "_law_box", defArgs (top 34), defBody (top 34), defScope (top 34), [], []⟩
def d44 : He.DefD := ⟨("_law_draw", none), "_law_draw", "_law_draw", defArgs (top 35), defBody (top 35), defScope (top 35), [], []⟩
def d45 : He.DefD := ⟨("_law_same", none), "_law_same", "_law_same", defArgs (top 36), defBody (top 36), defScope (top 36), [], []⟩
def d46 : He.DefD := ⟨("_law_row", none), "_law_row", "_law_row", defArgs (top 37), defBody (top 37), defScope (top 37), [], []⟩
def d47 : He.DefD := ⟨("_law_list", none), "_law_list", "_law_list", defArgs (top 38), defBody (top 38), defScope (top 38), [], []⟩
def d48 : He.DefD := ⟨("_law_played", none), "_law_played", "_law_played", defArgs (top 39), defBody (top 39), defScope (top 39), [], []⟩
def d49 : He.DefD := ⟨("_law_wrong", none), "_law_wrong", "_law_wrong", defArgs (top 40), defBody (top 40), defScope (top 40), [], []⟩
def d50 : He.DefD := ⟨("_law_voted", none), "_law_voted", "_law_voted", defArgs (top 41), defBody (top 41), defScope (top 41), [], []⟩
def d51 : He.DefD := ⟨("_law_numbers", none), "_law_numbers", "_law_numbers", defArgs (top 42), defBody (top 42), defScope (top 42), [], []⟩
def d52 : He.DefD := ⟨("_law_counted", none), "_law_counted", "_law_counted", defArgs (top 43), defBody (top 43), defScope (top 43), [], []⟩
def d53 : He.DefD := ⟨("_law_all", none), "_law_all", "_law_all", defArgs (top 44), defBody (top 44), defScope (top 44), [], []⟩
def d54 : He.DefD := ⟨("law", none), "law", "law", defArgs (top 45), defBody (top 45), defScope (top 45), [], []⟩
def fn : List He.DefD := ([d0, d1, d2, d3, d4, d5, d6, d7, d8, d9, d10, d11, d12, d13, d14, d15, d16, d17, d18, d19, d20, d21, d22, d23, d24, d25, d26, d27, d28, d29] : List He.DefD) ++ ([d30, d31, d32, d33, d34, d35, d36, d37, d38, d39, d40, d41, d42, d43, d44, d45, d46, d47, d48, d49, d50, d51, d52, d53, d54] : List He.DefD)
def fa : List He.Fa := ([.glo "_wall", .glo "is_integer", .glo "is_number", .glo "is_value", .glo "is_row", .glo "is_number_below", .glo "all_below", .glo "are_numbers_below", .glo "look_at_rounds", .glo "look_at_numbers", .glo "right_weight", .glo "heaviest_rule", .glo "doubled", .glo "play", .glo "taken", .glo "weights_behind", .glo "wrong_at", .glo "wrong_counts", .glo "yes_at", .glo "voted_by", .glo "are_rows", .glo "_law_box", .glo "_law_draw", .glo "_law_same", .glo "_law_row", .glo "_law_list", .glo "_law_played", .glo "_law_wrong", .glo "_law_voted", .glo "_law_numbers"] : List He.Fa) ++ ([.glo "_law_counted", .glo "_law_all", .glo "law", .glo "GuessError", .glo "InvalidNumber", .glo "InvalidRow", .glo "InvalidRules", .glo "InvalidPoints", .glo "Rules", .free "isinstance", .free "int", .free "bool", .free "tuple", .free "list", .free "len", .free "range", .free "zip", .free "enumerate", .free "sum", .free "max", .free "min", .free "sorted", .free "set", .free "abs", .free "all", .free "any", .free "reversed", .free "dict", .free "str", .free "repr"] : List He.Fa) ++ ([.free "type", .cls "Rules", .mkr "Rules", .meth "Rules" "__init__", .meth "Rules" "__eq__", .meth "Rules" "__len__", .meth "Rules" "has", .meth "Rules" "look_at_row", .meth "Rules" "seen_at", .meth "Rules" "turned", .meth "Rules" "look_at_size", .meth "Rules" "both", .meth "Rules" "either", .meth "Rules" "unlike", .meth "Rules" "beside", .meth "Rules" "with_rule", .meth "Rules" "without", .meth "Rules" "others", .meth "Rules" "is_closed", .meth "Rules" "is_shown", .meth "Rules" "fitting", .noat "Rules" "value", .noat "Rules" "rows", .noat "Rules" "size"] : List He.Fa)
def loose : List PySem.Str := (["_wall", "GuessError", "InvalidNumber", "InvalidRow", "InvalidRules", "InvalidPoints", "is_integer", "is_number", "is_value", "is_row", "is_number_below", "all_below", "are_numbers_below", "look_at_rounds", "look_at_numbers", "right_weight", "heaviest_rule", "doubled", "play", "taken", "weights_behind", "wrong_at", "wrong_counts", "yes_at", "voted_by", "are_rows", "Rules", "_law_box", "_law_draw", "_law_same"] : List PySem.Str) ++ (["_law_row", "_law_list", "_law_played", "_law_wrong", "_law_voted", "_law_numbers", "_law_counted", "_law_all"] : List PySem.Str)
abbrev R : PySem.W.OpenRow := PySem.W.OpenLaw.row PySem.Challenge.rw_learnrealm_k97_taken_one_by_one
abbrev hk : PySem.W.Hook := He.hookD 5 fa fn
def ob (s : PySem.W.SharedT) : He.AlD := He.obsDG 5 fa fn (HandSHeadRun.getT s)
theorem ob_eq (s : PySem.W.SharedT) : ob s = hk.obs s.abs := He.obsDG_eq (HandSHeadRun.getT_eq s)
theorem run (w : World) : HandSHeadRun.RunEq R (PySem.W.view R.prog [45]) hk ob 20000 loose w := by
  intro os
  kernel_rfl
end Hd
end
section
set_option Elab.async false
set_option linter.all false
set_option maxRecDepth 100000
set_option maxHeartbeats 0
namespace Lw
open Py PySem PySem.Spec L2
abbrev f__wall : Nat := 0
abbrev f_InvalidNumber___init__ : Nat := 1
abbrev f_InvalidRow___init__ : Nat := 2
abbrev f_InvalidRules___init__ : Nat := 3
abbrev f_InvalidPoints___init__ : Nat := 4
abbrev f_is_integer : Nat := 5
abbrev f_is_number : Nat := 6
abbrev f_is_value : Nat := 7
abbrev f_is_row : Nat := 8
abbrev f_is_number_below : Nat := 9
abbrev f_all_below : Nat := 10
abbrev f_are_numbers_below : Nat := 11
abbrev f_look_at_rounds : Nat := 12
abbrev f_look_at_numbers : Nat := 13
abbrev f_right_weight : Nat := 14
abbrev f_heaviest_rule : Nat := 15
abbrev f_doubled : Nat := 16
abbrev f_play : Nat := 17
abbrev f_taken : Nat := 18
abbrev f_weights_behind : Nat := 19
abbrev f_wrong_at : Nat := 20
abbrev f_wrong_counts : Nat := 21
abbrev f_yes_at : Nat := 22
abbrev f_voted_by : Nat := 23
abbrev f_are_rows : Nat := 24
abbrev f_Rules___init__ : Nat := 25
abbrev f_Rules___eq__ : Nat := 26
abbrev f_Rules___len__ : Nat := 27
abbrev f_Rules_has : Nat := 28
abbrev f_Rules_look_at_row : Nat := 29
abbrev f_Rules_seen_at : Nat := 30
abbrev f_Rules_turned : Nat := 31
abbrev f_Rules_look_at_size : Nat := 32
abbrev f_Rules_both : Nat := 33
abbrev f_Rules_either : Nat := 34
abbrev f_Rules_unlike : Nat := 35
abbrev f_Rules_beside : Nat := 36
abbrev f_Rules_with_rule : Nat := 37
abbrev f_Rules_without : Nat := 38
abbrev f_Rules_others : Nat := 39
abbrev f_Rules_is_closed : Nat := 40
abbrev f_Rules_is_shown : Nat := 41
abbrev f_Rules_fitting : Nat := 42
abbrev f__law_box : Nat := 43
abbrev f__law_draw : Nat := 44
abbrev f__law_same : Nat := 45
abbrev f__law_row : Nat := 46
abbrev f__law_list : Nat := 47
abbrev f__law_played : Nat := 48
abbrev f__law_wrong : Nat := 49
abbrev f__law_voted : Nat := 50
abbrev f__law_numbers : Nat := 51
abbrev f__law_counted : Nat := 52
abbrev f__law_all : Nat := 53
abbrev f_law : Nat := 54
abbrev c_Rules : Nat := 0
abbrev c_GuessError : Nat := 1
abbrev c_InvalidNumber : Nat := 2
abbrev c_InvalidRow : Nat := 3
abbrev c_InvalidRules : Nat := 4
abbrev c_InvalidPoints : Nat := 5
abbrev m___init__ : Nat := 0
abbrev m___eq__ : Nat := 1
abbrev m___len__ : Nat := 2
abbrev m_has : Nat := 3
abbrev m_look_at_row : Nat := 4
abbrev m_seen_at : Nat := 5
abbrev m_turned : Nat := 6
abbrev m_look_at_size : Nat := 7
abbrev m_both : Nat := 8
abbrev m_either : Nat := 9
abbrev m_unlike : Nat := 10
abbrev m_beside : Nat := 11
abbrev m_with_rule : Nat := 12
abbrev m_without : Nat := 13
abbrev m_others : Nat := 14
abbrev m_is_closed : Nat := 15
abbrev m_is_shown : Nat := 16
abbrev m_fitting : Nat := 17
/- _wall(k): 0=k -/
def F__wall : Fn := ⟨1, [false], [(.while_ (.con (.bl true)) [.pass])], false⟩
def N__wall : List PySem.Str := [(PySem.Str.ofString "k")]
/- InvalidNumber.__init__(self, value): 0=self 1=value -/
def F_InvalidNumber___init__ : Fn := ⟨2, [true, false], [(.fset 0 [] 0 (.var 1))], false⟩
def N_InvalidNumber___init__ : List PySem.Str := [(PySem.Str.ofString "self"), (PySem.Str.ofString "value")]
/- InvalidRow.__init__(self, value): 0=self 1=value -/
def F_InvalidRow___init__ : Fn := ⟨2, [true, false], [(.fset 0 [] 0 (.var 1))], false⟩
def N_InvalidRow___init__ : List PySem.Str := [(PySem.Str.ofString "self"), (PySem.Str.ofString "value")]
/- InvalidRules.__init__(self, value): 0=self 1=value -/
def F_InvalidRules___init__ : Fn := ⟨2, [true, false], [(.fset 0 [] 0 (.var 1))], false⟩
def N_InvalidRules___init__ : List PySem.Str := [(PySem.Str.ofString "self"), (PySem.Str.ofString "value")]
/- InvalidPoints.__init__(self, value): 0=self 1=value -/
def F_InvalidPoints___init__ : Fn := ⟨2, [true, false], [(.fset 0 [] 0 (.var 1))], false⟩
def N_InvalidPoints___init__ : List PySem.Str := [(PySem.Str.ofString "self"), (PySem.Str.ofString "value")]
/- is_integer(value): 0=value -/
def F_is_integer : Fn := ⟨1, [false], [(.ret (.and (.isi (.var 0) [.int]) (.not (.isi (.var 0) [.bool]))))], false⟩
def N_is_integer : List PySem.Str := [(PySem.Str.ofString "value")]
/- is_number(value): 0=value -/
def F_is_number : Fn := ⟨1, [false], [(.ret (.and (.call f_is_integer [(.var 0)] [0]) (.cmp .ge (.var 0) (.con (.int 0)))))], false⟩
def N_is_number : List PySem.Str := [(PySem.Str.ofString "value")]
/- is_value(value): 0=value -/
def F_is_value : Fn := ⟨1, [false], [(.ret (.and (.call f_is_integer [(.var 0)] [0]) (.chain .le .le (.con (.int 0)) (.var 0) (.con (.int 1)))))], false⟩
def N_is_value : List PySem.Str := [(PySem.Str.ofString "value")]
/- is_row(value, size): 0=value 1=size 2=one -/
def F_is_row : Fn := ⟨3, [false, false], [(.ite (.or (.not (.isi (.var 0) [.tuple])) (.cmp .ne (.blt .len [(.var 0)]) (.var 1))) [(.ret (.con (.bl false)))] []), (.ret (.cmp .eq (.blt .len [(.lc [2] (.n 2) (.e (.var 0)) [(.not (.call f_is_value [(.var 2)] [0]))] (.var 2))]) (.con (.int 0))))], false⟩
def N_is_row : List PySem.Str := [(PySem.Str.ofString "value"), (PySem.Str.ofString "size"), (PySem.Str.ofString "one")]
/- is_number_below(value, many): 0=value 1=many -/
def F_is_number_below : Fn := ⟨2, [false, false], [(.ret (.and (.call f_is_integer [(.var 0)] [0]) (.chain .le .lt (.con (.int 0)) (.var 0) (.var 1))))], false⟩
def N_is_number_below : List PySem.Str := [(PySem.Str.ofString "value"), (PySem.Str.ofString "many")]
/- all_below(values, many): 0=values 1=many 2=value -/
def F_all_below : Fn := ⟨3, [false, false], [(.ret (.cmp .eq (.blt .len [(.lc [2] (.n 2) (.e (.var 0)) [(.not (.call f_is_number_below [(.var 2), (.var 1)] [0, 1]))] (.var 2))]) (.con (.int 0))))], false⟩
def N_all_below : List PySem.Str := [(PySem.Str.ofString "values"), (PySem.Str.ofString "many"), (PySem.Str.ofString "value")]
/- are_numbers_below(value, many): 0=value 1=many -/
def F_are_numbers_below : Fn := ⟨2, [false, false], [(.ret (.and (.isi (.var 0) [.tuple]) (.call f_all_below [(.var 0), (.var 1)] [0, 1])))], false⟩
def N_are_numbers_below : List PySem.Str := [(PySem.Str.ofString "value"), (PySem.Str.ofString "many")]
/- look_at_rounds(rules, row, rounds): 0=rules 1=row 2=rounds -/
def F_look_at_rounds : Fn := ⟨3, [false, false, false], [(.expr (.mth (.var 0) m_look_at_row [(.var 1)])), (.ite (.not (.call f_is_number [(.var 2)] [0])) [.raise] [])], false⟩
def N_look_at_rounds : List PySem.Str := [(PySem.Str.ofString "rules"), (PySem.Str.ofString "row"), (PySem.Str.ofString "rounds")]
/- look_at_numbers(rules, numbers): 0=rules 1=numbers -/
def F_look_at_numbers : Fn := ⟨2, [false, false], [(.ite (.not (.call f_are_numbers_below [(.var 1), (.blt .len [(.var 0)])] [0, 1])) [.raise] [])], false⟩
def N_look_at_numbers : List PySem.Str := [(PySem.Str.ofString "rules"), (PySem.Str.ofString "numbers")]
/- right_weight(rule, row, weights): 0=rule 1=row 2=weights 3=own 4=due 5=weight -/
def F_right_weight : Fn := ⟨6, [false, false, false], [(.ret (.blt .sum [(.lc [3, 4, 5] (.t [(.n 3), (.n 4), (.n 5)]) (.zip3 (.var 0) (.var 1) (.var 2)) [(.cmp .eq (.var 3) (.var 4))] (.var 5))]))], false⟩
def N_right_weight : List PySem.Str := [(PySem.Str.ofString "rule"), (PySem.Str.ofString "row"), (PySem.Str.ofString "weights"), (PySem.Str.ofString "own"), (PySem.Str.ofString "due"), (PySem.Str.ofString "weight")]
/- heaviest_rule(rules, row, weights): 0=rules 1=row 2=weights 3=sums 4=rule -/
def F_heaviest_rule : Fn := ⟨5, [false, false, false], [(.asg (.n 3) (.lc [4] (.n 4) (.e (.att (.var 0) 1)) [] (.call f_right_weight [(.var 4), (.var 1), (.var 2)] [0, 1, 2]))), (.ret (.met .index (.var 3) [(.blt .max [(.var 3)])]))], false⟩
def N_heaviest_rule : List PySem.Str := [(PySem.Str.ofString "rules"), (PySem.Str.ofString "row"), (PySem.Str.ofString "weights"), (PySem.Str.ofString "sums"), (PySem.Str.ofString "rule")]
/- doubled(rule, row, weights): 0=rule 1=row 2=weights 3=own 4=due 5=weight -/
def F_doubled : Fn := ⟨6, [false, false, false], [(.ret (.blt .tuple [(.lc [3, 4, 5] (.t [(.n 3), (.n 4), (.n 5)]) (.zip3 (.var 0) (.var 1) (.var 2)) [] (.ife (.cmp .eq (.var 3) (.var 4)) (.var 5) (.bin .mul (.con (.int 2)) (.var 5))))]))], false⟩
def N_doubled : List PySem.Str := [(PySem.Str.ofString "rule"), (PySem.Str.ofString "row"), (PySem.Str.ofString "weights"), (PySem.Str.ofString "own"), (PySem.Str.ofString "due"), (PySem.Str.ofString "weight")]
/- play(rules, row, rounds): 0=rules 1=row 2=rounds 3=weights 4=numbers 5=_ 6=number -/
def F_play : Fn := ⟨7, [false, false, false], [(.asg (.n 3) (.bin .mul (.tup [(.con (.int 1))]) (.att (.var 0) 2))), (.asgO 4 (.lst [])), (.for_ (.n 5) (.rng1 (.var 2)) [(.asg (.n 6) (.call f_heaviest_rule [(.var 0), (.var 1), (.var 3)] [0, 1, 2])), (.expr (.mut .append 4 [] [(.var 6)])), (.asg (.n 3) (.call f_doubled [(.idx (.att (.var 0) 1) (.var 6)), (.var 1), (.var 3)] [0, 1, 2]))]), (.ret (.tup [(.blt .tuple [(.var 4)]), (.var 3)]))], false⟩
def N_play : List PySem.Str := [(PySem.Str.ofString "rules"), (PySem.Str.ofString "row"), (PySem.Str.ofString "rounds"), (PySem.Str.ofString "weights"), (PySem.Str.ofString "numbers"), (PySem.Str.ofString "_"), (PySem.Str.ofString "number")]
/- taken(rules, row, rounds): 0=rules 1=row 2=rounds -/
def F_taken : Fn := ⟨3, [false, false, false], [(.expr (.call f_look_at_rounds [(.var 0), (.var 1), (.var 2)] [0, 1, 2])), (.ret (.idx (.call f_play [(.var 0), (.var 1), (.var 2)] [0, 1, 2]) (.con (.int 0))))], false⟩
def N_taken : List PySem.Str := [(PySem.Str.ofString "rules"), (PySem.Str.ofString "row"), (PySem.Str.ofString "rounds")]
/- weights_behind(rules, row, rounds): 0=rules 1=row 2=rounds -/
def F_weights_behind : Fn := ⟨3, [false, false, false], [(.expr (.call f_look_at_rounds [(.var 0), (.var 1), (.var 2)] [0, 1, 2])), (.ret (.idx (.call f_play [(.var 0), (.var 1), (.var 2)] [0, 1, 2]) (.con (.int 1))))], false⟩
def N_weights_behind : List PySem.Str := [(PySem.Str.ofString "rules"), (PySem.Str.ofString "row"), (PySem.Str.ofString "rounds")]
/- wrong_at(rules, row, numbers, point): 0=rules 1=row 2=numbers 3=point 4=number -/
def F_wrong_at : Fn := ⟨5, [false, false, false, false], [(.ret (.blt .len [(.lc [4] (.n 4) (.e (.var 2)) [(.cmp .ne (.idx (.idx (.att (.var 0) 1) (.var 4)) (.var 3)) (.idx (.var 1) (.var 3)))] (.var 4))]))], false⟩
def N_wrong_at : List PySem.Str := [(PySem.Str.ofString "rules"), (PySem.Str.ofString "row"), (PySem.Str.ofString "numbers"), (PySem.Str.ofString "point"), (PySem.Str.ofString "number")]
/- wrong_counts(rules, row, numbers): 0=rules 1=row 2=numbers 3=point -/
def F_wrong_counts : Fn := ⟨4, [false, false, false], [(.expr (.mth (.var 0) m_look_at_row [(.var 1)])), (.expr (.call f_look_at_numbers [(.var 0), (.var 2)] [0, 1])), (.ret (.blt .tuple [(.lc [3] (.n 3) (.rng1 (.att (.var 0) 2)) [] (.call f_wrong_at [(.var 0), (.var 1), (.var 2), (.var 3)] [0, 1, 2, 3]))]))], false⟩
def N_wrong_counts : List PySem.Str := [(PySem.Str.ofString "rules"), (PySem.Str.ofString "row"), (PySem.Str.ofString "numbers"), (PySem.Str.ofString "point")]
/- yes_at(rules, numbers, point): 0=rules 1=numbers 2=point 3=number -/
def F_yes_at : Fn := ⟨4, [false, false, false], [(.ret (.blt .sum [(.lc [3] (.n 3) (.e (.var 1)) [] (.idx (.idx (.att (.var 0) 1) (.var 3)) (.var 2)))]))], false⟩
def N_yes_at : List PySem.Str := [(PySem.Str.ofString "rules"), (PySem.Str.ofString "numbers"), (PySem.Str.ofString "point"), (PySem.Str.ofString "number")]
/- voted_by(rules, numbers): 0=rules 1=numbers 2=point -/
def F_voted_by : Fn := ⟨3, [false, false], [(.expr (.call f_look_at_numbers [(.var 0), (.var 1)] [0, 1])), (.ret (.blt .tuple [(.lc [2] (.n 2) (.rng1 (.att (.var 0) 2)) [] (.blt .int [(.cmp .gt (.bin .mul (.con (.int 2)) (.call f_yes_at [(.var 0), (.var 1), (.var 2)] [0, 1, 2])) (.blt .len [(.var 1)]))]))]))], false⟩
def N_voted_by : List PySem.Str := [(PySem.Str.ofString "rules"), (PySem.Str.ofString "numbers"), (PySem.Str.ofString "point")]
/- are_rows(size, rows): 0=size 1=rows 2=row -/
def F_are_rows : Fn := ⟨3, [false, false], [(.ite (.or (.not (.call f_is_number [(.var 0)] [0])) (.or (.not (.isi (.var 1) [.tuple, .list])) (.cmp .eq (.blt .len [(.var 1)]) (.con (.int 0))))) [(.ret (.con (.bl false)))] []), (.ret (.cmp .eq (.blt .len [(.lc [2] (.n 2) (.e (.var 1)) [(.not (.call f_is_row [(.var 2), (.var 0)] [0, 1]))] (.var 2))]) (.con (.int 0))))], false⟩
def N_are_rows : List PySem.Str := [(PySem.Str.ofString "size"), (PySem.Str.ofString "rows"), (PySem.Str.ofString "row")]
/- Rules.__init__(self, size, rows): 0=self 1=size 2=rows -/
def F_Rules___init__ : Fn := ⟨3, [true, false, false], [(.ite (.not (.call f_are_rows [(.var 1), (.var 2)] [0, 1])) [.raise] []), (.fset 0 [] 2 (.var 1)), (.fset 0 [] 1 (.blt .tuple [(.blt .sorted [(.sets (.var 2))])]))], false⟩
def N_Rules___init__ : List PySem.Str := [(PySem.Str.ofString "self"), (PySem.Str.ofString "size"), (PySem.Str.ofString "rows")]
/- Rules.__eq__(self, other): 0=self 1=other -/
def F_Rules___eq__ : Fn := ⟨2, [false, false], [.raise], false⟩
def N_Rules___eq__ : List PySem.Str := [(PySem.Str.ofString "self"), (PySem.Str.ofString "other")]
/- Rules.__len__(self): 0=self -/
def F_Rules___len__ : Fn := ⟨1, [false], [(.ret (.blt .len [(.att (.var 0) 1)]))], false⟩
def N_Rules___len__ : List PySem.Str := [(PySem.Str.ofString "self")]
/- Rules.has(self, row): 0=self 1=row -/
def F_Rules_has : Fn := ⟨2, [false, false], [(.ret (.and (.call f_is_row [(.var 1), (.att (.var 0) 2)] [0, 1]) (.cmp .mem (.var 1) (.att (.var 0) 1))))], false⟩
def N_Rules_has : List PySem.Str := [(PySem.Str.ofString "self"), (PySem.Str.ofString "row")]
/- Rules.look_at_row(self, row): 0=self 1=row -/
def F_Rules_look_at_row : Fn := ⟨2, [false, false], [(.ite (.not (.call f_is_row [(.var 1), (.att (.var 0) 2)] [0, 1])) [.raise] [])], false⟩
def N_Rules_look_at_row : List PySem.Str := [(PySem.Str.ofString "self"), (PySem.Str.ofString "row")]
/- Rules.seen_at(self, lot): 0=self 1=lot -/
def F_Rules_seen_at : Fn := ⟨2, [false, false], [(.expr (.call f__wall [(.con (.int 0))] [0]))], false⟩
def N_Rules_seen_at : List PySem.Str := [(PySem.Str.ofString "self"), (PySem.Str.ofString "lot")]
/- Rules.turned(self, row): 0=self 1=row -/
def F_Rules_turned : Fn := ⟨2, [false, false], [(.expr (.call f__wall [(.con (.int 1))] [0]))], false⟩
def N_Rules_turned : List PySem.Str := [(PySem.Str.ofString "self"), (PySem.Str.ofString "row")]
/- Rules.look_at_size(self, other): 0=self 1=other -/
def F_Rules_look_at_size : Fn := ⟨2, [false, false], [(.expr (.call f__wall [(.con (.int 2))] [0]))], false⟩
def N_Rules_look_at_size : List PySem.Str := [(PySem.Str.ofString "self"), (PySem.Str.ofString "other")]
/- Rules.both(self, other): 0=self 1=other -/
def F_Rules_both : Fn := ⟨2, [false, false], [(.expr (.call f__wall [(.con (.int 3))] [0]))], false⟩
def N_Rules_both : List PySem.Str := [(PySem.Str.ofString "self"), (PySem.Str.ofString "other")]
/- Rules.either(self, other): 0=self 1=other -/
def F_Rules_either : Fn := ⟨2, [false, false], [(.expr (.call f__wall [(.con (.int 4))] [0]))], false⟩
def N_Rules_either : List PySem.Str := [(PySem.Str.ofString "self"), (PySem.Str.ofString "other")]
/- Rules.unlike(self, other): 0=self 1=other -/
def F_Rules_unlike : Fn := ⟨2, [false, false], [(.expr (.call f__wall [(.con (.int 5))] [0]))], false⟩
def N_Rules_unlike : List PySem.Str := [(PySem.Str.ofString "self"), (PySem.Str.ofString "other")]
/- Rules.beside(self, other): 0=self 1=other -/
def F_Rules_beside : Fn := ⟨2, [false, false], [(.expr (.call f__wall [(.con (.int 6))] [0]))], false⟩
def N_Rules_beside : List PySem.Str := [(PySem.Str.ofString "self"), (PySem.Str.ofString "other")]
/- Rules.with_rule(self, row): 0=self 1=row -/
def F_Rules_with_rule : Fn := ⟨2, [false, false], [(.expr (.call f__wall [(.con (.int 7))] [0]))], false⟩
def N_Rules_with_rule : List PySem.Str := [(PySem.Str.ofString "self"), (PySem.Str.ofString "row")]
/- Rules.without(self, row): 0=self 1=row -/
def F_Rules_without : Fn := ⟨2, [false, false], [(.expr (.call f__wall [(.con (.int 8))] [0]))], false⟩
def N_Rules_without : List PySem.Str := [(PySem.Str.ofString "self"), (PySem.Str.ofString "row")]
/- Rules.others(self): 0=self -/
def F_Rules_others : Fn := ⟨1, [false], [(.expr (.call f__wall [(.con (.int 9))] [0]))], false⟩
def N_Rules_others : List PySem.Str := [(PySem.Str.ofString "self")]
/- Rules.is_closed(self): 0=self -/
def F_Rules_is_closed : Fn := ⟨1, [false], [(.expr (.call f__wall [(.con (.int 10))] [0]))], false⟩
def N_Rules_is_closed : List PySem.Str := [(PySem.Str.ofString "self")]
/- Rules.is_shown(self, value): 0=self 1=value -/
def F_Rules_is_shown : Fn := ⟨2, [false, false], [(.expr (.call f__wall [(.con (.int 11))] [0]))], false⟩
def N_Rules_is_shown : List PySem.Str := [(PySem.Str.ofString "self"), (PySem.Str.ofString "value")]
/- Rules.fitting(self, shown): 0=self 1=shown -/
def F_Rules_fitting : Fn := ⟨2, [false, false], [(.expr (.call f__wall [(.con (.int 12))] [0]))], false⟩
def N_Rules_fitting : List PySem.Str := [(PySem.Str.ofString "self"), (PySem.Str.ofString "shown")]
/- _law_box(script): 0=script 1=cell -/
def F__law_box : Fn := ⟨2, [false], [(.ret (.lst [(.lc [1] (.n 1) (.e (.var 0)) [] (.blt .int [(.var 1)])), (.con (.int 0)), (.con (.int 0)), (.con (.int 0))]))], true⟩
def N__law_box : List PySem.Str := [(PySem.Str.ofString "script"), (PySem.Str.ofString "cell")]
/- _law_draw(box, limit): 0=box 1=limit 2=cells 3=k 4=cell 5=mixed 6=digit -/
def F__law_draw : Fn := ⟨7, [true, false], [(.asg (.n 2) (.idx (.pth 0 []) (.con (.int 0)))), (.set 0 [] (.con (.int 1)) (.bin .add (.idx (.pth 0 []) (.con (.int 1))) (.con (.int 1)))), (.for_ (.n 3) (.rng1 (.blt .len [(.var 2)])) [(.ite (.or (.cmp .gt (.idx (.pth 0 []) (.con (.int 2))) (.con (.int 0))) (.cmp .ge (.idx (.pth 0 []) (.con (.int 3))) (.blt .len [(.var 2)]))) [.brk] []), (.ite (.cmp .ge (.blt .abs [(.idx (.var 2) (.idx (.pth 0 []) (.con (.int 3))))]) (.bin .pow (.con (.int 10)) (.con (.int 18)))) [(.set 0 [] (.con (.int 2)) (.blt .abs [(.idx (.var 2) (.idx (.pth 0 []) (.con (.int 3))))]))] []), (.set 0 [] (.con (.int 3)) (.bin .add (.idx (.pth 0 []) (.con (.int 3))) (.con (.int 1))))]), (.ite (.cmp .gt (.idx (.pth 0 []) (.con (.int 2))) (.con (.int 0))) [(.asg (.n 6) (.bin .mod (.blt .int [(.idx (.pth 0 []) (.con (.int 2)))]) (.var 1))), (.set 0 [] (.con (.int 2)) (.bin .fdiv (.idx (.pth 0 []) (.con (.int 2))) (.var 1))), (.ret (.var 6))] []), (.asg (.n 4) (.con (.int 0))), (.ite (.cmp .gt (.blt .len [(.var 2)]) (.con (.int 0))) [(.asg (.n 4) (.blt .abs [(.idx (.var 2) (.bin .mod (.blt .int [(.idx (.pth 0 []) (.con (.int 1)))]) (.blt .len [(.var 2)])))]))] []), (.asg (.n 5) (.bin .mod (.blt .int [(.bin .add (.bin .add (.bin .mul (.var 4) (.con (.int 48271))) (.bin .mul (.idx (.pth 0 []) (.con (.int 1))) (.con (.int 69621)))) (.con (.int 13)))]) (.con (.int 2147483647)))), (.asg (.n 5) (.bin .mod (.blt .int [(.bin .add (.bin .add (.bin .mul (.var 5) (.var 5)) (.bin .mul (.idx (.pth 0 []) (.con (.int 1))) (.con (.int 30011)))) (.con (.int 7)))]) (.con (.int 2147483629)))), (.asg (.n 5) (.bin .mod (.blt .int [(.bin .add (.bin .add (.bin .mul (.var 5) (.con (.int 16807))) (.bin .fdiv (.var 4) (.con (.int 7)))) (.con (.int 5)))]) (.con (.int 998244353)))), (.ret (.bin .mod (.blt .int [(.bin .fdiv (.var 5) (.con (.int 5)))]) (.var 1)))], false⟩
def N__law_draw : List PySem.Str := [(PySem.Str.ofString "box"), (PySem.Str.ofString "limit"), (PySem.Str.ofString "cells"), (PySem.Str.ofString "k"), (PySem.Str.ofString "cell"), (PySem.Str.ofString "mixed"), (PySem.Str.ofString "digit")]
/- _law_same(came, due): 0=came 1=due 2=k -/
def F__law_same : Fn := ⟨3, [false, false], [(.ite (.cmp .isNone (.var 1) (.con .non)) [(.ret (.cmp .isNone (.var 0) (.con .non)))] []), (.ite (.isi (.var 1) [.bool]) [(.ret (.and (.isi (.var 0) [.bool]) (.cmp .eq (.var 0) (.var 1))))] []), (.ite (.isi (.var 1) [.int]) [(.ret (.and (.isi (.var 0) [.int]) (.and (.not (.isi (.var 0) [.bool])) (.cmp .eq (.var 0) (.var 1)))))] []), (.ite (.isi (.var 1) [.str]) [(.ret (.and (.isi (.var 0) [.str]) (.cmp .eq (.var 0) (.var 1))))] []), (.ite (.and (.isi (.var 1) [.tuple]) (.not (.isi (.var 0) [.tuple]))) [(.ret (.con (.bl false)))] []), (.ite (.and (.isi (.var 1) [.list]) (.not (.isi (.var 0) [.list]))) [(.ret (.con (.bl false)))] []), (.ite (.cmp .ne (.blt .len [(.var 0)]) (.blt .len [(.var 1)])) [(.ret (.con (.bl false)))] []), (.ret (.cmp .nmem (.con (.bl false)) (.lc [2] (.n 2) (.rng1 (.blt .len [(.var 1)])) [] (.call f__law_same [(.idx (.var 0) (.var 2)), (.idx (.var 1) (.var 2))] [0, 1]))))], false⟩
def N__law_same : List PySem.Str := [(PySem.Str.ofString "came"), (PySem.Str.ofString "due"), (PySem.Str.ofString "k")]
/- _law_row(number, size): 0=number 1=size 2=k -/
def F__law_row : Fn := ⟨3, [false, false], [(.ret (.blt .tuple [(.lc [2] (.n 2) (.rng1 (.var 1)) [] (.bin .band (.bin .shr (.var 0) (.var 2)) (.con (.int 1))))]))], false⟩
def N__law_row : List PySem.Str := [(PySem.Str.ofString "number"), (PySem.Str.ofString "size"), (PySem.Str.ofString "k")]
/- _law_list(box, size, most): 0=box 1=size 2=most 3=shape 4=numbers 5=start 6=out 7=k 8=ones 9=row 10=number -/
def F__law_list : Fn := ⟨11, [true, false, false], [(.asg (.n 3) (.callO f__law_draw [(.io 0 []), (.e (.con (.int 7)))] [0, 1])), (.asg (.n 4) (.lc [7] (.n 7) (.rng1 (.bin .add (.con (.int 1)) (.callO f__law_draw [(.io 0 []), (.e (.var 2))] [0, 1]))) [] (.callO f__law_draw [(.io 0 []), (.e (.bin .shl (.con (.int 1)) (.var 1)))] [0, 1]))), (.ite (.cmp .eq (.var 3) (.con (.int 0))) [(.asg (.n 4) (.lc [10] (.n 10) (.rng1 (.bin .shl (.con (.int 1)) (.var 1))) [] (.var 10)))] []), (.ite (.cmp .eq (.var 3) (.con (.int 1))) [(.asg (.n 8) (.callO f__law_draw [(.io 0 []), (.e (.bin .add (.var 1) (.con (.int 1))))] [0, 1])), (.asg (.n 4) (.lc [10] (.n 10) (.rng1 (.bin .shl (.con (.int 1)) (.var 1))) [(.cmp .eq (.blt .sum [(.call f__law_row [(.var 10), (.var 1)] [0, 1])]) (.var 8))] (.var 10)))] []), (.ite (.cmp .eq (.var 3) (.con (.int 2))) [(.asg (.n 4) (.bin .add (.lc [7] (.n 7) (.rng1 (.var 1)) [] (.bin .bxor (.idx (.var 4) (.con (.int 0))) (.bin .shl (.con (.int 1)) (.var 7)))) (.sli (.var 4) (.con .non) (.con (.int 2)))))] []), (.asg (.n 5) (.callO f__law_draw [(.io 0 []), (.e (.blt .len [(.var 4)]))] [0, 1])), (.asgO 6 (.lst [])), (.for_ (.n 7) (.rng1 (.blt .len [(.var 4)])) [(.asg (.n 9) (.call f__law_row [(.idx (.var 4) (.bin .mod (.blt .int [(.bin .add (.var 5) (.var 7))]) (.blt .len [(.var 4)]))), (.var 1)] [0, 1])), (.ite (.and (.cmp .nmem (.var 9) (.pth 6 [])) (.cmp .lt (.blt .len [(.pth 6 [])]) (.var 2))) [(.expr (.mut .append 6 [] [(.var 9)]))] [])]), (.ret (.blt .sorted [(.var 6)]))], false⟩
def N__law_list : List PySem.Str := [(PySem.Str.ofString "box"), (PySem.Str.ofString "size"), (PySem.Str.ofString "most"), (PySem.Str.ofString "shape"), (PySem.Str.ofString "numbers"), (PySem.Str.ofString "start"), (PySem.Str.ofString "out"), (PySem.Str.ofString "k"), (PySem.Str.ofString "ones"), (PySem.Str.ofString "row"), (PySem.Str.ofString "number")]
/- _law_played(rows, row, rounds): 0=rows 1=row 2=rounds 3=weights 4=numbers 5=gone 6=best 7=at 8=i 9=k 10=right -/
def F__law_played : Fn := ⟨11, [false, false, false], [(.asg (.n 3) (.lc [9] (.n 9) (.rng1 (.blt .len [(.var 1)])) [] (.con (.int 1)))), (.asgO 4 (.lst [])), (.for_ (.n 5) (.rng1 (.var 2)) [(.asg (.n 6) (.bin .sub (.con (.int 0)) (.con (.int 1)))), (.asg (.n 7) (.con (.int 0))), (.for_ (.n 8) (.rng1 (.blt .len [(.var 0)])) [(.asg (.n 10) (.blt .sum [(.lc [9] (.n 9) (.rng1 (.blt .len [(.var 1)])) [(.cmp .eq (.idx (.idx (.var 0) (.var 8)) (.var 9)) (.idx (.var 1) (.var 9)))] (.idx (.var 3) (.var 9)))])), (.ite (.cmp .gt (.var 10) (.var 6)) [(.asg (.n 6) (.var 10)), (.asg (.n 7) (.var 8))] [])]), (.expr (.mut .append 4 [] [(.var 7)])), (.asg (.n 3) (.lc [9] (.n 9) (.rng1 (.blt .len [(.var 1)])) [] (.ife (.cmp .eq (.idx (.idx (.var 0) (.var 7)) (.var 9)) (.idx (.var 1) (.var 9))) (.idx (.var 3) (.var 9)) (.bin .mul (.con (.int 2)) (.idx (.var 3) (.var 9))))))]), (.ret (.tup [(.blt .tuple [(.var 4)]), (.blt .tuple [(.var 3)])]))], false⟩
def N__law_played : List PySem.Str := [(PySem.Str.ofString "rows"), (PySem.Str.ofString "row"), (PySem.Str.ofString "rounds"), (PySem.Str.ofString "weights"), (PySem.Str.ofString "numbers"), (PySem.Str.ofString "gone"), (PySem.Str.ofString "best"), (PySem.Str.ofString "at"), (PySem.Str.ofString "i"), (PySem.Str.ofString "k"), (PySem.Str.ofString "right")]
/- _law_wrong(rows, row, numbers): 0=rows 1=row 2=numbers 3=k 4=at -/
def F__law_wrong : Fn := ⟨5, [false, false, false], [(.ret (.blt .tuple [(.lc [3] (.n 3) (.rng1 (.blt .len [(.var 1)])) [] (.blt .len [(.lc [4] (.n 4) (.e (.var 2)) [(.cmp .ne (.idx (.idx (.var 0) (.var 4)) (.var 3)) (.idx (.var 1) (.var 3)))] (.var 4))]))]))], false⟩
def N__law_wrong : List PySem.Str := [(PySem.Str.ofString "rows"), (PySem.Str.ofString "row"), (PySem.Str.ofString "numbers"), (PySem.Str.ofString "k"), (PySem.Str.ofString "at")]
/- _law_voted(rows, size, numbers): 0=rows 1=size 2=numbers 3=yes 4=k 5=one 6=at -/
def F__law_voted : Fn := ⟨7, [false, false, false], [(.asg (.n 3) (.lc [4] (.n 4) (.rng1 (.var 1)) [] (.blt .sum [(.lc [6] (.n 6) (.e (.var 2)) [] (.idx (.idx (.var 0) (.var 6)) (.var 4)))]))), (.ret (.blt .tuple [(.lc [5] (.n 5) (.e (.var 3)) [] (.ife (.cmp .gt (.bin .mul (.con (.int 2)) (.var 5)) (.blt .len [(.var 2)])) (.con (.int 1)) (.con (.int 0))))]))], false⟩
def N__law_voted : List PySem.Str := [(PySem.Str.ofString "rows"), (PySem.Str.ofString "size"), (PySem.Str.ofString "numbers"), (PySem.Str.ofString "yes"), (PySem.Str.ofString "k"), (PySem.Str.ofString "one"), (PySem.Str.ofString "at")]
/- _law_numbers(box, rows): 0=box 1=rows 2=many 3=out 4=at 5=yes 6=no 7=k -/
def F__law_numbers : Fn := ⟨8, [true, false], [(.asg (.n 2) (.blt .len [(.var 1)])), (.asgO 3 (.lc [7] (.n 7) (.rng1 (.callO f__law_draw [(.io 0 []), (.e (.con (.int 13)))] [0, 1])) [] (.callO f__law_draw [(.io 0 []), (.e (.var 2))] [0, 1]))), (.ite (.or (.cmp .gt (.callO f__law_draw [(.io 0 []), (.e (.con (.int 3)))] [0, 1]) (.con (.int 0))) (.cmp .eq (.blt .len [(.idx (.var 1) (.con (.int 0)))]) (.con (.int 0)))) [(.ret (.blt .tuple [(.var 3)]))] []), (.asg (.n 4) (.callO f__law_draw [(.io 0 []), (.e (.blt .len [(.idx (.var 1) (.con (.int 0)))]))] [0, 1])), (.asg (.n 5) (.lc [7] (.n 7) (.rng1 (.var 2)) [(.cmp .eq (.idx (.idx (.var 1) (.var 7)) (.var 4)) (.con (.int 1)))] (.var 7))), (.asg (.n 6) (.lc [7] (.n 7) (.rng1 (.var 2)) [(.cmp .eq (.idx (.idx (.var 1) (.var 7)) (.var 4)) (.con (.int 0)))] (.var 7))), (.ite (.or (.cmp .eq (.blt .len [(.var 5)]) (.con (.int 0))) (.cmp .eq (.blt .len [(.var 6)]) (.con (.int 0)))) [(.ret (.blt .tuple [(.var 3)]))] []), (.asgO 3 (.lst [])), (.for_ (.n 7) (.rng1 (.bin .add (.con (.int 1)) (.callO f__law_draw [(.io 0 []), (.e (.con (.int 4)))] [0, 1]))) [(.expr (.mut .append 3 [] [(.idx (.var 5) (.callO f__law_draw [(.io 0 []), (.e (.blt .len [(.var 5)]))] [0, 1]))])), (.expr (.mut .append 3 [] [(.idx (.var 6) (.callO f__law_draw [(.io 0 []), (.e (.blt .len [(.var 6)]))] [0, 1]))]))]), (.ret (.blt .tuple [(.sli (.var 3) (.callO f__law_draw [(.io 0 []), (.e (.con (.int 2)))] [0, 1]) (.con .non))]))], false⟩
def N__law_numbers : List PySem.Str := [(PySem.Str.ofString "box"), (PySem.Str.ofString "rows"), (PySem.Str.ofString "many"), (PySem.Str.ofString "out"), (PySem.Str.ofString "at"), (PySem.Str.ofString "yes"), (PySem.Str.ofString "no"), (PySem.Str.ofString "k")]
/- _law_counted(rules, rows, row, numbers): 0=rules 1=rows 2=row 3=numbers -/
def F__law_counted : Fn := ⟨4, [false, false, false, false], [(.ite (.not (.call f__law_same [(.call f_wrong_counts [(.var 0), (.var 2), (.var 3)] [0, 1, 2]), (.call f__law_wrong [(.var 1), (.var 2), (.var 3)] [0, 1, 2])] [0, 1])) [(.ret (.con (.bl false)))] []), (.ret (.call f__law_same [(.call f_voted_by [(.var 0), (.var 3)] [0, 1]), (.call f__law_voted [(.var 1), (.blt .len [(.var 2)]), (.var 3)] [0, 1, 2])] [0, 1]))], false⟩
def N__law_counted : List PySem.Str := [(PySem.Str.ofString "rules"), (PySem.Str.ofString "rows"), (PySem.Str.ofString "row"), (PySem.Str.ofString "numbers")]
/- _law_all(script): 0=script 1=box 2=size 3=rows 4=row 5=rounds 6=rules 7=fewer 8=other 9=k 10=drawn 11=numbers 12=weights 13=one -/
def F__law_all : Fn := ⟨14, [false], [(.asgO 1 (.call f__law_box [(.var 0)] [0])), (.asg (.n 2) (.idx (.lst [(.con (.int 0)), (.con (.int 1)), (.con (.int 2)), (.con (.int 3)), (.con (.int 3)), (.con (.int 4)), (.con (.int 4)), (.con (.int 5)), (.con (.int 5))]) (.callO f__law_draw [(.io 1 []), (.e (.con (.int 9)))] [0, 1]))), (.asg (.n 3) (.callO f__law_list [(.io 1 []), (.e (.var 2)), (.e (.idx (.lst [(.con (.int 8)), (.con (.int 8)), (.con (.int 4)), (.con (.int 4)), (.con (.int 6)), (.con (.int 5)), (.con (.int 3)), (.con (.int 32))]) (.callO f__law_draw [(.io 1 []), (.e (.con (.int 8)))] [0, 1])))] [0, 1, 2])), (.asg (.n 4) (.call f__law_row [(.callO f__law_draw [(.io 1 []), (.e (.bin .shl (.con (.int 1)) (.var 2)))] [0, 1]), (.var 2)] [0, 1])), (.asg (.n 5) (.idx (.lst [(.con (.int 0)), (.con (.int 1)), (.con (.int 2)), (.con (.int 3)), (.con (.int 5)), (.con (.int 6)), (.con (.int 8)), (.con (.int 13))]) (.callO f__law_draw [(.io 1 []), (.e (.con (.int 8)))] [0, 1]))), (.ite (.and (.cmp .lt (.blt .len [(.var 3)]) (.con (.int 5))) (.cmp .eq (.callO f__law_draw [(.io 1 []), (.e (.con (.int 4)))] [0, 1]) (.con (.int 0)))) [(.asg (.n 5) (.idx (.lst [(.con (.int 20)), (.con (.int 64)), (.con (.int 100)), (.con (.int 200))]) (.callO f__law_draw [(.io 1 []), (.e (.con (.int 4)))] [0, 1])))] []), (.asg (.n 6) (.new c_Rules [(.var 2), (.var 3)])), (.asg (.t [(.n 11), (.n 12)]) (.call f__law_played [(.var 3), (.var 4), (.var 5)] [0, 1, 2])), (.ite (.or (.not (.call f__law_same [(.call f_taken [(.var 6), (.var 4), (.var 5)] [0, 1, 2]), (.var 11)] [0, 1])) (.not (.call f__law_same [(.call f_weights_behind [(.var 6), (.var 4), (.var 5)] [0, 1, 2]), (.var 12)] [0, 1]))) [(.ret (.con (.bl false)))] []), (.ite (.not (.call f__law_counted [(.var 6), (.var 3), (.var 4), (.var 11)] [0, 1, 2, 3])) [(.ret (.con (.bl false)))] []), (.ite (.cmp .ne (.blt .tuple [(.lc [13] (.n 13) (.e (.call f__law_wrong [(.var 3), (.var 4), (.var 11)] [0, 1, 2])) [] (.bin .shl (.con (.int 1)) (.var 13)))]) (.var 12)) [(.ret (.con (.bl false)))] []), (.asg (.n 7) (.callO f__law_draw [(.io 1 []), (.e (.bin .add (.blt .min [(.var 5), (.con (.int 9))]) (.con (.int 1))))] [0, 1])), (.asg (.n 8) (.call f__law_row [(.callO f__law_draw [(.io 1 []), (.e (.bin .shl (.con (.int 1)) (.var 2)))] [0, 1]), (.var 2)] [0, 1])), (.ite (.not (.call f__law_same [(.call f_taken [(.var 6), (.var 4), (.var 7)] [0, 1, 2]), (.sli (.var 11) (.con .non) (.var 7))] [0, 1])) [(.ret (.con (.bl false)))] []), (.ite (.not (.call f__law_same [(.call f_taken [(.var 6), (.var 8), (.var 7)] [0, 1, 2]), (.idx (.call f__law_played [(.var 3), (.var 8), (.var 7)] [0, 1, 2]) (.con (.int 0)))] [0, 1])) [(.ret (.con (.bl false)))] []), (.ite (.not (.call f__law_same [(.call f_weights_behind [(.var 7), (.var 4), (.var 6)] [2, 1, 0]), (.idx (.call f__law_played [(.var 3), (.var 4), (.var 7)] [0, 1, 2]) (.con (.int 1)))] [0, 1])) [(.ret (.con (.bl false)))] []), (.for_ (.n 9) (.rng1 (.con (.int 3))) [(.ite (.not (.call f__law_counted [(.var 6), (.var 3), (.var 8), (.callO f__law_numbers [(.io 1 []), (.e (.var 3))] [0, 1])] [0, 1, 2, 3])) [(.ret (.con (.bl false)))] [])]), (.asg (.n 10) (.callO f__law_numbers [(.io 1 []), (.e (.var 3))] [0, 1])), (.ite (.not (.call f__law_same [(.call f_voted_by [(.var 10), (.var 6)] [1, 0]), (.call f__law_voted [(.var 3), (.var 2), (.var 10)] [0, 1, 2])] [0, 1])) [(.ret (.con (.bl false)))] []), (.ret (.call f__law_same [(.call f_wrong_counts [(.var 10), (.var 6), (.var 4)] [1, 2, 0]), (.call f__law_wrong [(.var 3), (.var 4), (.var 10)] [0, 1, 2])] [0, 1]))], false⟩
def N__law_all : List PySem.Str := [(PySem.Str.ofString "script"), (PySem.Str.ofString "box"), (PySem.Str.ofString "size"), (PySem.Str.ofString "rows"), (PySem.Str.ofString "row"), (PySem.Str.ofString "rounds"), (PySem.Str.ofString "rules"), (PySem.Str.ofString "fewer"), (PySem.Str.ofString "other"), (PySem.Str.ofString "k"), (PySem.Str.ofString "drawn"), (PySem.Str.ofString "numbers"), (PySem.Str.ofString "weights"), (PySem.Str.ofString "one")]
/- law(script): 0=script -/
def F_law : Fn := ⟨1, [false], [(.try_ [(.ret (.call f__law_all [(.var 0)] [0]))])], false⟩
def N_law : List PySem.Str := [(PySem.Str.ofString "script")]
def fns : List Fn := [F__wall, F_InvalidNumber___init__, F_InvalidRow___init__, F_InvalidRules___init__, F_InvalidPoints___init__, F_is_integer, F_is_number, F_is_value, F_is_row, F_is_number_below, F_all_below, F_are_numbers_below, F_look_at_rounds, F_look_at_numbers, F_right_weight, F_heaviest_rule, F_doubled, F_play, F_taken, F_weights_behind, F_wrong_at, F_wrong_counts, F_yes_at, F_voted_by, F_are_rows, F_Rules___init__, F_Rules___eq__, F_Rules___len__, F_Rules_has, F_Rules_look_at_row, F_Rules_seen_at, F_Rules_turned, F_Rules_look_at_size, F_Rules_both, F_Rules_either, F_Rules_unlike, F_Rules_beside, F_Rules_with_rule, F_Rules_without, F_Rules_others, F_Rules_is_closed, F_Rules_is_shown, F_Rules_fitting, F__law_box, F__law_draw, F__law_same, F__law_row, F__law_list, F__law_played, F__law_wrong, F__law_voted, F__law_numbers, F__law_counted, F__law_all, F_law]
def names : List (List PySem.Str) := [N__wall, N_InvalidNumber___init__, N_InvalidRow___init__, N_InvalidRules___init__, N_InvalidPoints___init__, N_is_integer, N_is_number, N_is_value, N_is_row, N_is_number_below, N_all_below, N_are_numbers_below, N_look_at_rounds, N_look_at_numbers, N_right_weight, N_heaviest_rule, N_doubled, N_play, N_taken, N_weights_behind, N_wrong_at, N_wrong_counts, N_yes_at, N_voted_by, N_are_rows, N_Rules___init__, N_Rules___eq__, N_Rules___len__, N_Rules_has, N_Rules_look_at_row, N_Rules_seen_at, N_Rules_turned, N_Rules_look_at_size, N_Rules_both, N_Rules_either, N_Rules_unlike, N_Rules_beside, N_Rules_with_rule, N_Rules_without, N_Rules_others, N_Rules_is_closed, N_Rules_is_shown, N_Rules_fitting, N__law_box, N__law_draw, N__law_same, N__law_row, N__law_list, N__law_played, N__law_wrong, N__law_voted, N__law_numbers, N__law_counted, N__law_all, N_law]
def frs : List Nat := [f__law_box]
def td : TD where
  fns := [((PySem.Str.ofString "_wall"), f__wall, 1), ((PySem.Str.ofString "is_integer"), f_is_integer, 1), ((PySem.Str.ofString "is_number"), f_is_number, 1), ((PySem.Str.ofString "is_value"), f_is_value, 1), ((PySem.Str.ofString "is_row"), f_is_row, 2), ((PySem.Str.ofString "is_number_below"), f_is_number_below, 2), ((PySem.Str.ofString "all_below"), f_all_below, 2), ((PySem.Str.ofString "are_numbers_below"), f_are_numbers_below, 2), ((PySem.Str.ofString "look_at_rounds"), f_look_at_rounds, 3), ((PySem.Str.ofString "look_at_numbers"), f_look_at_numbers, 2), ((PySem.Str.ofString "right_weight"), f_right_weight, 3), ((PySem.Str.ofString "heaviest_rule"), f_heaviest_rule, 3), ((PySem.Str.ofString "doubled"), f_doubled, 3), ((PySem.Str.ofString "play"), f_play, 3), ((PySem.Str.ofString "taken"), f_taken, 3), ((PySem.Str.ofString "weights_behind"), f_weights_behind, 3), ((PySem.Str.ofString "wrong_at"), f_wrong_at, 4), ((PySem.Str.ofString "wrong_counts"), f_wrong_counts, 3), ((PySem.Str.ofString "yes_at"), f_yes_at, 3), ((PySem.Str.ofString "voted_by"), f_voted_by, 2), ((PySem.Str.ofString "are_rows"), f_are_rows, 2), ((PySem.Str.ofString "_law_box"), f__law_box, 1), ((PySem.Str.ofString "_law_draw"), f__law_draw, 2), ((PySem.Str.ofString "_law_same"), f__law_same, 2), ((PySem.Str.ofString "_law_row"), f__law_row, 2), ((PySem.Str.ofString "_law_list"), f__law_list, 3), ((PySem.Str.ofString "_law_played"), f__law_played, 3), ((PySem.Str.ofString "_law_wrong"), f__law_wrong, 3), ((PySem.Str.ofString "_law_voted"), f__law_voted, 3), ((PySem.Str.ofString "_law_numbers"), f__law_numbers, 2), ((PySem.Str.ofString "_law_counted"), f__law_counted, 4), ((PySem.Str.ofString "_law_all"), f__law_all, 1), ((PySem.Str.ofString "law"), f_law, 1)]
  kws := [((PySem.Str.ofString "taken"), f_taken, [(PySem.Str.ofString "rules"), (PySem.Str.ofString "row"), (PySem.Str.ofString "rounds")], [0, 1, 2]), ((PySem.Str.ofString "weights_behind"), f_weights_behind, [(PySem.Str.ofString "rounds"), (PySem.Str.ofString "row"), (PySem.Str.ofString "rules")], [2, 1, 0]), ((PySem.Str.ofString "voted_by"), f_voted_by, [(PySem.Str.ofString "numbers"), (PySem.Str.ofString "rules")], [1, 0]), ((PySem.Str.ofString "wrong_counts"), f_wrong_counts, [(PySem.Str.ofString "numbers"), (PySem.Str.ofString "rules"), (PySem.Str.ofString "row")], [1, 2, 0])]
  cls := [((PySem.Str.ofString "Rules"), c_Rules, f_Rules___init__, 3)]
  mts := [(m_has, (PySem.Str.ofString "has"), 2), (m_look_at_row, (PySem.Str.ofString "look_at_row"), 2), (m_seen_at, (PySem.Str.ofString "seen_at"), 2), (m_turned, (PySem.Str.ofString "turned"), 2), (m_look_at_size, (PySem.Str.ofString "look_at_size"), 2), (m_both, (PySem.Str.ofString "both"), 2), (m_either, (PySem.Str.ofString "either"), 2), (m_unlike, (PySem.Str.ofString "unlike"), 2), (m_beside, (PySem.Str.ofString "beside"), 2), (m_with_rule, (PySem.Str.ofString "with_rule"), 2), (m_without, (PySem.Str.ofString "without"), 2), (m_others, (PySem.Str.ofString "others"), 1), (m_is_closed, (PySem.Str.ofString "is_closed"), 1), (m_is_shown, (PySem.Str.ofString "is_shown"), 2), (m_fitting, (PySem.Str.ofString "fitting"), 2)]
  fds := [(0, (PySem.Str.ofString "value")), (1, (PySem.Str.ofString "rows")), (2, (PySem.Str.ofString "size"))]
  bis := [(PySem.Str.ofString "abs"), (PySem.Str.ofString "bool"), (PySem.Str.ofString "int"), (PySem.Str.ofString "isinstance"), (PySem.Str.ofString "len"), (PySem.Str.ofString "list"), (PySem.Str.ofString "max"), (PySem.Str.ofString "min"), (PySem.Str.ofString "range"), (PySem.Str.ofString "set"), (PySem.Str.ofString "sorted"), (PySem.Str.ofString "str"), (PySem.Str.ofString "sum"), (PySem.Str.ofString "tuple"), (PySem.Str.ofString "zip")]
  frs := frs
def lw : Law := { names := names, fns := fns, cn := [(PySem.Str.ofString "Rules")], fl := [(PySem.Str.ofString "value"), (PySem.Str.ofString "rows"), (PySem.Str.ofString "size")], inits := [(c_Rules, f_Rules___init__)], lens := [(c_Rules, f_Rules___len__)], mths := [(c_Rules, m_has, f_Rules_has), (c_Rules, m_look_at_row, f_Rules_look_at_row), (c_Rules, m_seen_at, f_Rules_seen_at), (c_Rules, m_turned, f_Rules_turned), (c_Rules, m_look_at_size, f_Rules_look_at_size), (c_Rules, m_both, f_Rules_both), (c_Rules, m_either, f_Rules_either), (c_Rules, m_unlike, f_Rules_unlike), (c_Rules, m_beside, f_Rules_beside), (c_Rules, m_with_rule, f_Rules_with_rule), (c_Rules, m_without, f_Rules_without), (c_Rules, m_others, f_Rules_others), (c_Rules, m_is_closed, f_Rules_is_closed), (c_Rules, m_is_shown, f_Rules_is_shown), (c_Rules, m_fitting, f_Rules_fitting)], frs := frs, wh := 18446744073709551616, td := td }
theorem kw0 : KwRow Hd.fn ((PySem.Str.ofString "taken"), f_taken, [(PySem.Str.ofString "rules"), (PySem.Str.ofString "row"), (PySem.Str.ofString "rounds")], [0, 1, 2]) := kw_row (d := Hd.d18) (by kernel_rfl) fun kV doc pm an cdv ct ws hl => match ws, hl with
  | [a0, a1, a2], _ => by kernel_rfl
theorem kw1 : KwRow Hd.fn ((PySem.Str.ofString "weights_behind"), f_weights_behind, [(PySem.Str.ofString "rounds"), (PySem.Str.ofString "row"), (PySem.Str.ofString "rules")], [2, 1, 0]) := kw_row (d := Hd.d19) (by kernel_rfl) fun kV doc pm an cdv ct ws hl => match ws, hl with
  | [a0, a1, a2], _ => by kernel_rfl
theorem kw2 : KwRow Hd.fn ((PySem.Str.ofString "voted_by"), f_voted_by, [(PySem.Str.ofString "numbers"), (PySem.Str.ofString "rules")], [1, 0]) := kw_row (d := Hd.d23) (by kernel_rfl) fun kV doc pm an cdv ct ws hl => match ws, hl with
  | [a0, a1], _ => by kernel_rfl
theorem kw3 : KwRow Hd.fn ((PySem.Str.ofString "wrong_counts"), f_wrong_counts, [(PySem.Str.ofString "numbers"), (PySem.Str.ofString "rules"), (PySem.Str.ofString "row")], [1, 2, 0]) := kw_row (d := Hd.d21) (by kernel_rfl) fun kV doc pm an cdv ct ws hl => match ws, hl with
  | [a0, a1, a2], _ => by kernel_rfl
theorem kws_ok : KwsOk lw Hd.fn := kws_of (.cons kw0 (.cons kw1 (.cons kw2 (.cons kw3 (.nil)))))
-- UNSUP Rules.__eq__: isinstance class
theorem allc : allC lw 400 0 lw.names Hd.fn lw.fns = true := by kernel_rfl
theorem rowsc : rowsC lw Hd.fa Hd.fn = true := by kernel_rfl
end Lw
end
section
set_option Elab.async false
set_option linter.all false
set_option maxRecDepth 100000
set_option maxHeartbeats 4000000
namespace Py
open PySem
/-! ### evaluation of the terms: loops and comprehensions -/
theorem compLoop_ok {f : D → Env → R (List D)} {h : D → List D} {G0 : Env} : ∀ ds : List D, (∀ d ∈ ds, f d G0 = .ok G0 (h d)) → compLoop f ds G0 = .ok G0 (ds.flatMap h)
  | [], _ => rfl
  | d :: ds, H => by
    rw [compLoop, H d List.mem_cons_self]
    show (compLoop f ds G0).bind _ = _
    rw [compLoop_ok ds fun e he => H e (List.mem_cons_of_mem _ he)]
    rfl
/-- a loop that ends without a break: I holds of what is to come and of the slots -/
theorem forLoop_inv {asgn : D → Env → R Unit} {body : Env → R Out} (I : List D → Env → Prop) (step : ∀ d ds G, I (d :: ds) G → ∃ G1 G2, asgn d G = .ok G1 () ∧ (body G1 = .ok G2 .next ∨ body G1 = .ok G2 .cont) ∧ I ds G2) :
    ∀ (ds : List D) (G : Env), I ds G → ∃ G', forLoop asgn body ds G = .ok G' .next ∧ I [] G'
  | [], G, h => ⟨G, rfl, h⟩
  | d :: ds, G, h => by
    obtain ⟨G1, G2, e1, e2, i2⟩ := step d ds G h
    obtain ⟨G', e3, i3⟩ := forLoop_inv I step ds G2 i2
    refine ⟨G', ?_, i3⟩
    rw [forLoop, e1]
    show (body G1).bind _ = _
    rcases e2 with e2 | e2 <;> rw [e2] <;> exact e3
/-- .. with a break -/
theorem forLoop_brk {asgn : D → Env → R Unit} {body : Env → R Out} (I : List D → Env → Prop) (J : Env → Prop) (fin : ∀ G, I [] G → J G) (step : ∀ d ds G, I (d :: ds) G → ∃ G1 G2 o, asgn d G = .ok G1 () ∧ body G1 = .ok G2 o ∧ ((o = .next ∧ I ds G2) ∨ (o = .brk ∧ J G2))) :
    ∀ (ds : List D) (G : Env), I ds G → ∃ G', forLoop asgn body ds G = .ok G' .next ∧ J G'
  | [], G, h => ⟨G, rfl, fin G h⟩
  | d :: ds, G, h => by
    obtain ⟨G1, G2, o, e1, e2, i2⟩ := step d ds G h
    rcases i2 with ⟨rfl, i2⟩ | ⟨rfl, i2⟩
    · obtain ⟨G', e3, i3⟩ := forLoop_brk I J fin step ds G2 i2
      refine ⟨G', ?_, i3⟩
      rw [forLoop, e1]
      show (body G1).bind _ = _
      rw [e2]
      exact e3
    · refine ⟨G2, ?_, i2⟩
      rw [forLoop, e1]
      show (body G1).bind _ = _
      rw [e2]
      rfl
theorem getD_get {G : Env} {i : Nat} (h : i < G.length) : G[i]? = some (G.getD i .dead) := by
  rw [List.getD_eq_getElem?_getD, List.getElem?_eq_getElem h]
  rfl
theorem set_getD {G : Env} {i : Nat} (h : i < G.length) : G.set i (G.getD i .dead) = G := by
  apply List.ext_getElem?
  intro j
  rw [List.getElem?_set]
  split
  · rename_i e
    subst e
    exact (getD_get h).symm
  · rfl
/-- [elt for v in it if ..]: one name of its own -/
theorem ev_lc1 {C : Ctx} {orc : Orc} {v : Nat} {it : It} {ifs : List E} {elt : E} {G G1 : Env} {ds : List D} {b : Bool} (p : D → Bool) (h : D → D) (hit : evIt C orc it G = .ok G1 (ds, b)) (hb : (b && !(E.mfL ifs && elt.mf)) = false) (hv : v < G1.length) (hw : (G1.getD v .dead).isOw = false)
    (hf : ∀ d ∈ ds, evIfs C orc ifs (G1.set v (.sh d)) = .ok (G1.set v (.sh d)) (p d)) (he : ∀ d ∈ ds, p d = true → ev C orc elt (G1.set v (.sh d)) = .ok (G1.set v (.sh d)) (h d, false)) (hl : ds.length ≤ szLine) :
    ev C orc (.lc [v] (.n v) it ifs elt) G = .ok G1 (.lst ((ds.filter p).map h), false) := by
  have wv : wipe G1 [v] = G1.set v .dead := rfl
  have loop := compLoop_ok (f := fun d G2 => (asgT (.n v) d G2).bind fun G3 _ => (evIfs C orc ifs G3).bind fun G4 k => if k then (ev C orc elt G4).bind fun G5 x => if x.2 then R.bad else .ok (wipe G5 [v]) [x.1] else .ok (wipe G4 [v]) []) (h := fun d => if p d then [h d] else []) (G0 := wipe G1 [v]) ds fun d hd => by
    have e1 : asgT (.n v) d (wipe G1 [v]) = .ok (G1.set v (.sh d)) () := by
      rw [wv, asgT, List.length_set, if_pos (by simpa using hv), List.set_set]
    have e2 : wipe (G1.set v (.sh d)) [v] = wipe G1 [v] := by
      show (G1.set v (.sh d)).set v .dead = G1.set v .dead
      rw [List.set_set]
    simp only [e1, R.bind, hf d hd]
    cases hp : p d with
    | true => simp only [if_true, he d hd hp, e2, Bool.false_eq_true, if_false]
    | false => simp only [Bool.false_eq_true, if_false, e2]
  rw [ev, hit]
  have ha : anyOw G1 [v] = false := by
    show ((G1.getD v .dead).isOw || false) = false
    rw [hw]
    rfl
  have e3 : ds.flatMap (fun d => if p d then [h d] else []) = (ds.filter p).map h := by
    clear loop hf he hit hl
    induction ds with
    | nil => rfl
    | cons d ds ih =>
      rw [List.flatMap_cons, ih, List.filter_cons]
      split <;> rfl
  have e4 : lenOk ((ds.filter p).map h).length = true := by
    unfold lenOk
    have := List.length_filter_le p ds
    rw [List.length_map]
    simp
    omega
  have e5 : unwipe G1 (wipe G1 [v]) [v] = G1 := by
    show (G1.set v .dead).set v (G1.getD v .dead) = G1
    rw [List.set_set, set_getD hv]
  simp only [R.bind] at loop ⊢
  rw [hb, ha, loop, e3]
  simp only [Bool.or_false, Bool.false_eq_true, if_false, e4, if_true, e5]
section
variable {C : Ctx} {orc : Orc}
theorem rngD (n : Nat) : rangeD 0 n = (List.range n).map fun k : Nat => D.int k := by
  unfold rangeD
  simp
theorem asInt_int (i : Int) : (D.int i).asInt = some i := rfl
theorem ltp_of {n b : Nat} (hb : 0 < b) (h : n < 2 ^ b) : ltp n b = true := by
  unfold ltp
  rw [decide_eq_true_eq]
  cases n with
  | zero => simpa using hb
  | succ n => exact (Nat.log2_lt (by simp)).mpr h
theorem rngOk_nat (s : Nat) (hs : s ≤ 1000000) : rngOk (s : Int) = true := ltp_of (by decide) (by
  show s < 2 ^ 62
  have : (2 : Nat) ^ 62 = 4611686018427387904 := by decide
  omega)
theorem evIt_rng1 {a : E} {G G1 : Env} {s : Nat} {b : Bool} (ha : ev C orc a G = .ok G1 (.int s, b)) (hr : rngOk (s : Int) = true) : evIt C orc (.rng1 a) G = .ok G1 ((List.range s).map fun k : Nat => D.int k, false) := by
  rw [evIt, ha, R.bind, asInt_int, Option.bind_some, if_pos hr, rngD, R.ofO]
/-- [elt for v in it] -/
theorem ev_lc0 {v : Nat} {it : It} {elt : E} {G G1 : Env} {ds : List D} {b : Bool} (h : D → D) (hit : evIt C orc it G = .ok G1 (ds, b)) (hb : (b && !elt.mf) = false) (hv : v < G1.length) (hw : (G1.getD v .dead).isOw = false)
    (he : ∀ d ∈ ds, ev C orc elt (G1.set v (.sh d)) = .ok (G1.set v (.sh d)) (h d, false)) (hl : ds.length ≤ szLine) :
    ev C orc (.lc [v] (.n v) it [] elt) G = .ok G1 (.lst (ds.map h), false) := by
  have := ev_lc1 (ifs := []) (fun _ => true) h hit (by simpa [E.mfL] using hb) hv hw (fun d _ => by rw [evIfs]) (fun d hd _ => he d hd) hl
  rw [List.filter_eq_self.mpr (fun _ _ => rfl)] at this
  exact this
/-- .. over range -/
theorem ev_lcR {v s : Nat} {a elt : E} {G G1 : Env} {b : Bool} (h : Nat → D) (ha : ev C orc a G = .ok G1 (.int s, b)) (hs : s ≤ 1000000) (hv : v < G1.length) (hw : (G1.getD v .dead).isOw = false)
    (he : ∀ k < s, ev C orc elt (G1.set v (.sh (.int k))) = .ok (G1.set v (.sh (.int k))) (h k, false)) :
    ev C orc (.lc [v] (.n v) (.rng1 a) [] elt) G = .ok G1 (.lst ((List.range s).map h), false) := by
  have := ev_lc0 (orc := orc) (C := C) (elt := elt) (v := v) (fun d => match d with | .int k => h k.toNat | _ => .non) (evIt_rng1 ha (rngOk_nat s hs)) (by simp) hv hw (fun d hd => by
    obtain ⟨k, hk, rfl⟩ := List.mem_map.mp hd
    exact he k (List.mem_range.mp hk)) (by rw [List.length_map, List.length_range]; unfold szLine; omega)
  rw [List.map_map] at this
  exact this
end
end Py
end
section
set_option Elab.async false
set_option linter.all false
set_option maxRecDepth 100000
set_option maxHeartbeats 4000000
namespace Py
open PySem
/-! ### more rules of evaluation, and plain facts -/
section
variable {C : Ctx} {orc : Orc}
/-- one turn of a comprehension -/
def lcStep (C : Ctx) (orc : Orc) (own : List Nat) (tg : Tg) (ifs : List E) (elt : E) (d : D) (G2 : Env) : R (List D) :=
  (asgT tg d G2).bind fun G3 _ => (evIfs C orc ifs G3).bind fun G4 k => if k then (ev C orc elt G4).bind fun G5 x => if x.2 then R.bad else .ok (wipe G5 own) [x.1] else .ok (wipe G4 own) []
theorem ev_lcG {own : List Nat} {tg : Tg} {it : It} {ifs : List E} {elt : E} {G G1 : Env} {ds : List D} {b : Bool} (h : D → List D) (hit : evIt C orc it G = .ok G1 (ds, b)) (hb : (b && !(E.mfL ifs && elt.mf)) = false) (ha : anyOw G1 own = false)
    (hs : ∀ d ∈ ds, lcStep C orc own tg ifs elt d (wipe G1 own) = .ok (wipe G1 own) (h d)) (hu : unwipe G1 (wipe G1 own) own = G1) (hl : (ds.flatMap h).length ≤ szLine) :
    ev C orc (.lc own tg it ifs elt) G = .ok G1 (.lst (ds.flatMap h), false) := by
  have loop := compLoop_ok (f := lcStep C orc own tg ifs elt) (h := h) (G0 := wipe G1 own) ds hs
  rw [ev, hit]
  show (if _ then R.bad else R.bind (compLoop (lcStep C orc own tg ifs elt) ds (wipe G1 own)) _) = _
  have e4 : lenOk (ds.flatMap h).length = true := by
    unfold lenOk
    simpa using hl
  rw [loop]
  simp only [hb, ha, Bool.or_false, Bool.false_eq_true, if_false, R.bind_ok, e4, if_true, hu]
theorem compLoop_map {α : Type} {f : D → Env → R (List D)} {g : α → D} {h : α → List D} {G0 : Env} : ∀ l : List α, (∀ a ∈ l, f (g a) G0 = .ok G0 (h a)) → compLoop f (l.map g) G0 = .ok G0 (l.flatMap h)
  | [], _ => rfl
  | d :: ds, H => by
    rw [List.map_cons, compLoop, H d List.mem_cons_self]
    show (compLoop f (ds.map g) G0).bind _ = _
    rw [compLoop_map ds fun e he => H e (List.mem_cons_of_mem _ he)]
    rfl
/-- .. over the images of things -/
theorem ev_lcA {α : Type} {own : List Nat} {tg : Tg} {it : It} {ifs : List E} {elt : E} {G G1 : Env} {b : Bool} (l : List α) (g : α → D) (p : α → Bool) (h : α → D) (hit : evIt C orc it G = .ok G1 (l.map g, b)) (hb : (b && !(E.mfL ifs && elt.mf)) = false) (ha : anyOw G1 own = false)
    (hs : ∀ a ∈ l, lcStep C orc own tg ifs elt (g a) (wipe G1 own) = .ok (wipe G1 own) (if p a then [h a] else [])) (hu : unwipe G1 (wipe G1 own) own = G1) (hl : l.length ≤ 1000000) :
    ev C orc (.lc own tg it ifs elt) G = .ok G1 (.lst ((l.filter p).map h), false) := by
  have loop := compLoop_map (f := lcStep C orc own tg ifs elt) (g := g) (h := fun a => if p a then [h a] else []) (G0 := wipe G1 own) l hs
  have e3 : l.flatMap (fun d => if p d then [h d] else []) = (l.filter p).map h := by
    clear loop hs hit hl
    induction l with
    | nil => rfl
    | cons d ds ih =>
      rw [List.flatMap_cons, ih, List.filter_cons]
      split <;> rfl
  rw [e3] at loop
  rw [ev, hit]
  show (if _ then R.bad else R.bind (compLoop (lcStep C orc own tg ifs elt) (l.map g) (wipe G1 own)) _) = _
  have e4 : lenOk ((l.filter p).map h).length = true := by
    unfold lenOk
    have := List.length_filter_le p l
    rw [List.length_map]
    exact decide_eq_true (by show _ ≤ 16777216; omega)
  rw [loop]
  simp only [hb, ha, Bool.or_false, Bool.false_eq_true, if_false, R.bind_ok, e4, if_true, hu]
/-- .. all of them -/
theorem ev_lcB {α : Type} {own : List Nat} {tg : Tg} {it : It} {elt : E} {G G1 : Env} {b : Bool} (l : List α) (g : α → D) (h : α → D) (hit : evIt C orc it G = .ok G1 (l.map g, b)) (hb : (b && !(E.mfL [] && elt.mf)) = false) (ha : anyOw G1 own = false)
    (hs : ∀ a ∈ l, lcStep C orc own tg [] elt (g a) (wipe G1 own) = .ok (wipe G1 own) [h a]) (hu : unwipe G1 (wipe G1 own) own = G1) (hl : l.length ≤ 1000000) :
    ev C orc (.lc own tg it [] elt) G = .ok G1 (.lst (l.map h), false) := by
  have := ev_lcA (C := C) (orc := orc) l g (fun _ => true) h hit hb ha (fun a h => hs a h) hu hl
  rw [List.filter_eq_self.mpr (fun _ _ => rfl)] at this
  exact this
/-- .. over range, by numbers -/
theorem ev_lcRf {v s : Nat} {a elt : E} {ifs : List E} {G G1 : Env} {b : Bool} (p : Nat → Bool) (h : Nat → D) (ha : ev C orc a G = .ok G1 (.int s, b)) (hs : s ≤ 1000000) (hw : anyOw G1 [v] = false) (hu : unwipe G1 (wipe G1 [v]) [v] = G1)
    (he : ∀ k < s, lcStep C orc [v] (.n v) ifs elt (.int k) (wipe G1 [v]) = .ok (wipe G1 [v]) (if p k then [h k] else [])) :
    ev C orc (.lc [v] (.n v) (.rng1 a) ifs elt) G = .ok G1 (.lst (((List.range s).filter p).map h), false) :=
  ev_lcA (List.range s) (fun k : Nat => D.int k) p h (evIt_rng1 ha (rngOk_nat s hs)) (by simp) hw (fun k hk => he k (List.mem_range.mp hk)) hu (by simpa using hs)
theorem ev_lcRa {v s : Nat} {a elt : E} {G G1 : Env} {b : Bool} (h : Nat → D) (ha : ev C orc a G = .ok G1 (.int s, b)) (hs : s ≤ 1000000) (hw : anyOw G1 [v] = false) (hu : unwipe G1 (wipe G1 [v]) [v] = G1)
    (he : ∀ k < s, lcStep C orc [v] (.n v) [] elt (.int k) (wipe G1 [v]) = .ok (wipe G1 [v]) [h k]) :
    ev C orc (.lc [v] (.n v) (.rng1 a) [] elt) G = .ok G1 (.lst ((List.range s).map h), false) :=
  ev_lcB (List.range s) (fun k : Nat => D.int k) h (evIt_rng1 ha (rngOk_nat s hs)) (by simp) hw (fun k hk => he k (List.mem_range.mp hk)) hu (by simpa using hs)
/-- a for loop over range: an invariant by the number of turns -/
theorem forLoop_rng {asgn : D → Env → R Unit} {body : Env → R Out} (I : Nat → Env → Prop) (n : Nat) (step : ∀ k < n, ∀ G, I k G → ∃ G1 G2, asgn (.int k) G = .ok G1 () ∧ body G1 = .ok G2 .next ∧ I (k + 1) G2) (G : Env) (h : I 0 G) :
    ∃ G', forLoop asgn body ((List.range n).map fun k : Nat => D.int k) G = .ok G' .next ∧ I n G' := by
  have key : ∀ (m k : Nat) (G : Env), k + m = n → I k G → ∃ G', forLoop asgn body ((List.range' k m).map fun k : Nat => D.int k) G = .ok G' .next ∧ I n G' := by
    intro m
    induction m with
    | zero => intro k G e h; exact ⟨G, rfl, (show k = n by omega) ▸ h⟩
    | succ m ih =>
      intro k G e h
      obtain ⟨G1, G2, e1, e2, i2⟩ := step k (by omega) G h
      obtain ⟨G', e3, i3⟩ := ih (k + 1) G2 (by omega) i2
      refine ⟨G', ?_, i3⟩
      rw [List.range'_succ, List.map_cons, forLoop, e1]
      show (body G1).bind _ = _
      rw [e2]
      exact e3
  have := key n 0 G (by omega) h
  rw [List.range_eq_range']
  exact this
/-- the statement -/
theorem evS_for {tg : Tg} {it : It} {body : List S} {G G1 G2 : Env} {ds : List D} {o : Out} (h1 : evIt C orc it G = .ok G1 (ds, false)) (h2 : forLoop (asgT tg) (evSs C orc body) ds G1 = .ok G2 o) : evS C orc (.for_ tg it body) G = .ok G2 o := by
  rw [evS, h1]
  exact h2
theorem evS_forR {tg : Tg} {a : E} {body : List S} {G G1 : Env} {b : Bool} (n : Nat) (I : Nat → Env → Prop) (h1 : ev C orc a G = .ok G1 (.int n, b)) (hn : n ≤ 1000000) (h : I 0 G1)
    (step : ∀ k < n, ∀ G, I k G → ∃ G1 G2, asgT tg (.int k) G = .ok G1 () ∧ evSs C orc body G1 = .ok G2 .next ∧ I (k + 1) G2) : ∃ G2, evS C orc (.for_ tg (.rng1 a) body) G = .ok G2 .next ∧ I n G2 := by
  obtain ⟨G', e, i⟩ := forLoop_rng (asgn := asgT tg) (body := evSs C orc body) I n step G1 h
  exact ⟨G', evS_for (evIt_rng1 h1 (rngOk_nat n hn)) e, i⟩
theorem evSs_next {s : S} {ss : List S} {G G1 : Env} (h : evS C orc s G = .ok G1 .next) : evSs C orc (s :: ss) G = evSs C orc ss G1 := by
  simp only [evSs, h, R.bind]
end
def natsD (ns : List Nat) : List D := ns.map fun n : Nat => D.int n
theorem gInts_map : ∀ l : List Int, gInts (l.map D.int) = some l
  | [] => rfl
  | x :: l => by rw [List.map_cons, gInts, gInts_map l]; rfl
theorem gInts_nats (l : List Nat) : gInts (natsD l) = some (l.map fun n : Nat => (n : Int)) := by
  have : natsD l = (l.map fun n : Nat => (n : Int)).map D.int := by
    unfold natsD
    rw [List.map_map]
    rfl
  rw [this, gInts_map]
theorem atI_nat {xs : List D} {k : Nat} (h : k < xs.length) : atI xs (k : Int) = xs[k]? := by
  unfold atI ixN
  rw [if_pos (by omega), if_pos (by omega)]
  rfl
theorem atI_ints {q : List Int} {k : Nat} (h : k < q.length) : atI (q.map D.int) (k : Int) = some (.int (q.getD k 0)) := by
  rw [atI_nat (by simpa using h), List.getElem?_map, List.getElem?_eq_getElem h, List.getD_eq_getElem?_getD, List.getElem?_eq_getElem h]
  rfl
theorem atI_rows {rs : List (List Int)} {k : Nat} (h : k < rs.length) : atI (rs.map rowD) (k : Int) = some (rowD (rs.getD k [])) := by
  rw [atI_nat (by simpa using h), List.getElem?_map, List.getElem?_eq_getElem h, List.getD_eq_getElem?_getD, List.getElem?_eq_getElem h]
  rfl
theorem eqv_int (i j : Int) : D.eqv (.int i) (.int j) = (i == j) := rfl
theorem eqOkL_ints (n : Nat) : ∀ l : List Int, D.eqOkL n (l.map D.int) = true
  | [] => by cases n <;> rfl
  | x :: l => by cases n <;> simp [D.eqOkL, D.eqOk, eqOkL_ints _ l]
theorem eqvL_ints : ∀ l m : List Int, D.eqvL (l.map D.int) (m.map D.int) = (l == m)
  | [], [] => rfl
  | [], _ :: _ => rfl
  | _ :: _, [] => rfl
  | x :: l, y :: m => by
    rw [List.map_cons, List.map_cons, D.eqvL, eqvL_ints l m, eqv_int]
    rfl
theorem eqd_ints (l m : List Int) : eqd (.tup (l.map D.int)) (.tup (m.map D.int)) = some (l == m) := by
  unfold eqd
  simp [D.eqOk, eqOkL_ints, D.eqv, eqvL_ints]
theorem eqd_int (i j : Int) : eqd (.int i) (.int j) = some (i == j) := by
  unfold eqd
  simp [D.eqOk, D.eqv]
theorem natsD_ints (l : List Nat) : natsD l = (l.map fun n : Nat => (n : Int)).map D.int := by
  unfold natsD
  rw [List.map_map]
  rfl
theorem leaves_leaf : ∀ l : List D, M.leaves (l.map M.leaf) = some l
  | [] => rfl
  | x :: l => by rw [List.map_cons, M.leaves, leaves_leaf l]; rfl
theorem fzL_leaf : ∀ l : List D, M.fzL (l.map M.leaf) = l
  | [] => rfl
  | x :: l => by rw [List.map_cons, M.fzL, fzL_leaf l]; rfl
end Py
end
section
set_option Elab.async false
set_option linter.all false
set_option maxRecDepth 100000
namespace Lw
open Py PySem
def rwL : List Int → List Int → List Int → List Int
  | a :: r, b :: q, c :: w => if a = b then c :: rwL r q w else rwL r q w
  | _, _, _ => []
def dbl : List Int → List Int → List Int → List Int
  | a :: r, b :: q, c :: w => (if a = b then c else 2 * c) :: dbl r q w
  | _, _, _ => []
def sums (rs : List (List Int)) (q w : List Int) : List Int := rs.map fun r => (rwL r q w).sum
def am : List Int → Int → Nat → Nat → Nat
  | [], _, at_, _ => at_
  | x :: xs, best, at_, i => if x > best then am xs x i (i + 1) else am xs best at_ (i + 1)
def amax (l : List Int) : Nat := am l (-1) 0 0
def playN (rs : List (List Int)) (q : List Int) : Nat → List Nat × List Int
  | 0 => ([], List.replicate q.length 1)
  | n + 1 => ((playN rs q n).1 ++ [amax (sums rs q (playN rs q n).2)], dbl (rs.getD (amax (sums rs q (playN rs q n).2)) []) q (playN rs q n).2)
theorem dbl_eq : ∀ (r q w : List Int), r.length = q.length → w.length = q.length → dbl r q w = (List.range q.length).map fun k => if r.getD k 0 = q.getD k 0 then w.getD k 0 else 2 * w.getD k 0
  | [], [], [], _, _ => rfl
  | a :: r, b :: q, c :: w, h1, h2 => by
    rw [dbl, dbl_eq r q w (by simpa using h1) (by simpa using h2), List.length_cons, List.range_succ_eq_map, List.map_cons, List.map_map]
    rfl
theorem rwL_eq : ∀ (r q w : List Int), r.length = q.length → w.length = q.length → rwL r q w = ((List.range q.length).filter fun k => r.getD k 0 == q.getD k 0).map fun k => w.getD k 0
  | [], [], [], _, _ => rfl
  | a :: r, b :: q, c :: w, h1, h2 => by
    rw [rwL, rwL_eq r q w (by simpa using h1) (by simpa using h2), List.length_cons, List.range_succ_eq_map, List.filter_cons, List.filter_map]
    by_cases h : a = b
    · rw [if_pos h, if_pos (by simpa using h), List.map_cons, List.map_map]; rfl
    · rw [if_neg h, if_neg (by simpa using h), List.map_map]; rfl
theorem dbl_len (r q w : List Int) (h1 : r.length = q.length) (h2 : w.length = q.length) : (dbl r q w).length = q.length := by
  rw [dbl_eq r q w h1 h2, List.length_map, List.length_range]
theorem dbl_nn : ∀ (r q w : List Int), (∀ x ∈ w, 0 ≤ x) → ∀ x ∈ dbl r q w, 0 ≤ x
  | [], _, _, _, _, h => nomatch h
  | _ :: _, [], _, _, _, h => nomatch h
  | _ :: _, _ :: _, [], _, _, h => nomatch h
  | a :: r, b :: q, c :: w, H, x, h => by
    have h0 := H c List.mem_cons_self
    rw [dbl] at h
    rcases List.mem_cons.mp h with rfl | h
    · split <;> omega
    · exact dbl_nn r q w (fun y hy => H y (List.mem_cons_of_mem _ hy)) x h
theorem rwL_nn : ∀ (r q w : List Int), (∀ x ∈ w, 0 ≤ x) → 0 ≤ (rwL r q w).sum
  | [], _, _, _ => by simp [rwL]
  | _ :: _, [], _, _ => by simp [rwL]
  | _ :: _, _ :: _, [], _ => by simp [rwL]
  | a :: r, b :: q, c :: w, H => by
    have h0 := H c List.mem_cons_self
    have ih := rwL_nn r q w (fun y hy => H y (List.mem_cons_of_mem _ hy))
    rw [rwL]
    split
    · rw [List.sum_cons]; omega
    · exact ih
theorem am_lt : ∀ (l : List Int) (b : Int) (a i : Nat), a < i → am l b a i < i + l.length
  | [], _, _, _, h => h
  | x :: l, b, a, i, h => by
    rw [am]
    have h1 := am_lt l x i (i + 1) (by omega)
    have h2 := am_lt l b a (i + 1) (by omega)
    rw [List.length_cons]
    split <;> omega
theorem amax_lt {l : List Int} (h : l ≠ []) : amax l < l.length := by
  cases l with
  | nil => exact absurd rfl h
  | cons x l =>
    unfold amax
    rw [am, Nat.zero_add]
    have h1 := am_lt l x 0 1 (by omega)
    have h2 := am_lt l (-1) 0 1 (by omega)
    rw [List.length_cons]
    split <;> omega
def ixI (v : Int) : List Int → Option Nat
  | [] => none
  | y :: ys => if y = v then some 0 else (ixI v ys).map (· + 1)
theorem idxOf_ints (v : Int) : ∀ l : List Int, idxOf (.int v) (l.map D.int) = ixI v l
  | [] => rfl
  | y :: ys => by
    rw [List.map_cons, idxOf, ixI, idxOf_ints v ys, eqv_int]
    by_cases h : y = v
    · rw [if_pos h, if_pos (by simpa using h)]
    · rw [if_neg h, if_neg (by simpa using h)]
theorem ixI_app {v : Int} {a : Nat} : ∀ {p q : List Int}, ixI v p = some a → ixI v (p ++ q) = some a
  | y :: ys, q, h => by
    rw [List.cons_append]
    unfold ixI at h ⊢
    split
    · rename_i e; rw [if_pos e] at h; exact h
    · rename_i e
      rw [if_neg e] at h
      cases e2 : ixI v ys with
      | none => rw [e2] at h; cases h
      | some b => rw [e2] at h; rw [ixI_app e2]; exact h
theorem ixI_new {v : Int} : ∀ {p : List Int}, (∀ z ∈ p, z < v) → ixI v (p ++ [v]) = some p.length
  | [], _ => by simp [ixI]
  | y :: ys, h => by
    have h0 := h y List.mem_cons_self
    rw [List.cons_append, ixI, if_neg (by omega), ixI_new fun z hz => h z (List.mem_cons_of_mem _ hz)]
    rfl
theorem am_ix : ∀ (l p : List Int) (b : Int) (a : Nat), (∀ z ∈ p, z ≤ b) → ixI b p = some a → ixI (l.foldl (fun a b => if b > a then b else a) b) (p ++ l) = some (am l b a p.length)
  | [], p, b, a, _, h => by rw [List.append_nil]; exact h
  | y :: l, p, b, a, hp, h => by
    have e : p ++ y :: l = (p ++ [y]) ++ l := by simp
    have el : (p ++ [y]).length = p.length + 1 := by simp
    rw [List.foldl_cons, am, e]
    by_cases hy : y > b
    · rw [if_pos hy, if_pos hy, am_ix l (p ++ [y]) y p.length (fun z hz => by
        rcases List.mem_append.mp hz with hz | hz
        · have := hp z hz; omega
        · rw [List.mem_singleton.mp hz]; omega) (ixI_new fun z hz => by have := hp z hz; omega), el]
    · rw [if_neg hy, if_neg hy, am_ix l (p ++ [y]) b a (fun z hz => by
        rcases List.mem_append.mp hz with hz | hz
        · exact hp z hz
        · rw [List.mem_singleton.mp hz]; omega) (ixI_app h), el]
theorem amax_ix {l : List Int} (h : l ≠ []) (h2 : ∀ x ∈ l, 0 ≤ x) : ixI (maxL l) l = some (amax l) := by
  cases l with
  | nil => exact absurd rfl h
  | cons x l =>
    have h0 := h2 x List.mem_cons_self
    unfold amax maxL
    rw [am, if_pos (by omega)]
    exact am_ix l [x] x 0 (fun z hz => by rw [List.mem_singleton.mp hz]; omega) (by simp [ixI])
section
variable {rs : List (List Int)} {q : List Int} (hrs : ∀ r ∈ rs, r.length = q.length) (h0 : rs ≠ [])
include hrs h0
theorem getD_len {k : Nat} (hk : k < rs.length) : (rs.getD k []).length = q.length := by
  rw [List.getD_eq_getElem?_getD, List.getElem?_eq_getElem hk]
  exact hrs _ (List.getElem_mem hk)
omit hrs in
theorem amax_rs (w : List Int) : amax (sums rs q w) < rs.length := by
  have := amax_lt (l := sums rs q w) (by simpa [sums] using h0)
  simpa [sums] using this
theorem play_len (n : Nat) : (playN rs q n).2.length = q.length := by
  induction n with
  | zero => simp [playN]
  | succ n ih => exact dbl_len _ _ _ (getD_len hrs h0 (amax_rs h0 _)) ih
omit hrs h0 in
theorem play_nn (n : Nat) : ∀ x ∈ (playN rs q n).2, 0 ≤ x := by
  induction n with
  | zero => intro x hx; rw [playN] at hx; rw [List.eq_of_mem_replicate hx]; omega
  | succ n ih => exact dbl_nn _ _ _ ih
omit hrs in
theorem play_lt (n : Nat) : ∀ x ∈ (playN rs q n).1, x < rs.length := by
  induction n with
  | zero => intro x hx; cases hx
  | succ n ih =>
    intro x hx
    rcases List.mem_append.mp hx with hx | hx
    · exact ih x hx
    · rw [List.mem_singleton.mp hx]; exact amax_rs h0 _
omit hrs h0 in
theorem play_num (n : Nat) : (playN rs q n).1.length = n := by
  induction n with
  | zero => rfl
  | succ n ih => rw [playN, List.length_append, ih]; rfl
omit hrs h0 in
theorem play_pre (n : Nat) : ∀ m, (playN rs q (n + m)).1.take n = (playN rs q n).1
  | 0 => by have := play_num (rs := rs) (q := q) n
            rw [List.take_of_length_le (by rw [Nat.add_zero, this]; exact Nat.le_refl _)]; rfl
  | m + 1 => by
    rw [← Nat.add_assoc, playN, List.take_append_of_le_length (by rw [play_num]; omega), play_pre n m]
def wr (rs : List (List Int)) (q : List Int) (ns : List Nat) (k : Nat) : Nat := (ns.filter fun a => (rs.getD a []).getD k 0 != q.getD k 0).length
theorem play_wr (n : Nat) : (playN rs q n).2 = (List.range q.length).map fun k => (2 : Int) ^ wr rs q (playN rs q n).1 k := by
  induction n with
  | zero =>
    apply List.ext_getElem
    · simp [playN]
    · intro i h1 h2
      simp [playN, wr]
  | succ n ih =>
    have hl := play_len hrs h0 n
    rw [playN]
    show dbl _ _ _ = _
    rw [dbl_eq _ _ _ (getD_len hrs h0 (amax_rs h0 _)) hl]
    apply List.map_congr_left
    intro k hk
    have hk := List.mem_range.mp hk
    have e1 : (playN rs q n).2.getD k 0 = (2 : Int) ^ wr rs q (playN rs q n).1 k := by
      conv => lhs; rw [ih]
      rw [List.getD_eq_getElem?_getD, List.getElem?_map, List.getElem?_range hk]
      rfl
    rw [e1]
    generalize amax (sums rs q (playN rs q n).2) = a
    unfold wr
    rw [List.filter_append, List.length_append]
    by_cases h : (rs.getD a []).getD k 0 = q.getD k 0
    · rw [if_pos h]
      have : ([a].filter fun a => (rs.getD a []).getD k 0 != q.getD k 0) = [] := by
        rw [List.filter_cons, if_neg (by rw [h]; simp)]; rfl
      rw [this]
      rfl
    · rw [if_neg h]
      have : ([a].filter fun a => (rs.getD a []).getD k 0 != q.getD k 0) = [a] := by
        rw [List.filter_cons, if_pos (by simpa using h)]; rfl
      rw [this, List.length_singleton, Int.pow_succ, Int.mul_comm]
end
end Lw
end
section
set_option Elab.async false
set_option linter.all false
set_option maxRecDepth 100000
namespace Py
open PySem
/-! ### sorted rows -/
theorem lexLt_asymm : ∀ x y : List Int, lexLt x y = true → lexLt y x = false
  | [], [], h => by cases h
  | [], _ :: _, _ => rfl
  | _ :: _, [], h => by cases h
  | x :: xs, y :: ys, h => by
    unfold lexLt at h ⊢
    by_cases e : x = y
    · rw [if_pos e] at h
      rw [if_pos e.symm]
      exact lexLt_asymm xs ys h
    · rw [if_neg e] at h
      rw [if_neg (fun h => e h.symm)]
      have := of_decide_eq_true h
      exact decide_eq_false (by omega)
theorem lexLe_total {x y : List Int} (h : lexLe x y = false) : lexLe y x = true := by
  unfold lexLe at h ⊢
  have h : lexLt y x = true := by simpa using h
  rw [lexLt_asymm _ _ h]
  rfl
def Chain : List (List Int) → Prop
  | [] => True
  | [_] => True
  | x :: y :: l => lexLe x y = true ∧ Chain (y :: l)
theorem chain_tail {x : List Int} {l : List (List Int)} (h : Chain (x :: l)) : Chain l := by
  cases l with
  | nil => trivial
  | cons y l => exact h.2
theorem sortRows_chain : ∀ {l : List (List Int)}, Chain l → sortRows l = l
  | [], _ => rfl
  | [x], _ => rfl
  | x :: y :: l, h => by
    rw [sortRows, sortRows_chain (chain_tail h), insRow, if_pos h.1]
theorem insRow_head (x : List Int) : ∀ l : List (List Int), (∃ t, insRow x l = x :: t) ∨ (∃ y t s, l = y :: s ∧ insRow x l = y :: t)
  | [] => .inl ⟨[], rfl⟩
  | y :: ys => by
    unfold insRow
    split
    · exact .inl ⟨_, rfl⟩
    · exact .inr ⟨y, _, ys, rfl, rfl⟩
theorem insRow_chain (x : List Int) : ∀ {l : List (List Int)}, Chain l → Chain (insRow x l)
  | [], _ => trivial
  | y :: ys, h => by
    unfold insRow
    split
    · rename_i e
      exact ⟨e, h⟩
    · rename_i e
      have ih := insRow_chain x (chain_tail h)
      have e : lexLe y x = true := lexLe_total (by simpa using e)
      rcases insRow_head x ys with ⟨t, ht⟩ | ⟨z, t, s, hs, ht⟩
      · rw [ht] at ih ⊢
        exact ⟨e, ih⟩
      · subst hs
        rw [ht] at ih ⊢
        exact ⟨h.1, ih⟩
theorem chain_sort : ∀ l : List (List Int), Chain (sortRows l)
  | [] => trivial
  | x :: l => insRow_chain x (chain_sort l)
theorem mem_insRow {x z : List Int} : ∀ {l : List (List Int)}, z ∈ insRow x l ↔ z = x ∨ z ∈ l
  | [] => by simp [insRow]
  | y :: ys => by
    unfold insRow
    split
    · simp
    · simp [mem_insRow (l := ys)]
      constructor
      · rintro (h | h | h)
        · exact .inr (.inl h)
        · exact .inl h
        · exact .inr (.inr h)
      · rintro (h | h | h)
        · exact .inr (.inl h)
        · exact .inl h
        · exact .inr (.inr h)
theorem mem_sort {z : List Int} : ∀ {l : List (List Int)}, z ∈ sortRows l ↔ z ∈ l
  | [] => Iff.rfl
  | x :: l => by rw [sortRows, mem_insRow, mem_sort (l := l), List.mem_cons]
theorem len_insRow (x : List Int) : ∀ l : List (List Int), (insRow x l).length = l.length + 1
  | [] => rfl
  | y :: ys => by
    unfold insRow
    split
    · rfl
    · rw [List.length_cons, len_insRow x ys]; rfl
theorem len_sort : ∀ l : List (List Int), (sortRows l).length = l.length
  | [] => rfl
  | x :: l => by rw [sortRows, len_insRow, len_sort l]; rfl
theorem nodup_insRow {x : List Int} : ∀ {l : List (List Int)}, l.Nodup → x ∉ l → (insRow x l).Nodup
  | [], _, _ => by simp [insRow]
  | y :: ys, h, hx => by
    have h' := List.nodup_cons.mp h
    unfold insRow
    split
    · exact List.nodup_cons.mpr ⟨hx, h⟩
    · refine List.nodup_cons.mpr ⟨fun hm => ?_, nodup_insRow h'.2 fun hm => hx (List.mem_cons_of_mem _ hm)⟩
      rcases mem_insRow.mp hm with rfl | hm
      · exact hx List.mem_cons_self
      · exact h'.1 hm
theorem nodup_sort : ∀ {l : List (List Int)}, l.Nodup → (sortRows l).Nodup
  | [], _ => List.nodup_nil
  | x :: l, h => nodup_insRow (nodup_sort (List.nodup_cons.mp h).2) fun hm => (List.nodup_cons.mp h).1 (mem_sort.mp hm)
theorem firstMet_nodup : ∀ {l : List (List Int)}, l.Nodup → firstMet l = l
  | [], _ => rfl
  | x :: l, h => by
    have h' := List.nodup_cons.mp h
    rw [firstMet, firstMet_nodup h'.2]
    congr 1
    apply List.filter_eq_self.mpr
    intro a ha
    have : a ≠ x := fun e => h'.1 (e ▸ ha)
    simpa using this
theorem rowsOf_mapR : ∀ l : List (List Int), rowsOf (l.map rowD) = some l
  | [] => rfl
  | x :: l => by
    rw [List.map_cons]
    show (gInts (x.map D.int)).bind _ = _
    rw [gInts_map, rowsOf_mapR l]
    rfl
/-- rows that sorted takes: bits, of one length -/
theorem sortedD_rows {l : List (List Int)} {s : Nat} (h0 : l ≠ []) (h : l.length < 64) (hl : ∀ r ∈ l, r.length = s) (hb : ∀ r ∈ l, ∀ x ∈ r, (0 : Int) ≤ x) (hn : l.Nodup) : sortedD (l.map rowD) = some (.lst ((sortRows l).map rowD)) := by
  cases l with
  | nil => exact absurd rfl h0
  | cons r l =>
    have h1 : gInts ((r :: l).map rowD) = none := rfl
    unfold sortedD
    rw [h1, rowsOf_mapR]
    show (if _ then _ else _) = _
    rw [if_pos]
    cases l with
    | nil => rfl
    | cons r2 l =>
      have hs : 1 ≤ s := by
        apply Nat.one_le_iff_ne_zero.mpr
        intro e
        subst e
        have e1 := List.length_eq_zero_iff.mp (hl r List.mem_cons_self)
        have e2 := List.length_eq_zero_iff.mp (hl r2 (List.mem_cons_of_mem _ List.mem_cons_self))
        exact (List.nodup_cons.mp hn).1 (by rw [e1, e2]; exact List.mem_cons_self)
      have e1 : nnRows (r :: r2 :: l) = true := List.all_eq_true.mpr fun x hx => List.all_eq_true.mpr fun i hi => decide_eq_true (hb x hx i hi)
      have e2 : (r :: r2 :: l).all (fun x => decide (1 ≤ x.length ∧ x.length = ((r :: r2 :: l).headD []).length)) = true := List.all_eq_true.mpr fun x hx => decide_eq_true ⟨by rw [hl x hx]; exact hs, by rw [hl x hx]; exact (hl r List.mem_cons_self).symm⟩
      rw [e1, e2, decide_eq_true h]
      simp
/-- a comprehension that changes things as it goes -/
theorem compLoop_inv {f : D → Env → R (List D)} {I : Env → Prop} {P : D → Prop} : ∀ (ds : List D) (G : Env), I G → (∀ d ∈ ds, ∀ G, I G → ∃ G' x, f d G = .ok G' [x] ∧ I G' ∧ P x) → ∃ G' xs, compLoop f ds G = .ok G' xs ∧ I G' ∧ (∀ x ∈ xs, P x) ∧ xs.length = ds.length
  | [], G, h, _ => ⟨G, [], rfl, h, nofun, rfl⟩
  | d :: ds, G, h, H => by
    obtain ⟨G1, x, e1, i1, p1⟩ := H d List.mem_cons_self G h
    obtain ⟨G2, xs, e2, i2, p2, l2⟩ := compLoop_inv ds G1 i1 fun e he => H e (List.mem_cons_of_mem _ he)
    refine ⟨G2, x :: xs, ?_, i2, ?_, congrArg (· + 1) l2⟩
    · rw [compLoop, e1]
      show (compLoop f ds G1).bind _ = _
      rw [e2]
      rfl
    · intro y hy
      rcases List.mem_cons.mp hy with rfl | hy
      · exact p1
      · exact p2 y hy
theorem ev_lcD {C : Ctx} {orc : Orc} {own : List Nat} {tg : Tg} {it : It} {elt : E} {G G1 : Env} {ds : List D} {b : Bool} (I : Env → Prop) (P : D → Prop) (hit : evIt C orc it G = .ok G1 (ds, b)) (hb : (b && !(E.mfL [] && elt.mf)) = false) (ha : anyOw G1 own = false) (hi : I (wipe G1 own))
    (hs : ∀ d ∈ ds, ∀ G, I G → ∃ G' x, lcStep C orc own tg [] elt d G = .ok G' [x] ∧ I G' ∧ P x) (hl : ds.length ≤ 1000000) :
    ∃ G2 xs, ev C orc (.lc own tg it [] elt) G = .ok (unwipe G1 G2 own) (.lst xs, false) ∧ I G2 ∧ (∀ x ∈ xs, P x) ∧ xs.length = ds.length := by
  obtain ⟨G2, xs, e, i2, p2, l2⟩ := compLoop_inv (f := lcStep C orc own tg [] elt) ds (wipe G1 own) hi hs
  refine ⟨G2, xs, ?_, i2, p2, l2⟩
  rw [ev, hit]
  show (if _ then R.bad else R.bind (compLoop (lcStep C orc own tg [] elt) ds (wipe G1 own)) _) = _
  have e4 : lenOk xs.length = true := by
    rw [l2]
    exact decide_eq_true (by show _ ≤ 16777216; omega)
  rw [e]
  simp only [hb, ha, Bool.or_false, Bool.false_eq_true, if_false, R.bind_ok, e4, if_true]
/-- .. over range -/
theorem ev_lcDr {C : Ctx} {orc : Orc} {v : Nat} {a elt : E} {G G1 : Env} {b : Bool} {n : Nat} (I : Env → Prop) (P : D → Prop) (h1 : ev C orc a G = .ok G1 (.int n, b)) (hn : n ≤ 1000000) (ha : anyOw G1 [v] = false) (hi : I (wipe G1 [v]))
    (hs : ∀ k : Nat, k < n → ∀ G, I G → ∃ G' x, lcStep C orc [v] (.n v) [] elt (.int k) G = .ok G' [x] ∧ I G' ∧ P x) :
    ∃ G2 xs, ev C orc (.lc [v] (.n v) (.rng1 a) [] elt) G = .ok (unwipe G1 G2 [v]) (.lst xs, false) ∧ I G2 ∧ (∀ x ∈ xs, P x) ∧ xs.length = n := by
  have := ev_lcD (C := C) (orc := orc) (own := [v]) (tg := .n v) (elt := elt) I P (evIt_rng1 h1 (rngOk_nat n hn)) (by simp) ha hi (fun d hd G hG => by
    obtain ⟨k, hk, rfl⟩ := List.mem_map.mp hd
    exact hs k (List.mem_range.mp hk) G hG) (by simpa using hn)
  simpa using this
end Py
end
section
set_option linter.all false
set_option maxRecDepth 100000
set_option maxHeartbeats 4000000
namespace Lw
open Py PySem
variable {C : Py.Ctx} {orc : Orc}
def box (cs : List Int) (d r a : Int) : M := .lst [.leaf (.lst (cs.map D.int)), .leaf (.int d), .leaf (.int r), .leaf (.int a)]
theorem idx0 (n : Nat) (i : Int) (h : 0 ≤ i) (h2 : i < n) : ixN n i = some i.toNat := by
  unfold ixN
  rw [if_pos h, if_pos h2]
/-- the turn of _law_draw's loop -/
def drawBody : List S := match F__law_draw.body with
  | [_, _, .for_ _ _ b, _, _, _, _, _, _, _] => b
  | _ => []
theorem atI_int {cs : List Int} {i : Int} (h : 0 ≤ i) (h2 : i < cs.length) : ∃ c, atI (cs.map D.int) i = some (.int c) := by
  unfold atI
  rw [List.length_map, idx0 _ _ h h2]
  have hl : i.toNat < cs.length := by omega
  refine ⟨cs[i.toNat], ?_⟩
  show (cs.map D.int)[i.toNat]? = _
  rw [List.getElem?_map, List.getElem?_eq_getElem hl]
  rfl
theorem drawBody_ok (cs : List Int) (d r a lim : Int) (x4 x5 x6 : Slot) (k : Int) (hr : 0 ≤ r) (ha : 0 ≤ a) (ha2 : a ≤ cs.length) :
    ∃ r' a' o, evSs C orc drawBody [.ow (box cs d r a), .sh (.int lim), .sh (.lst (cs.map D.int)), .sh (.int k), x4, x5, x6] = .ok [.ow (box cs d r' a'), .sh (.int lim), .sh (.lst (cs.map D.int)), .sh (.int k), x4, x5, x6] o ∧ (o = .next ∨ o = .brk) ∧ 0 ≤ r' ∧ 0 ≤ a' ∧ a' ≤ cs.length := by
  by_cases h1 : 0 < r
  · refine ⟨r, a, .brk, ?_, .inr rfl, hr, ha, ha2⟩
    simp [drawBody, F__law_draw, evSs, evS, evT, ev, evs, R.bind, R.ofO, readM, Slot.path, M.path, box, mIndex, ixN, M.val, E.mf, cmpop, truth, h1, fl, D.imm]
  · by_cases h2 : (cs.length : Int) ≤ a
    · refine ⟨r, a, .brk, ?_, .inr rfl, hr, ha, ha2⟩
      simp [drawBody, F__law_draw, evSs, evS, evT, ev, evs, R.bind, R.ofO, readM, Slot.path, M.path, box, mIndex, ixN, M.val, E.mf, cmpop, truth, h1, h2, fl, D.imm, bltC, notIns, bltin]
    · obtain ⟨c, hc⟩ := atI_int (cs := cs) ha (by omega)
      have hp : binop .pow (.int 10) (.int 18) = some (.int 1000000000000000000) := by rfl
      by_cases h3 : (1000000000000000000 : Int) ≤ (if c < 0 then -c else c)
      · refine ⟨if c < 0 then -c else c, a + 1, .next, ?_, .inl rfl, by split <;> omega, by omega, by omega⟩
        simp [drawBody, F__law_draw, evSs, evS, evT, ev, evs, R.bind, R.ofO, readM, Slot.path, M.path, box, mIndex, ixN, M.val, E.mf, E.mfL, cmpop, truth, h1, h2, fl, D.imm, bltC, notIns, bltin, index, hc, hp, h3, updPl, M.upd, setM, allLeaf]
        simp [binop, allLeaf, M.path]
      · refine ⟨r, a + 1, .next, ?_, .inl rfl, hr, by omega, by omega⟩
        simp [drawBody, F__law_draw, evSs, evS, evT, ev, evs, R.bind, R.ofO, readM, Slot.path, M.path, box, mIndex, ixN, M.val, E.mf, E.mfL, cmpop, truth, h1, h2, fl, D.imm, bltC, notIns, bltin, index, hc, hp, h3, updPl, M.upd, setM, allLeaf]
        simp [binop, allLeaf, M.path]
theorem drawLoop_ok (cs : List Int) (d r a lim : Int) (x3 x4 x5 x6 : Slot) (hcs : cs.length ≤ 1000) (hr : 0 ≤ r) (ha : 0 ≤ a) (ha2 : a ≤ cs.length) :
    ∃ r' a' x3', evS C orc (.for_ (.n 3) (.rng1 (.blt .len [.var 2])) drawBody) [.ow (box cs d r a), .sh (.int lim), .sh (.lst (cs.map D.int)), x3, x4, x5, x6] = .ok [.ow (box cs d r' a'), .sh (.int lim), .sh (.lst (cs.map D.int)), x3', x4, x5, x6] .next ∧ 0 ≤ r' ∧ 0 ≤ a' ∧ a' ≤ cs.length := by
  have e1 : ev C orc (.blt .len [.var 2]) [.ow (box cs d r a), .sh (.int lim), .sh (.lst (cs.map D.int)), x3, x4, x5, x6] = .ok [.ow (box cs d r a), .sh (.int lim), .sh (.lst (cs.map D.int)), x3, x4, x5, x6] (.int cs.length, false) := by
    simp [ev, evs, R.bind, R.ofO, bltC, notIns, bltin, fl]
  have e2 := evIt_rng1 e1 (rngOk_nat cs.length (by omega))
  let J : Py.Env → Prop := fun G => ∃ r' a' x3', G = [.ow (box cs d r' a'), .sh (.int lim), .sh (.lst (cs.map D.int)), x3', x4, x5, x6] ∧ 0 ≤ r' ∧ 0 ≤ a' ∧ a' ≤ cs.length
  obtain ⟨G', e3, r', a', x3', rfl, j1, j2, j3⟩ := forLoop_brk (asgn := asgT (.n 3)) (body := evSs C orc drawBody) (fun (ds : List D) (G : Py.Env) => (∀ d ∈ ds, ∃ k : Int, d = .int k) ∧ J G) J (fun G h => h.2) (fun d' ds G h => by
    obtain ⟨h1, r', a', x3', rfl, j1, j2, j3⟩ := h
    obtain ⟨k, rfl⟩ := h1 d' List.mem_cons_self
    obtain ⟨r2, a2, o, e, ho, k1, k2, k3⟩ := drawBody_ok (C := C) (orc := orc) cs d r' a' lim x4 x5 x6 k j1 j2 j3
    refine ⟨_, _, o, by simp [asgT], e, ?_⟩
    rcases ho with rfl | rfl
    · exact .inl ⟨rfl, fun e he => h1 e (List.mem_cons_of_mem _ he), r2, a2, _, rfl, k1, k2, k3⟩
    · exact .inr ⟨rfl, r2, a2, _, rfl, k1, k2, k3⟩) ((List.range cs.length).map fun k : Nat => D.int k) _ ⟨fun d' hd' => by
      obtain ⟨k, _, rfl⟩ := List.mem_map.mp hd'
      exact ⟨k, rfl⟩, r, a, x3, rfl, hr, ha, ha2⟩
  refine ⟨r', a', x3', ?_, j1, j2, j3⟩
  rw [evS, e2]
  show (if false = true then R.bad else _) = _
  rw [if_neg (by simp)]
  exact e3
def Bx (cs : List Int) (m : M) : Prop := ∃ d r a, m = box cs d r a ∧ 0 ≤ d ∧ 0 ≤ r ∧ 0 ≤ a ∧ a ≤ cs.length
theorem evSs_app {s1 s2 : S} {ss : List S} {G G1 : Py.Env} (h : evSs C orc [s1, s2] G = .ok G1 .next) : evSs C orc (s1 :: s2 :: ss) G = evSs C orc ss G1 := by
  simp only [evSs] at h ⊢
  cases e : evS C orc s1 G with
  | bad => rw [e] at h; cases h
  | ok G2 o =>
    rw [e] at h
    cases o <;> simp only [R.bind] at h ⊢ <;> try (cases h; done)
    cases e2 : evS C orc s2 G2 with
    | bad => rw [e2] at h; cases h
    | ok G3 o =>
      rw [e2] at h
      cases o <;> simp only [R.bind] at h ⊢ <;> cases h
      rfl
theorem mulOk_small {i j : Int} (h1 : 0 ≤ i) (h2 : i < 18446744073709551616) : mulOk i j = true := by
  unfold mulOk
  rw [ltp_of (by decide) (by have : (2 : Nat) ^ 64 = 18446744073709551616 := by decide
                             omega)]
  rfl
theorem fdivB {i j : Int} (h : 0 < j) (h2 : j.natAbs.log2 < 9000) : binop .fdiv (.int i) (.int j) = some (.int (i / j)) := by
  show (if _ then _ else _) = _
  rw [if_pos (by simp [h, h2])]
theorem modB {i j : Int} (h : 0 < j) : binop .mod (.int i) (.int j) = some (.int (i % j)) := by
  show (if _ then _ else _) = _
  rw [if_pos (by simp [h])]
theorem draw_ok (cs : List Int) (hcs : cs.length ≤ 1000) (lim : Int) (hl : 1 ≤ lim) (hl2 : lim.natAbs.log2 < 9000) (m : M) (hm : Bx cs m) : ∃ m' x, runFn C orc F__law_draw [.ow m, .sh (.int lim)] = .ok [.ow m', .dead] (.int x) ∧ Bx cs m' ∧ 0 ≤ x ∧ x < lim := by
  obtain ⟨d, r, a, rfl, hd, hr, ha, ha2⟩ := hm
  obtain ⟨r', a', x3', e3, hr', ha', ha2'⟩ := drawLoop_ok (C := C) (orc := orc) cs (d + 1) r a lim .dead .dead .dead .dead hcs hr ha ha2
  have m1 := fun i => modB (i := i) (j := lim) (by omega)
  have m2 := fun i => fdivB (i := i) (j := lim) (by omega) hl2
  have hE : enter 7 [.ow (box cs d r a), .sh (.int lim)] = [.ow (box cs d r a), .sh (.int lim), .dead, .dead, .dead, .dead, .dead] := rfl
  by_cases hp : 0 < r'
  · refine ⟨box cs (d + 1) (r' / lim) a', r' % lim, ?_, ⟨_, _, _, rfl, by omega, Int.ediv_nonneg (by omega) (by omega), ha', ha2'⟩, Int.emod_nonneg _ (by omega), Int.emod_lt_of_pos _ (by omega)⟩
    have : evSs C orc F__law_draw.body (enter F__law_draw.n [.ow (box cs d r a), .sh (.int lim)]) = .ok [.ow (box cs (d + 1) (r' / lim) a'), .sh (.int lim), .sh (.lst (cs.map D.int)), x3', .dead, .dead, .sh (.int (r' % lim))] (.ret (.int (r' % lim))) := by
      show evSs C orc F__law_draw.body (enter 7 _) = _
      rw [hE]
      unfold F__law_draw
      rw [evSs_next (G1 := [.ow (box cs d r a), .sh (.int lim), .sh (.lst (cs.map D.int)), .dead, .dead, .dead, .dead]) (by simp [evSs, evS, evT, evI, ev, evs, evA, evIfs, evSq, evIt, R.bind, R.ofO, readM, readPl, Slot.path, M.path, mIndex, ixN, M.val, M.seq, E.mf, E.mfL, It.mf, cmpop, truth, fl, D.imm, D.immL, bltC, notIns, bltin, index, updPl, M.upd, setM, allLeaf, callOw, outsA, backA, Slot.isOw, D.tyOk, D.hasTy, asgT, asgL, own1, isLst, mutM, M.fz, M.fzL, items, D.asInt, binop, eqd, D.eqOk, D.eqv, box])]
      rw [evSs_next (G1 := [.ow (box cs (d + 1) r a), .sh (.int lim), .sh (.lst (cs.map D.int)), .dead, .dead, .dead, .dead]) (by simp [evSs, evS, evT, evI, ev, evs, evA, evIfs, evSq, evIt, R.bind, R.ofO, readM, readPl, Slot.path, M.path, mIndex, ixN, M.val, M.seq, E.mf, E.mfL, It.mf, cmpop, truth, fl, D.imm, D.immL, bltC, notIns, bltin, index, updPl, M.upd, setM, allLeaf, callOw, outsA, backA, Slot.isOw, D.tyOk, D.hasTy, asgT, asgL, own1, isLst, mutM, M.fz, M.fzL, items, D.asInt, binop, eqd, D.eqOk, D.eqv, box])]
      refine (evSs_next e3).trans ?_
      have h1 := m1 r'
      have h2 := m2 r'
      simp [evSs, evS, evT, ev, evs, R.bind, R.ofO, readM, Slot.path, M.path, box, mIndex, ixN, M.val, E.mf, E.mfL, cmpop, truth, hp, fl, D.imm, bltC, notIns, bltin, h1, h2, updPl, M.upd, setM, allLeaf, asgT]
    rw [runFn, this]
    simp [F__law_draw, ioOk, leave]
  · have hc : ∃ c : Int, evSs C orc [.asg (.n 4) (.con (.int 0)), .ite (.cmp .gt (.blt .len [.var 2]) (.con (.int 0))) [.asg (.n 4) (.blt .abs [.idx (.var 2) (.bin .mod (.blt .int [.idx (.pth 0 []) (.con (.int 1))]) (.blt .len [.var 2]))])] []] [.ow (box cs (d + 1) r' a'), .sh (.int lim), .sh (.lst (cs.map D.int)), x3', .dead, .dead, .dead] = .ok [.ow (box cs (d + 1) r' a'), .sh (.int lim), .sh (.lst (cs.map D.int)), x3', .sh (.int c), .dead, .dead] .next := by
      by_cases h0 : 0 < cs.length
      · have h5 := modB (i := d + 1) (j := cs.length) (by omega)
        obtain ⟨c, hc⟩ := atI_int (cs := cs) (i := (d + 1) % cs.length) (Int.emod_nonneg _ (by omega)) (Int.emod_lt_of_pos _ (by omega))
        refine ⟨if c < 0 then -c else c, ?_⟩
        have h0' : (0 : Int) < cs.length := by omega
        simp [evSs, evS, evT, ev, evs, R.bind, R.ofO, readM, Slot.path, M.path, box, mIndex, ixN, M.val, E.mf, E.mfL, cmpop, truth, h0, fl, D.imm, bltC, notIns, bltin, h5, asgT, index, hc]
      · refine ⟨0, ?_⟩
        simp [evSs, evS, evT, ev, evs, R.bind, R.ofO, readM, Slot.path, M.path, box, mIndex, ixN, M.val, E.mf, E.mfL, cmpop, truth, h0, fl, D.imm, bltC, notIns, bltin, asgT, index]
    obtain ⟨c, hc⟩ := hc
    refine ⟨box cs (d + 1) r' a', _, ?_, ⟨_, _, _, rfl, by omega, hr', ha', ha2'⟩, Int.emod_nonneg (((((c * 48271 + (d + 1) * 69621 + 13) % 2147483647 * ((c * 48271 + (d + 1) * 69621 + 13) % 2147483647) + (d + 1) * 30011 + 7) % 2147483629 * 16807 + c / 7 + 5) % 998244353) / 5) (by omega), Int.emod_lt_of_pos _ (by omega)⟩
    have : evSs C orc F__law_draw.body (enter F__law_draw.n [.ow (box cs d r a), .sh (.int lim)]) = .ok [.ow (box cs (d + 1) r' a'), .sh (.int lim), .sh (.lst (cs.map D.int)), x3', .sh (.int c), .sh (.int (((((c * 48271 + (d + 1) * 69621 + 13) % 2147483647 * ((c * 48271 + (d + 1) * 69621 + 13) % 2147483647) + (d + 1) * 30011 + 7) % 2147483629 * 16807 + c / 7 + 5) % 998244353))), .dead] (.ret (.int (((((c * 48271 + (d + 1) * 69621 + 13) % 2147483647 * ((c * 48271 + (d + 1) * 69621 + 13) % 2147483647) + (d + 1) * 30011 + 7) % 2147483629 * 16807 + c / 7 + 5) % 998244353) / 5 % lim))) := by
      show evSs C orc F__law_draw.body (enter 7 _) = _
      rw [hE]
      unfold F__law_draw
      rw [evSs_next (G1 := [.ow (box cs d r a), .sh (.int lim), .sh (.lst (cs.map D.int)), .dead, .dead, .dead, .dead]) (by simp [evSs, evS, evT, evI, ev, evs, evA, evIfs, evSq, evIt, R.bind, R.ofO, readM, readPl, Slot.path, M.path, mIndex, ixN, M.val, M.seq, E.mf, E.mfL, It.mf, cmpop, truth, fl, D.imm, D.immL, bltC, notIns, bltin, index, updPl, M.upd, setM, allLeaf, callOw, outsA, backA, Slot.isOw, D.tyOk, D.hasTy, asgT, asgL, own1, isLst, mutM, M.fz, M.fzL, items, D.asInt, binop, eqd, D.eqOk, D.eqv, box])]
      rw [evSs_next (G1 := [.ow (box cs (d + 1) r a), .sh (.int lim), .sh (.lst (cs.map D.int)), .dead, .dead, .dead, .dead]) (by simp [evSs, evS, evT, evI, ev, evs, evA, evIfs, evSq, evIt, R.bind, R.ofO, readM, readPl, Slot.path, M.path, mIndex, ixN, M.val, M.seq, E.mf, E.mfL, It.mf, cmpop, truth, fl, D.imm, D.immL, bltC, notIns, bltin, index, updPl, M.upd, setM, allLeaf, callOw, outsA, backA, Slot.isOw, D.tyOk, D.hasTy, asgT, asgL, own1, isLst, mutM, M.fz, M.fzL, items, D.asInt, binop, eqd, D.eqOk, D.eqv, box])]
      refine (evSs_next e3).trans ?_
      rw [evSs_next (G1 := [.ow (box cs (d + 1) r' a'), .sh (.int lim), .sh (.lst (cs.map D.int)), x3', .dead, .dead, .dead]) (by simp [evSs, evS, evT, evI, ev, evs, evA, evIfs, evSq, evIt, R.bind, R.ofO, readM, readPl, Slot.path, M.path, mIndex, ixN, M.val, M.seq, E.mf, E.mfL, It.mf, cmpop, truth, fl, D.imm, D.immL, bltC, notIns, bltin, index, updPl, M.upd, setM, allLeaf, callOw, outsA, backA, Slot.isOw, D.tyOk, D.hasTy, asgT, asgL, own1, isLst, mutM, M.fz, M.fzL, items, D.asInt, binop, eqd, D.eqOk, D.eqv, box, hp])]
      rw [evSs_app hc]
      have n1 : mulOk c 48271 = true := by simp [mulOk]; exact .inr (.inl (by decide))
      have n2 : mulOk (d + 1) 69621 = true := by simp [mulOk]; exact .inr (.inl (by decide))
      have n3 : mulOk ((c * 48271 + (d + 1) * 69621 + 13) % 2147483647) ((c * 48271 + (d + 1) * 69621 + 13) % 2147483647) = true := mulOk_small (by omega) (by omega)
      have n4 : mulOk (d + 1) 30011 = true := by simp [mulOk]; exact .inr (.inl (by decide))
      have n5 : ∀ z, mulOk z 16807 = true := fun z => by simp [mulOk]; exact .inr (.inl (by decide))
      rw [evSs_next (G1 := [.ow (box cs (d + 1) r' a'), .sh (.int lim), .sh (.lst (cs.map D.int)), x3', .sh (.int c), .sh (.int ((c * 48271 + (d + 1) * 69621 + 13) % 2147483647)), .dead]) (by simp [evSs, evS, evT, evI, ev, evs, evA, evIfs, evSq, evIt, R.bind, R.ofO, readM, readPl, Slot.path, M.path, mIndex, ixN, M.val, M.seq, E.mf, E.mfL, It.mf, cmpop, truth, fl, D.imm, D.immL, bltC, notIns, bltin, index, updPl, M.upd, setM, allLeaf, callOw, outsA, backA, Slot.isOw, D.tyOk, D.hasTy, asgT, asgL, own1, isLst, mutM, M.fz, M.fzL, items, D.asInt, binop, eqd, D.eqOk, D.eqv, box, n1, n2])]
      rw [evSs_next (G1 := [.ow (box cs (d + 1) r' a'), .sh (.int lim), .sh (.lst (cs.map D.int)), x3', .sh (.int c), .sh (.int (((c * 48271 + (d + 1) * 69621 + 13) % 2147483647 * ((c * 48271 + (d + 1) * 69621 + 13) % 2147483647) + (d + 1) * 30011 + 7) % 2147483629)), .dead]) (by simp [evSs, evS, evT, evI, ev, evs, evA, evIfs, evSq, evIt, R.bind, R.ofO, readM, readPl, Slot.path, M.path, mIndex, ixN, M.val, M.seq, E.mf, E.mfL, It.mf, cmpop, truth, fl, D.imm, D.immL, bltC, notIns, bltin, index, updPl, M.upd, setM, allLeaf, callOw, outsA, backA, Slot.isOw, D.tyOk, D.hasTy, asgT, asgL, own1, isLst, mutM, M.fz, M.fzL, items, D.asInt, binop, eqd, D.eqOk, D.eqv, box, n3, n4])]
      have m7 : Nat.log2 7 = 2 := by decide
      generalize ((c * 48271 + (d + 1) * 69621 + 13) % 2147483647 * ((c * 48271 + (d + 1) * 69621 + 13) % 2147483647) + (d + 1) * 30011 + 7) % 2147483629 = z
      rw [evSs_next (G1 := [.ow (box cs (d + 1) r' a'), .sh (.int lim), .sh (.lst (cs.map D.int)), x3', .sh (.int c), .sh (.int ((z * 16807 + c / 7 + 5) % 998244353)), .dead]) (by simp [evSs, evS, evT, evI, ev, evs, evA, evIfs, evSq, evIt, R.bind, R.ofO, readM, readPl, Slot.path, M.path, mIndex, ixN, M.val, M.seq, E.mf, E.mfL, It.mf, cmpop, truth, fl, D.imm, D.immL, bltC, notIns, bltin, index, updPl, M.upd, setM, allLeaf, callOw, outsA, backA, Slot.isOw, D.tyOk, D.hasTy, asgT, asgL, own1, isLst, mutM, M.fz, M.fzL, items, D.asInt, binop, eqd, D.eqOk, D.eqv, m7, n5])]
      generalize (z * 16807 + c / 7 + 5) % 998244353 = z2
      have m8 := fdivB (i := z2) (j := 5) (by omega) (by decide)
      have h1 := m1 (z2 / 5)
      simp [evSs, evS, ev, evs, R.bind, R.ofO, E.mf, E.mfL, fl, D.imm, m8, h1, bltC, notIns, bltin, asgT]
    rw [runFn, this]
    simp [F__law_draw, ioOk, leave]
end Lw
end
section
set_option Elab.async false
set_option linter.all false
set_option maxRecDepth 100000
set_option maxHeartbeats 4000000
namespace Lw
open Py PySem
variable {C : Py.Ctx}
/-! ### what is looked at -/
theorem c_is_integer (d : Nat) (i : Int) : callN C fns (d + 1) f_is_integer [.sh (.int i)] = .ok [.dead] (.bl true) := by
  show runFn C _ F_is_integer _ = _
  simp [runFn, F_is_integer, ioOk, enter, leave, evSs, evS, evT, evI, ev, evs, evA, evIfs, evSq, evIt, R.bind, R.ofO, readM, readPl, Slot.path, M.path, mIndex, ixN, M.val, M.seq, E.mf, E.mfL, It.mf, cmpop, truth, fl, D.imm, D.immL, bltC, notIns, bltin, index, updPl, M.upd, setM, allLeaf, callOw, outsA, backA, Slot.isOw, D.tyOk, D.hasTy, asgT, asgL, own1, isLst, mutM, M.fz, M.fzL, items, D.asInt, binop, eqd, D.eqOk, D.eqv, D.fld, fldGet]
theorem c_is_number (d : Nat) (i : Int) (h : 0 ≤ i) : callN C fns (d + 2) f_is_number [.sh (.int i)] = .ok [.dead] (.bl true) := by
  show runFn C _ F_is_number _ = _
  simp [runFn, F_is_number, ioOk, enter, leave, evSs, evS, evT, evI, ev, evs, evA, evIfs, evSq, evIt, R.bind, R.ofO, readM, readPl, Slot.path, M.path, mIndex, ixN, M.val, M.seq, E.mf, E.mfL, It.mf, cmpop, truth, fl, D.imm, D.immL, bltC, notIns, bltin, index, updPl, M.upd, setM, allLeaf, callOw, outsA, backA, Slot.isOw, D.tyOk, D.hasTy, asgT, asgL, own1, isLst, mutM, M.fz, M.fzL, items, D.asInt, binop, eqd, D.eqOk, D.eqv, D.fld, fldGet, c_is_integer, h]
theorem c_is_value (d : Nat) (i : Int) (h : i = 0 ∨ i = 1) : callN C fns (d + 2) f_is_value [.sh (.int i)] = .ok [.dead] (.bl true) := by
  show runFn C _ F_is_value _ = _
  rcases h with rfl | rfl <;> simp [runFn, F_is_value, ioOk, enter, leave, evSs, evS, evT, evI, ev, evs, evA, evIfs, evSq, evIt, R.bind, R.ofO, readM, readPl, Slot.path, M.path, mIndex, ixN, M.val, M.seq, E.mf, E.mfL, It.mf, cmpop, truth, fl, D.imm, D.immL, bltC, notIns, bltin, index, updPl, M.upd, setM, allLeaf, callOw, outsA, backA, Slot.isOw, D.tyOk, D.hasTy, asgT, asgL, own1, isLst, mutM, M.fz, M.fzL, items, D.asInt, binop, eqd, D.eqOk, D.eqv, D.fld, fldGet, c_is_integer]
theorem c_is_number_below (d : Nat) (i n : Int) (h : 0 ≤ i) (h2 : i < n) : callN C fns (d + 2) f_is_number_below [.sh (.int i), .sh (.int n)] = .ok [.dead, .dead] (.bl true) := by
  show runFn C _ F_is_number_below _ = _
  simp [runFn, F_is_number_below, ioOk, enter, leave, evSs, evS, evT, evI, ev, evs, evA, evIfs, evSq, evIt, R.bind, R.ofO, readM, readPl, Slot.path, M.path, mIndex, ixN, M.val, M.seq, E.mf, E.mfL, It.mf, cmpop, truth, fl, D.imm, D.immL, bltC, notIns, bltin, index, updPl, M.upd, setM, allLeaf, callOw, outsA, backA, Slot.isOw, D.tyOk, D.hasTy, asgT, asgL, own1, isLst, mutM, M.fz, M.fzL, items, D.asInt, binop, eqd, D.eqOk, D.eqv, D.fld, fldGet, c_is_integer, h, h2]
def Bits (q : List Int) : Prop := ∀ x ∈ q, x = 0 ∨ x = 1
theorem c_is_row (d : Nat) (q : List Int) (s : Nat) (hq : Bits q) (hs : q.length = s) (h : s ≤ 1000) : callN C fns (d + 3) f_is_row [.sh (rowD q), .sh (.int s)] = .ok [.dead, .dead] (.bl true) := by
  show runFn C _ F_is_row _ = _
  subst hs
  have e := ev_lc1 (C := C) (orc := callN C fns (d + 2)) (v := 2) (it := .e (.var 0)) (ifs := [.not (.call f_is_value [.var 2] [0])]) (elt := .var 2) (G := [.sh (.tup (q.map D.int)), .sh (.int q.length), .dead]) (G1 := [.sh (.tup (q.map D.int)), .sh (.int q.length), .dead]) (ds := q.map D.int) (b := false) (fun _ => false) id
    (by simp [evSs, evS, evT, evI, ev, evs, evA, evIfs, evSq, evIt, R.bind, R.ofO, readM, readPl, Slot.path, M.path, mIndex, ixN, M.val, M.seq, E.mf, E.mfL, It.mf, cmpop, truth, fl, D.imm, D.immL, bltC, notIns, bltin, index, updPl, M.upd, setM, allLeaf, callOw, outsA, backA, Slot.isOw, D.tyOk, D.hasTy, asgT, asgL, own1, isLst, mutM, M.fz, M.fzL, items, D.asInt, binop, eqd, D.eqOk, D.eqv, D.fld, fldGet, rowD]) (by rfl) (by simp) (by rfl) (fun x hx => by
      obtain ⟨i, hi, rfl⟩ := List.mem_map.mp hx
      simp [evSs, evS, evT, evI, ev, evs, evA, evIfs, evSq, evIt, R.bind, R.ofO, readM, readPl, Slot.path, M.path, mIndex, ixN, M.val, M.seq, E.mf, E.mfL, It.mf, cmpop, truth, fl, D.imm, D.immL, bltC, notIns, bltin, index, updPl, M.upd, setM, allLeaf, callOw, outsA, backA, Slot.isOw, D.tyOk, D.hasTy, asgT, asgL, own1, isLst, mutM, M.fz, M.fzL, items, D.asInt, binop, eqd, D.eqOk, D.eqv, D.fld, fldGet, c_is_value d i (hq i hi)]) (fun x hx hh => by cases hh) (by rw [List.length_map]; unfold szLine; omega)
  simp [runFn, F_is_row, ioOk, enter, leave, evSs, evS, evT, evI, ev, evs, evA, evIfs, evSq, evIt, R.bind, R.ofO, readM, readPl, Slot.path, M.path, mIndex, ixN, M.val, M.seq, E.mf, E.mfL, It.mf, cmpop, truth, fl, D.imm, D.immL, bltC, notIns, bltin, index, updPl, M.upd, setM, allLeaf, callOw, outsA, backA, Slot.isOw, D.tyOk, D.hasTy, asgT, asgL, own1, isLst, mutM, M.fz, M.fzL, items, D.asInt, binop, eqd, D.eqOk, D.eqv, D.fld, fldGet, rowD, ↓e]
theorem c_all_below (d : Nat) (ns : List Nat) (n : Nat) (hq : ∀ x ∈ ns, x < n) (h : ns.length ≤ 1000) : callN C fns (d + 3) f_all_below [.sh (.tup (natsD ns)), .sh (.int n)] = .ok [.dead, .dead] (.bl true) := by
  show runFn C _ F_all_below _ = _
  have e := ev_lc1 (C := C) (orc := callN C fns (d + 2)) (v := 2) (it := .e (.var 0)) (ifs := [.not (.call f_is_number_below [.var 2, .var 1] [0, 1])]) (elt := .var 2) (G := [.sh (.tup (natsD ns)), .sh (.int n), .dead]) (G1 := [.sh (.tup (natsD ns)), .sh (.int n), .dead]) (ds := natsD ns) (b := false) (fun _ => false) id
    (by simp [evSs, evS, evT, evI, ev, evs, evA, evIfs, evSq, evIt, R.bind, R.ofO, readM, readPl, Slot.path, M.path, mIndex, ixN, M.val, M.seq, E.mf, E.mfL, It.mf, cmpop, truth, fl, D.imm, D.immL, bltC, notIns, bltin, index, updPl, M.upd, setM, allLeaf, callOw, outsA, backA, Slot.isOw, D.tyOk, D.hasTy, asgT, asgL, own1, isLst, mutM, M.fz, M.fzL, items, D.asInt, binop, eqd, D.eqOk, D.eqv, D.fld, fldGet]) (by rfl) (by simp) (by rfl) (fun x hx => by
      obtain ⟨i, hi, rfl⟩ := List.mem_map.mp hx
      have := hq i hi
      simp [evSs, evS, evT, evI, ev, evs, evA, evIfs, evSq, evIt, R.bind, R.ofO, readM, readPl, Slot.path, M.path, mIndex, ixN, M.val, M.seq, E.mf, E.mfL, It.mf, cmpop, truth, fl, D.imm, D.immL, bltC, notIns, bltin, index, updPl, M.upd, setM, allLeaf, callOw, outsA, backA, Slot.isOw, D.tyOk, D.hasTy, asgT, asgL, own1, isLst, mutM, M.fz, M.fzL, items, D.asInt, binop, eqd, D.eqOk, D.eqv, D.fld, fldGet, c_is_number_below (C := C) d i n (by omega) (by omega)]) (fun x hx hh => by cases hh) (by rw [natsD, List.length_map]; unfold szLine; omega)
  simp [runFn, F_all_below, ioOk, enter, leave, evSs, evS, evT, evI, ev, evs, evA, evIfs, evSq, evIt, R.bind, R.ofO, readM, readPl, Slot.path, M.path, mIndex, ixN, M.val, M.seq, E.mf, E.mfL, It.mf, cmpop, truth, fl, D.imm, D.immL, bltC, notIns, bltin, index, updPl, M.upd, setM, allLeaf, callOw, outsA, backA, Slot.isOw, D.tyOk, D.hasTy, asgT, asgL, own1, isLst, mutM, M.fz, M.fzL, items, D.asInt, binop, eqd, D.eqOk, D.eqv, D.fld, fldGet, ↓e]
theorem c_are_numbers_below (d : Nat) (ns : List Nat) (n : Nat) (hq : ∀ x ∈ ns, x < n) (h : ns.length ≤ 1000) : callN C fns (d + 4) f_are_numbers_below [.sh (.tup (natsD ns)), .sh (.int n)] = .ok [.dead, .dead] (.bl true) := by
  show runFn C _ F_are_numbers_below _ = _
  simp [runFn, F_are_numbers_below, ioOk, enter, leave, evSs, evS, evT, evI, ev, evs, evA, evIfs, evSq, evIt, R.bind, R.ofO, readM, readPl, Slot.path, M.path, mIndex, ixN, M.val, M.seq, E.mf, E.mfL, It.mf, cmpop, truth, fl, D.imm, D.immL, bltC, notIns, bltin, index, updPl, M.upd, setM, allLeaf, callOw, outsA, backA, Slot.isOw, D.tyOk, D.hasTy, asgT, asgL, own1, isLst, mutM, M.fz, M.fzL, items, D.asInt, binop, eqd, D.eqOk, D.eqv, D.fld, fldGet, c_all_below d ns n hq h]
def RU (s : Nat) (rs : List (List Int)) : D := .ins 0 [2, 1] [.int s, .tup (rs.map rowD)]
theorem c_look_at_row (d : Nat) (s : Nat) (rs : List (List Int)) (q : List Int) (hq : Bits q) (hs : q.length = s) (h : s ≤ 1000) : callN C fns (d + 4) f_Rules_look_at_row [.sh (RU s rs), .sh (rowD q)] = .ok [.dead, .dead] .non := by
  show runFn C _ F_Rules_look_at_row _ = _
  have e := c_is_row (C := C) d q s hq hs h
  simp [runFn, F_Rules_look_at_row, ioOk, enter, leave, evSs, evS, evT, evI, ev, evs, evA, evIfs, evSq, evIt, R.bind, R.ofO, readM, readPl, Slot.path, M.path, mIndex, ixN, M.val, M.seq, E.mf, E.mfL, It.mf, cmpop, truth, fl, D.imm, D.immL, bltC, notIns, bltin, index, updPl, M.upd, setM, allLeaf, callOw, outsA, backA, Slot.isOw, D.tyOk, D.hasTy, asgT, asgL, own1, isLst, mutM, M.fz, M.fzL, items, D.asInt, binop, eqd, D.eqOk, D.eqv, D.fld, fldGet, RU, e]
theorem c_len (d : Nat) (s : Nat) (rs : List (List Int)) : callN C fns (d + 1) f_Rules___len__ [.sh (RU s rs)] = .ok [.dead] (.int rs.length) := by
  show runFn C _ F_Rules___len__ _ = _
  simp [runFn, F_Rules___len__, ioOk, enter, leave, evSs, evS, evT, evI, ev, evs, evA, evIfs, evSq, evIt, R.bind, R.ofO, readM, readPl, Slot.path, M.path, mIndex, ixN, M.val, M.seq, E.mf, E.mfL, It.mf, cmpop, truth, fl, D.imm, D.immL, bltC, notIns, bltin, index, updPl, M.upd, setM, allLeaf, callOw, outsA, backA, Slot.isOw, D.tyOk, D.hasTy, asgT, asgL, own1, isLst, mutM, M.fz, M.fzL, items, D.asInt, binop, eqd, D.eqOk, D.eqv, D.fld, fldGet, RU]
variable (hmth : C.mth 0 m_look_at_row = some f_Rules_look_at_row) (hlen : C.lenOf 0 = some f_Rules___len__)
include hmth in
theorem c_look_at_rounds (d : Nat) (s : Nat) (rs : List (List Int)) (q : List Int) (n : Nat) (hq : Bits q) (hs : q.length = s) (h : s ≤ 1000) : callN C fns (d + 5) f_look_at_rounds [.sh (RU s rs), .sh (rowD q), .sh (.int n)] = .ok [.dead, .dead, .dead] .non := by
  show runFn C _ F_look_at_rounds _ = _
  have e := c_look_at_row (C := C) d s rs q hq hs h
  have e2 := c_is_number (C := C) (d + 2) n (by omega)
  unfold RU at *
  simp [runFn, F_look_at_rounds, ioOk, enter, leave, evSs, evS, evT, evI, ev, evs, evA, evIfs, evSq, evIt, R.bind, R.ofO, readM, readPl, Slot.path, M.path, mIndex, ixN, M.val, M.seq, E.mf, E.mfL, It.mf, cmpop, truth, fl, D.imm, D.immL, bltC, notIns, bltin, index, updPl, M.upd, setM, allLeaf, callOw, outsA, backA, Slot.isOw, D.tyOk, D.hasTy, asgT, asgL, own1, isLst, mutM, M.fz, M.fzL, items, D.asInt, binop, eqd, D.eqOk, D.eqv, D.fld, fldGet, hmth, e, e2]
include hlen in
theorem e_len (d : Nat) (s : Nat) (rs : List (List Int)) (h : rs.length ≤ 1000000) : lenI C (callN C fns (d + 1)) [RU s rs] = some (.int rs.length) := by
  have e := c_len (C := C) d s rs
  unfold RU at *
  have := rngOk_nat rs.length h
  unfold rngOk at this
  simp at this
  simp [lenI, hlen, e, this]
include hlen in
theorem c_look_at_numbers (d : Nat) (s : Nat) (rs : List (List Int)) (ns : List Nat) (hq : ∀ x ∈ ns, x < rs.length) (h : ns.length ≤ 1000) (hr : rs.length ≤ 1000) : callN C fns (d + 5) f_look_at_numbers [.sh (RU s rs), .sh (.tup (natsD ns))] = .ok [.dead, .dead] .non := by
  show runFn C _ F_look_at_numbers _ = _
  have e := c_are_numbers_below (C := C) d ns rs.length hq h
  have e2 := e_len hlen (d + 3) s rs (by omega)
  unfold RU at *
  simp [runFn, F_look_at_numbers, ioOk, enter, leave, evSs, evS, evT, evI, ev, evs, evA, evIfs, evSq, evIt, R.bind, R.ofO, readM, readPl, Slot.path, M.path, mIndex, ixN, M.val, M.seq, E.mf, E.mfL, It.mf, cmpop, truth, fl, D.imm, D.immL, bltC, notIns, bltin, index, updPl, M.upd, setM, allLeaf, callOw, outsA, backA, Slot.isOw, D.tyOk, D.hasTy, asgT, asgL, own1, isLst, mutM, M.fz, M.fzL, items, D.asInt, binop, eqd, D.eqOk, D.eqv, D.fld, fldGet, e, e2]
end Lw
end
section
set_option Elab.async false
set_option linter.all false
set_option maxRecDepth 100000
set_option maxHeartbeats 4000000
namespace Lw
open Py PySem
variable {C : Py.Ctx}
/-- three lists of one length, member by member -/
def zip3 : List Int → List Int → List Int → List (Int × Int × Int)
  | a :: r, b :: q, c :: w => (a, b, c) :: zip3 r q w
  | _, _, _ => []
def z3D (t : Int × Int × Int) : D := .tup [.int t.1, .int t.2.1, .int t.2.2]
theorem zipD3_ints : ∀ r q w : List Int, zipD3 (r.map D.int) (q.map D.int) (w.map D.int) = (zip3 r q w).map z3D
  | [], _, _ => rfl
  | _ :: _, [], _ => rfl
  | _ :: _, _ :: _, [] => rfl
  | a :: r, b :: q, c :: w => by
    rw [List.map_cons, List.map_cons, List.map_cons, zipD3, zipD3_ints r q w]; rfl
theorem zip3_len : ∀ r q w : List Int, (zip3 r q w).length ≤ q.length
  | [], _, _ => Nat.zero_le _
  | _ :: _, [], _ => Nat.zero_le _
  | _ :: _, _ :: _, [] => Nat.zero_le _
  | a :: r, b :: q, c :: w => Nat.succ_le_succ (zip3_len r q w)
theorem rwL_zip : ∀ r q w : List Int, ((zip3 r q w).filter fun t => t.1 == t.2.1).map (fun t => t.2.2) = rwL r q w
  | [], _, _ => rfl
  | _ :: _, [], _ => rfl
  | _ :: _, _ :: _, [] => rfl
  | a :: r, b :: q, c :: w => by
    rw [zip3, rwL, List.filter_cons]
    by_cases h : a = b
    · rw [if_pos h, if_pos (by simpa using h), List.map_cons, rwL_zip r q w]
    · rw [if_neg h, if_neg (by simpa using h), rwL_zip r q w]
theorem dbl_zip : ∀ r q w : List Int, (zip3 r q w).map (fun t => if t.1 = t.2.1 then t.2.2 else 2 * t.2.2) = dbl r q w
  | [], _, _ => rfl
  | _ :: _, [], _ => rfl
  | _ :: _, _ :: _, [] => rfl
  | a :: r, b :: q, c :: w => by
    rw [zip3, dbl, List.map_cons, dbl_zip r q w]
theorem c_right_weight (d : Nat) (r q w : List Int) (h : q.length ≤ 1000) : callN C fns (d + 1) f_right_weight [.sh (rowD r), .sh (rowD q), .sh (rowD w)] = .ok [.dead, .dead, .dead] (.int (rwL r q w).sum) := by
  show runFn C _ F_right_weight _ = _
  have hz := zip3_len r q w
  have e := ev_lcA (C := C) (orc := callN C fns d) (own := [3, 4, 5]) (tg := .t [.n 3, .n 4, .n 5]) (it := .zip3 (.var 0) (.var 1) (.var 2)) (ifs := [.cmp .eq (.var 3) (.var 4)]) (elt := .var 5) (G := [.sh (.tup (r.map D.int)), .sh (.tup (q.map D.int)), .sh (.tup (w.map D.int)), .dead, .dead, .dead]) (G1 := [.sh (.tup (r.map D.int)), .sh (.tup (q.map D.int)), .sh (.tup (w.map D.int)), .dead, .dead, .dead]) (b := false)
    (zip3 r q w) z3D (fun t => t.1 == t.2.1) (fun t => .int t.2.2) (by simp [evSs, evS, evT, evI, ev, evs, evA, evIfs, evSq, evIt, R.bind, R.ofO, readM, readPl, Slot.path, M.path, mIndex, ixN, M.val, M.seq, E.mf, E.mfL, It.mf, cmpop, truth, fl, D.imm, D.immL, bltC, notIns, bltin, index, updPl, M.upd, setM, allLeaf, callOw, outsA, backA, Slot.isOw, D.tyOk, D.hasTy, asgT, asgL, own1, isLst, mutM, M.fz, M.fzL, items, D.asInt, binop, eqd, D.eqOk, D.eqv, zipD3_ints]) (by rfl) (by rfl) (fun t _ => by
      by_cases hh : t.1 = t.2.1 <;> simp [lcStep, z3D, evSs, evS, evT, evI, ev, evs, evA, evIfs, evSq, evIt, R.bind, R.ofO, readM, readPl, Slot.path, M.path, mIndex, ixN, M.val, M.seq, E.mf, E.mfL, It.mf, cmpop, truth, fl, D.imm, D.immL, bltC, notIns, bltin, index, updPl, M.upd, setM, allLeaf, callOw, outsA, backA, Slot.isOw, D.tyOk, D.hasTy, asgT, asgL, own1, isLst, mutM, M.fz, M.fzL, items, D.asInt, binop, eqd, D.eqOk, D.eqv, wipe, hh]) (by rfl) (by omega)
  have e2 : ((zip3 r q w).filter fun t => t.1 == t.2.1).map (fun t => D.int t.2.2) = (rwL r q w).map D.int := by
    rw [← rwL_zip r q w, List.map_map]
    rfl
  rw [e2] at e
  simp [runFn, F_right_weight, ioOk, enter, leave, evSs, evS, evT, evI, ev, evs, evA, evIfs, evSq, evIt, R.bind, R.ofO, readM, readPl, Slot.path, M.path, mIndex, ixN, M.val, M.seq, E.mf, E.mfL, It.mf, cmpop, truth, fl, D.imm, D.immL, bltC, notIns, bltin, index, updPl, M.upd, setM, allLeaf, callOw, outsA, backA, Slot.isOw, D.tyOk, D.hasTy, asgT, asgL, own1, isLst, mutM, M.fz, M.fzL, items, D.asInt, binop, eqd, D.eqOk, D.eqv, rowD, ↓e, gInts_map]
theorem c_doubled (d : Nat) (r q w : List Int) (h : q.length ≤ 1000) : callN C fns (d + 1) f_doubled [.sh (rowD r), .sh (rowD q), .sh (rowD w)] = .ok [.dead, .dead, .dead] (rowD (dbl r q w)) := by
  show runFn C _ F_doubled _ = _
  have hz := zip3_len r q w
  have n : ∀ z, mulOk 2 z = true := fun z => by unfold mulOk; rfl
  have e := ev_lcB (C := C) (orc := callN C fns d) (own := [3, 4, 5]) (tg := .t [.n 3, .n 4, .n 5]) (it := .zip3 (.var 0) (.var 1) (.var 2)) (elt := .ife (.cmp .eq (.var 3) (.var 4)) (.var 5) (.bin .mul (.con (.int 2)) (.var 5))) (G := [.sh (.tup (r.map D.int)), .sh (.tup (q.map D.int)), .sh (.tup (w.map D.int)), .dead, .dead, .dead]) (G1 := [.sh (.tup (r.map D.int)), .sh (.tup (q.map D.int)), .sh (.tup (w.map D.int)), .dead, .dead, .dead]) (b := false)
    (zip3 r q w) z3D (fun t => .int (if t.1 = t.2.1 then t.2.2 else 2 * t.2.2)) (by simp [evSs, evS, evT, evI, ev, evs, evA, evIfs, evSq, evIt, R.bind, R.ofO, readM, readPl, Slot.path, M.path, mIndex, ixN, M.val, M.seq, E.mf, E.mfL, It.mf, cmpop, truth, fl, D.imm, D.immL, bltC, notIns, bltin, index, updPl, M.upd, setM, allLeaf, callOw, outsA, backA, Slot.isOw, D.tyOk, D.hasTy, asgT, asgL, own1, isLst, mutM, M.fz, M.fzL, items, D.asInt, binop, eqd, D.eqOk, D.eqv, zipD3_ints]) (by rfl) (by rfl) (fun t _ => by
      by_cases hh : t.1 = t.2.1 <;> simp [lcStep, z3D, evSs, evS, evT, evI, ev, evs, evA, evIfs, evSq, evIt, R.bind, R.ofO, readM, readPl, Slot.path, M.path, mIndex, ixN, M.val, M.seq, E.mf, E.mfL, It.mf, cmpop, truth, fl, D.imm, D.immL, bltC, notIns, bltin, index, updPl, M.upd, setM, allLeaf, callOw, outsA, backA, Slot.isOw, D.tyOk, D.hasTy, asgT, asgL, own1, isLst, mutM, M.fz, M.fzL, items, D.asInt, binop, eqd, D.eqOk, D.eqv, wipe, hh, n]) (by rfl) (by omega)
  have e2 : (zip3 r q w).map (fun t => D.int (if t.1 = t.2.1 then t.2.2 else 2 * t.2.2)) = (dbl r q w).map D.int := by
    rw [← dbl_zip r q w, List.map_map]
    rfl
  rw [e2] at e
  simp [runFn, F_doubled, ioOk, enter, leave, evSs, evS, evT, evI, ev, evs, evA, evIfs, evSq, evIt, R.bind, R.ofO, readM, readPl, Slot.path, M.path, mIndex, ixN, M.val, M.seq, E.mf, E.mfL, It.mf, cmpop, truth, fl, D.imm, D.immL, bltC, notIns, bltin, index, updPl, M.upd, setM, allLeaf, callOw, outsA, backA, Slot.isOw, D.tyOk, D.hasTy, asgT, asgL, own1, isLst, mutM, M.fz, M.fzL, items, D.asInt, binop, eqd, D.eqOk, D.eqv, rowD, ↓e]
theorem sums_nn (rs : List (List Int)) (q w : List Int) (h : ∀ x ∈ w, 0 ≤ x) : ∀ x ∈ sums rs q w, 0 ≤ x := by
  intro x hx
  obtain ⟨r, _, rfl⟩ := List.mem_map.mp hx
  exact rwL_nn r q w h
theorem c_heaviest (d s : Nat) (rs : List (List Int)) (q w : List Int) (h : q.length ≤ 1000) (hr : rs.length ≤ 1000) (h0 : rs ≠ []) (hw : ∀ x ∈ w, 0 ≤ x) : callN C fns (d + 2) f_heaviest_rule [.sh (RU s rs), .sh (rowD q), .sh (rowD w)] = .ok [.dead, .dead, .dead] (.int (amax (sums rs q w))) := by
  show runFn C _ F_heaviest_rule _ = _
  have e := ev_lcB (C := C) (orc := callN C fns (d + 1)) (own := [4]) (tg := .n 4) (it := .e (.att (.var 0) 1)) (elt := .call f_right_weight [.var 4, .var 1, .var 2] [0, 1, 2]) (G := [.sh (RU s rs), .sh (rowD q), .sh (rowD w), .dead, .dead]) (G1 := [.sh (RU s rs), .sh (rowD q), .sh (rowD w), .dead, .dead]) (b := false)
    rs rowD (fun r => .int (rwL r q w).sum) (by simp [evSs, evS, evT, evI, ev, evs, evA, evIfs, evSq, evIt, R.bind, R.ofO, readM, readPl, Slot.path, M.path, mIndex, ixN, M.val, M.seq, E.mf, E.mfL, It.mf, cmpop, truth, fl, D.imm, D.immL, bltC, notIns, bltin, index, updPl, M.upd, setM, allLeaf, callOw, outsA, backA, Slot.isOw, D.tyOk, D.hasTy, asgT, asgL, own1, isLst, mutM, M.fz, M.fzL, items, D.asInt, binop, eqd, D.eqOk, D.eqv, D.fld, fldGet, RU]) (by rfl) (by rfl) (fun r _ => by
      simp [lcStep, evSs, evS, evT, evI, ev, evs, evA, evIfs, evSq, evIt, R.bind, R.ofO, readM, readPl, Slot.path, M.path, mIndex, ixN, M.val, M.seq, E.mf, E.mfL, It.mf, cmpop, truth, fl, D.imm, D.immL, bltC, notIns, bltin, index, updPl, M.upd, setM, allLeaf, callOw, outsA, backA, Slot.isOw, D.tyOk, D.hasTy, asgT, asgL, own1, isLst, mutM, M.fz, M.fzL, items, D.asInt, binop, eqd, D.eqOk, D.eqv, wipe, c_right_weight d r q w h]) (by rfl) (by omega)
  have e2 : rs.map (fun r => D.int (rwL r q w).sum) = (sums rs q w).map D.int := by
    unfold sums
    rw [List.map_map]
    rfl
  rw [e2] at e
  have hs : sums rs q w ≠ [] := by simpa [sums] using h0
  have e3 := amax_ix hs (sums_nn rs q w hw)
  rw [← idxOf_ints] at e3
  have e4 : memOk (.int (maxL (sums rs q w))) ((sums rs q w).map D.int) = true := by simp [memOk, D.eqOk, eqOkL_ints]
  simp [runFn, F_heaviest_rule, ioOk, enter, leave, evSs, evS, evT, evI, ev, evs, evA, evIfs, evSq, evIt, R.bind, R.ofO, readM, readPl, Slot.path, M.path, mIndex, ixN, M.val, M.seq, E.mf, E.mfL, It.mf, cmpop, truth, fl, D.imm, D.immL, bltC, notIns, bltin, index, updPl, M.upd, setM, allLeaf, callOw, outsA, backA, Slot.isOw, D.tyOk, D.hasTy, asgT, asgL, own1, isLst, mutM, M.fz, M.fzL, items, D.asInt, binop, eqd, D.eqOk, D.eqv, ↓e, gInts_map, hs, meth, e3, e4]
end Lw
end
section
set_option Elab.async false
set_option linter.all false
set_option maxRecDepth 100000
set_option maxHeartbeats 4000000
namespace Lw
open Py PySem
variable {C : Py.Ctx}
def ownN (ns : List Nat) : M := .lst ((natsD ns).map M.leaf)
theorem getD_lenX {rs : List (List Int)} {q : List Int} (hrs : ∀ r ∈ rs, r.length = q.length) {k : Nat} (hk : k < rs.length) : (rs.getD k []).length = q.length := by
  rw [List.getD_eq_getElem?_getD, List.getElem?_eq_getElem hk]
  exact hrs _ (List.getElem_mem hk)
theorem ownN_app (ns : List Nat) (a : Nat) : M.lst (((natsD ns).map M.leaf) ++ [M.leaf (.int a)]) = ownN (ns ++ [a]) := by
  simp [ownN, natsD]
theorem rep1 (n : Nat) : rep n [D.int 1] = (List.replicate n (1 : Int)).map D.int := by
  unfold rep
  induction n with
  | zero => rfl
  | succ n ih => rw [List.replicate_succ, List.flatten_cons, ih]; rfl
theorem rowD_eq (q : List Int) : D.tup (q.map D.int) = rowD q := rfl
@[simp] theorem RU_1 (s : Nat) (rs : List (List Int)) : (RU s rs).fld 1 = some (.tup (rs.map rowD)) := rfl
@[simp] theorem RU_2 (s : Nat) (rs : List (List Int)) : (RU s rs).fld 2 = some (.int s) := rfl
def playBody : List S := match F_play.body with
  | [_, _, .for_ _ _ b, _] => b
  | _ => []
section
variable (rs : List (List Int)) (q : List Int) (hrs : ∀ r ∈ rs, r.length = q.length) (h0 : rs ≠ []) (h : q.length ≤ 500) (hr : rs.length ≤ 1000)
include hrs h0 h hr
theorem c_play (d n : Nat) (hn : n ≤ 1000) : callN C fns (d + 3) f_play [.sh (RU q.length rs), .sh (rowD q), .sh (.int n)] = .ok [.dead, .dead, .dead] (.tup [.tup (natsD (playN rs q n).1), rowD (playN rs q n).2]) := by
  show runFn C _ F_play _ = _
  obtain ⟨G2, e, x5, x6, rfl⟩ := evS_forR (C := C) (orc := callN C fns (d + 2)) (tg := .n 5) (a := .var 2) (body := playBody) (G := [.sh (RU q.length rs), .sh (rowD q), .sh (.int n), .sh (rowD (playN rs q 0).2), .ow (ownN []), .dead, .dead]) n
    (fun k (G : Py.Env) => ∃ x5 x6 : Slot, G = [.sh (RU q.length rs), .sh (rowD q), .sh (.int n), .sh (rowD (playN rs q k).2), .ow (ownN (playN rs q k).1), x5, x6]) (by simp [ev]; exact ⟨rfl, rfl⟩) (by omega) ⟨.dead, .dead, rfl⟩ (fun k hk G hG => by
      obtain ⟨x5, x6, rfl⟩ := hG
      have e1 := c_heaviest (C := C) d q.length rs q (playN rs q k).2 (by omega) hr h0 (play_nn k)
      have e2 := fun r => c_doubled (C := C) (d + 1) r q (playN rs q k).2 (by omega)
      have hl := play_num (rs := rs) (q := q) k
      have hb := amax_rs (q := q) h0 (playN rs q k).2
      have e3 := atI_rows hb
      have hs : (natsD (playN rs q k).1).length < 16777216 := by rw [natsD, List.length_map]; omega
      refine ⟨[.sh (RU q.length rs), .sh (rowD q), .sh (.int n), .sh (rowD (playN rs q k).2), .ow (ownN (playN rs q k).1), .sh (.int k), x6], _, by simp [asgT], ?_, .sh (.int k), .sh (.int (amax (sums rs q (playN rs q k).2))), rfl⟩
      rw [playN]
      show _ = R.ok [_, _, _, .sh (rowD (dbl _ _ _)), .ow (ownN (_ ++ [_])), _, _] _
      rw [← ownN_app]
      generalize amax (sums rs q (playN rs q k).2) = a at *
      simp [playBody, F_play, evSs, evS, evT, evI, ev, evs, evA, evIfs, evSq, evIt, R.bind, R.ofO, readM, readPl, Slot.path, M.path, mIndex, ixN, M.val, M.seq, E.mf, E.mfL, It.mf, cmpop, truth, fl, D.imm, D.immL, bltC, notIns, bltin, index, updPl, M.upd, setM, allLeaf, callOw, outsA, backA, Slot.isOw, D.tyOk, D.hasTy, asgT, asgL, own1, isLst, mutM, M.fz, M.fzL, items, D.asInt, binop, eqd, D.eqOk, D.eqv, e1, e2, e3, ownN, szLine, hs])
  generalize hN : playN rs q n = N at e
  have h3 := rep1 q.length
  have h4 : ltp q.length 9 = true := ltp_of (by decide) (by show _ < 512; omega)
  have hE : enter 7 [.sh (RU q.length rs), .sh (rowD q), .sh (.int n)] = [.sh (RU q.length rs), .sh (rowD q), .sh (.int n), .dead, .dead, .dead, .dead] := rfl
  have : evSs C (callN C fns (d + 2)) F_play.body (enter F_play.n [.sh (RU q.length rs), .sh (rowD q), .sh (.int n)]) = .ok [.sh (RU q.length rs), .sh (rowD q), .sh (.int n), .sh (rowD N.2), .sh (.lst (natsD N.1)), x5, x6] (.ret (.tup [.tup (natsD N.1), rowD N.2])) := by
    show evSs C _ F_play.body (enter 7 _) = _
    rw [hE]
    unfold F_play
    rw [evSs_next (G1 := [.sh (RU q.length rs), .sh (rowD q), .sh (.int n), .sh (rowD (playN rs q 0).2), .dead, .dead, .dead]) (by simp [evSs, evS, evT, evI, ev, evs, evA, evIfs, evSq, evIt, R.bind, R.ofO, readM, readPl, Slot.path, M.path, mIndex, ixN, M.val, M.seq, E.mf, E.mfL, It.mf, cmpop, truth, fl, D.imm, D.immL, bltC, notIns, bltin, index, updPl, M.upd, setM, allLeaf, callOw, outsA, backA, Slot.isOw, D.tyOk, D.hasTy, asgT, asgL, own1, isLst, mutM, M.fz, M.fzL, items, D.asInt, binop, eqd, D.eqOk, D.eqv, h3, h4, playN, rowD])]
    rw [evSs_next (G1 := [.sh (RU q.length rs), .sh (rowD q), .sh (.int n), .sh (rowD (playN rs q 0).2), .ow (ownN []), .dead, .dead]) (by simp [evSs, evS, evT, evI, ev, evs, evA, evIfs, evSq, evIt, R.bind, R.ofO, readM, readPl, Slot.path, M.path, mIndex, ixN, M.val, M.seq, E.mf, E.mfL, It.mf, cmpop, truth, fl, D.imm, D.immL, bltC, notIns, bltin, index, updPl, M.upd, setM, allLeaf, callOw, outsA, backA, Slot.isOw, D.tyOk, D.hasTy, asgT, asgL, own1, isLst, mutM, M.fz, M.fzL, items, D.asInt, binop, eqd, D.eqOk, D.eqv, ownN, natsD])]
    refine (evSs_next e).trans ?_
    simp [evSs, evS, evT, evI, ev, evs, evA, evIfs, evSq, evIt, R.bind, R.ofO, readM, readPl, Slot.path, M.path, mIndex, ixN, M.val, M.seq, E.mf, E.mfL, It.mf, cmpop, truth, fl, D.imm, D.immL, bltC, notIns, bltin, index, updPl, M.upd, setM, allLeaf, callOw, outsA, backA, Slot.isOw, D.tyOk, D.hasTy, asgT, asgL, own1, isLst, mutM, M.fz, M.fzL, items, D.asInt, binop, eqd, D.eqOk, D.eqv, ownN, fzL_leaf]
  rw [runFn, this]
  simp [F_play, ioOk, leave]
theorem c_taken (hmth : C.mth 0 m_look_at_row = some f_Rules_look_at_row) (hq : Bits q) (d n : Nat) (hn : n ≤ 1000) : callN C fns (d + 6) f_taken [.sh (RU q.length rs), .sh (rowD q), .sh (.int n)] = .ok [.dead, .dead, .dead] (.tup (natsD (playN rs q n).1)) := by
  show runFn C _ F_taken _ = _
  have e := c_play (C := C) rs q hrs h0 h hr (d + 2) n hn
  have e2 := c_look_at_rounds (C := C) hmth d q.length rs q n hq rfl (by omega)
  simp [runFn, F_taken, ioOk, enter, leave, evSs, evS, evT, evI, ev, evs, evA, evIfs, evSq, evIt, R.bind, R.ofO, readM, readPl, Slot.path, M.path, mIndex, ixN, M.val, M.seq, E.mf, E.mfL, It.mf, cmpop, truth, fl, D.imm, D.immL, bltC, notIns, bltin, index, updPl, M.upd, setM, allLeaf, callOw, outsA, backA, Slot.isOw, D.tyOk, D.hasTy, asgT, asgL, own1, isLst, mutM, M.fz, M.fzL, items, D.asInt, binop, eqd, D.eqOk, D.eqv, e, e2, atI, ixN]
theorem c_weights (hmth : C.mth 0 m_look_at_row = some f_Rules_look_at_row) (hq : Bits q) (d n : Nat) (hn : n ≤ 1000) : callN C fns (d + 6) f_weights_behind [.sh (RU q.length rs), .sh (rowD q), .sh (.int n)] = .ok [.dead, .dead, .dead] (rowD (playN rs q n).2) := by
  show runFn C _ F_weights_behind _ = _
  have e := c_play (C := C) rs q hrs h0 h hr (d + 2) n hn
  have e2 := c_look_at_rounds (C := C) hmth d q.length rs q n hq rfl (by omega)
  simp [runFn, F_weights_behind, ioOk, enter, leave, evSs, evS, evT, evI, ev, evs, evA, evIfs, evSq, evIt, R.bind, R.ofO, readM, readPl, Slot.path, M.path, mIndex, ixN, M.val, M.seq, E.mf, E.mfL, It.mf, cmpop, truth, fl, D.imm, D.immL, bltC, notIns, bltin, index, updPl, M.upd, setM, allLeaf, callOw, outsA, backA, Slot.isOw, D.tyOk, D.hasTy, asgT, asgL, own1, isLst, mutM, M.fz, M.fzL, items, D.asInt, binop, eqd, D.eqOk, D.eqv, e, e2, atI, ixN]
omit h0 in
theorem c_wrong_at (d k : Nat) (ns : List Nat) (hns : ∀ x ∈ ns, x < rs.length) (hl : ns.length ≤ 1000) (hk : k < q.length) : callN C fns (d + 1) f_wrong_at [.sh (RU q.length rs), .sh (rowD q), .sh (.tup (natsD ns)), .sh (.int k)] = .ok [.dead, .dead, .dead, .dead] (.int (wr rs q ns k)) := by
  show runFn C _ F_wrong_at _ = _
  have hqk := atI_ints hk
  have e := ev_lcA (C := C) (orc := callN C fns d) (own := [4]) (tg := .n 4) (it := .e (.var 2)) (ifs := [.cmp .ne (.idx (.idx (.att (.var 0) 1) (.var 4)) (.var 3)) (.idx (.var 1) (.var 3))]) (elt := .var 4) (G := [.sh (RU q.length rs), .sh (rowD q), .sh (.tup (natsD ns)), .sh (.int k), .dead]) (G1 := [.sh (RU q.length rs), .sh (rowD q), .sh (.tup (natsD ns)), .sh (.int k), .dead]) (b := false)
    ns (fun n : Nat => D.int n) (fun a => (rs.getD a []).getD k 0 != q.getD k 0) (fun a => .int a) (by simp [evSs, evS, evT, evI, ev, evs, evA, evIfs, evSq, evIt, R.bind, R.ofO, readM, readPl, Slot.path, M.path, mIndex, ixN, M.val, M.seq, E.mf, E.mfL, It.mf, cmpop, truth, fl, D.imm, D.immL, bltC, notIns, bltin, index, updPl, M.upd, setM, allLeaf, callOw, outsA, backA, Slot.isOw, D.tyOk, D.hasTy, asgT, asgL, own1, isLst, mutM, M.fz, M.fzL, items, D.asInt, binop, eqd, D.eqOk, D.eqv, natsD]) (by rfl) (by rfl) (fun a ha => by
      have hak := atI_rows (hns a ha)
      have hrk := atI_ints (q := rs.getD a []) (k := k) (by rw [getD_lenX hrs (hns a ha)]; exact hk)
      have z1 : index (.tup (rs.map rowD)) (.int a) = some (rowD (rs.getD a [])) := hak
      have z2 : index (rowD (rs.getD a [])) (.int k) = some (.int ((rs.getD a []).getD k 0)) := hrk
      have z3 : index (rowD q) (.int k) = some (.int (q.getD k 0)) := hqk
      generalize rs.getD a [] = r at *
      by_cases hh : r.getD k 0 = q.getD k 0 <;> (generalize r.getD k 0 = u at *; generalize q.getD k 0 = v at *; simp [lcStep, evSs, evS, evT, evI, ev, evs, evA, evIfs, evSq, evIt, R.bind, R.ofO, readM, readPl, Slot.path, M.path, mIndex, ixN, M.val, M.seq, E.mf, E.mfL, It.mf, cmpop, truth, fl, D.imm, D.immL, bltC, notIns, bltin, updPl, M.upd, setM, allLeaf, callOw, outsA, backA, Slot.isOw, D.tyOk, D.hasTy, asgT, asgL, own1, isLst, mutM, M.fz, M.fzL, items, D.asInt, binop, D.eqOk, D.eqv, eqd_int, eqd_ints, wipe, z1, z2, z3, hh])) (by rfl) (by omega)
  simp [runFn, F_wrong_at, ioOk, enter, leave, evSs, evS, evT, evI, ev, evs, evA, evIfs, evSq, evIt, R.bind, R.ofO, readM, readPl, Slot.path, M.path, mIndex, ixN, M.val, M.seq, E.mf, E.mfL, It.mf, cmpop, truth, fl, D.imm, D.immL, bltC, notIns, bltin, updPl, M.upd, setM, allLeaf, callOw, outsA, backA, Slot.isOw, D.tyOk, D.hasTy, asgT, asgL, own1, isLst, mutM, M.fz, M.fzL, items, D.asInt, binop, D.eqOk, D.eqv, eqd_int, eqd_ints, ↓e, wr]
end
end Lw
end
section
set_option Elab.async false
set_option linter.all false
set_option maxRecDepth 100000
set_option maxHeartbeats 4000000
namespace Lw
open Py PySem
variable {C : Py.Ctx}
def ys (rs : List (List Int)) (ns : List Nat) (k : Nat) : Int := (ns.map fun a => (rs.getD a []).getD k 0).sum
def vt (rs : List (List Int)) (ns : List Nat) (s : Nat) : List Int := (List.range s).map fun k => if 2 * ys rs ns k > ns.length then 1 else 0
def wrs (rs : List (List Int)) (q : List Int) (ns : List Nat) : List Nat := (List.range q.length).map fun k => wr rs q ns k
theorem mul2 (z : Int) : mulOk 2 z = true := by unfold mulOk; rfl
section
variable (rs : List (List Int)) (q : List Int) (hrs : ∀ r ∈ rs, r.length = q.length) (h : q.length ≤ 500) (hr : rs.length ≤ 1000)
variable (hmth : C.mth 0 m_look_at_row = some f_Rules_look_at_row) (hlen : C.lenOf 0 = some f_Rules___len__) (hq : Bits q)
variable (ns : List Nat) (hns : ∀ x ∈ ns, x < rs.length) (hl : ns.length ≤ 1000)
include hrs h hr hns hl
theorem c_yes_at (d k : Nat) (hk : k < q.length) : callN C fns (d + 1) f_yes_at [.sh (RU q.length rs), .sh (.tup (natsD ns)), .sh (.int k)] = .ok [.dead, .dead, .dead] (.int (ys rs ns k)) := by
  show runFn C _ F_yes_at _ = _
  have e := ev_lcB (C := C) (orc := callN C fns d) (own := [3]) (tg := .n 3) (it := .e (.var 1)) (elt := .idx (.idx (.att (.var 0) 1) (.var 3)) (.var 2)) (G := [.sh (RU q.length rs), .sh (.tup (natsD ns)), .sh (.int k), .dead]) (G1 := [.sh (RU q.length rs), .sh (.tup (natsD ns)), .sh (.int k), .dead]) (b := false)
    ns (fun n : Nat => D.int n) (fun a => .int ((rs.getD a []).getD k 0)) (by simp [evSs, evS, evT, evI, ev, evs, evA, evIfs, evSq, evIt, R.bind, R.ofO, readM, readPl, Slot.path, M.path, mIndex, ixN, M.val, M.seq, E.mf, E.mfL, It.mf, cmpop, truth, fl, D.imm, D.immL, bltC, notIns, bltin, index, updPl, M.upd, setM, allLeaf, callOw, outsA, backA, Slot.isOw, D.tyOk, D.hasTy, asgT, asgL, own1, isLst, mutM, M.fz, M.fzL, items, D.asInt, binop, eqd, D.eqOk, D.eqv, natsD]) (by rfl) (by rfl) (fun a ha => by
      have hrk := atI_ints (q := rs.getD a []) (k := k) (by rw [getD_lenX hrs (hns a ha)]; exact hk)
      have z1 : index (.tup (rs.map rowD)) (.int a) = some (rowD (rs.getD a [])) := atI_rows (hns a ha)
      have z2 : index (rowD (rs.getD a [])) (.int k) = some (.int ((rs.getD a []).getD k 0)) := hrk
      generalize rs.getD a [] = r at *
      generalize r.getD k 0 = u at *
      simp [lcStep, evSs, evS, evT, evI, ev, evs, evA, evIfs, evSq, evIt, R.bind, R.ofO, readM, readPl, Slot.path, M.path, mIndex, ixN, M.val, M.seq, E.mf, E.mfL, It.mf, cmpop, truth, fl, D.imm, D.immL, bltC, notIns, bltin, updPl, M.upd, setM, allLeaf, callOw, outsA, backA, Slot.isOw, D.tyOk, D.hasTy, asgT, asgL, own1, isLst, mutM, M.fz, M.fzL, items, D.asInt, binop, D.eqOk, D.eqv, eqd_int, eqd_ints, wipe, z1, z2]) (by rfl) (by omega)
  have e2 : ns.map (fun a => D.int ((rs.getD a []).getD k 0)) = (ns.map fun a => (rs.getD a []).getD k 0).map D.int := by rw [List.map_map]; rfl
  rw [e2] at e
  unfold ys
  generalize (ns.map fun a => (rs.getD a []).getD k 0) = L at *
  simp [runFn, F_yes_at, ioOk, enter, leave, evSs, evS, evT, evI, ev, evs, evA, evIfs, evSq, evIt, R.bind, R.ofO, readM, readPl, Slot.path, M.path, mIndex, ixN, M.val, M.seq, E.mf, E.mfL, It.mf, cmpop, truth, fl, D.imm, D.immL, bltC, notIns, bltin, updPl, M.upd, setM, allLeaf, callOw, outsA, backA, Slot.isOw, D.tyOk, D.hasTy, asgT, asgL, own1, isLst, mutM, M.fz, M.fzL, items, D.asInt, binop, D.eqOk, D.eqv, eqd_int, eqd_ints, ↓e, gInts_map]
include hmth hlen hq in
theorem c_wrong_counts (d : Nat) : callN C fns (d + 6) f_wrong_counts [.sh (RU q.length rs), .sh (rowD q), .sh (.tup (natsD ns))] = .ok [.dead, .dead, .dead] (.tup (natsD (wrs rs q ns))) := by
  show runFn C _ F_wrong_counts _ = _
  have e1 : callN C fns (d + 5) f_Rules_look_at_row [.sh (RU q.length rs), .sh (rowD q)] = _ := c_look_at_row (C := C) (d + 1) q.length rs q hq rfl (by omega)
  have e2 := c_look_at_numbers (C := C) hlen d q.length rs ns hns hl hr
  have e := ev_lcRa (C := C) (orc := callN C fns (d + 5)) (v := 3) (s := q.length) (a := .att (.var 0) 2) (elt := .call f_wrong_at [.var 0, .var 1, .var 2, .var 3] [0, 1, 2, 3]) (G := [.sh (RU q.length rs), .sh (rowD q), .sh (.tup (natsD ns)), .dead]) (G1 := [.sh (RU q.length rs), .sh (rowD q), .sh (.tup (natsD ns)), .dead]) (b := false)
    (fun k => .int (wr rs q ns k)) (by simp [evSs, evS, evT, evI, ev, evs, evA, evIfs, evSq, evIt, R.bind, R.ofO, readM, readPl, Slot.path, M.path, mIndex, ixN, M.val, M.seq, E.mf, E.mfL, It.mf, cmpop, truth, fl, D.imm, D.immL, bltC, notIns, bltin, updPl, M.upd, setM, allLeaf, callOw, outsA, backA, Slot.isOw, D.tyOk, D.hasTy, asgT, asgL, own1, isLst, mutM, M.fz, M.fzL, items, D.asInt, binop, D.eqOk, D.eqv, eqd_int, eqd_ints]) (by omega) (by rfl) (by rfl) (fun k hk => by
      simp [lcStep, evSs, evS, evT, evI, ev, evs, evA, evIfs, evSq, evIt, R.bind, R.ofO, readM, readPl, Slot.path, M.path, mIndex, ixN, M.val, M.seq, E.mf, E.mfL, It.mf, cmpop, truth, fl, D.imm, D.immL, bltC, notIns, bltin, updPl, M.upd, setM, allLeaf, callOw, outsA, backA, Slot.isOw, D.tyOk, D.hasTy, asgT, asgL, own1, isLst, mutM, M.fz, M.fzL, items, D.asInt, binop, D.eqOk, D.eqv, eqd_int, eqd_ints, wipe, c_wrong_at rs q hrs h hr (d + 4) k ns hns hl hk])
  have e3 : (List.range q.length).map (fun k => D.int (wr rs q ns k)) = natsD (wrs rs q ns) := by unfold natsD wrs; rw [List.map_map]; rfl
  rw [e3] at e
  unfold RU at e1
  have hm : ∀ o, (match RU q.length rs with
      | .ins c ids vs => (match C.mth c m_look_at_row with
        | some f => (match callN C fns (d + 5) f (.sh (.ins c ids vs) :: [.sh (rowD q)]) with
          | .ok _ d => R.ok o (d, false)
          | .bad => R.bad)
        | none => R.bad)
      | _ => R.bad) = R.ok o (D.non, false) := fun o => by simp [RU, hmth, e1]
  have hE : enter 4 [.sh (RU q.length rs), .sh (rowD q), .sh (.tup (natsD ns))] = [.sh (RU q.length rs), .sh (rowD q), .sh (.tup (natsD ns)), .dead] := rfl
  have : evSs C (callN C fns (d + 5)) F_wrong_counts.body (enter F_wrong_counts.n [.sh (RU q.length rs), .sh (rowD q), .sh (.tup (natsD ns))]) = .ok [.sh (RU q.length rs), .sh (rowD q), .sh (.tup (natsD ns)), .dead] (.ret (.tup (natsD (wrs rs q ns)))) := by
    show evSs C _ F_wrong_counts.body (enter 4 _) = _
    rw [hE]
    unfold F_wrong_counts
    rw [evSs_next (G1 := [.sh (RU q.length rs), .sh (rowD q), .sh (.tup (natsD ns)), .dead]) (by simp [evSs, evS, evT, evI, ev, evs, evA, evIfs, evSq, evIt, R.bind, R.ofO, readM, readPl, Slot.path, M.path, mIndex, ixN, M.val, M.seq, E.mf, E.mfL, It.mf, cmpop, truth, fl, D.imm, D.immL, bltC, notIns, bltin, index, updPl, M.upd, setM, allLeaf, callOw, outsA, backA, Slot.isOw, D.tyOk, D.hasTy, asgT, asgL, own1, isLst, mutM, M.fz, M.fzL, items, D.asInt, binop, eqd, D.eqOk, D.eqv, RU, hmth, e1])]
    simp [evSs, evS, evT, evI, ev, evs, evA, evIfs, evSq, evIt, R.bind, R.ofO, readM, readPl, Slot.path, M.path, mIndex, ixN, M.val, M.seq, E.mf, E.mfL, It.mf, cmpop, truth, fl, D.imm, D.immL, bltC, notIns, bltin, index, updPl, M.upd, setM, allLeaf, callOw, outsA, backA, Slot.isOw, D.tyOk, D.hasTy, asgT, asgL, own1, isLst, mutM, M.fz, M.fzL, items, D.asInt, binop, eqd, D.eqOk, D.eqv, e2, ↓e]
  rw [runFn, this]
  simp [F_wrong_counts, ioOk, leave]
include hlen in
theorem c_voted_by (d : Nat) : callN C fns (d + 6) f_voted_by [.sh (RU q.length rs), .sh (.tup (natsD ns))] = .ok [.dead, .dead] (rowD (vt rs ns q.length)) := by
  show runFn C _ F_voted_by _ = _
  have e2 := c_look_at_numbers (C := C) hlen d q.length rs ns hns hl hr
  have e := ev_lcRa (C := C) (orc := callN C fns (d + 5)) (v := 2) (s := q.length) (a := .att (.var 0) 2) (elt := .blt .int [.cmp .gt (.bin .mul (.con (.int 2)) (.call f_yes_at [.var 0, .var 1, .var 2] [0, 1, 2])) (.blt .len [.var 1])]) (G := [.sh (RU q.length rs), .sh (.tup (natsD ns)), .dead]) (G1 := [.sh (RU q.length rs), .sh (.tup (natsD ns)), .dead]) (b := false)
    (fun k => .int (if 2 * ys rs ns k > ns.length then 1 else 0)) (by simp [evSs, evS, evT, evI, ev, evs, evA, evIfs, evSq, evIt, R.bind, R.ofO, readM, readPl, Slot.path, M.path, mIndex, ixN, M.val, M.seq, E.mf, E.mfL, It.mf, cmpop, truth, fl, D.imm, D.immL, bltC, notIns, bltin, updPl, M.upd, setM, allLeaf, callOw, outsA, backA, Slot.isOw, D.tyOk, D.hasTy, asgT, asgL, own1, isLst, mutM, M.fz, M.fzL, items, D.asInt, binop, D.eqOk, D.eqv, eqd_int, eqd_ints]) (by omega) (by rfl) (by rfl) (fun k hk => by
      have z : (natsD ns).length = ns.length := by unfold natsD; rw [List.length_map]
      simp [lcStep, evSs, evS, evT, evI, ev, evs, evA, evIfs, evSq, evIt, R.bind, R.ofO, readM, readPl, Slot.path, M.path, mIndex, ixN, M.val, M.seq, E.mf, E.mfL, It.mf, cmpop, truth, fl, D.imm, D.immL, bltC, notIns, bltin, updPl, M.upd, setM, allLeaf, callOw, outsA, backA, Slot.isOw, D.tyOk, D.hasTy, asgT, asgL, own1, isLst, mutM, M.fz, M.fzL, items, D.asInt, binop, D.eqOk, D.eqv, eqd_int, eqd_ints, wipe, c_yes_at rs q hrs h hr ns hns hl (d + 4) k hk, mul2, z])
  have e3 : (List.range q.length).map (fun k => D.int (if 2 * ys rs ns k > ns.length then 1 else 0)) = (vt rs ns q.length).map D.int := by unfold vt; rw [List.map_map]; rfl
  rw [e3] at e
  simp [runFn, F_voted_by, ioOk, enter, leave, evSs, evS, evT, evI, ev, evs, evA, evIfs, evSq, evIt, R.bind, R.ofO, readM, readPl, Slot.path, M.path, mIndex, ixN, M.val, M.seq, E.mf, E.mfL, It.mf, cmpop, truth, fl, D.imm, D.immL, bltC, notIns, bltin, index, updPl, M.upd, setM, allLeaf, callOw, outsA, backA, Slot.isOw, D.tyOk, D.hasTy, asgT, asgL, own1, isLst, mutM, M.fz, M.fzL, items, D.asInt, binop, eqd, D.eqOk, D.eqv, e2, ↓e, rowD]
end
end Lw
end
section
set_option Elab.async false
set_option linter.all false
set_option maxRecDepth 100000
set_option maxHeartbeats 4000000
namespace Lw
open Py PySem
variable {C : Py.Ctx}
theorem z_rows {rs : List (List Int)} {a : Nat} (h : a < rs.length) : index (.lst (rs.map rowD)) (.int a) = some (rowD (rs.getD a [])) := atI_rows h
theorem z_row {r : List Int} {k : Nat} (h : k < r.length) : index (rowD r) (.int k) = some (.int (r.getD k 0)) := atI_ints h
theorem z_lst {r : List Int} {k : Nat} (h : k < r.length) : index (.lst (r.map D.int)) (.int k) = some (.int (r.getD k 0)) := atI_ints h
def lpBody : List S := match F__law_played.body with
  | [_, _, .for_ _ _ b, _] => b
  | _ => []
def lpIn : List S := match lpBody with
  | [_, _, .for_ _ _ b, _, _] => b
  | _ => []
def lw1 : E := .lc [9] (.n 9) (.rng1 (.blt .len [.var 1])) [.cmp .eq (.idx (.idx (.var 0) (.var 8)) (.var 9)) (.idx (.var 1) (.var 9))] (.idx (.var 3) (.var 9))
def lw2 : E := .lc [9] (.n 9) (.rng1 (.blt .len [.var 1])) [] (.ife (.cmp .eq (.idx (.idx (.var 0) (.var 7)) (.var 9)) (.idx (.var 1) (.var 9))) (.idx (.var 3) (.var 9)) (.bin .mul (.con (.int 2)) (.idx (.var 3) (.var 9))))
section
variable (rs : List (List Int)) (q : List Int) (hrs : ∀ r ∈ rs, r.length = q.length) (h0 : rs ≠ []) (h : q.length ≤ 500) (hr : rs.length ≤ 1000)
include hrs h0 h hr
omit h0 in
theorem lw1_ok {orc : Orc} (w : List Int) (hw : w.length = q.length) (n i : Nat) (hi : i < rs.length) (x4 x5 x6 x7 x10 : Slot) :
    ev C orc lw1 [.sh (.lst (rs.map rowD)), .sh (rowD q), .sh (.int n), .sh (.lst (w.map D.int)), x4, x5, x6, x7, .sh (.int i), .dead, x10] = .ok [.sh (.lst (rs.map rowD)), .sh (rowD q), .sh (.int n), .sh (.lst (w.map D.int)), x4, x5, x6, x7, .sh (.int i), .dead, x10] (.lst ((rwL (rs.getD i []) q w).map D.int), false) := by
  have z1 := z_rows hi
  have hl := getD_lenX hrs hi
  have e := ev_lcRf (C := C) (orc := orc) (v := 9) (s := q.length) (a := .blt .len [.var 1]) (ifs := [.cmp .eq (.idx (.idx (.var 0) (.var 8)) (.var 9)) (.idx (.var 1) (.var 9))]) (elt := .idx (.var 3) (.var 9)) (G := [.sh (.lst (rs.map rowD)), .sh (rowD q), .sh (.int n), .sh (.lst (w.map D.int)), x4, x5, x6, x7, .sh (.int i), .dead, x10]) (G1 := [.sh (.lst (rs.map rowD)), .sh (rowD q), .sh (.int n), .sh (.lst (w.map D.int)), x4, x5, x6, x7, .sh (.int i), .dead, x10]) (b := false)
    (fun k => (rs.getD i []).getD k 0 == q.getD k 0) (fun k => .int (w.getD k 0)) (by simp [evSs, evS, evT, evI, ev, evs, evA, evIfs, evSq, evIt, R.bind, R.ofO, readM, readPl, Slot.path, M.path, mIndex, ixN, M.val, M.seq, E.mf, E.mfL, It.mf, cmpop, truth, fl, D.imm, D.immL, bltC, notIns, bltin, updPl, M.upd, setM, allLeaf, callOw, outsA, backA, Slot.isOw, D.tyOk, D.hasTy, asgT, asgL, own1, isLst, mutM, M.fz, M.fzL, items, D.asInt, binop, D.eqOk, D.eqv, eqd_int, eqd_ints, rowD]) (by omega) (by rfl) (by rfl) (fun k hk => by
      have z2 := z_row (r := rs.getD i []) (k := k) (by omega)
      have z3 := z_row hk
      have z4 := z_lst (r := w) (k := k) (by omega)
      generalize rs.getD i [] = r at *
      by_cases hh : r.getD k 0 = q.getD k 0 <;> (generalize r.getD k 0 = u at *; generalize q.getD k 0 = v at *; generalize w.getD k 0 = x at *; simp [lcStep, evSs, evS, evT, evI, ev, evs, evA, evIfs, evSq, evIt, R.bind, R.ofO, readM, readPl, Slot.path, M.path, mIndex, ixN, M.val, M.seq, E.mf, E.mfL, It.mf, cmpop, truth, fl, D.imm, D.immL, bltC, notIns, bltin, updPl, M.upd, setM, allLeaf, callOw, outsA, backA, Slot.isOw, D.tyOk, D.hasTy, asgT, asgL, own1, isLst, mutM, M.fz, M.fzL, items, D.asInt, binop, D.eqOk, D.eqv, eqd_int, eqd_ints, wipe, z1, z2, z3, z4, hh]))
  rw [lw1, e]
  rw [rwL_eq _ _ _ hl hw, List.map_map]
  rfl
omit h0 in
theorem lw2_ok {orc : Orc} (w : List Int) (hw : w.length = q.length) (n i : Nat) (hi : i < rs.length) (x4 x5 x6 x8 x10 : Slot) :
    ev C orc lw2 [.sh (.lst (rs.map rowD)), .sh (rowD q), .sh (.int n), .sh (.lst (w.map D.int)), x4, x5, x6, .sh (.int i), x8, .dead, x10] = .ok [.sh (.lst (rs.map rowD)), .sh (rowD q), .sh (.int n), .sh (.lst (w.map D.int)), x4, x5, x6, .sh (.int i), x8, .dead, x10] (.lst ((dbl (rs.getD i []) q w).map D.int), false) := by
  have z1 := z_rows hi
  have hl := getD_lenX hrs hi
  have e := ev_lcRa (C := C) (orc := orc) (v := 9) (s := q.length) (a := .blt .len [.var 1]) (elt := .ife (.cmp .eq (.idx (.idx (.var 0) (.var 7)) (.var 9)) (.idx (.var 1) (.var 9))) (.idx (.var 3) (.var 9)) (.bin .mul (.con (.int 2)) (.idx (.var 3) (.var 9)))) (G := [.sh (.lst (rs.map rowD)), .sh (rowD q), .sh (.int n), .sh (.lst (w.map D.int)), x4, x5, x6, .sh (.int i), x8, .dead, x10]) (G1 := [.sh (.lst (rs.map rowD)), .sh (rowD q), .sh (.int n), .sh (.lst (w.map D.int)), x4, x5, x6, .sh (.int i), x8, .dead, x10]) (b := false)
    (fun k => .int (if (rs.getD i []).getD k 0 = q.getD k 0 then w.getD k 0 else 2 * w.getD k 0)) (by simp [evSs, evS, evT, evI, ev, evs, evA, evIfs, evSq, evIt, R.bind, R.ofO, readM, readPl, Slot.path, M.path, mIndex, ixN, M.val, M.seq, E.mf, E.mfL, It.mf, cmpop, truth, fl, D.imm, D.immL, bltC, notIns, bltin, updPl, M.upd, setM, allLeaf, callOw, outsA, backA, Slot.isOw, D.tyOk, D.hasTy, asgT, asgL, own1, isLst, mutM, M.fz, M.fzL, items, D.asInt, binop, D.eqOk, D.eqv, eqd_int, eqd_ints, rowD]) (by omega) (by rfl) (by rfl) (fun k hk => by
      have z2 := z_row (r := rs.getD i []) (k := k) (by omega)
      have z3 := z_row hk
      have z4 := z_lst (r := w) (k := k) (by omega)
      generalize rs.getD i [] = r at *
      by_cases hh : r.getD k 0 = q.getD k 0 <;> (generalize r.getD k 0 = u at *; generalize q.getD k 0 = v at *; generalize w.getD k 0 = x at *; simp [lcStep, evSs, evS, evT, evI, ev, evs, evA, evIfs, evSq, evIt, R.bind, R.ofO, readM, readPl, Slot.path, M.path, mIndex, ixN, M.val, M.seq, E.mf, E.mfL, It.mf, cmpop, truth, fl, D.imm, D.immL, bltC, notIns, bltin, updPl, M.upd, setM, allLeaf, callOw, outsA, backA, Slot.isOw, D.tyOk, D.hasTy, asgT, asgL, own1, isLst, mutM, M.fz, M.fzL, items, D.asInt, binop, D.eqOk, D.eqv, eqd_int, eqd_ints, wipe, z1, z2, z3, z4, hh, mul2]))
  rw [lw2, e]
  rw [dbl_eq _ _ _ hl hw, List.map_map]
  rfl
theorem lpIn_ok {orc : Orc} (w : List Int) (hw : w.length = q.length) (n : Nat) (x4 x5 x8 x10 : Slot) :
    ∃ y6 y8 y10, evS C orc (.for_ (.n 8) (.rng1 (.blt .len [.var 0])) lpIn) [.sh (.lst (rs.map rowD)), .sh (rowD q), .sh (.int n), .sh (.lst (w.map D.int)), x4, x5, .sh (.int (-1)), .sh (.int 0), x8, .dead, x10] = .ok [.sh (.lst (rs.map rowD)), .sh (rowD q), .sh (.int n), .sh (.lst (w.map D.int)), x4, x5, y6, .sh (.int (amax (sums rs q w))), y8, .dead, y10] .next := by
  have hsl : (sums rs q w).length = rs.length := by unfold sums; rw [List.length_map]
  obtain ⟨G2, e, b, a, x8', x10', rfl, ha⟩ := evS_forR (C := C) (orc := orc) (tg := .n 8) (a := .blt .len [.var 0]) (body := lpIn) (G := [.sh (.lst (rs.map rowD)), .sh (rowD q), .sh (.int n), .sh (.lst (w.map D.int)), x4, x5, .sh (.int (-1)), .sh (.int 0), x8, .dead, x10]) (b := false) rs.length
    (fun i (G : Py.Env) => ∃ (b : Int) (a : Nat) (x8 x10 : Slot), G = [.sh (.lst (rs.map rowD)), .sh (rowD q), .sh (.int n), .sh (.lst (w.map D.int)), x4, x5, .sh (.int b), .sh (.int a), x8, .dead, x10] ∧ am ((sums rs q w).drop i) b a i = amax (sums rs q w)) (by simp [evSs, evS, evT, evI, ev, evs, evA, evIfs, evSq, evIt, R.bind, R.ofO, readM, readPl, Slot.path, M.path, mIndex, ixN, M.val, M.seq, E.mf, E.mfL, It.mf, cmpop, truth, fl, D.imm, D.immL, bltC, notIns, bltin, updPl, M.upd, setM, allLeaf, callOw, outsA, backA, Slot.isOw, D.tyOk, D.hasTy, asgT, asgL, own1, isLst, mutM, M.fz, M.fzL, items, D.asInt, binop, D.eqOk, D.eqv, eqd_int, eqd_ints]) (by omega) ⟨-1, 0, x8, x10, rfl, rfl⟩ (fun i hi G hG => by
      obtain ⟨b, a, x8, x10, rfl, ha⟩ := hG
      have e1 := lw1_ok (C := C) (orc := orc) rs q hrs h hr w hw n i hi x4 x5 (.sh (.int b)) (.sh (.int a)) x10
      have hd : (sums rs q w).drop i = (rwL (rs.getD i []) q w).sum :: (sums rs q w).drop (i + 1) := by
        rw [List.drop_eq_getElem_cons (by omega)]
        congr 1
        simp [sums, List.getElem?_eq_getElem hi]
      rw [hd, am] at ha
      unfold lw1 at e1
      generalize rwL (rs.getD i []) q w = L at *
      by_cases hb : L.sum > b
      · rw [if_pos hb] at ha
        refine ⟨[.sh (.lst (rs.map rowD)), .sh (rowD q), .sh (.int n), .sh (.lst (w.map D.int)), x4, x5, .sh (.int b), .sh (.int a), .sh (.int i), .dead, x10], _, by simp [asgT], ?_, L.sum, i, .sh (.int i), .sh (.int L.sum), rfl, ha⟩
        unfold lpIn lpBody F__law_played
        simp [evSs, evS, evT, evI, ev, evs, evA, evIfs, evSq, evIt, R.bind, R.ofO, readM, readPl, Slot.path, M.path, mIndex, ixN, M.val, M.seq, E.mf, E.mfL, It.mf, cmpop, truth, fl, D.imm, D.immL, bltC, notIns, bltin, updPl, M.upd, setM, allLeaf, callOw, outsA, backA, Slot.isOw, D.tyOk, D.hasTy, asgT, asgL, own1, isLst, mutM, M.fz, M.fzL, items, D.asInt, binop, D.eqOk, D.eqv, eqd_int, eqd_ints, ↓e1, gInts_map, hb]
      · rw [if_neg hb] at ha
        refine ⟨[.sh (.lst (rs.map rowD)), .sh (rowD q), .sh (.int n), .sh (.lst (w.map D.int)), x4, x5, .sh (.int b), .sh (.int a), .sh (.int i), .dead, x10], _, by simp [asgT], ?_, b, a, .sh (.int i), .sh (.int L.sum), rfl, ha⟩
        unfold lpIn lpBody F__law_played
        simp [evSs, evS, evT, evI, ev, evs, evA, evIfs, evSq, evIt, R.bind, R.ofO, readM, readPl, Slot.path, M.path, mIndex, ixN, M.val, M.seq, E.mf, E.mfL, It.mf, cmpop, truth, fl, D.imm, D.immL, bltC, notIns, bltin, updPl, M.upd, setM, allLeaf, callOw, outsA, backA, Slot.isOw, D.tyOk, D.hasTy, asgT, asgL, own1, isLst, mutM, M.fz, M.fzL, items, D.asInt, binop, D.eqOk, D.eqv, eqd_int, eqd_ints, ↓e1, gInts_map, hb])
  rw [List.drop_of_length_le (by omega)] at ha
  have ha : a = amax (sums rs q w) := ha
  subst ha
  exact ⟨_, _, _, e⟩
theorem c_played (d n : Nat) (hn : n ≤ 1000) : callN C fns (d + 1) f__law_played [.sh (.lst (rs.map rowD)), .sh (rowD q), .sh (.int n)] = .ok [.dead, .dead, .dead] (.tup [.tup (natsD (playN rs q n).1), rowD (playN rs q n).2]) := by
  show runFn C _ F__law_played _ = _
  obtain ⟨G2, e, x5, x6, x7, x8, x10, rfl⟩ := evS_forR (C := C) (orc := callN C fns d) (tg := .n 5) (a := .var 2) (body := lpBody) (G := [.sh (.lst (rs.map rowD)), .sh (rowD q), .sh (.int n), .sh (.lst ((playN rs q 0).2.map D.int)), .ow (ownN []), .dead, .dead, .dead, .dead, .dead, .dead]) (b := false) n
    (fun k (G : Py.Env) => ∃ x5 x6 x7 x8 x10 : Slot, G = [.sh (.lst (rs.map rowD)), .sh (rowD q), .sh (.int n), .sh (.lst ((playN rs q k).2.map D.int)), .ow (ownN (playN rs q k).1), x5, x6, x7, x8, .dead, x10]) (by simp [ev]; rfl) (by omega) ⟨.dead, .dead, .dead, .dead, .dead, rfl⟩ (fun k hk G hG => by
      obtain ⟨x5, x6, x7, x8, x10, rfl⟩ := hG
      have hl := play_num (rs := rs) (q := q) k
      have hs : (natsD (playN rs q k).1).length < 16777216 := by rw [natsD, List.length_map]; omega
      obtain ⟨x6', x8', x10', e1⟩ := lpIn_ok (C := C) (orc := callN C fns d) rs q hrs h0 h hr (playN rs q k).2 (play_len hrs h0 k) n (.ow (ownN (playN rs q k).1)) (.sh (.int k)) x8 x10
      have e2 := lw2_ok (C := C) (orc := callN C fns d) rs q hrs h hr (playN rs q k).2 (play_len hrs h0 k) n (amax (sums rs q (playN rs q k).2)) (amax_rs h0 _) (ownN ((playN rs q k).1 ++ [amax (sums rs q (playN rs q k).2)]) |> Slot.ow) (.sh (.int k)) x6' x8' x10'
      refine ⟨[.sh (.lst (rs.map rowD)), .sh (rowD q), .sh (.int n), .sh (.lst ((playN rs q k).2.map D.int)), .ow (ownN (playN rs q k).1), .sh (.int k), x6, x7, x8, .dead, x10], _, by simp [asgT], ?_, .sh (.int k), x6', .sh (.int (amax (sums rs q (playN rs q k).2))), x8', x10', rfl⟩
      rw [playN]
      show _ = R.ok [_, _, _, .sh (.lst ((dbl _ _ _).map D.int)), .ow (ownN (_ ++ [_])), _, _, _, _, _, _] _
      generalize amax (sums rs q (playN rs q k).2) = a at *
      unfold lpBody F__law_played
      rw [evSs_next (G1 := [.sh (.lst (rs.map rowD)), .sh (rowD q), .sh (.int n), .sh (.lst ((playN rs q k).2.map D.int)), .ow (ownN (playN rs q k).1), .sh (.int k), .sh (.int (-1)), x7, x8, .dead, x10]) (by simp [evSs, evS, evT, evI, ev, evs, evA, evIfs, evSq, evIt, R.bind, R.ofO, readM, readPl, Slot.path, M.path, mIndex, ixN, M.val, M.seq, E.mf, E.mfL, It.mf, cmpop, truth, fl, D.imm, D.immL, bltC, notIns, bltin, updPl, M.upd, setM, allLeaf, callOw, outsA, backA, Slot.isOw, D.tyOk, D.hasTy, asgT, asgL, own1, isLst, mutM, M.fz, M.fzL, items, D.asInt, binop, D.eqOk, D.eqv, eqd_int, eqd_ints])]
      rw [evSs_next (G1 := [.sh (.lst (rs.map rowD)), .sh (rowD q), .sh (.int n), .sh (.lst ((playN rs q k).2.map D.int)), .ow (ownN (playN rs q k).1), .sh (.int k), .sh (.int (-1)), .sh (.int 0), x8, .dead, x10]) (by simp [evSs, evS, evT, evI, ev, evs, evA, evIfs, evSq, evIt, R.bind, R.ofO, readM, readPl, Slot.path, M.path, mIndex, ixN, M.val, M.seq, E.mf, E.mfL, It.mf, cmpop, truth, fl, D.imm, D.immL, bltC, notIns, bltin, updPl, M.upd, setM, allLeaf, callOw, outsA, backA, Slot.isOw, D.tyOk, D.hasTy, asgT, asgL, own1, isLst, mutM, M.fz, M.fzL, items, D.asInt, binop, D.eqOk, D.eqv, eqd_int, eqd_ints])]
      refine (evSs_next e1).trans ?_
      rw [evSs_next (G1 := [.sh (.lst (rs.map rowD)), .sh (rowD q), .sh (.int n), .sh (.lst ((playN rs q k).2.map D.int)), .ow (ownN ((playN rs q k).1 ++ [a])), .sh (.int k), x6', .sh (.int a), x8', .dead, x10']) (by rw [← ownN_app]; simp [evSs, evS, evT, evI, ev, evs, evA, evIfs, evSq, evIt, R.bind, R.ofO, readM, readPl, Slot.path, M.path, mIndex, ixN, M.val, M.seq, E.mf, E.mfL, It.mf, cmpop, truth, fl, D.imm, D.immL, bltC, notIns, bltin, updPl, M.upd, setM, allLeaf, callOw, outsA, backA, Slot.isOw, D.tyOk, D.hasTy, asgT, asgL, own1, isLst, mutM, M.fz, M.fzL, items, D.asInt, binop, D.eqOk, D.eqv, eqd_int, eqd_ints, ownN, szLine, hs])]
      unfold lw2 at e2
      simp [evSs, evS, R.bind, ↓e2, asgT])
  generalize playN rs q n = N at e ⊢
  have hE : enter 11 [.sh (.lst (rs.map rowD)), .sh (rowD q), .sh (.int n)] = [.sh (.lst (rs.map rowD)), .sh (rowD q), .sh (.int n), .dead, .dead, .dead, .dead, .dead, .dead, .dead, .dead] := rfl
  have h3 := ev_lcRa (C := C) (orc := callN C fns d) (v := 9) (s := q.length) (a := .blt .len [.var 1]) (elt := .con (.int 1)) (G := [.sh (.lst (rs.map rowD)), .sh (rowD q), .sh (.int n), .dead, .dead, .dead, .dead, .dead, .dead, .dead, .dead]) (G1 := [.sh (.lst (rs.map rowD)), .sh (rowD q), .sh (.int n), .dead, .dead, .dead, .dead, .dead, .dead, .dead, .dead]) (b := false)
    (fun _ => .int 1) (by simp [evSs, evS, evT, evI, ev, evs, evA, evIfs, evSq, evIt, R.bind, R.ofO, readM, readPl, Slot.path, M.path, mIndex, ixN, M.val, M.seq, E.mf, E.mfL, It.mf, cmpop, truth, fl, D.imm, D.immL, bltC, notIns, bltin, updPl, M.upd, setM, allLeaf, callOw, outsA, backA, Slot.isOw, D.tyOk, D.hasTy, asgT, asgL, own1, isLst, mutM, M.fz, M.fzL, items, D.asInt, binop, D.eqOk, D.eqv, eqd_int, eqd_ints, rowD]) (by omega) (by rfl) (by rfl) (fun k hk => by simp [lcStep, evSs, evS, evT, evI, ev, evs, evA, evIfs, evSq, evIt, R.bind, R.ofO, readM, readPl, Slot.path, M.path, mIndex, ixN, M.val, M.seq, E.mf, E.mfL, It.mf, cmpop, truth, fl, D.imm, D.immL, bltC, notIns, bltin, updPl, M.upd, setM, allLeaf, callOw, outsA, backA, Slot.isOw, D.tyOk, D.hasTy, asgT, asgL, own1, isLst, mutM, M.fz, M.fzL, items, D.asInt, binop, D.eqOk, D.eqv, eqd_int, eqd_ints, wipe])
  have h4 : (List.range q.length).map (fun _ => D.int 1) = (playN rs q 0).2.map D.int := by
    show _ = (List.replicate q.length (1 : Int)).map D.int
    rw [List.map_replicate, List.map_const', List.length_range]
  rw [h4] at h3
  have : evSs C (callN C fns d) F__law_played.body (enter F__law_played.n [.sh (.lst (rs.map rowD)), .sh (rowD q), .sh (.int n)]) = .ok [.sh (.lst (rs.map rowD)), .sh (rowD q), .sh (.int n), .sh (.lst (N.2.map D.int)), .sh (.lst (natsD N.1)), x5, x6, x7, x8, .dead, x10] (.ret (.tup [.tup (natsD N.1), rowD N.2])) := by
    show evSs C _ F__law_played.body (enter 11 _) = _
    rw [hE]
    unfold F__law_played
    rw [evSs_next (G1 := [.sh (.lst (rs.map rowD)), .sh (rowD q), .sh (.int n), .sh (.lst ((playN rs q 0).2.map D.int)), .dead, .dead, .dead, .dead, .dead, .dead, .dead]) (by simp [evS, R.bind, ↓h3, asgT])]
    rw [evSs_next (G1 := [.sh (.lst (rs.map rowD)), .sh (rowD q), .sh (.int n), .sh (.lst ((playN rs q 0).2.map D.int)), .ow (ownN []), .dead, .dead, .dead, .dead, .dead, .dead]) (by simp [evSs, evS, evT, evI, ev, evs, evA, evIfs, evSq, evIt, R.bind, R.ofO, readM, readPl, Slot.path, M.path, mIndex, ixN, M.val, M.seq, E.mf, E.mfL, It.mf, cmpop, truth, fl, D.imm, D.immL, bltC, notIns, bltin, index, updPl, M.upd, setM, allLeaf, callOw, outsA, backA, Slot.isOw, D.tyOk, D.hasTy, asgT, asgL, own1, isLst, mutM, M.fz, M.fzL, items, D.asInt, binop, eqd, D.eqOk, D.eqv, ownN, natsD])]
    refine (evSs_next e).trans ?_
    simp [evSs, evS, evT, evI, ev, evs, evA, evIfs, evSq, evIt, R.bind, R.ofO, readM, readPl, Slot.path, M.path, mIndex, ixN, M.val, M.seq, E.mf, E.mfL, It.mf, cmpop, truth, fl, D.imm, D.immL, bltC, notIns, bltin, index, updPl, M.upd, setM, allLeaf, callOw, outsA, backA, Slot.isOw, D.tyOk, D.hasTy, asgT, asgL, own1, isLst, mutM, M.fz, M.fzL, items, D.asInt, binop, eqd, D.eqOk, D.eqv, ownN, fzL_leaf, rowD]
  rw [runFn, this]
  simp [F__law_played, ioOk, leave]
end
end Lw
end
section
set_option Elab.async false
set_option linter.all false
set_option maxRecDepth 100000
set_option maxHeartbeats 4000000
namespace Lw
open Py PySem
variable {C : Py.Ctx}
def bits (n : Int) (s : Nat) : List Int := (List.range s).map fun k : Nat => Builtin.bitAnd (n / 2 ^ k) 1
theorem bits_len (n : Int) (s : Nat) : (bits n s).length = s := by unfold bits; rw [List.length_map, List.length_range]
theorem bits_ok (n : Int) (s : Nat) : Bits (bits n s) := by
  intro x hx
  obtain ⟨k, _, rfl⟩ := List.mem_map.mp hx
  rw [PyProof.Rows.bitAnd_m1]
  omega
theorem c_row (d : Nat) (n : Int) (s : Nat) (hs : s ≤ 1000) : callN C fns (d + 1) f__law_row [.sh (.int n), .sh (.int s)] = .ok [.dead, .dead] (rowD (bits n s)) := by
  show runFn C _ F__law_row _ = _
  have e2 := ev_lcRa (C := C) (orc := callN C fns d) (G := [.sh (.int n), .sh (.int s), .dead]) (G1 := [.sh (.int n), .sh (.int s), .dead]) (a := .var 1) (s := s) (b := false) (v := 2) (elt := .bin .band (.bin .shr (.var 0) (.var 2)) (.con (.int 1))) (fun k => D.int (Builtin.bitAnd (n / 2 ^ k) 1)) (by simp [ev]) (by omega) (by rfl) (by rfl) (fun k hk => by
    simp [lcStep, evSs, evS, evT, evI, ev, evs, evA, evIfs, evSq, evIt, R.bind, R.ofO, readM, readPl, Slot.path, M.path, mIndex, ixN, M.val, M.seq, E.mf, E.mfL, It.mf, cmpop, truth, fl, D.imm, D.immL, bltC, notIns, bltin, index, updPl, M.upd, setM, allLeaf, callOw, outsA, backA, Slot.isOw, D.tyOk, D.hasTy, asgT, asgL, own1, isLst, mutM, M.fz, M.fzL, items, D.asInt, binop, eqd, D.eqOk, D.eqv, wipe])
  have e3 : (List.range s).map (fun k : Nat => D.int (Builtin.bitAnd (n / 2 ^ k) 1)) = (bits n s).map D.int := by unfold bits; rw [List.map_map]; rfl
  rw [e3] at e2
  simp [F__law_row, runFn, ioOk, enter, leave, evSs, evS, evT, evI, ev, evs, evA, evIfs, evSq, evIt, R.bind, R.ofO, readM, readPl, Slot.path, M.path, mIndex, ixN, M.val, M.seq, E.mf, E.mfL, It.mf, cmpop, truth, fl, D.imm, D.immL, bltC, notIns, bltin, index, updPl, M.upd, setM, allLeaf, callOw, outsA, backA, Slot.isOw, D.tyOk, D.hasTy, asgT, asgL, own1, isLst, mutM, M.fz, M.fzL, items, D.asInt, binop, eqd, D.eqOk, D.eqv, ↓e2, rowD]
section
variable (rs : List (List Int)) (q : List Int) (hrs : ∀ r ∈ rs, r.length = q.length) (h : q.length ≤ 500) (hr : rs.length ≤ 1000)
variable (ns : List Nat) (hns : ∀ x ∈ ns, x < rs.length) (hl : ns.length ≤ 1000)
include hrs h hr hns hl
theorem c_wrong (d : Nat) : callN C fns (d + 1) f__law_wrong [.sh (.lst (rs.map rowD)), .sh (rowD q), .sh (.tup (natsD ns))] = .ok [.dead, .dead, .dead] (.tup (natsD (wrs rs q ns))) := by
  show runFn C _ F__law_wrong _ = _
  have e := ev_lcRa (C := C) (orc := callN C fns d) (v := 3) (s := q.length) (a := .blt .len [.var 1]) (elt := .blt .len [.lc [4] (.n 4) (.e (.var 2)) [.cmp .ne (.idx (.idx (.var 0) (.var 4)) (.var 3)) (.idx (.var 1) (.var 3))] (.var 4)]) (G := [.sh (.lst (rs.map rowD)), .sh (rowD q), .sh (.tup (natsD ns)), .dead, .dead]) (G1 := [.sh (.lst (rs.map rowD)), .sh (rowD q), .sh (.tup (natsD ns)), .dead, .dead]) (b := false)
    (fun k => .int (wr rs q ns k)) (by simp [evSs, evS, evT, evI, ev, evs, evA, evIfs, evSq, evIt, R.bind, R.ofO, readM, readPl, Slot.path, M.path, mIndex, ixN, M.val, M.seq, E.mf, E.mfL, It.mf, cmpop, truth, fl, D.imm, D.immL, bltC, notIns, bltin, updPl, M.upd, setM, allLeaf, callOw, outsA, backA, Slot.isOw, D.tyOk, D.hasTy, asgT, asgL, own1, isLst, mutM, M.fz, M.fzL, items, D.asInt, binop, D.eqOk, D.eqv, eqd_int, eqd_ints, rowD]) (by omega) (by rfl) (by rfl) (fun k hk => by
      have z3 := z_row hk
      have e := ev_lcA (C := C) (orc := callN C fns d) (own := [4]) (tg := .n 4) (it := .e (.var 2)) (ifs := [.cmp .ne (.idx (.idx (.var 0) (.var 4)) (.var 3)) (.idx (.var 1) (.var 3))]) (elt := .var 4) (G := [.sh (.lst (rs.map rowD)), .sh (rowD q), .sh (.tup (natsD ns)), .sh (.int k), .dead]) (G1 := [.sh (.lst (rs.map rowD)), .sh (rowD q), .sh (.tup (natsD ns)), .sh (.int k), .dead]) (b := false)
        ns (fun n : Nat => D.int n) (fun a => (rs.getD a []).getD k 0 != q.getD k 0) (fun a => .int a) (by simp [evSs, evS, evT, evI, ev, evs, evA, evIfs, evSq, evIt, R.bind, R.ofO, readM, readPl, Slot.path, M.path, mIndex, ixN, M.val, M.seq, E.mf, E.mfL, It.mf, cmpop, truth, fl, D.imm, D.immL, bltC, notIns, bltin, index, updPl, M.upd, setM, allLeaf, callOw, outsA, backA, Slot.isOw, D.tyOk, D.hasTy, asgT, asgL, own1, isLst, mutM, M.fz, M.fzL, items, D.asInt, binop, eqd, D.eqOk, D.eqv, natsD]) (by rfl) (by rfl) (fun a ha => by
          have z1 := z_rows (hns a ha)
          have z2 := z_row (r := rs.getD a []) (k := k) (by rw [getD_lenX hrs (hns a ha)]; exact hk)
          generalize rs.getD a [] = r at *
          by_cases hh : r.getD k 0 = q.getD k 0 <;> (generalize r.getD k 0 = u at *; generalize q.getD k 0 = v at *; simp [lcStep, evSs, evS, evT, evI, ev, evs, evA, evIfs, evSq, evIt, R.bind, R.ofO, readM, readPl, Slot.path, M.path, mIndex, ixN, M.val, M.seq, E.mf, E.mfL, It.mf, cmpop, truth, fl, D.imm, D.immL, bltC, notIns, bltin, updPl, M.upd, setM, allLeaf, callOw, outsA, backA, Slot.isOw, D.tyOk, D.hasTy, asgT, asgL, own1, isLst, mutM, M.fz, M.fzL, items, D.asInt, binop, D.eqOk, D.eqv, eqd_int, eqd_ints, wipe, z1, z2, z3, hh])) (by rfl) (by omega)
      simp [lcStep, evSs, evS, evT, evI, ev, evs, evA, evIfs, evSq, evIt, R.bind, R.ofO, readM, readPl, Slot.path, M.path, mIndex, ixN, M.val, M.seq, E.mf, E.mfL, It.mf, cmpop, truth, fl, D.imm, D.immL, bltC, notIns, bltin, updPl, M.upd, setM, allLeaf, callOw, outsA, backA, Slot.isOw, D.tyOk, D.hasTy, asgT, asgL, own1, isLst, mutM, M.fz, M.fzL, items, D.asInt, binop, D.eqOk, D.eqv, eqd_int, eqd_ints, wipe, ↓e, wr])
  have e3 : (List.range q.length).map (fun k => D.int (wr rs q ns k)) = natsD (wrs rs q ns) := by unfold natsD wrs; rw [List.map_map]; rfl
  rw [e3] at e
  simp [runFn, F__law_wrong, ioOk, enter, leave, evSs, evS, evT, evI, ev, evs, evA, evIfs, evSq, evIt, R.bind, R.ofO, readM, readPl, Slot.path, M.path, mIndex, ixN, M.val, M.seq, E.mf, E.mfL, It.mf, cmpop, truth, fl, D.imm, D.immL, bltC, notIns, bltin, updPl, M.upd, setM, allLeaf, callOw, outsA, backA, Slot.isOw, D.tyOk, D.hasTy, asgT, asgL, own1, isLst, mutM, M.fz, M.fzL, items, D.asInt, binop, D.eqOk, D.eqv, eqd_int, eqd_ints, ↓e]
theorem c_voted (d : Nat) : callN C fns (d + 1) f__law_voted [.sh (.lst (rs.map rowD)), .sh (.int q.length), .sh (.tup (natsD ns))] = .ok [.dead, .dead, .dead] (rowD (vt rs ns q.length)) := by
  show runFn C _ F__law_voted _ = _
  have z : (natsD ns).length = ns.length := by unfold natsD; rw [List.length_map]
  have e := ev_lcRa (C := C) (orc := callN C fns d) (v := 4) (s := q.length) (a := .var 1) (elt := .blt .sum [.lc [6] (.n 6) (.e (.var 2)) [] (.idx (.idx (.var 0) (.var 6)) (.var 4))]) (G := [.sh (.lst (rs.map rowD)), .sh (.int q.length), .sh (.tup (natsD ns)), .dead, .dead, .dead, .dead]) (G1 := [.sh (.lst (rs.map rowD)), .sh (.int q.length), .sh (.tup (natsD ns)), .dead, .dead, .dead, .dead]) (b := false)
    (fun k => .int (ys rs ns k)) (by simp [evSs, evS, evT, evI, ev, evs, evA, evIfs, evSq, evIt, R.bind, R.ofO, readM, readPl, Slot.path, M.path, mIndex, ixN, M.val, M.seq, E.mf, E.mfL, It.mf, cmpop, truth, fl, D.imm, D.immL, bltC, notIns, bltin, updPl, M.upd, setM, allLeaf, callOw, outsA, backA, Slot.isOw, D.tyOk, D.hasTy, asgT, asgL, own1, isLst, mutM, M.fz, M.fzL, items, D.asInt, binop, D.eqOk, D.eqv, eqd_int, eqd_ints]) (by omega) (by rfl) (by rfl) (fun k hk => by
      have e := ev_lcB (C := C) (orc := callN C fns d) (own := [6]) (tg := .n 6) (it := .e (.var 2)) (elt := .idx (.idx (.var 0) (.var 6)) (.var 4)) (G := [.sh (.lst (rs.map rowD)), .sh (.int q.length), .sh (.tup (natsD ns)), .dead, .sh (.int k), .dead, .dead]) (G1 := [.sh (.lst (rs.map rowD)), .sh (.int q.length), .sh (.tup (natsD ns)), .dead, .sh (.int k), .dead, .dead]) (b := false)
        ns (fun n : Nat => D.int n) (fun a => .int ((rs.getD a []).getD k 0)) (by simp [evSs, evS, evT, evI, ev, evs, evA, evIfs, evSq, evIt, R.bind, R.ofO, readM, readPl, Slot.path, M.path, mIndex, ixN, M.val, M.seq, E.mf, E.mfL, It.mf, cmpop, truth, fl, D.imm, D.immL, bltC, notIns, bltin, index, updPl, M.upd, setM, allLeaf, callOw, outsA, backA, Slot.isOw, D.tyOk, D.hasTy, asgT, asgL, own1, isLst, mutM, M.fz, M.fzL, items, D.asInt, binop, eqd, D.eqOk, D.eqv, natsD]) (by rfl) (by rfl) (fun a ha => by
          have z1 := z_rows (hns a ha)
          have z2 := z_row (r := rs.getD a []) (k := k) (by rw [getD_lenX hrs (hns a ha)]; exact hk)
          generalize rs.getD a [] = r at *
          generalize r.getD k 0 = u at *
          simp [lcStep, evSs, evS, evT, evI, ev, evs, evA, evIfs, evSq, evIt, R.bind, R.ofO, readM, readPl, Slot.path, M.path, mIndex, ixN, M.val, M.seq, E.mf, E.mfL, It.mf, cmpop, truth, fl, D.imm, D.immL, bltC, notIns, bltin, updPl, M.upd, setM, allLeaf, callOw, outsA, backA, Slot.isOw, D.tyOk, D.hasTy, asgT, asgL, own1, isLst, mutM, M.fz, M.fzL, items, D.asInt, binop, D.eqOk, D.eqv, eqd_int, eqd_ints, wipe, z1, z2]) (by rfl) (by omega)
      have e2 : ns.map (fun a => D.int ((rs.getD a []).getD k 0)) = (ns.map fun a => (rs.getD a []).getD k 0).map D.int := by rw [List.map_map]; rfl
      rw [e2] at e
      unfold ys
      generalize (ns.map fun a => (rs.getD a []).getD k 0) = L at *
      simp [lcStep, evSs, evS, evT, evI, ev, evs, evA, evIfs, evSq, evIt, R.bind, R.ofO, readM, readPl, Slot.path, M.path, mIndex, ixN, M.val, M.seq, E.mf, E.mfL, It.mf, cmpop, truth, fl, D.imm, D.immL, bltC, notIns, bltin, updPl, M.upd, setM, allLeaf, callOw, outsA, backA, Slot.isOw, D.tyOk, D.hasTy, asgT, asgL, own1, isLst, mutM, M.fz, M.fzL, items, D.asInt, binop, D.eqOk, D.eqv, eqd_int, eqd_ints, wipe, ↓e, gInts_map])
  have e5 := ev_lcB (C := C) (orc := callN C fns d) (own := [5]) (tg := .n 5) (it := .e (.var 3)) (elt := .ife (.cmp .gt (.bin .mul (.con (.int 2)) (.var 5)) (.blt .len [.var 2])) (.con (.int 1)) (.con (.int 0))) (G := [.sh (.lst (rs.map rowD)), .sh (.int q.length), .sh (.tup (natsD ns)), .sh (.lst ((List.range q.length).map fun k => .int (ys rs ns k))), .dead, .dead, .dead]) (G1 := [.sh (.lst (rs.map rowD)), .sh (.int q.length), .sh (.tup (natsD ns)), .sh (.lst ((List.range q.length).map fun k => .int (ys rs ns k))), .dead, .dead, .dead]) (b := false)
    (List.range q.length) (fun k => .int (ys rs ns k)) (fun k => .int (if 2 * ys rs ns k > ns.length then 1 else 0)) (by simp [evSs, evS, evT, evI, ev, evs, evA, evIfs, evSq, evIt, R.bind, R.ofO, readM, readPl, Slot.path, M.path, mIndex, ixN, M.val, M.seq, E.mf, E.mfL, It.mf, cmpop, truth, fl, D.imm, D.immL, bltC, notIns, bltin, index, updPl, M.upd, setM, allLeaf, callOw, outsA, backA, Slot.isOw, D.tyOk, D.hasTy, asgT, asgL, own1, isLst, mutM, M.fz, M.fzL, items, D.asInt, binop, eqd, D.eqOk, D.eqv]) (by rfl) (by rfl) (fun k hk => by
      by_cases hh : 2 * ys rs ns k > ns.length <;> simp [lcStep, evSs, evS, evT, evI, ev, evs, evA, evIfs, evSq, evIt, R.bind, R.ofO, readM, readPl, Slot.path, M.path, mIndex, ixN, M.val, M.seq, E.mf, E.mfL, It.mf, cmpop, truth, fl, D.imm, D.immL, bltC, notIns, bltin, updPl, M.upd, setM, allLeaf, callOw, outsA, backA, Slot.isOw, D.tyOk, D.hasTy, asgT, asgL, own1, isLst, mutM, M.fz, M.fzL, items, D.asInt, binop, D.eqOk, D.eqv, eqd_int, eqd_ints, wipe, mul2, z, hh]) (by rfl) (by simp; omega)
  have e3 : (List.range q.length).map (fun k => D.int (if 2 * ys rs ns k > ns.length then 1 else 0)) = (vt rs ns q.length).map D.int := by unfold vt; rw [List.map_map]; rfl
  rw [e3] at e5
  have hE : enter 7 [.sh (.lst (rs.map rowD)), .sh (.int q.length), .sh (.tup (natsD ns))] = [.sh (.lst (rs.map rowD)), .sh (.int q.length), .sh (.tup (natsD ns)), .dead, .dead, .dead, .dead] := rfl
  have : evSs C (callN C fns d) F__law_voted.body (enter F__law_voted.n [.sh (.lst (rs.map rowD)), .sh (.int q.length), .sh (.tup (natsD ns))]) = .ok [.sh (.lst (rs.map rowD)), .sh (.int q.length), .sh (.tup (natsD ns)), .sh (.lst ((List.range q.length).map fun k => .int (ys rs ns k))), .dead, .dead, .dead] (.ret (rowD (vt rs ns q.length))) := by
    show evSs C _ F__law_voted.body (enter 7 _) = _
    rw [hE]
    unfold F__law_voted
    rw [evSs_next (G1 := [.sh (.lst (rs.map rowD)), .sh (.int q.length), .sh (.tup (natsD ns)), .sh (.lst ((List.range q.length).map fun k => .int (ys rs ns k))), .dead, .dead, .dead]) (by simp only [evS, ↓e, R.bind]; simp [asgT])]
    simp only [evSs, evS, ev, evs, ↓e5, R.bind]
    simp [evSs, evS, evT, evI, ev, evs, evA, evIfs, evSq, evIt, R.bind, R.ofO, readM, readPl, Slot.path, M.path, mIndex, ixN, M.val, M.seq, E.mf, E.mfL, It.mf, cmpop, truth, fl, D.imm, D.immL, bltC, notIns, bltin, index, updPl, M.upd, setM, allLeaf, callOw, outsA, backA, Slot.isOw, D.tyOk, D.hasTy, asgT, asgL, own1, isLst, mutM, M.fz, M.fzL, items, D.asInt, binop, eqd, D.eqOk, D.eqv, rowD]
  rw [runFn, this]
  simp [F__law_voted, ioOk, leave]
end
/-- _law_same of a value of the right kind with itself -/
theorem c_same_int (d : Nat) (i : Int) : callN C fns (d + 1) f__law_same [.sh (.int i), .sh (.int i)] = .ok [.dead, .dead] (.bl true) := by
  show runFn C _ F__law_same _ = _
  simp [F__law_same, runFn, ioOk, enter, leave, evSs, evS, evT, evI, ev, evs, evA, evIfs, evSq, evIt, R.bind, R.ofO, readM, readPl, Slot.path, M.path, mIndex, ixN, M.val, M.seq, E.mf, E.mfL, It.mf, cmpop, truth, fl, D.imm, D.immL, bltC, notIns, bltin, updPl, M.upd, setM, allLeaf, callOw, outsA, backA, Slot.isOw, D.tyOk, D.hasTy, asgT, asgL, own1, isLst, mutM, M.fz, M.fzL, items, D.asInt, binop, D.eqOk, D.eqv, eqd_int, eqd_ints]
theorem c_same (d : Nat) (q : List Int) (h : q.length ≤ 1000) : callN C fns (d + 2) f__law_same [.sh (rowD q), .sh (rowD q)] = .ok [.dead, .dead] (.bl true) := by
  show runFn C _ F__law_same _ = _
  have e := ev_lcRa (C := C) (orc := callN C fns (d + 1)) (v := 2) (s := q.length) (a := .blt .len [.var 1]) (elt := .call f__law_same [.idx (.var 0) (.var 2), .idx (.var 1) (.var 2)] [0, 1]) (G := [.sh (.tup (q.map D.int)), .sh (.tup (q.map D.int)), .dead]) (G1 := [.sh (.tup (q.map D.int)), .sh (.tup (q.map D.int)), .dead]) (b := false)
    (fun k => .bl true) (by simp [evSs, evS, evT, evI, ev, evs, evA, evIfs, evSq, evIt, R.bind, R.ofO, readM, readPl, Slot.path, M.path, mIndex, ixN, M.val, M.seq, E.mf, E.mfL, It.mf, cmpop, truth, fl, D.imm, D.immL, bltC, notIns, bltin, updPl, M.upd, setM, allLeaf, callOw, outsA, backA, Slot.isOw, D.tyOk, D.hasTy, asgT, asgL, own1, isLst, mutM, M.fz, M.fzL, items, D.asInt, binop, D.eqOk, D.eqv, eqd_int, eqd_ints]) (by omega) (by rfl) (by rfl) (fun k hk => by
      have z3 := atI_ints hk
      generalize q.getD k 0 = u at *
      simp [lcStep, evSs, evS, evT, evI, ev, evs, evA, evIfs, evSq, evIt, R.bind, R.ofO, readM, readPl, Slot.path, M.path, mIndex, ixN, M.val, M.seq, E.mf, E.mfL, It.mf, cmpop, truth, fl, D.imm, D.immL, bltC, notIns, bltin, index, updPl, M.upd, setM, allLeaf, callOw, outsA, backA, Slot.isOw, D.tyOk, D.hasTy, asgT, asgL, own1, isLst, mutM, M.fz, M.fzL, items, D.asInt, binop, eqd, D.eqOk, D.eqv, wipe, z3, c_same_int d u])
  have e4 : ∀ (n : Nat), memOk (.bl false) ((List.range n).map fun _ => D.bl true) = true ∧ ((List.range n).map fun _ => D.bl true).any (fun x => D.eqv x (.bl false)) = false := by
    intro n
    generalize List.range n = l
    constructor
    · unfold memOk
      rw [Bool.and_eq_true]
      refine ⟨rfl, ?_⟩
      induction l with
      | nil => rfl
      | cons x l ih => exact ih
    · induction l with
      | nil => rfl
      | cons x l ih => exact ih
  obtain ⟨e5, e6⟩ := e4 q.length
  simp [F__law_same, runFn, ioOk, enter, leave, evSs, evS, evT, evI, ev, evs, evA, evIfs, evSq, evIt, R.bind, R.ofO, readM, readPl, Slot.path, M.path, mIndex, ixN, M.val, M.seq, E.mf, E.mfL, It.mf, cmpop, truth, fl, D.imm, D.immL, bltC, notIns, bltin, index, updPl, M.upd, setM, allLeaf, callOw, outsA, backA, Slot.isOw, D.tyOk, D.hasTy, asgT, asgL, own1, isLst, mutM, M.fz, M.fzL, items, D.asInt, binop, eqd, D.eqOk, D.eqv, rowD, ↓e, e5]
end Lw
end
section
set_option Elab.async false
set_option linter.all false
set_option maxRecDepth 100000
set_option maxHeartbeats 4000000
namespace Lw
open Py PySem
variable {C : Py.Ctx}
/-- rows that make a list: some, less than 64, of one length, bits, each once, ascending -/
structure Rows (s : Nat) (rs : List (List Int)) : Prop where
  ne : rs ≠ []
  lt : rs.length < 64
  len : ∀ r ∈ rs, r.length = s
  bit : ∀ r ∈ rs, Bits r
  nd : rs.Nodup
  ch : Chain rs
theorem c_are_rows (d s : Nat) (rs : List (List Int)) (h : Rows s rs) (hs : s ≤ 500) : callN C fns (d + 4) f_are_rows [.sh (.int s), .sh (.lst (rs.map rowD))] = .ok [.dead, .dead] (.bl true) := by
  show runFn C _ F_are_rows _ = _
  have h1 := c_is_number (C := C) (d + 1) s (by omega)
  have h0 := h.ne
  have hl := h.lt
  have e := ev_lcA (C := C) (orc := callN C fns (d + 3)) (own := [2]) (tg := .n 2) (it := .e (.var 1)) (ifs := [.not (.call f_is_row [.var 2, .var 0] [0, 1])]) (elt := .var 2) (G := [.sh (.int s), .sh (.lst (rs.map rowD)), .dead]) (G1 := [.sh (.int s), .sh (.lst (rs.map rowD)), .dead]) (b := false)
    rs rowD (fun _ => false) rowD (by simp [evSs, evS, evT, evI, ev, evs, evA, evIfs, evSq, evIt, R.bind, R.ofO, readM, readPl, Slot.path, M.path, mIndex, ixN, M.val, M.seq, E.mf, E.mfL, It.mf, cmpop, truth, fl, D.imm, D.immL, bltC, notIns, bltin, index, updPl, M.upd, setM, allLeaf, callOw, outsA, backA, Slot.isOw, D.tyOk, D.hasTy, asgT, asgL, own1, isLst, mutM, M.fz, M.fzL, items, D.asInt, binop, eqd, D.eqOk, D.eqv]) (by rfl) (by rfl) (fun r hr => by
      simp [lcStep, evSs, evS, evT, evI, ev, evs, evA, evIfs, evSq, evIt, R.bind, R.ofO, readM, readPl, Slot.path, M.path, mIndex, ixN, M.val, M.seq, E.mf, E.mfL, It.mf, cmpop, truth, fl, D.imm, D.immL, bltC, notIns, bltin, index, updPl, M.upd, setM, allLeaf, callOw, outsA, backA, Slot.isOw, D.tyOk, D.hasTy, asgT, asgL, own1, isLst, mutM, M.fz, M.fzL, items, D.asInt, binop, eqd, D.eqOk, D.eqv, wipe, c_is_row d r s (h.bit r hr) (h.len r hr) (by omega)]) (by rfl) (by omega)
  rw [List.filter_eq_nil_iff.mpr (by simp)] at e
  have h2 : ¬ ((rs.length : Int) = 0) := by
    have := List.length_pos_iff.mpr h0
    omega
  simp [runFn, F_are_rows, ioOk, enter, leave, evSs, evS, evT, evI, ev, evs, evA, evIfs, evSq, evIt, R.bind, R.ofO, readM, readPl, Slot.path, M.path, mIndex, ixN, M.val, M.seq, E.mf, E.mfL, It.mf, cmpop, truth, fl, D.imm, D.immL, bltC, notIns, bltin, updPl, M.upd, setM, allLeaf, callOw, outsA, backA, Slot.isOw, D.tyOk, D.hasTy, asgT, asgL, own1, isLst, mutM, M.fz, M.fzL, items, D.asInt, binop, D.eqOk, D.eqv, eqd_int, eqd_ints, ↓e, h1, h2, h0]
theorem c_init (d s : Nat) (rs : List (List Int)) (h : Rows s rs) (hs : s ≤ 500) : callN C fns (d + 5) f_Rules___init__ [.ow (.ins 0 [] []), .sh (.int s), .sh (.lst (rs.map rowD))] = .ok [.ow (.ins 0 [2, 1] [.leaf (.int s), .leaf (.tup (rs.map rowD))]), .dead, .dead] .non := by
  show runFn C _ F_Rules___init__ _ = _
  have e := c_are_rows (C := C) d s rs h hs
  have e1 := rowsOf_mapR rs
  have e2 : sortedD ((firstMet rs).map rowD) = some (.lst (rs.map rowD)) := by
    rw [firstMet_nodup h.nd, sortedD_rows h.ne h.lt h.len (fun r hr x hx => by
      rcases h.bit r hr x hx with rfl | rfl <;> omega) h.nd, sortRows_chain h.ch]
  have hl := h.lt
  simp [runFn, F_Rules___init__, ioOk, enter, leave, evSs, evS, evT, evI, ev, evs, evA, evIfs, evSq, evIt, R.bind, R.ofO, readM, readPl, Slot.path, M.path, mIndex, ixN, M.val, M.seq, E.mf, E.mfL, It.mf, cmpop, truth, fl, D.imm, D.immL, bltC, notIns, bltin, index, updPl, M.upd, setM, allLeaf, callOw, outsA, backA, Slot.isOw, D.tyOk, D.hasTy, asgT, asgL, own1, isLst, mutM, M.fz, M.fzL, items, D.asInt, binop, eqd, D.eqOk, D.eqv, e, e1, e2, hl, fsetM, fldSet]
theorem M_RU (s : Nat) (rs : List (List Int)) : (M.ins 0 [2, 1] [.leaf (.int s), .leaf (.tup (rs.map rowD))]).fz = RU s rs := rfl
theorem c_same_nats (d : Nat) (ns : List Nat) (h : ns.length ≤ 1000) : callN C fns (d + 2) f__law_same [.sh (.tup (natsD ns)), .sh (.tup (natsD ns))] = .ok [.dead, .dead] (.bl true) := by
  have := c_same (C := C) d (ns.map fun n : Nat => (n : Int)) (by rw [List.length_map]; exact h)
  unfold rowD at this
  rw [← natsD_ints] at this
  exact this
theorem c_counted (hmth : C.mth 0 m_look_at_row = some f_Rules_look_at_row) (hlen : C.lenOf 0 = some f_Rules___len__) (d s : Nat) (rs : List (List Int)) (q : List Int) (h : Rows q.length rs) (hs : q.length ≤ 500) (hq : Bits q) (ns : List Nat) (hns : ∀ x ∈ ns, x < rs.length) (hl : ns.length ≤ 1000) :
    callN C fns (d + 7) f__law_counted [.sh (RU q.length rs), .sh (.lst (rs.map rowD)), .sh (rowD q), .sh (.tup (natsD ns))] = .ok [.dead, .dead, .dead, .dead] (.bl true) := by
  show runFn C _ F__law_counted _ = _
  have hr : rs.length ≤ 1000 := by have := h.lt; omega
  have e1 := c_wrong_counts (C := C) rs q h.len hs hr hmth hlen hq ns hns hl d
  have e2 := c_wrong (C := C) rs q h.len hs hr ns hns hl (d + 5)
  have e3 := c_voted_by (C := C) rs q h.len hs hr hlen ns hns hl d
  have e4 := c_voted (C := C) rs q h.len hs hr ns hns hl (d + 5)
  have e5 := c_same_nats (C := C) (d + 4) (wrs rs q ns) (by unfold wrs; rw [List.length_map, List.length_range]; omega)
  have e6 := c_same (C := C) (d + 4) (vt rs ns q.length) (by unfold vt; rw [List.length_map, List.length_range]; omega)
  have e7 : bltC C (callN C fns (d + 6)) .len ([rowD q], false) = some (.int q.length, false) := by simp [evSs, evS, evT, evI, ev, evs, evA, evIfs, evSq, evIt, R.bind, R.ofO, readM, readPl, Slot.path, M.path, mIndex, ixN, M.val, M.seq, E.mf, E.mfL, It.mf, cmpop, truth, fl, D.imm, D.immL, bltC, notIns, bltin, index, updPl, M.upd, setM, allLeaf, callOw, outsA, backA, Slot.isOw, D.tyOk, D.hasTy, asgT, asgL, own1, isLst, mutM, M.fz, M.fzL, items, D.asInt, binop, eqd, D.eqOk, D.eqv, rowD]
  simp [runFn, F__law_counted, ioOk, enter, leave, evSs, evS, evT, ev, evs, R.bind, R.ofO, truth, fl, D.imm, E.mf, E.mfL, e1, e2, e3, e4, e5, e6, e7]
end Lw
end
section
set_option Elab.async false
set_option linter.all false
set_option maxRecDepth 100000
set_option maxHeartbeats 4000000
namespace Lw
open Py PySem
variable {C : Py.Ctx}
theorem c_draw (cs : List Int) (hcs : cs.length ≤ 1000) (d : Nat) (lim : Nat) (hl : 1 ≤ lim) (hl2 : lim ≤ 1000000) (m : M) (hm : Bx cs m) : ∃ (m' : M) (x : Nat), callN C fns (d + 1) f__law_draw [.ow m, .sh (.int lim)] = .ok [.ow m', .dead] (.int x) ∧ Bx cs m' ∧ x < lim := by
  have hb : lim.log2 < 62 := by
    have := rngOk_nat lim hl2
    unfold rngOk ltp at this
    exact of_decide_eq_true this
  obtain ⟨m', x, e, hm', h1, h2⟩ := draw_ok (C := C) (orc := callN C fns d) cs hcs lim (by omega) (by show lim.log2 < 9000; omega) m hm
  refine ⟨m', x.toNat, ?_, hm', by omega⟩
  rw [Int.toNat_of_nonneg h1]
  exact e
theorem ints_of : ∀ {xs : List D}, (∀ x ∈ xs, ∃ i : Int, x = .int i) → ∃ L : List Int, xs = L.map D.int
  | [], _ => ⟨[], rfl⟩
  | x :: xs, h => by
    obtain ⟨i, rfl⟩ := h x List.mem_cons_self
    obtain ⟨L, rfl⟩ := ints_of fun y hy => h y (List.mem_cons_of_mem _ hy)
    exact ⟨i :: L, rfl⟩
theorem nats_of {n : Nat} : ∀ {xs : List D}, (∀ x ∈ xs, ∃ i : Nat, x = .int i ∧ i < n) → ∃ L : List Nat, xs = natsD L ∧ (∀ x ∈ L, x < n)
  | [], _ => ⟨[], rfl, nofun⟩
  | x :: xs, h => by
    obtain ⟨i, rfl, hi⟩ := h x List.mem_cons_self
    obtain ⟨L, rfl, hL⟩ := nats_of fun y hy => h y (List.mem_cons_of_mem _ hy)
    refine ⟨i :: L, rfl, fun y hy => ?_⟩
    rcases List.mem_cons.mp hy with rfl | hy
    · exact hi
    · exact hL y hy
theorem shl1 {s : Nat} (h : s ≤ 10) : binop .shl (.int 1) (.int s) = some (.int ((2 ^ s : Nat) : Int)) := by
  match s, h with
  | 0, _ | 1, _ | 2, _ | 3, _ | 4, _ | 5, _ | 6, _ | 7, _ | 8, _ | 9, _ | 10, _ => rfl
theorem pow_le {s : Nat} (h : s ≤ 5) : 2 ^ s ≤ 32 := by
  match s, h with
  | 0, _ | 1, _ | 2, _ | 3, _ | 4, _ | 5, _ => decide
theorem pow_pos' (s : Nat) : 1 ≤ 2 ^ s := Nat.pow_pos (by decide)
theorem pc : ∀ s, s ≤ 5 → ∀ o, o ≤ s → ((List.range (2 ^ s)).any fun k : Nat => (bits k s).sum == (o : Int)) = true := by
  decide +kernel
section
variable (cs : List Int) (hcs : cs.length ≤ 1000) (d s most : Nat) (hs : s ≤ 5) (h1 : 1 ≤ most) (h2 : most ≤ 40)
include hcs hs h1 h2
def liB (k : Nat) : S := F__law_list.body.getD k .pass
theorem li2 (m : M) (hm : Bx cs m) (x3 : Slot) : ∃ (m' : M) (L : List Int), Bx cs m' ∧ 1 ≤ L.length ∧ L.length ≤ 100 ∧ evS C (callN C fns (d + 1)) (liB 1) [.ow m, .sh (.int s), .sh (.int most), x3, .dead, .dead, .dead, .dead, .dead, .dead, .dead] = .ok [.ow m', .sh (.int s), .sh (.int most), x3, .sh (.lst (L.map D.int)), .dead, .dead, .dead, .dead, .dead, .dead] .next := by
  obtain ⟨m1, x, e1, b1, hx⟩ := c_draw (C := C) cs hcs d most h1 (by omega) m hm
  have hp := pow_le hs
  have hq := pow_pos' s
  have hsh := shl1 (s := s) (by omega)
  obtain ⟨G2, xs, e, ⟨m2, b2, rfl⟩, p, l⟩ := ev_lcDr (C := C) (orc := callN C fns (d + 1)) (v := 7) (n := 1 + x) (a := .bin .add (.con (.int 1)) (.callO f__law_draw [.io 0 [], .e (.var 2)] [0, 1])) (elt := .callO f__law_draw [.io 0 [], .e (.bin .shl (.con (.int 1)) (.var 1))] [0, 1]) (b := false)
    (G := [.ow m, .sh (.int s), .sh (.int most), x3, .dead, .dead, .dead, .dead, .dead, .dead, .dead]) (G1 := [.ow m1, .sh (.int s), .sh (.int most), x3, .dead, .dead, .dead, .dead, .dead, .dead, .dead])
    (fun G => ∃ m, Bx cs m ∧ G = [.ow m, .sh (.int s), .sh (.int most), x3, .dead, .dead, .dead, .dead, .dead, .dead, .dead]) (fun x => ∃ i : Int, x = .int i)
    (by simp [evSs, evS, evT, evI, ev, evs, evA, evIfs, evSq, evIt, R.bind, R.ofO, readM, readPl, Slot.path, M.path, mIndex, ixN, M.val, M.seq, E.mf, E.mfL, It.mf, cmpop, truth, fl, D.imm, D.immL, bltC, notIns, bltin, index, updPl, M.upd, setM, allLeaf, callOw, outsA, backA, Slot.isOw, D.tyOk, D.hasTy, asgT, asgL, own1, isLst, mutM, M.fz, M.fzL, items, D.asInt, binop, eqd, D.eqOk, D.eqv, e1]) (by omega) (by rfl) ⟨m1, b1, rfl⟩ (fun k hk G hG => by
      obtain ⟨m, b, rfl⟩ := hG
      obtain ⟨m', y, e2, b2, hy⟩ := c_draw (C := C) cs hcs d (2 ^ s) hq (by omega) m b
      refine ⟨[.ow m', .sh (.int s), .sh (.int most), x3, .dead, .dead, .dead, .dead, .dead, .dead, .dead], .int y, ?_, ⟨m', b2, rfl⟩, y, rfl⟩
      generalize ((2 ^ s : Nat) : Int) = z at *
      simp [lcStep, evSs, evS, evT, evI, ev, evs, evA, evIfs, evSq, evIt, R.bind, R.ofO, readM, readPl, Slot.path, M.path, mIndex, ixN, M.val, M.seq, E.mf, E.mfL, It.mf, cmpop, truth, fl, D.imm, D.immL, bltC, notIns, bltin, index, updPl, M.upd, setM, allLeaf, callOw, outsA, backA, Slot.isOw, D.tyOk, D.hasTy, asgT, asgL, own1, isLst, mutM, M.fz, M.fzL, items, D.asInt, eqd, D.eqOk, D.eqv, wipe, hsh, e2])
  obtain ⟨L, rfl⟩ := ints_of p
  rw [List.length_map] at l
  refine ⟨m2, L, b2, by omega, by omega, ?_⟩
  unfold liB F__law_list
  simp only [List.getD_cons_succ, List.getD_cons_zero, evS, ↓e, R.bind]
  simp [asgT, unwipe]
omit h2 in
theorem li3 (m : M) (x3 : Nat) (L : List Int) (hL1 : 1 ≤ L.length) (hL2 : L.length ≤ 100) : ∃ (L' : List Int), 1 ≤ L'.length ∧ L'.length ≤ 100 ∧ evS C (callN C fns (d + 1)) (liB 2) [.ow m, .sh (.int s), .sh (.int most), .sh (.int x3), .sh (.lst (L.map D.int)), .dead, .dead, .dead, .dead, .dead, .dead] = .ok [.ow m, .sh (.int s), .sh (.int most), .sh (.int x3), .sh (.lst (L'.map D.int)), .dead, .dead, .dead, .dead, .dead, .dead] .next := by
  have hp := pow_le hs
  have hq := pow_pos' s
  have hsh := shl1 (s := s) (by omega)
  by_cases h : x3 = 0
  · subst h
    have e := ev_lcRa (C := C) (orc := callN C fns (d + 1)) (v := 10) (s := 2 ^ s) (a := .bin .shl (.con (.int 1)) (.var 1)) (elt := .var 10) (b := false)
      (G := [.ow m, .sh (.int s), .sh (.int most), .sh (.int 0), .sh (.lst (L.map D.int)), .dead, .dead, .dead, .dead, .dead, .dead]) (G1 := [.ow m, .sh (.int s), .sh (.int most), .sh (.int 0), .sh (.lst (L.map D.int)), .dead, .dead, .dead, .dead, .dead, .dead])
      (fun k => .int k) (by generalize ((2 ^ s : Nat) : Int) = z at *; simp [evSs, evS, evT, evI, ev, evs, evA, evIfs, evSq, evIt, R.bind, R.ofO, readM, readPl, Slot.path, M.path, mIndex, ixN, M.val, M.seq, E.mf, E.mfL, It.mf, cmpop, truth, fl, D.imm, D.immL, bltC, notIns, bltin, index, updPl, M.upd, setM, allLeaf, callOw, outsA, backA, Slot.isOw, D.tyOk, D.hasTy, asgT, asgL, own1, isLst, mutM, M.fz, M.fzL, items, D.asInt, eqd, D.eqOk, D.eqv, hsh]) (by omega) (by rfl) (by rfl) (fun k hk => by simp [lcStep, evSs, evS, evT, evI, ev, evs, evA, evIfs, evSq, evIt, R.bind, R.ofO, readM, readPl, Slot.path, M.path, mIndex, ixN, M.val, M.seq, E.mf, E.mfL, It.mf, cmpop, truth, fl, D.imm, D.immL, bltC, notIns, bltin, index, updPl, M.upd, setM, allLeaf, callOw, outsA, backA, Slot.isOw, D.tyOk, D.hasTy, asgT, asgL, own1, isLst, mutM, M.fz, M.fzL, items, D.asInt, eqd, D.eqOk, D.eqv, wipe])
    refine ⟨(List.range (2 ^ s)).map fun k : Nat => (k : Int), by rw [List.length_map, List.length_range]; exact hq, by rw [List.length_map, List.length_range]; omega, ?_⟩
    unfold liB F__law_list
    rw [List.map_map]
    simp only [List.getD_cons_succ, List.getD_cons_zero]
    generalize hG : (fun k : Nat => D.int k) = g at *
    have hg : (D.int ∘ fun k : Nat => (k : Int)) = g := hG
    rw [hg]
    generalize (List.range (2 ^ s)).map g = Z at *
    simp [evSs, evS, evT, evI, ev, evs, evA, evIfs, evSq, evIt, R.bind, R.ofO, readM, readPl, Slot.path, M.path, mIndex, ixN, M.val, M.seq, E.mf, E.mfL, It.mf, cmpop, truth, fl, D.imm, D.immL, bltC, notIns, bltin, updPl, M.upd, setM, allLeaf, callOw, outsA, backA, Slot.isOw, D.tyOk, D.hasTy, asgT, asgL, own1, isLst, mutM, M.fz, M.fzL, items, D.asInt, binop, D.eqOk, D.eqv, eqd_int, eqd_ints, ↓e]
  · refine ⟨L, hL1, hL2, ?_⟩
    have h' : ¬ (x3 : Int) = 0 := by omega
    unfold liB F__law_list
    simp [evSs, evS, evT, evI, ev, evs, evA, evIfs, evSq, evIt, R.bind, R.ofO, readM, readPl, Slot.path, M.path, mIndex, ixN, M.val, M.seq, E.mf, E.mfL, It.mf, cmpop, truth, fl, D.imm, D.immL, bltC, notIns, bltin, updPl, M.upd, setM, allLeaf, callOw, outsA, backA, Slot.isOw, D.tyOk, D.hasTy, asgT, asgL, own1, isLst, mutM, M.fz, M.fzL, items, D.asInt, binop, D.eqOk, D.eqv, eqd_int, eqd_ints, h, h']
theorem li4 (m : M) (hm : Bx cs m) (x3 : Nat) (L : List Int) (hL1 : 1 ≤ L.length) (hL2 : L.length ≤ 100) : ∃ (m' : M) (L' : List Int) (x8 : Slot), Bx cs m' ∧ 1 ≤ L'.length ∧ L'.length ≤ 100 ∧ evS C (callN C fns (d + 1)) (liB 3) [.ow m, .sh (.int s), .sh (.int most), .sh (.int x3), .sh (.lst (L.map D.int)), .dead, .dead, .dead, .dead, .dead, .dead] = .ok [.ow m', .sh (.int s), .sh (.int most), .sh (.int x3), .sh (.lst (L'.map D.int)), .dead, .dead, .dead, x8, .dead, .dead] .next := by
  have hp := pow_le hs
  have hq := pow_pos' s
  have hsh := shl1 (s := s) (by omega)
  by_cases h : x3 = 1
  · subst h
    obtain ⟨m', y, e2, b2, hy⟩ := c_draw (C := C) cs hcs d (s + 1) (by omega) (by omega) m hm
    have e := ev_lcRf (C := C) (orc := callN C fns (d + 1)) (v := 10) (s := 2 ^ s) (a := .bin .shl (.con (.int 1)) (.var 1)) (ifs := [.cmp .eq (.blt .sum [.call f__law_row [.var 10, .var 1] [0, 1]]) (.var 8)]) (elt := .var 10) (b := false)
      (G := [.ow m', .sh (.int s), .sh (.int most), .sh (.int 1), .sh (.lst (L.map D.int)), .dead, .dead, .dead, .sh (.int y), .dead, .dead]) (G1 := [.ow m', .sh (.int s), .sh (.int most), .sh (.int 1), .sh (.lst (L.map D.int)), .dead, .dead, .dead, .sh (.int y), .dead, .dead])
      (fun k => (bits k s).sum == (y : Int)) (fun k => .int k) (by generalize ((2 ^ s : Nat) : Int) = z at *; simp [evSs, evS, evT, evI, ev, evs, evA, evIfs, evSq, evIt, R.bind, R.ofO, readM, readPl, Slot.path, M.path, mIndex, ixN, M.val, M.seq, E.mf, E.mfL, It.mf, cmpop, truth, fl, D.imm, D.immL, bltC, notIns, bltin, index, updPl, M.upd, setM, allLeaf, callOw, outsA, backA, Slot.isOw, D.tyOk, D.hasTy, asgT, asgL, own1, isLst, mutM, M.fz, M.fzL, items, D.asInt, eqd, D.eqOk, D.eqv, hsh]) (by omega) (by rfl) (by rfl) (fun k hk => by
        have e1 := c_row (C := C) d k s (by omega)
        generalize bits k s = B at *
        by_cases hh : B.sum = (y : Int) <;> simp [lcStep, evSs, evS, evT, evI, ev, evs, evA, evIfs, evSq, evIt, R.bind, R.ofO, readM, readPl, Slot.path, M.path, mIndex, ixN, M.val, M.seq, E.mf, E.mfL, It.mf, cmpop, truth, fl, D.imm, D.immL, bltC, notIns, bltin, updPl, M.upd, setM, allLeaf, callOw, outsA, backA, Slot.isOw, D.tyOk, D.hasTy, asgT, asgL, own1, isLst, mutM, M.fz, M.fzL, items, D.asInt, binop, D.eqOk, D.eqv, eqd_int, eqd_ints, wipe, e1, rowD, gInts_map, hh])
    have hne := pc s hs y (by omega)
    have hf1 : 1 ≤ ((List.range (2 ^ s)).filter fun k : Nat => (bits k s).sum == (y : Int)).length := by
      obtain ⟨k, hk, hk2⟩ := List.any_eq_true.mp hne
      exact List.length_pos_iff.mpr (List.ne_nil_of_mem (List.mem_filter.mpr ⟨hk, hk2⟩))
    have hf2 := List.length_filter_le (fun k : Nat => (bits k s).sum == (y : Int)) (List.range (2 ^ s))
    rw [List.length_range] at hf2
    generalize (List.range (2 ^ s)).filter (fun k : Nat => (bits k s).sum == (y : Int)) = F at *
    refine ⟨m', F.map fun k : Nat => (k : Int), .sh (.int y), b2, by rw [List.length_map]; exact hf1, by rw [List.length_map]; omega, ?_⟩
    have e3 : (F.map fun k : Nat => (k : Int)).map D.int = F.map fun k : Nat => D.int k := by rw [List.map_map]; rfl
    rw [e3]
    generalize F.map (fun k : Nat => D.int k) = Z at *
    unfold liB F__law_list
    simp only [List.getD_cons_succ, List.getD_cons_zero]
    have hy1 : ((s : Int) + 1) = ((s + 1 : Nat) : Int) := by omega
    have hg : evS C (callN C fns (d + 1)) (.asg (.n 8) (.callO f__law_draw [.io 0 [], .e (.bin .add (.var 1) (.con (.int 1)))] [0, 1])) [.ow m, .sh (.int s), .sh (.int most), .sh (.int (1 : Nat)), .sh (.lst (L.map D.int)), .dead, .dead, .dead, .dead, .dead, .dead] = .ok [.ow m', .sh (.int s), .sh (.int most), .sh (.int 1), .sh (.lst (L.map D.int)), .dead, .dead, .dead, .sh (.int y), .dead, .dead] .next := by
      rw [← hy1] at e2
      simp [evSs, evS, evT, evI, ev, evs, evA, evIfs, evSq, evIt, R.bind, R.ofO, readM, readPl, Slot.path, M.path, mIndex, ixN, M.val, M.seq, E.mf, E.mfL, It.mf, cmpop, truth, fl, D.imm, D.immL, bltC, notIns, bltin, updPl, M.upd, setM, allLeaf, callOw, outsA, backA, Slot.isOw, D.tyOk, D.hasTy, asgT, asgL, own1, isLst, mutM, M.fz, M.fzL, items, D.asInt, binop, D.eqOk, D.eqv, eqd_int, eqd_ints, e2]
    have hc : evT C (callN C fns (d + 1)) (.cmp .eq (.var 3) (.con (.int 1))) [.ow m, .sh (.int s), .sh (.int most), .sh (.int (1 : Nat)), .sh (.lst (L.map D.int)), .dead, .dead, .dead, .dead, .dead, .dead] = .ok [.ow m, .sh (.int s), .sh (.int most), .sh (.int (1 : Nat)), .sh (.lst (L.map D.int)), .dead, .dead, .dead, .dead, .dead, .dead] true := by simp [evSs, evS, evT, evI, ev, evs, evA, evIfs, evSq, evIt, R.bind, R.ofO, readM, readPl, Slot.path, M.path, mIndex, ixN, M.val, M.seq, E.mf, E.mfL, It.mf, cmpop, truth, fl, D.imm, D.immL, bltC, notIns, bltin, updPl, M.upd, setM, allLeaf, callOw, outsA, backA, Slot.isOw, D.tyOk, D.hasTy, asgT, asgL, own1, isLst, mutM, M.fz, M.fzL, items, D.asInt, binop, D.eqOk, D.eqv, eqd_int, eqd_ints]
    rw [evS, hc]
    show evSs _ _ _ _ = _
    rw [evSs_next hg]
    simp only [evSs, evS, ↓e, R.bind]
    simp [asgT]
  · refine ⟨m, L, .dead, hm, hL1, hL2, ?_⟩
    have h' : ¬ (x3 : Int) = 1 := by omega
    unfold liB F__law_list
    simp [evSs, evS, evT, evI, ev, evs, evA, evIfs, evSq, evIt, R.bind, R.ofO, readM, readPl, Slot.path, M.path, mIndex, ixN, M.val, M.seq, E.mf, E.mfL, It.mf, cmpop, truth, fl, D.imm, D.immL, bltC, notIns, bltin, updPl, M.upd, setM, allLeaf, callOw, outsA, backA, Slot.isOw, D.tyOk, D.hasTy, asgT, asgL, own1, isLst, mutM, M.fz, M.fzL, items, D.asInt, binop, D.eqOk, D.eqv, eqd_int, eqd_ints, h, h']
omit h2 in
theorem li5 (m : M) (x3 : Nat) (L : List Int) (x8 : Slot) (hL1 : 1 ≤ L.length) (hL2 : L.length ≤ 100) : ∃ (L' : List Int), 1 ≤ L'.length ∧ L'.length ≤ 200 ∧ evS C (callN C fns (d + 1)) (liB 4) [.ow m, .sh (.int s), .sh (.int most), .sh (.int x3), .sh (.lst (L.map D.int)), .dead, .dead, .dead, x8, .dead, .dead] = .ok [.ow m, .sh (.int s), .sh (.int most), .sh (.int x3), .sh (.lst (L'.map D.int)), .dead, .dead, .dead, x8, .dead, .dead] .next := by
  by_cases h : x3 = 2
  · subst h
    have e := ev_lcRa (C := C) (orc := callN C fns (d + 1)) (v := 7) (s := s) (a := .var 1) (elt := .bin .bxor (.idx (.var 4) (.con (.int 0))) (.bin .shl (.con (.int 1)) (.var 7))) (b := false)
      (G := [.ow m, .sh (.int s), .sh (.int most), .sh (.int 2), .sh (.lst (L.map D.int)), .dead, .dead, .dead, x8, .dead, .dead]) (G1 := [.ow m, .sh (.int s), .sh (.int most), .sh (.int 2), .sh (.lst (L.map D.int)), .dead, .dead, .dead, x8, .dead, .dead])
      (fun k => .int (Builtin.bitXor (L.getD 0 0) ((2 ^ k : Nat) : Int))) (by simp [evSs, evS, evT, evI, ev, evs, evA, evIfs, evSq, evIt, R.bind, R.ofO, readM, readPl, Slot.path, M.path, mIndex, ixN, M.val, M.seq, E.mf, E.mfL, It.mf, cmpop, truth, fl, D.imm, D.immL, bltC, notIns, bltin, updPl, M.upd, setM, allLeaf, callOw, outsA, backA, Slot.isOw, D.tyOk, D.hasTy, asgT, asgL, own1, isLst, mutM, M.fz, M.fzL, items, D.asInt, binop, D.eqOk, D.eqv, eqd_int, eqd_ints]) (by omega) (by rfl) (by rfl) (fun k hk => by
        have hsh := shl1 (s := k) (by omega)
        have z : index (.lst (L.map D.int)) (.int 0) = some (.int (L.getD 0 0)) := z_lst (r := L) (k := 0) (by omega)
        generalize ((2 ^ k : Nat) : Int) = w at *
        generalize L.getD 0 0 = g at *
        have hx : binop .bxor (.int g) (.int w) = some (.int (Builtin.bitXor g w)) := rfl
        simp [lcStep, evSs, evS, evT, evI, ev, evs, evA, evIfs, evSq, evIt, R.bind, R.ofO, readM, readPl, Slot.path, M.path, mIndex, ixN, M.val, M.seq, E.mf, E.mfL, It.mf, cmpop, truth, fl, D.imm, D.immL, bltC, notIns, bltin, updPl, M.upd, setM, allLeaf, callOw, outsA, backA, Slot.isOw, D.tyOk, D.hasTy, asgT, asgL, own1, isLst, mutM, M.fz, M.fzL, items, D.asInt, D.eqOk, D.eqv, eqd_int, eqd_ints, wipe, hsh, z, hx])
    have e3 : (List.range s).map (fun k => D.int (Builtin.bitXor (L.getD 0 0) ((2 ^ k : Nat) : Int))) = ((List.range s).map fun k => Builtin.bitXor (L.getD 0 0) ((2 ^ k : Nat) : Int)).map D.int := by rw [List.map_map]; rfl
    rw [e3] at e
    have hl : ((List.range s).map fun k => Builtin.bitXor (L.getD 0 0) ((2 ^ k : Nat) : Int)).length = s := by rw [List.length_map, List.length_range]
    generalize ((List.range s).map fun k => Builtin.bitXor (L.getD 0 0) ((2 ^ k : Nat) : Int)) = A at *
    have ht : (L.take 2).length = min 2 L.length := List.length_take
    refine ⟨A ++ L.take 2, by rw [List.length_append]; omega, by rw [List.length_append]; omega, ?_⟩
    have hc : cutD (L.map D.int) none (some 2) = (L.take 2).map D.int := by
      unfold cutD sIx
      simp [List.map_take]
    have hb : binop .add (.lst (A.map D.int)) (.lst ((L.take 2).map D.int)) = some (.lst ((A ++ L.take 2).map D.int)) := by
      show (if _ then _ else _) = _
      rw [if_pos (show lenOk _ = true from decide_eq_true (by rw [List.length_map, List.length_map]; show _ ≤ 16777216; omega)), List.map_append]
    unfold liB F__law_list
    simp only [List.getD_cons_succ, List.getD_cons_zero]
    generalize (A ++ L.take 2).map D.int = Z at *
    generalize (L.take 2).map D.int = Z2 at *
    simp [evSs, evS, evT, evI, ev, evs, evA, evIfs, evSq, evIt, R.bind, R.ofO, readM, readPl, Slot.path, M.path, mIndex, ixN, M.val, M.seq, E.mf, E.mfL, It.mf, cmpop, truth, fl, D.imm, D.immL, bltC, notIns, bltin, updPl, M.upd, setM, allLeaf, callOw, outsA, backA, Slot.isOw, D.tyOk, D.hasTy, asgT, asgL, own1, isLst, mutM, M.fz, M.fzL, items, D.asInt, D.eqOk, D.eqv, eqd_int, eqd_ints, ↓e, slice, hc, hb]
  · refine ⟨L, hL1, by omega, ?_⟩
    have h' : ¬ (x3 : Int) = 2 := by omega
    unfold liB F__law_list
    simp [evSs, evS, evT, evI, ev, evs, evA, evIfs, evSq, evIt, R.bind, R.ofO, readM, readPl, Slot.path, M.path, mIndex, ixN, M.val, M.seq, E.mf, E.mfL, It.mf, cmpop, truth, fl, D.imm, D.immL, bltC, notIns, bltin, updPl, M.upd, setM, allLeaf, callOw, outsA, backA, Slot.isOw, D.tyOk, D.hasTy, asgT, asgL, own1, isLst, mutM, M.fz, M.fzL, items, D.asInt, binop, D.eqOk, D.eqv, eqd_int, eqd_ints, h, h']
end
end Lw
end
section
set_option Elab.async false
set_option linter.all false
set_option maxRecDepth 100000
set_option maxHeartbeats 4000000
namespace Lw
open Py PySem
variable {C : Py.Ctx}
def ownR (rs : List (List Int)) : M := .lst ((rs.map rowD).map M.leaf)
theorem ownR_app (rs : List (List Int)) (r : List Int) : M.lst (((rs.map rowD).map M.leaf) ++ [M.leaf (rowD r)]) = ownR (rs ++ [r]) := by
  simp [ownR]
def liFor : List S := match liB 7 with
  | .for_ _ _ b => b
  | _ => []
theorem eqv_rows (x y : List Int) : D.eqv (rowD x) (rowD y) = (x == y) := eqvL_ints x y
theorem eqOk_rows (rs : List (List Int)) : D.eqOkL 63 (rs.map rowD) = true := by
  induction rs with
  | nil => rfl
  | cons r rs ih =>
    rw [List.map_cons, D.eqOkL, ih, Bool.and_true]
    show D.eqOkL 62 (r.map D.int) = true
    exact eqOkL_ints 62 r
theorem nmem_rows (r : List Int) (rs : List (List Int)) : cmpop .nmem (rowD r) (.lst (rs.map rowD)) = some (.bl (decide (r ∉ rs))) := by
  have h1 : memOk (rowD r) (rs.map rowD) = true := by
    unfold memOk
    rw [eqOk_rows, Bool.and_true]
    exact eqOkL_ints 63 r
  show (if _ then _ else _) = _
  rw [if_pos h1]
  congr 2
  have : ((rs.map rowD).any fun x => D.eqv x (rowD r)) = decide (r ∈ rs) := by
    rw [List.any_map]
    apply Bool.eq_iff_iff.mpr
    rw [List.any_eq_true, decide_eq_true_iff]
    constructor
    · rintro ⟨x, hx, h⟩
      have h : D.eqv (rowD x) (rowD r) = true := h
      rw [eqv_rows] at h
      have := eq_of_beq h
      rw [← this]
      exact hx
    · intro h
      refine ⟨r, h, ?_⟩
      show D.eqv (rowD r) (rowD r) = true
      rw [eqv_rows]
      exact beq_self_eq_true r
  rw [this]
  by_cases h : r ∈ rs <;> simp [h]
structure Rows0 (s most : Nat) (rs : List (List Int)) : Prop where
  le : rs.length ≤ most
  len : ∀ r ∈ rs, r.length = s
  bit : ∀ r ∈ rs, Bits r
  nd : rs.Nodup
section
variable (cs : List Int) (hcs : cs.length ≤ 1000) (d s most : Nat) (hs : s ≤ 5) (h1 : 1 ≤ most) (h2 : most ≤ 40)
include hcs hs h1 h2
theorem li8 (m : M) (x3 start : Nat) (L : List Int) (x8 : Slot) (hL1 : 1 ≤ L.length) (hL2 : L.length ≤ 200) : ∃ (rs : List (List Int)) (x7 x9 : Slot), Rows0 s most rs ∧ rs ≠ [] ∧ evS C (callN C fns (d + 1)) (.for_ (.n 7) (.rng1 (.blt .len [.var 4])) liFor) [.ow m, .sh (.int s), .sh (.int most), .sh (.int x3), .sh (.lst (L.map D.int)), .sh (.int start), .ow (ownR []), .dead, x8, .dead, .dead] = .ok [.ow m, .sh (.int s), .sh (.int most), .sh (.int x3), .sh (.lst (L.map D.int)), .sh (.int start), .ow (ownR rs), x7, x8, x9, .dead] .next := by
  obtain ⟨G2, e, rs, x7, x9, rfl, h, hne⟩ := evS_forR (C := C) (orc := callN C fns (d + 1)) (tg := .n 7) (a := .blt .len [.var 4]) (body := liFor) (G := [.ow m, .sh (.int s), .sh (.int most), .sh (.int x3), .sh (.lst (L.map D.int)), .sh (.int start), .ow (ownR []), .dead, x8, .dead, .dead]) (b := false) L.length
    (fun k (G : Py.Env) => ∃ (rs : List (List Int)) (x7 x9 : Slot), G = [.ow m, .sh (.int s), .sh (.int most), .sh (.int x3), .sh (.lst (L.map D.int)), .sh (.int start), .ow (ownR rs), x7, x8, x9, .dead] ∧ Rows0 s most rs ∧ (1 ≤ k → rs ≠ [])) (by simp [evSs, evS, evT, evI, ev, evs, evA, evIfs, evSq, evIt, R.bind, R.ofO, readM, readPl, Slot.path, M.path, mIndex, ixN, M.val, M.seq, E.mf, E.mfL, It.mf, cmpop, truth, fl, D.imm, D.immL, bltC, notIns, bltin, updPl, M.upd, setM, allLeaf, callOw, outsA, backA, Slot.isOw, D.tyOk, D.hasTy, asgT, asgL, own1, isLst, mutM, M.fz, M.fzL, items, D.asInt, binop, D.eqOk, D.eqv, eqd_int, eqd_ints]) (by omega) ⟨[], .dead, .dead, rfl, ⟨Nat.zero_le _, nofun, nofun, List.nodup_nil⟩, fun h => by omega⟩ (fun k hk G hG => by
      obtain ⟨rs, x7, x9, rfl, h, hne⟩ := hG
      have hm : (start + k) % L.length < L.length := Nat.mod_lt _ (by omega)
      have z := z_lst (r := L) hm
      have zm := modB (i := (start : Int) + k) (j := (L.length : Int)) (by omega)
      have zc : ((start : Int) + k) % (L.length : Int) = (((start + k) % L.length : Nat) : Int) := by simp
      rw [zc] at zm
      have e1 := c_row (C := C) d (L.getD ((start + k) % L.length) 0) s (by omega)
      have hb := bits_ok (L.getD ((start + k) % L.length) 0) s
      have hbl := bits_len (L.getD ((start + k) % L.length) 0) s
      generalize ((start + k) % L.length : Nat) = j at *
      generalize L.getD j 0 = g at *
      generalize bits g s = r at *
      have z8 := nmem_rows r rs
      have g0 : asgT (.n 7) (.int k) [.ow m, .sh (.int s), .sh (.int most), .sh (.int x3), .sh (.lst (L.map D.int)), .sh (.int start), .ow (ownR rs), x7, x8, x9, .dead] = .ok [.ow m, .sh (.int s), .sh (.int most), .sh (.int x3), .sh (.lst (L.map D.int)), .sh (.int start), .ow (ownR rs), .sh (.int k), x8, x9, .dead] () := by simp [asgT]
      have hs1 : evS C (callN C fns (d + 1)) (liFor.getD 0 .pass) [.ow m, .sh (.int s), .sh (.int most), .sh (.int x3), .sh (.lst (L.map D.int)), .sh (.int start), .ow (ownR rs), .sh (.int k), x8, x9, .dead] = .ok [.ow m, .sh (.int s), .sh (.int most), .sh (.int x3), .sh (.lst (L.map D.int)), .sh (.int start), .ow (ownR rs), .sh (.int k), x8, .sh (rowD r), .dead] .next := by
        unfold liFor liB F__law_list
        simp only [List.getD_cons_succ, List.getD_cons_zero]
        have hadd : binop .add (.int (start : Int)) (.int (k : Int)) = some (.int ((start : Int) + k)) := rfl
        simp [evSs, evS, evT, evI, ev, evs, evA, evIfs, evSq, evIt, R.bind, R.ofO, readM, readPl, Slot.path, M.path, mIndex, ixN, M.val, M.seq, E.mf, E.mfL, It.mf, cmpop, truth, fl, D.imm, D.immL, bltC, notIns, bltin, updPl, M.upd, setM, allLeaf, callOw, outsA, backA, Slot.isOw, D.tyOk, D.hasTy, asgT, asgL, own1, isLst, mutM, M.fz, M.fzL, items, D.asInt, D.eqOk, D.eqv, eqd_int, eqd_ints, hadd, zm, z, e1]
      have hlf : (((rs.map rowD).map M.leaf).length : Int) = rs.length := by simp
      by_cases hc : r ∉ rs ∧ rs.length < most
      · obtain ⟨c1, c2⟩ := hc
        refine ⟨_, [.ow m, .sh (.int s), .sh (.int most), .sh (.int x3), .sh (.lst (L.map D.int)), .sh (.int start), .ow (ownR (rs ++ [r])), .sh (.int k), x8, .sh (rowD r), .dead], g0, ?_, rs ++ [r], _, _, rfl, ⟨by rw [List.length_append]; exact c2, ?_, ?_, ?_⟩, fun _ => by simp⟩
        · refine (evSs_next hs1).trans ?_
          rw [← ownR_app]
          have hlt : rs.length < 16777216 := by omega
          have z9 : cmpop .lt (.int rs.length) (.int most) = some (.bl true) := by show some (D.bl (decide _)) = _; rw [decide_eq_true (by omega)]
          simp [-List.map_map, evSs, evS, evT, ev, evs, R.bind, R.ofO, readM, readPl, Slot.path, M.path, M.val, E.mf, E.mfL, truth, fl, D.imm, bltC, notIns, bltin, M.fz, fzL_leaf, ownR, z8, z9, c1, isLst, updPl, M.upd, mutM, szLine, hlt]
        · intro x hx
          rcases List.mem_append.mp hx with hx | hx
          · exact h.len x hx
          · rw [List.mem_singleton.mp hx]; exact hbl
        · intro x hx
          rcases List.mem_append.mp hx with hx | hx
          · exact h.bit x hx
          · rw [List.mem_singleton.mp hx]; exact hb
        · rw [List.nodup_append]
          refine ⟨h.nd, by simp, fun a ha b hb e => c1 ?_⟩
          rw [List.mem_singleton.mp hb] at e
          exact e ▸ ha
      · refine ⟨_, [.ow m, .sh (.int s), .sh (.int most), .sh (.int x3), .sh (.lst (L.map D.int)), .sh (.int start), .ow (ownR rs), .sh (.int k), x8, .sh (rowD r), .dead], g0, ?_, rs, _, _, rfl, h, fun _ hn => ?_⟩
        · refine (evSs_next hs1).trans ?_
          by_cases c1 : r ∈ rs
          · simp [-List.map_map, evSs, evS, evT, ev, evs, R.bind, R.ofO, readM, readPl, Slot.path, M.path, M.val, E.mf, E.mfL, truth, fl, D.imm, bltC, notIns, bltin, M.fz, fzL_leaf, ownR, z8, c1]
          · have c2 : ¬ rs.length < most := fun c2 => hc ⟨c1, c2⟩
            have z9 : cmpop .lt (.int rs.length) (.int most) = some (.bl false) := by show some (D.bl (decide _)) = _; rw [decide_eq_false (by omega)]
            simp [-List.map_map, evSs, evS, evT, ev, evs, R.bind, R.ofO, readM, readPl, Slot.path, M.path, M.val, E.mf, E.mfL, truth, fl, D.imm, bltC, notIns, bltin, M.fz, fzL_leaf, ownR, z8, z9, c1]
        · subst hn
          exact hc ⟨by simp, by simp; omega⟩)
  exact ⟨rs, x7, x9, h, hne hL1, e⟩
end
end Lw
end
section
set_option Elab.async false
set_option linter.all false
set_option maxRecDepth 100000
set_option maxHeartbeats 4000000
namespace Lw
open Py PySem
variable {C : Py.Ctx}
section
variable (cs : List Int) (hcs : cs.length ≤ 1000)
include hcs
theorem c_list (d s most : Nat) (hs : s ≤ 5) (h1 : 1 ≤ most) (h2 : most ≤ 40) (m : M) (hm : Bx cs m) : ∃ (m' : M) (rs : List (List Int)), callN C fns (d + 2) f__law_list [.ow m, .sh (.int s), .sh (.int most)] = .ok [.ow m', .dead, .dead] (.lst (rs.map rowD)) ∧ Bx cs m' ∧ Rows s rs ∧ rs.length ≤ most := by
  obtain ⟨m1, x3, e1, b1, _⟩ := c_draw (C := C) cs hcs d 7 (by omega) (by omega) m hm
  obtain ⟨m2, L2, b2, p2, q2, e2⟩ := li2 (C := C) cs hcs d s most hs h1 h2 m1 b1 (.sh (.int x3))
  obtain ⟨L3, p3, q3, e3⟩ := li3 (C := C) cs hcs d s most hs h1 m2 x3 L2 p2 q2
  obtain ⟨m4, L4, x8, b4, p4, q4, e4⟩ := li4 (C := C) cs hcs d s most hs h1 h2 m2 b2 x3 L3 p3 q3
  obtain ⟨L5, p5, q5, e5⟩ := li5 (C := C) cs hcs d s most hs h1 m4 x3 L4 x8 p4 q4
  obtain ⟨m6, start, e6, b6, _⟩ := c_draw (C := C) cs hcs d L5.length p5 (by omega) m4 b4
  obtain ⟨rs, x7, x9, hr, hne, e8⟩ := li8 (C := C) cs hcs d s most hs h1 h2 m6 x3 start L5 x8 p5 q5
  refine ⟨m6, sortRows rs, ?_, b6, ⟨?_, ?_, fun r h => hr.len r (mem_sort.mp h), fun r h => hr.bit r (mem_sort.mp h), nodup_sort hr.nd, chain_sort rs⟩, by rw [len_sort]; exact hr.le⟩
  · have hE : enter 11 [.ow m, .sh (.int s), .sh (.int most)] = [.ow m, .sh (.int s), .sh (.int most), .dead, .dead, .dead, .dead, .dead, .dead, .dead, .dead] := rfl
    have e9 := sortedD_rows hne (by have := hr.le; omega) hr.len (fun r h x hx => by rcases hr.bit r h x hx with rfl | rfl <;> omega) hr.nd
    have : evSs C (callN C fns (d + 1)) F__law_list.body (enter F__law_list.n [.ow m, .sh (.int s), .sh (.int most)]) = .ok [.ow m6, .sh (.int s), .sh (.int most), .sh (.int x3), .sh (.lst (L5.map D.int)), .sh (.int start), .sh (.lst (rs.map rowD)), x7, x8, x9, .dead] (.ret (.lst ((sortRows rs).map rowD))) := by
      show evSs C _ [liB 0, liB 1, liB 2, liB 3, liB 4, liB 5, liB 6, .for_ (.n 7) (.rng1 (.blt .len [.var 4])) liFor, liB 8] (enter 11 _) = _
      rw [hE]
      rw [evSs_next (G1 := [.ow m1, .sh (.int s), .sh (.int most), .sh (.int x3), .dead, .dead, .dead, .dead, .dead, .dead, .dead]) (by
        have e1 : callN C fns (d + 1) f__law_draw [.ow m, .sh (.int 7)] = _ := e1
        unfold liB F__law_list
        simp [evSs, evS, evT, evI, ev, evs, evA, evIfs, evSq, evIt, R.bind, R.ofO, readM, readPl, Slot.path, M.path, mIndex, ixN, M.val, M.seq, E.mf, E.mfL, It.mf, cmpop, truth, fl, D.imm, D.immL, bltC, notIns, bltin, updPl, M.upd, setM, allLeaf, callOw, outsA, backA, Slot.isOw, D.tyOk, D.hasTy, asgT, asgL, own1, isLst, mutM, M.fz, M.fzL, items, D.asInt, binop, D.eqOk, D.eqv, eqd_int, eqd_ints, e1])]
      rw [evSs_next e2, evSs_next e3, evSs_next e4, evSs_next e5]
      rw [evSs_next (G1 := [.ow m6, .sh (.int s), .sh (.int most), .sh (.int x3), .sh (.lst (L5.map D.int)), .sh (.int start), .dead, .dead, x8, .dead, .dead]) (by
        unfold liB F__law_list
        simp [evSs, evS, evT, evI, ev, evs, evA, evIfs, evSq, evIt, R.bind, R.ofO, readM, readPl, Slot.path, M.path, mIndex, ixN, M.val, M.seq, E.mf, E.mfL, It.mf, cmpop, truth, fl, D.imm, D.immL, bltC, notIns, bltin, updPl, M.upd, setM, allLeaf, callOw, outsA, backA, Slot.isOw, D.tyOk, D.hasTy, asgT, asgL, own1, isLst, mutM, M.fz, M.fzL, items, D.asInt, binop, D.eqOk, D.eqv, eqd_int, eqd_ints, e6])]
      rw [evSs_next (G1 := [.ow m6, .sh (.int s), .sh (.int most), .sh (.int x3), .sh (.lst (L5.map D.int)), .sh (.int start), .ow (ownR []), .dead, x8, .dead, .dead]) (by
        unfold liB F__law_list
        simp [evSs, evS, evT, evI, ev, evs, evA, evIfs, evSq, evIt, R.bind, R.ofO, readM, readPl, Slot.path, M.path, mIndex, ixN, M.val, M.seq, E.mf, E.mfL, It.mf, cmpop, truth, fl, D.imm, D.immL, bltC, notIns, bltin, updPl, M.upd, setM, allLeaf, callOw, outsA, backA, Slot.isOw, D.tyOk, D.hasTy, asgT, asgL, own1, isLst, mutM, M.fz, M.fzL, items, D.asInt, binop, D.eqOk, D.eqv, eqd_int, eqd_ints, ownR])]
      rw [evSs_next e8]
      unfold liB F__law_list
      simp [-List.map_map, evSs, evS, evT, ev, evs, R.bind, R.ofO, E.mf, E.mfL, fl, bltC, notIns, bltin, M.fz, fzL_leaf, ownR, e9]
    show runFn C _ F__law_list _ = _
    rw [runFn, this]
    simp [F__law_list, ioOk, leave]
  · intro e
    have := len_sort rs
    rw [e] at this
    exact hne (List.length_eq_zero_iff.mp this.symm)
  · rw [len_sort]
    have := hr.le
    omega
def nuB (k : Nat) : S := F__law_numbers.body.getD k .pass
def nuFor : List S := match nuB 8 with
  | .for_ _ _ b => b
  | _ => []
theorem nu2 (d : Nat) (rs : List (List Int)) (h0 : rs ≠ []) (hr : rs.length ≤ 1000) (m : M) (hm : Bx cs m) : ∃ (m' : M) (ns : List Nat), Bx cs m' ∧ (∀ x ∈ ns, x < rs.length) ∧ ns.length ≤ 100 ∧ evS C (callN C fns (d + 1)) (nuB 1) [.ow m, .sh (.lst (rs.map rowD)), .sh (.int rs.length), .dead, .dead, .dead, .dead, .dead] = .ok [.ow m', .sh (.lst (rs.map rowD)), .sh (.int rs.length), .ow (ownN ns), .dead, .dead, .dead, .dead] .next := by
  obtain ⟨m1, x, e1, b1, hx⟩ := c_draw (C := C) cs hcs d 13 (by omega) (by omega) m hm
  have e1 : callN C fns (d + 1) f__law_draw [.ow m, .sh (.int 13)] = _ := e1
  have hl := List.length_pos_iff.mpr h0
  obtain ⟨G2, xs, e, ⟨m2, b2, rfl⟩, p, l⟩ := ev_lcDr (C := C) (orc := callN C fns (d + 1)) (v := 7) (n := x) (a := .callO f__law_draw [.io 0 [], .e (.con (.int 13))] [0, 1]) (elt := .callO f__law_draw [.io 0 [], .e (.var 2)] [0, 1]) (b := false)
    (G := [.ow m, .sh (.lst (rs.map rowD)), .sh (.int rs.length), .dead, .dead, .dead, .dead, .dead]) (G1 := [.ow m1, .sh (.lst (rs.map rowD)), .sh (.int rs.length), .dead, .dead, .dead, .dead, .dead])
    (fun G => ∃ m, Bx cs m ∧ G = [.ow m, .sh (.lst (rs.map rowD)), .sh (.int rs.length), .dead, .dead, .dead, .dead, .dead]) (fun x => ∃ i : Nat, x = .int i ∧ i < rs.length)
    (by simp [evSs, evS, evT, evI, ev, evs, evA, evIfs, evSq, evIt, R.bind, R.ofO, readM, readPl, Slot.path, M.path, mIndex, ixN, M.val, M.seq, E.mf, E.mfL, It.mf, cmpop, truth, fl, D.imm, D.immL, bltC, notIns, bltin, index, updPl, M.upd, setM, allLeaf, callOw, outsA, backA, Slot.isOw, D.tyOk, D.hasTy, asgT, asgL, own1, isLst, mutM, M.fz, M.fzL, items, D.asInt, binop, eqd, D.eqOk, D.eqv, e1]) (by omega) (by rfl) ⟨m1, b1, rfl⟩ (fun k hk G hG => by
      obtain ⟨m, b, rfl⟩ := hG
      obtain ⟨m', y, e2, b2, hy⟩ := c_draw (C := C) cs hcs d rs.length hl (by omega) m b
      refine ⟨[.ow m', .sh (.lst (rs.map rowD)), .sh (.int rs.length), .dead, .dead, .dead, .dead, .dead], .int y, ?_, ⟨m', b2, rfl⟩, y, rfl, hy⟩
      simp [lcStep, evSs, evS, evT, evI, ev, evs, evA, evIfs, evSq, evIt, R.bind, R.ofO, readM, readPl, Slot.path, M.path, mIndex, ixN, M.val, M.seq, E.mf, E.mfL, It.mf, cmpop, truth, fl, D.imm, D.immL, bltC, notIns, bltin, index, updPl, M.upd, setM, allLeaf, callOw, outsA, backA, Slot.isOw, D.tyOk, D.hasTy, asgT, asgL, own1, isLst, mutM, M.fz, M.fzL, items, D.asInt, eqd, D.eqOk, D.eqv, wipe, e2])
  obtain ⟨ns, rfl, hns⟩ := nats_of p
  rw [natsD, List.length_map] at l
  refine ⟨m2, ns, b2, hns, by omega, ?_⟩
  unfold nuB F__law_numbers
  simp only [List.getD_cons_succ, List.getD_cons_zero, evS, ↓e, R.bind]
  simp [own1, unwipe, ownN]
theorem z_nats {ns : List Nat} {k : Nat} (h : k < ns.length) : index (.lst (natsD ns)) (.int k) = some (.int (ns.getD k 0)) := by
  show atI _ _ = _
  rw [atI_nat (by rw [natsD, List.length_map]; exact h), natsD, List.getElem?_map, List.getElem?_eq_getElem h, List.getD_eq_getElem?_getD, List.getElem?_eq_getElem h]
  rfl
theorem nu9 (d : Nat) (rs : List (List Int)) (hr : rs.length ≤ 1000) (m : M) (hm : Bx cs m) (x2 x4 : Slot) (yes no : List Nat) (hy : ∀ x ∈ yes, x < rs.length) (hn : ∀ x ∈ no, x < rs.length) (hy0 : yes ≠ []) (hn0 : no ≠ []) (hy1 : yes.length ≤ 1000) (hn1 : no.length ≤ 1000) :
    ∃ (m' : M) (ns : List Nat) (x7 : Slot), Bx cs m' ∧ (∀ x ∈ ns, x < rs.length) ∧ ns.length ≤ 100 ∧ evS C (callN C fns (d + 1)) (nuB 8) [.ow m, .sh (.lst (rs.map rowD)), x2, .ow (ownN []), x4, .sh (.lst (natsD yes)), .sh (.lst (natsD no)), .dead] = .ok [.ow m', .sh (.lst (rs.map rowD)), x2, .ow (ownN ns), x4, .sh (.lst (natsD yes)), .sh (.lst (natsD no)), x7] .next := by
  obtain ⟨m1, x, e1, b1, hx⟩ := c_draw (C := C) cs hcs d 4 (by omega) (by omega) m hm
  have e1 : callN C fns (d + 1) f__law_draw [.ow m, .sh (.int 4)] = _ := e1
  have ly := List.length_pos_iff.mpr hy0
  have ln := List.length_pos_iff.mpr hn0
  have gy : ∀ k, k < yes.length → yes.getD k 0 < rs.length := fun k hk => by
    rw [List.getD_eq_getElem?_getD, List.getElem?_eq_getElem hk]; exact hy _ (List.getElem_mem hk)
  have gn : ∀ k, k < no.length → no.getD k 0 < rs.length := fun k hk => by
    rw [List.getD_eq_getElem?_getD, List.getElem?_eq_getElem hk]; exact hn _ (List.getElem_mem hk)
  obtain ⟨G2, e, m', ns, x7, rfl, b, h, hl⟩ := evS_forR (C := C) (orc := callN C fns (d + 1)) (tg := .n 7) (a := .bin .add (.con (.int 1)) (.callO f__law_draw [.io 0 [], .e (.con (.int 4))] [0, 1])) (body := nuFor) (b := false)
    (G := [.ow m, .sh (.lst (rs.map rowD)), x2, .ow (ownN []), x4, .sh (.lst (natsD yes)), .sh (.lst (natsD no)), .dead]) (G1 := [.ow m1, .sh (.lst (rs.map rowD)), x2, .ow (ownN []), x4, .sh (.lst (natsD yes)), .sh (.lst (natsD no)), .dead]) (1 + x)
    (fun k (G : Py.Env) => ∃ (m' : M) (ns : List Nat) (x7 : Slot), G = [.ow m', .sh (.lst (rs.map rowD)), x2, .ow (ownN ns), x4, .sh (.lst (natsD yes)), .sh (.lst (natsD no)), x7] ∧ Bx cs m' ∧ (∀ x ∈ ns, x < rs.length) ∧ ns.length = 2 * k) (by simp [evSs, evS, evT, evI, ev, evs, evA, evIfs, evSq, evIt, R.bind, R.ofO, readM, readPl, Slot.path, M.path, mIndex, ixN, M.val, M.seq, E.mf, E.mfL, It.mf, cmpop, truth, fl, D.imm, D.immL, bltC, notIns, bltin, updPl, M.upd, setM, allLeaf, callOw, outsA, backA, Slot.isOw, D.tyOk, D.hasTy, asgT, asgL, own1, isLst, mutM, M.fz, M.fzL, items, D.asInt, binop, D.eqOk, D.eqv, eqd_int, eqd_ints, e1]) (by omega) ⟨m1, [], .dead, rfl, b1, nofun, rfl⟩ (fun k hk G hG => by
      obtain ⟨m', ns, x7, rfl, b, h, hl⟩ := hG
      obtain ⟨m3, u, e3, b3, hu⟩ := c_draw (C := C) cs hcs d yes.length ly (by omega) m' b
      obtain ⟨m4, v, e4, b4, hv⟩ := c_draw (C := C) cs hcs d no.length ln (by omega) m3 b3
      have z1 := z_nats cs hcs hu
      have z2 := z_nats cs hcs hv
      have w1 := gy u hu
      have w2 := gn v hv
      have y1 : (natsD yes).length = yes.length := by rw [natsD, List.length_map]
      have n1 : (natsD no).length = no.length := by rw [natsD, List.length_map]
      generalize yes.getD u 0 = a at *
      generalize no.getD v 0 = c at *
      have hlt : (natsD ns).length < 16777216 := by rw [natsD, List.length_map]; omega
      have hlt2 : (natsD (ns ++ [a])).length < 16777216 := by rw [natsD, List.length_map, List.length_append, List.length_singleton]; omega
      refine ⟨[.ow m', .sh (.lst (rs.map rowD)), x2, .ow (ownN ns), x4, .sh (.lst (natsD yes)), .sh (.lst (natsD no)), .sh (.int k)], [.ow m4, .sh (.lst (rs.map rowD)), x2, .ow (ownN ((ns ++ [a]) ++ [c])), x4, .sh (.lst (natsD yes)), .sh (.lst (natsD no)), .sh (.int k)], by simp [asgT], ?_, m4, _, _, rfl, b4, ?_, ?_⟩
      · unfold nuFor nuB F__law_numbers
        simp only [List.getD_cons_succ, List.getD_cons_zero]
        rw [evSs_next (G1 := [.ow m3, .sh (.lst (rs.map rowD)), x2, .ow (ownN (ns ++ [a])), x4, .sh (.lst (natsD yes)), .sh (.lst (natsD no)), .sh (.int k)]) (by
          rw [← ownN_app ns a]; simp [evSs, evS, evT, evI, ev, evs, evA, evIfs, evSq, evIt, R.bind, R.ofO, readM, readPl, Slot.path, M.path, mIndex, ixN, M.val, M.seq, E.mf, E.mfL, It.mf, cmpop, truth, fl, D.imm, D.immL, bltC, notIns, bltin, updPl, M.upd, setM, allLeaf, callOw, outsA, backA, Slot.isOw, D.tyOk, D.hasTy, asgT, asgL, own1, isLst, mutM, M.fz, M.fzL, items, D.asInt, binop, D.eqOk, D.eqv, eqd_int, eqd_ints, ownN, szLine, hlt, y1, e3, z1])]
        rw [evSs_next (G1 := [.ow m4, .sh (.lst (rs.map rowD)), x2, .ow (ownN ((ns ++ [a]) ++ [c])), x4, .sh (.lst (natsD yes)), .sh (.lst (natsD no)), .sh (.int k)]) (by
          rw [← ownN_app (ns ++ [a]) c]
          generalize ns ++ [a] = N at *
          simp [evSs, evS, evT, evI, ev, evs, evA, evIfs, evSq, evIt, R.bind, R.ofO, readM, readPl, Slot.path, M.path, mIndex, ixN, M.val, M.seq, E.mf, E.mfL, It.mf, cmpop, truth, fl, D.imm, D.immL, bltC, notIns, bltin, updPl, M.upd, setM, allLeaf, callOw, outsA, backA, Slot.isOw, D.tyOk, D.hasTy, asgT, asgL, own1, isLst, mutM, M.fz, M.fzL, items, D.asInt, binop, D.eqOk, D.eqv, eqd_int, eqd_ints, ownN, szLine, hlt2, n1, e4, z2])]
        rfl
      · intro x hx
        rcases List.mem_append.mp hx with hx | hx
        · rcases List.mem_append.mp hx with hx | hx
          · exact h x hx
          · rw [List.mem_singleton.mp hx]; exact w1
        · rw [List.mem_singleton.mp hx]; exact w2
      · rw [List.length_append, List.length_append, List.length_singleton, List.length_singleton]; omega)
  exact ⟨m', ns, x7, b, h, by omega, e⟩
theorem sel_ok (d s : Nat) (rs : List (List Int)) (hlen : ∀ r ∈ rs, r.length = s) (hr : rs.length ≤ 1000) (at_ : Nat) (ha : at_ < s) (v : Int) (m : M) (x3 x5 x6 : Slot) (h5 : x5.isOw = false) : ∃ ys : List Nat, (∀ x ∈ ys, x < rs.length) ∧ ys.length ≤ 1000 ∧
    ev C (callN C fns (d + 1)) (.lc [7] (.n 7) (.rng1 (.var 2)) [.cmp .eq (.idx (.idx (.var 1) (.var 7)) (.var 4)) (.con (.int v))] (.var 7)) [.ow m, .sh (.lst (rs.map rowD)), .sh (.int rs.length), x3, .sh (.int at_), x5, x6, .dead] = .ok [.ow m, .sh (.lst (rs.map rowD)), .sh (.int rs.length), x3, .sh (.int at_), x5, x6, .dead] (.lst (natsD ys), false) := by
  have e := ev_lcRf (C := C) (orc := callN C fns (d + 1)) (v := 7) (s := rs.length) (a := .var 2) (ifs := [.cmp .eq (.idx (.idx (.var 1) (.var 7)) (.var 4)) (.con (.int v))]) (elt := .var 7) (b := false)
    (G := [.ow m, .sh (.lst (rs.map rowD)), .sh (.int rs.length), x3, .sh (.int at_), x5, x6, .dead]) (G1 := [.ow m, .sh (.lst (rs.map rowD)), .sh (.int rs.length), x3, .sh (.int at_), x5, x6, .dead])
    (fun k => (rs.getD k []).getD at_ 0 == v) (fun k => .int k) (by simp [evSs, evS, evT, evI, ev, evs, evA, evIfs, evSq, evIt, R.bind, R.ofO, readM, readPl, Slot.path, M.path, mIndex, ixN, M.val, M.seq, E.mf, E.mfL, It.mf, cmpop, truth, fl, D.imm, D.immL, bltC, notIns, bltin, updPl, M.upd, setM, allLeaf, callOw, outsA, backA, Slot.isOw, D.tyOk, D.hasTy, asgT, asgL, own1, isLst, mutM, M.fz, M.fzL, items, D.asInt, binop, D.eqOk, D.eqv, eqd_int, eqd_ints]) (by omega) (by rfl) (by rfl) (fun k hk => by
      have z1 := z_rows hk
      have hl : (rs.getD k []).length = s := by
        rw [List.getD_eq_getElem?_getD, List.getElem?_eq_getElem hk]; exact hlen _ (List.getElem_mem hk)
      have z2 := z_row (r := rs.getD k []) (k := at_) (by omega)
      generalize rs.getD k [] = r at *
      by_cases hh : r.getD at_ 0 = v <;> (generalize r.getD at_ 0 = u at *; simp [lcStep, evSs, evS, evT, evI, ev, evs, evA, evIfs, evSq, evIt, R.bind, R.ofO, readM, readPl, Slot.path, M.path, mIndex, ixN, M.val, M.seq, E.mf, E.mfL, It.mf, cmpop, truth, fl, D.imm, D.immL, bltC, notIns, bltin, updPl, M.upd, setM, allLeaf, callOw, outsA, backA, Slot.isOw, D.tyOk, D.hasTy, asgT, asgL, own1, isLst, mutM, M.fz, M.fzL, items, D.asInt, binop, D.eqOk, D.eqv, eqd_int, eqd_ints, wipe, z1, z2, hh]))
  refine ⟨(List.range rs.length).filter fun k => (rs.getD k []).getD at_ 0 == v, fun x hx => List.mem_range.mp (List.mem_filter.mp hx).1, ?_, e⟩
  have := List.length_filter_le (fun k => (rs.getD k []).getD at_ 0 == v) (List.range rs.length)
  rw [List.length_range] at this
  omega
theorem c_numbers (d s : Nat) (rs : List (List Int)) (h : Rows s rs) (hs : s ≤ 500) (m : M) (hm : Bx cs m) : ∃ (m' : M) (ns : List Nat), callN C fns (d + 2) f__law_numbers [.ow m, .sh (.lst (rs.map rowD))] = .ok [.ow m', .dead] (.tup (natsD ns)) ∧ Bx cs m' ∧ (∀ x ∈ ns, x < rs.length) ∧ ns.length ≤ 1000 := by
  have hr : rs.length ≤ 1000 := by have := h.lt; omega
  have hpos := List.length_pos_iff.mpr h.ne
  suffices H : ∃ (m' : M) (ns : List Nat) (x1 x2 x3 x4 x5 x6 x7 : Slot), evSs C (callN C fns (d + 1)) F__law_numbers.body [.ow m, .sh (.lst (rs.map rowD)), .dead, .dead, .dead, .dead, .dead, .dead] = .ok [.ow m', x1, x2, x3, x4, x5, x6, x7] (.ret (.tup (natsD ns))) ∧ Bx cs m' ∧ (∀ x ∈ ns, x < rs.length) ∧ ns.length ≤ 1000 by
    obtain ⟨m', ns, x1, x2, x3, x4, x5, x6, x7, e, b, hns, hl⟩ := H
    refine ⟨m', ns, ?_, b, hns, hl⟩
    have : evSs C (callN C fns (d + 1)) F__law_numbers.body (enter F__law_numbers.n [.ow m, .sh (.lst (rs.map rowD))]) = _ := e
    show runFn C _ F__law_numbers _ = _
    rw [runFn, this]
    simp [F__law_numbers, ioOk, leave]
  obtain ⟨m2, ns, b2, hns, hl, e2⟩ := nu2 (C := C) cs hcs d rs h.ne hr m hm
  obtain ⟨m3, x, e3, b3, hx⟩ := c_draw (C := C) cs hcs d 3 (by omega) (by omega) m2 b2
  have e3 : callN C fns (d + 1) f__law_draw [.ow m2, .sh (.int 3)] = _ := e3
  have hE : F__law_numbers.body = [nuB 0, nuB 1, nuB 2, nuB 3, nuB 4, nuB 5, nuB 6, nuB 7, nuB 8, nuB 9] := rfl
  have z0 : index (.lst (rs.map rowD)) (.int 0) = some (rowD (rs.getD 0 [])) := z_rows hpos
  have hl0 : (rs.getD 0 []).length = s := by
    rw [List.getD_eq_getElem?_getD, List.getElem?_eq_getElem hpos]; exact h.len _ (List.getElem_mem hpos)
  have g1 : evS C (callN C fns (d + 1)) (nuB 0) [.ow m, .sh (.lst (rs.map rowD)), .dead, .dead, .dead, .dead, .dead, .dead] = .ok [.ow m, .sh (.lst (rs.map rowD)), .sh (.int rs.length), .dead, .dead, .dead, .dead, .dead] .next := by
    unfold nuB F__law_numbers
    simp [evSs, evS, evT, evI, ev, evs, evA, evIfs, evSq, evIt, R.bind, R.ofO, readM, readPl, Slot.path, M.path, mIndex, ixN, M.val, M.seq, E.mf, E.mfL, It.mf, cmpop, truth, fl, D.imm, D.immL, bltC, notIns, bltin, updPl, M.upd, setM, allLeaf, callOw, outsA, backA, Slot.isOw, D.tyOk, D.hasTy, asgT, asgL, own1, isLst, mutM, M.fz, M.fzL, items, D.asInt, binop, D.eqOk, D.eqv, eqd_int, eqd_ints]
  have hfz : (ownN ns).fz = .lst (natsD ns) := by show D.lst (M.fzL _) = _; rw [fzL_leaf]
  generalize rs.getD 0 [] = r0 at *
  rw [hE, evSs_next g1, evSs_next e2]
  by_cases c1 : 0 < x ∨ s = 0
  · refine ⟨m3, ns, .sh (.lst (rs.map rowD)), .sh (.int rs.length), .sh (.lst (natsD ns)), .dead, .dead, .dead, .dead, ?_, b3, hns, by omega⟩
    rcases Nat.lt_or_ge 0 x with c2 | c2
    · rw [evSs]
      have : evS C (callN C fns (d + 1)) (nuB 2) [.ow m2, .sh (.lst (rs.map rowD)), .sh (.int rs.length), .ow (ownN ns), .dead, .dead, .dead, .dead] = .ok [.ow m3, .sh (.lst (rs.map rowD)), .sh (.int rs.length), .sh (.lst (natsD ns)), .dead, .dead, .dead, .dead] (.ret (.tup (natsD ns))) := by
        have c2' : (0 : Int) < x := by omega
        unfold nuB F__law_numbers
        simp [evSs, evS, evT, evI, ev, evs, evA, evIfs, evSq, evIt, R.bind, R.ofO, readM, readPl, Slot.path, M.path, mIndex, ixN, M.val, M.seq, E.mf, E.mfL, It.mf, cmpop, truth, fl, D.imm, D.immL, bltC, notIns, bltin, updPl, M.upd, setM, allLeaf, callOw, outsA, backA, Slot.isOw, D.tyOk, D.hasTy, asgT, asgL, own1, isLst, mutM, M.fz, M.fzL, items, D.asInt, binop, D.eqOk, D.eqv, eqd_int, eqd_ints, e3, c2, hfz]
      rw [this]
      rfl
    · have c3 : s = 0 := by omega
      have c4 : x = 0 := by omega
      subst c4
      rw [evSs]
      have : evS C (callN C fns (d + 1)) (nuB 2) [.ow m2, .sh (.lst (rs.map rowD)), .sh (.int rs.length), .ow (ownN ns), .dead, .dead, .dead, .dead] = .ok [.ow m3, .sh (.lst (rs.map rowD)), .sh (.int rs.length), .sh (.lst (natsD ns)), .dead, .dead, .dead, .dead] (.ret (.tup (natsD ns))) := by
        have hl1 : r0 = [] := List.length_eq_zero_iff.mp (by omega)
        subst hl1
        unfold nuB F__law_numbers
        simp [evSs, evS, evT, evI, ev, evs, evA, evIfs, evSq, evIt, R.bind, R.ofO, readM, readPl, Slot.path, M.path, mIndex, ixN, M.val, M.seq, E.mf, E.mfL, It.mf, cmpop, truth, fl, D.imm, D.immL, bltC, notIns, bltin, updPl, M.upd, setM, allLeaf, callOw, outsA, backA, Slot.isOw, D.tyOk, D.hasTy, asgT, asgL, own1, isLst, mutM, M.fz, M.fzL, items, D.asInt, binop, D.eqOk, D.eqv, eqd_int, eqd_ints, e3, z0, rowD, hfz]
      rw [this]
      rfl
  · have c4 : x = 0 := by omega
    have c5 : 0 < s := by omega
    subst c4
    obtain ⟨m4, at_, e4, b4, hat⟩ := c_draw (C := C) cs hcs d s (by omega) (by omega) m3 b3
    obtain ⟨yes, hy, hyl, ey⟩ := sel_ok (C := C) cs hcs d s rs h.len hr at_ hat 1 m4 (.ow (ownN ns)) .dead .dead rfl
    obtain ⟨no, hn, hnl, en⟩ := sel_ok (C := C) cs hcs d s rs h.len hr at_ hat 0 m4 (.ow (ownN ns)) (.sh (.lst (natsD yes))) .dead rfl
    have g2 : evS C (callN C fns (d + 1)) (nuB 2) [.ow m2, .sh (.lst (rs.map rowD)), .sh (.int rs.length), .ow (ownN ns), .dead, .dead, .dead, .dead] = .ok [.ow m3, .sh (.lst (rs.map rowD)), .sh (.int rs.length), .ow (ownN ns), .dead, .dead, .dead, .dead] .next := by
      have hl1 : r0 ≠ [] := by intro e; subst e; simp at hl0; omega
      have hl2 : ¬ s = 0 := by omega
      unfold nuB F__law_numbers
      simp [evSs, evS, evT, evI, ev, evs, evA, evIfs, evSq, evIt, R.bind, R.ofO, readM, readPl, Slot.path, M.path, mIndex, ixN, M.val, M.seq, E.mf, E.mfL, It.mf, cmpop, truth, fl, D.imm, D.immL, bltC, notIns, bltin, updPl, M.upd, setM, allLeaf, callOw, outsA, backA, Slot.isOw, D.tyOk, D.hasTy, asgT, asgL, own1, isLst, mutM, M.fz, M.fzL, items, D.asInt, binop, D.eqOk, D.eqv, eqd_int, eqd_ints, e3, z0, rowD, hl0, hl2, hl1]
    have g3 : evS C (callN C fns (d + 1)) (nuB 3) [.ow m3, .sh (.lst (rs.map rowD)), .sh (.int rs.length), .ow (ownN ns), .dead, .dead, .dead, .dead] = .ok [.ow m4, .sh (.lst (rs.map rowD)), .sh (.int rs.length), .ow (ownN ns), .sh (.int at_), .dead, .dead, .dead] .next := by
      unfold nuB F__law_numbers
      simp [evSs, evS, evT, evI, ev, evs, evA, evIfs, evSq, evIt, R.bind, R.ofO, readM, readPl, Slot.path, M.path, mIndex, ixN, M.val, M.seq, E.mf, E.mfL, It.mf, cmpop, truth, fl, D.imm, D.immL, bltC, notIns, bltin, updPl, M.upd, setM, allLeaf, callOw, outsA, backA, Slot.isOw, D.tyOk, D.hasTy, asgT, asgL, own1, isLst, mutM, M.fz, M.fzL, items, D.asInt, binop, D.eqOk, D.eqv, eqd_int, eqd_ints, z0, rowD, hl0, e4]
    have g4 : evS C (callN C fns (d + 1)) (nuB 4) [.ow m4, .sh (.lst (rs.map rowD)), .sh (.int rs.length), .ow (ownN ns), .sh (.int at_), .dead, .dead, .dead] = .ok [.ow m4, .sh (.lst (rs.map rowD)), .sh (.int rs.length), .ow (ownN ns), .sh (.int at_), .sh (.lst (natsD yes)), .dead, .dead] .next := by
      unfold nuB F__law_numbers
      simp only [List.getD_cons_succ, List.getD_cons_zero, evS, ↓ey, R.bind]
      simp [asgT]
    have g5 : evS C (callN C fns (d + 1)) (nuB 5) [.ow m4, .sh (.lst (rs.map rowD)), .sh (.int rs.length), .ow (ownN ns), .sh (.int at_), .sh (.lst (natsD yes)), .dead, .dead] = .ok [.ow m4, .sh (.lst (rs.map rowD)), .sh (.int rs.length), .ow (ownN ns), .sh (.int at_), .sh (.lst (natsD yes)), .sh (.lst (natsD no)), .dead] .next := by
      unfold nuB F__law_numbers
      simp only [List.getD_cons_succ, List.getD_cons_zero, evS, ↓en, R.bind]
      simp [asgT]
    have ly : (natsD yes).length = yes.length := by rw [natsD, List.length_map]
    have ln : (natsD no).length = no.length := by rw [natsD, List.length_map]
    rw [evSs_next g2, evSs_next g3, evSs_next g4, evSs_next g5]
    by_cases c6 : yes = [] ∨ no = []
    · refine ⟨m4, ns, .sh (.lst (rs.map rowD)), .sh (.int rs.length), .sh (.lst (natsD ns)), .sh (.int at_), .sh (.lst (natsD yes)), .sh (.lst (natsD no)), .dead, ?_, b4, hns, by omega⟩
      have : evS C (callN C fns (d + 1)) (nuB 6) [.ow m4, .sh (.lst (rs.map rowD)), .sh (.int rs.length), .ow (ownN ns), .sh (.int at_), .sh (.lst (natsD yes)), .sh (.lst (natsD no)), .dead] = .ok [.ow m4, .sh (.lst (rs.map rowD)), .sh (.int rs.length), .sh (.lst (natsD ns)), .sh (.int at_), .sh (.lst (natsD yes)), .sh (.lst (natsD no)), .dead] (.ret (.tup (natsD ns))) := by
        unfold nuB F__law_numbers
        rcases c6 with c | c
        · subst c
          simp [evSs, evS, evT, evI, ev, evs, evA, evIfs, evSq, evIt, R.bind, R.ofO, readM, readPl, Slot.path, M.path, mIndex, ixN, M.val, M.seq, E.mf, E.mfL, It.mf, cmpop, truth, fl, D.imm, D.immL, bltC, notIns, bltin, updPl, M.upd, setM, allLeaf, callOw, outsA, backA, Slot.isOw, D.tyOk, D.hasTy, asgT, asgL, own1, isLst, mutM, M.fz, M.fzL, items, D.asInt, binop, D.eqOk, D.eqv, eqd_int, eqd_ints, hfz, natsD]
        · subst c
          by_cases c7 : yes = []
          · subst c7
            simp [evSs, evS, evT, evI, ev, evs, evA, evIfs, evSq, evIt, R.bind, R.ofO, readM, readPl, Slot.path, M.path, mIndex, ixN, M.val, M.seq, E.mf, E.mfL, It.mf, cmpop, truth, fl, D.imm, D.immL, bltC, notIns, bltin, updPl, M.upd, setM, allLeaf, callOw, outsA, backA, Slot.isOw, D.tyOk, D.hasTy, asgT, asgL, own1, isLst, mutM, M.fz, M.fzL, items, D.asInt, binop, D.eqOk, D.eqv, eqd_int, eqd_ints, hfz, natsD]
          · have c8 : ¬ yes.length = 0 := fun e => c7 (List.length_eq_zero_iff.mp e)
            simp [evSs, evS, evT, evI, ev, evs, evA, evIfs, evSq, evIt, R.bind, R.ofO, readM, readPl, Slot.path, M.path, mIndex, ixN, M.val, M.seq, E.mf, E.mfL, It.mf, cmpop, truth, fl, D.imm, D.immL, bltC, notIns, bltin, updPl, M.upd, setM, allLeaf, callOw, outsA, backA, Slot.isOw, D.tyOk, D.hasTy, asgT, asgL, own1, isLst, mutM, M.fz, M.fzL, items, D.asInt, binop, D.eqOk, D.eqv, eqd_int, eqd_ints, hfz, natsD, c7]
      rw [evSs, this]
      rfl
    · have hy0 : yes ≠ [] := fun e => c6 (.inl e)
      have hn0 : no ≠ [] := fun e => c6 (.inr e)
      obtain ⟨m8, ns2, x7, b8, hns2, hl2, e8⟩ := nu9 (C := C) cs hcs d rs hr m4 b4 (.sh (.int rs.length)) (.sh (.int at_)) yes no hy hn hy0 hn0 hyl hnl
      obtain ⟨m9, y, e9, b9, hy9⟩ := c_draw (C := C) cs hcs d 2 (by omega) (by omega) m8 b8
      have e9 : callN C fns (d + 1) f__law_draw [.ow m8, .sh (.int 2)] = _ := e9
      have hfz2 : (ownN ns2).fz = .lst (natsD ns2) := by show D.lst (M.fzL _) = _; rw [fzL_leaf]
      have hcut : cutD (natsD ns2) (some y) none = natsD (ns2.drop y) := by
        unfold cutD sIx natsD
        simp [List.map_drop]
        have : ¬ ((y : Int) < 0) := by omega
        rw [if_neg this]
        by_cases hle : y ≤ ns2.length
        · rw [Nat.min_eq_left hle, List.take_of_length_le (by simp)]
        · rw [Nat.min_eq_right (by omega), List.drop_of_length_le (by simp), List.drop_of_length_le (by simp; omega)]
          simp
      refine ⟨m9, ns2.drop y, .sh (.lst (rs.map rowD)), .sh (.int rs.length), .sh (.lst (natsD ns2)), .sh (.int at_), .sh (.lst (natsD yes)), .sh (.lst (natsD no)), x7, ?_, b9, fun x hx => hns2 x (List.mem_of_mem_drop hx), by rw [List.length_drop]; omega⟩
      rw [evSs_next (G1 := [.ow m4, .sh (.lst (rs.map rowD)), .sh (.int rs.length), .ow (ownN ns), .sh (.int at_), .sh (.lst (natsD yes)), .sh (.lst (natsD no)), .dead]) (by
        unfold nuB F__law_numbers
        simp [evSs, evS, evT, evI, ev, evs, evA, evIfs, evSq, evIt, R.bind, R.ofO, readM, readPl, Slot.path, M.path, mIndex, ixN, M.val, M.seq, E.mf, E.mfL, It.mf, cmpop, truth, fl, D.imm, D.immL, bltC, notIns, bltin, updPl, M.upd, setM, allLeaf, callOw, outsA, backA, Slot.isOw, D.tyOk, D.hasTy, asgT, asgL, own1, isLst, mutM, M.fz, M.fzL, items, D.asInt, binop, D.eqOk, D.eqv, eqd_int, eqd_ints, ly, ln, hy0, hn0])]
      rw [evSs_next (G1 := [.ow m4, .sh (.lst (rs.map rowD)), .sh (.int rs.length), .ow (ownN []), .sh (.int at_), .sh (.lst (natsD yes)), .sh (.lst (natsD no)), .dead]) (by
        unfold nuB F__law_numbers
        simp [evSs, evS, evT, evI, ev, evs, evA, evIfs, evSq, evIt, R.bind, R.ofO, readM, readPl, Slot.path, M.path, mIndex, ixN, M.val, M.seq, E.mf, E.mfL, It.mf, cmpop, truth, fl, D.imm, D.immL, bltC, notIns, bltin, updPl, M.upd, setM, allLeaf, callOw, outsA, backA, Slot.isOw, D.tyOk, D.hasTy, asgT, asgL, own1, isLst, mutM, M.fz, M.fzL, items, D.asInt, binop, D.eqOk, D.eqv, eqd_int, eqd_ints, ownN, natsD])]
      rw [evSs_next e8]
      have : evS C (callN C fns (d + 1)) (nuB 9) [.ow m8, .sh (.lst (rs.map rowD)), .sh (.int rs.length), .ow (ownN ns2), .sh (.int at_), .sh (.lst (natsD yes)), .sh (.lst (natsD no)), x7] = .ok [.ow m9, .sh (.lst (rs.map rowD)), .sh (.int rs.length), .sh (.lst (natsD ns2)), .sh (.int at_), .sh (.lst (natsD yes)), .sh (.lst (natsD no)), x7] (.ret (.tup (natsD (ns2.drop y)))) := by
        unfold nuB F__law_numbers
        simp [evSs, evS, evT, evI, ev, evs, evA, evIfs, evSq, evIt, R.bind, R.ofO, readM, readPl, Slot.path, M.path, mIndex, ixN, M.val, M.seq, E.mf, E.mfL, It.mf, cmpop, truth, fl, D.imm, D.immL, bltC, notIns, bltin, updPl, M.upd, setM, allLeaf, callOw, outsA, backA, Slot.isOw, D.tyOk, D.hasTy, asgT, asgL, own1, isLst, mutM, M.fz, M.fzL, items, D.asInt, binop, D.eqOk, D.eqv, eqd_int, eqd_ints, hfz2, e9, slice, hcut]
      rw [evSs, this]
      rfl
end
end Lw
end
section
set_option Elab.async false
set_option linter.all false
set_option maxRecDepth 100000
set_option maxHeartbeats 4000000
namespace Lw
open Py PySem
variable {C : Py.Ctx}
theorem c_box (d : Nat) (cs : List Int) (hcs : cs.length ≤ 1000) : callN C fns (d + 1) f__law_box [.sh (.fro (cs.map D.int))] = .ok [.dead] (.lst [.lst (cs.map D.int), .int 0, .int 0, .int 0]) := by
  show runFn C _ F__law_box _ = _
  have e := ev_lcB (C := C) (orc := callN C fns d) (own := [1]) (tg := .n 1) (it := .e (.var 0)) (elt := .blt .int [.var 1]) (G := [.sh (.fro (cs.map D.int)), .dead]) (G1 := [.sh (.fro (cs.map D.int)), .dead]) (b := false)
    cs D.int D.int (by simp [evSs, evS, evT, evI, ev, evs, evA, evIfs, evSq, evIt, R.bind, R.ofO, readM, readPl, Slot.path, M.path, mIndex, ixN, M.val, M.seq, E.mf, E.mfL, It.mf, cmpop, truth, fl, D.imm, D.immL, bltC, notIns, bltin, updPl, M.upd, setM, allLeaf, callOw, outsA, backA, Slot.isOw, D.tyOk, D.hasTy, asgT, asgL, own1, isLst, mutM, M.fz, M.fzL, items, D.asInt, binop, D.eqOk, D.eqv, eqd_int, eqd_ints]) (by rfl) (by rfl) (fun i hi => by simp [lcStep, evSs, evS, evT, evI, ev, evs, evA, evIfs, evSq, evIt, R.bind, R.ofO, readM, readPl, Slot.path, M.path, mIndex, ixN, M.val, M.seq, E.mf, E.mfL, It.mf, cmpop, truth, fl, D.imm, D.immL, bltC, notIns, bltin, updPl, M.upd, setM, allLeaf, callOw, outsA, backA, Slot.isOw, D.tyOk, D.hasTy, asgT, asgL, own1, isLst, mutM, M.fz, M.fzL, items, D.asInt, binop, D.eqOk, D.eqv, eqd_int, eqd_ints, wipe]) (by rfl) (by omega)
  simp [runFn, F__law_box, ioOk, enter, leave, evSs, evS, evT, evI, ev, evs, evA, evIfs, evSq, evIt, R.bind, R.ofO, readM, readPl, Slot.path, M.path, mIndex, ixN, M.val, M.seq, E.mf, E.mfL, It.mf, cmpop, truth, fl, D.imm, D.immL, bltC, notIns, bltin, updPl, M.upd, setM, allLeaf, callOw, outsA, backA, Slot.isOw, D.tyOk, D.hasTy, asgT, asgL, own1, isLst, mutM, M.fz, M.fzL, items, D.asInt, binop, D.eqOk, D.eqv, eqd_int, eqd_ints, ↓e]
theorem shlN {n : Nat} (h : n ≤ 1000) : binop .shl (.int 1) (.int n) = some (.int ((2 : Int) ^ n)) := by
  have h1 : ltp n 19 = true := ltp_of (by decide) (by show n < 524288; omega)
  show (if _ then _ else _) = _
  rw [if_pos]
  · simp
  · simp [h1]; rfl
def alB (k : Nat) : S := F__law_all.body.getD k .pass
theorem al_body : F__law_all.body = [alB 0, alB 1, alB 2, alB 3, alB 4, alB 5, alB 6, alB 7, alB 8, alB 9, alB 10, alB 11, alB 12, alB 13, alB 14, alB 15, alB 16, alB 17, alB 18, alB 19] := rfl
theorem sizes : ∀ x, x < 9 → [0, 1, 2, 3, 3, 4, 4, 5, 5].getD x 0 ≤ 5 := by decide
theorem mosts : ∀ x, x < 8 → 1 ≤ [8, 8, 4, 4, 6, 5, 3, 32].getD x 0 ∧ [8, 8, 4, 4, 6, 5, 3, 32].getD x 0 ≤ 40 := by decide
theorem rnds : ∀ x, x < 8 → [0, 1, 2, 3, 5, 6, 8, 13].getD x 0 ≤ 200 := by decide
theorem rnds2 : ∀ x, x < 4 → [20, 64, 100, 200].getD x 0 ≤ 200 := by decide
theorem z_nat {ns : List Nat} {k : Nat} (h : k < ns.length) : index (.lst (natsD ns)) (.int k) = some (.int (ns.getD k 0)) := z_nats [] (Nat.zero_le _) h
section
variable (cs : List Int) (hcs : cs.length ≤ 1000) (sc : D)
variable (hmth : C.mth 0 m_look_at_row = some f_Rules_look_at_row) (hlen : C.lenOf 0 = some f_Rules___len__) (hini : C.init 0 = some f_Rules___init__)
include hcs
theorem al1 (d : Nat) (m : M) (hm : Bx cs m) : ∃ (m' : M) (s : Nat), Bx cs m' ∧ s ≤ 5 ∧ evS C (callN C fns (d + 8)) (alB 1) [.sh sc, .ow m, .dead, .dead, .dead, .dead, .dead, .dead, .dead, .dead, .dead, .dead, .dead, .dead] = .ok [.sh sc, .ow m', .sh (.int s), .dead, .dead, .dead, .dead, .dead, .dead, .dead, .dead, .dead, .dead, .dead] .next := by
  obtain ⟨m1, x, e1, b1, hx⟩ := c_draw (C := C) cs hcs (d + 7) 9 (by omega) (by omega) m hm
  have e1 : callN C fns (d + 8) f__law_draw [.ow m, .sh (.int 9)] = _ := e1
  have z : index (.lst [.int 0, .int 1, .int 2, .int 3, .int 3, .int 4, .int 4, .int 5, .int 5]) (.int x) = some (.int ([0, 1, 2, 3, 3, 4, 4, 5, 5].getD x 0 : Nat)) := z_nat (ns := [0, 1, 2, 3, 3, 4, 4, 5, 5]) hx
  refine ⟨m1, _, b1, sizes x hx, ?_⟩
  generalize [0, 1, 2, 3, 3, 4, 4, 5, 5].getD x 0 = s at *
  unfold alB F__law_all
  simp [evSs, evS, evT, evI, ev, evs, evA, evIfs, evSq, evIt, R.bind, R.ofO, readM, readPl, Slot.path, M.path, mIndex, ixN, M.val, M.seq, E.mf, E.mfL, It.mf, cmpop, truth, fl, D.imm, D.immL, bltC, notIns, bltin, updPl, M.upd, setM, allLeaf, callOw, outsA, backA, Slot.isOw, D.tyOk, D.hasTy, asgT, asgL, own1, isLst, mutM, M.fz, M.fzL, items, D.asInt, binop, D.eqOk, D.eqv, eqd_int, eqd_ints, e1, z]
theorem al2 (d s : Nat) (hs : s ≤ 5) (m : M) (hm : Bx cs m) : ∃ (m' : M) (rs : List (List Int)), Bx cs m' ∧ Rows s rs ∧ evS C (callN C fns (d + 8)) (alB 2) [.sh sc, .ow m, .sh (.int s), .dead, .dead, .dead, .dead, .dead, .dead, .dead, .dead, .dead, .dead, .dead] = .ok [.sh sc, .ow m', .sh (.int s), .sh (.lst (rs.map rowD)), .dead, .dead, .dead, .dead, .dead, .dead, .dead, .dead, .dead, .dead] .next := by
  obtain ⟨m1, x, e1, b1, hx⟩ := c_draw (C := C) cs hcs (d + 7) 8 (by omega) (by omega) m hm
  have e1 : callN C fns (d + 8) f__law_draw [.ow m, .sh (.int 8)] = _ := e1
  have z : index (.lst [.int 8, .int 8, .int 4, .int 4, .int 6, .int 5, .int 3, .int 32]) (.int x) = some (.int ([8, 8, 4, 4, 6, 5, 3, 32].getD x 0 : Nat)) := z_nat (ns := [8, 8, 4, 4, 6, 5, 3, 32]) hx
  obtain ⟨hm1, hm2⟩ := mosts x hx
  generalize [8, 8, 4, 4, 6, 5, 3, 32].getD x 0 = most at *
  obtain ⟨m2, rs, e2, b2, hr, _⟩ := c_list (C := C) cs hcs (d + 6) s most hs hm1 hm2 m1 b1
  refine ⟨m2, rs, b2, hr, ?_⟩
  unfold alB F__law_all
  simp [evSs, evS, evT, evI, ev, evs, evA, evIfs, evSq, evIt, R.bind, R.ofO, readM, readPl, Slot.path, M.path, mIndex, ixN, M.val, M.seq, E.mf, E.mfL, It.mf, cmpop, truth, fl, D.imm, D.immL, bltC, notIns, bltin, updPl, M.upd, setM, allLeaf, callOw, outsA, backA, Slot.isOw, D.tyOk, D.hasTy, asgT, asgL, own1, isLst, mutM, M.fz, M.fzL, items, D.asInt, binop, D.eqOk, D.eqv, eqd_int, eqd_ints, e1, z, e2]
theorem al3 (d s : Nat) (hs : s ≤ 5) (rs : List (List Int)) (m : M) (hm : Bx cs m) : ∃ (m' : M) (q : List Int), Bx cs m' ∧ Bits q ∧ q.length = s ∧ evS C (callN C fns (d + 8)) (alB 3) [.sh sc, .ow m, .sh (.int s), .sh (.lst (rs.map rowD)), .dead, .dead, .dead, .dead, .dead, .dead, .dead, .dead, .dead, .dead] = .ok [.sh sc, .ow m', .sh (.int s), .sh (.lst (rs.map rowD)), .sh (rowD q), .dead, .dead, .dead, .dead, .dead, .dead, .dead, .dead, .dead] .next := by
  have hp := pow_le hs
  have hq := pow_pos' s
  have hsh := shl1 (s := s) (by omega)
  obtain ⟨m1, x, e1, b1, hx⟩ := c_draw (C := C) cs hcs (d + 7) (2 ^ s) hq (by omega) m hm
  have e2 := c_row (C := C) (d + 7) x s (by omega)
  refine ⟨m1, bits x s, b1, bits_ok x s, bits_len x s, ?_⟩
  generalize bits x s = q at *
  generalize ((2 ^ s : Nat) : Int) = z at *
  unfold alB F__law_all
  simp [evSs, evS, evT, evI, ev, evs, evA, evIfs, evSq, evIt, R.bind, R.ofO, readM, readPl, Slot.path, M.path, mIndex, ixN, M.val, M.seq, E.mf, E.mfL, It.mf, cmpop, truth, fl, D.imm, D.immL, bltC, notIns, bltin, updPl, M.upd, setM, allLeaf, callOw, outsA, backA, Slot.isOw, D.tyOk, D.hasTy, asgT, asgL, own1, isLst, mutM, M.fz, M.fzL, items, D.asInt, D.eqOk, D.eqv, eqd_int, eqd_ints, hsh, e1, e2]
theorem al4 (d s : Nat) (rs : List (List Int)) (q : List Int) (m : M) (hm : Bx cs m) : ∃ (m' : M) (n : Nat), Bx cs m' ∧ n ≤ 200 ∧ evS C (callN C fns (d + 8)) (alB 4) [.sh sc, .ow m, .sh (.int s), .sh (.lst (rs.map rowD)), .sh (rowD q), .dead, .dead, .dead, .dead, .dead, .dead, .dead, .dead, .dead] = .ok [.sh sc, .ow m', .sh (.int s), .sh (.lst (rs.map rowD)), .sh (rowD q), .sh (.int n), .dead, .dead, .dead, .dead, .dead, .dead, .dead, .dead] .next := by
  obtain ⟨m1, x, e1, b1, hx⟩ := c_draw (C := C) cs hcs (d + 7) 8 (by omega) (by omega) m hm
  have e1 : callN C fns (d + 8) f__law_draw [.ow m, .sh (.int 8)] = _ := e1
  have z : index (.lst [.int 0, .int 1, .int 2, .int 3, .int 5, .int 6, .int 8, .int 13]) (.int x) = some (.int ([0, 1, 2, 3, 5, 6, 8, 13].getD x 0 : Nat)) := z_nat (ns := [0, 1, 2, 3, 5, 6, 8, 13]) hx
  refine ⟨m1, _, b1, rnds x hx, ?_⟩
  generalize [0, 1, 2, 3, 5, 6, 8, 13].getD x 0 = n at *
  unfold alB F__law_all
  simp [evSs, evS, evT, evI, ev, evs, evA, evIfs, evSq, evIt, R.bind, R.ofO, readM, readPl, Slot.path, M.path, mIndex, ixN, M.val, M.seq, E.mf, E.mfL, It.mf, cmpop, truth, fl, D.imm, D.immL, bltC, notIns, bltin, updPl, M.upd, setM, allLeaf, callOw, outsA, backA, Slot.isOw, D.tyOk, D.hasTy, asgT, asgL, own1, isLst, mutM, M.fz, M.fzL, items, D.asInt, binop, D.eqOk, D.eqv, eqd_int, eqd_ints, e1, z]
theorem al5 (d s n : Nat) (hn : n ≤ 200) (rs : List (List Int)) (q : List Int) (m : M) (hm : Bx cs m) : ∃ (m' : M) (n' : Nat), Bx cs m' ∧ n' ≤ 200 ∧ evS C (callN C fns (d + 8)) (alB 5) [.sh sc, .ow m, .sh (.int s), .sh (.lst (rs.map rowD)), .sh (rowD q), .sh (.int n), .dead, .dead, .dead, .dead, .dead, .dead, .dead, .dead] = .ok [.sh sc, .ow m', .sh (.int s), .sh (.lst (rs.map rowD)), .sh (rowD q), .sh (.int n'), .dead, .dead, .dead, .dead, .dead, .dead, .dead, .dead] .next := by
  obtain ⟨m1, x, e1, b1, hx⟩ := c_draw (C := C) cs hcs (d + 7) 4 (by omega) (by omega) m hm
  have e1 : callN C fns (d + 8) f__law_draw [.ow m, .sh (.int 4)] = _ := e1
  by_cases c1 : rs.length < 5
  · have zc : cmpop .lt (.int (rs.length : Nat)) (.int 5) = some (.bl true) := by show some (D.bl (decide _)) = _; rw [decide_eq_true (by omega)]
    by_cases c2 : x = 0
    · subst c2
      obtain ⟨m2, y, e2, b2, hy⟩ := c_draw (C := C) cs hcs (d + 7) 4 (by omega) (by omega) m1 b1
      have e2 : callN C fns (d + 8) f__law_draw [.ow m1, .sh (.int 4)] = _ := e2
      have z : index (.lst [.int 20, .int 64, .int 100, .int 200]) (.int y) = some (.int ([20, 64, 100, 200].getD y 0 : Nat)) := z_nat (ns := [20, 64, 100, 200]) hy
      refine ⟨m2, _, b2, rnds2 y hy, ?_⟩
      generalize [20, 64, 100, 200].getD y 0 = n' at *
      unfold alB F__law_all
      simp [evSs, evS, evT, evI, ev, evs, evA, evIfs, evSq, evIt, R.bind, R.ofO, readM, readPl, Slot.path, M.path, mIndex, ixN, M.val, M.seq, E.mf, E.mfL, It.mf, truth, fl, D.imm, D.immL, bltC, notIns, bltin, updPl, M.upd, setM, allLeaf, callOw, outsA, backA, Slot.isOw, D.tyOk, D.hasTy, asgT, asgL, own1, isLst, mutM, M.fz, M.fzL, items, D.asInt, binop, D.eqOk, D.eqv, eqd_int, eqd_ints, e1, e2, z, zc]
      simp [evSs, evS, evT, evI, ev, evs, evA, evIfs, evSq, evIt, R.bind, R.ofO, readM, readPl, Slot.path, M.path, mIndex, ixN, M.val, M.seq, E.mf, E.mfL, It.mf, cmpop, truth, fl, D.imm, D.immL, bltC, notIns, bltin, updPl, M.upd, setM, allLeaf, callOw, outsA, backA, Slot.isOw, D.tyOk, D.hasTy, asgT, asgL, own1, isLst, mutM, M.fz, M.fzL, items, D.asInt, binop, D.eqOk, D.eqv, eqd_int, eqd_ints, e1, e2, z, zc]
    · refine ⟨m1, n, b1, hn, ?_⟩
      have c2' : ¬ (x : Int) = 0 := by omega
      have zx : cmpop .eq (.int (x : Nat)) (.int 0) = some (.bl false) := by
        show Option.map D.bl (eqd (.int (x : Nat)) (.int 0)) = _
        rw [eqd_int]
        simp [c2]
      unfold alB F__law_all
      simp [evSs, evS, evT, evI, ev, evs, evA, evIfs, evSq, evIt, R.bind, R.ofO, readM, readPl, Slot.path, M.path, mIndex, ixN, M.val, M.seq, E.mf, E.mfL, It.mf, truth, fl, D.imm, D.immL, bltC, notIns, bltin, updPl, M.upd, setM, allLeaf, callOw, outsA, backA, Slot.isOw, D.tyOk, D.hasTy, asgT, asgL, own1, isLst, mutM, M.fz, M.fzL, items, D.asInt, binop, D.eqOk, D.eqv, eqd_int, eqd_ints, e1, zx, zc]
  · refine ⟨m, n, hm, hn, ?_⟩
    have zc : cmpop .lt (.int (rs.length : Nat)) (.int 5) = some (.bl false) := by show some (D.bl (decide _)) = _; rw [decide_eq_false (by omega)]
    unfold alB F__law_all
    simp [evSs, evS, evT, evI, ev, evs, evA, evIfs, evSq, evIt, R.bind, R.ofO, readM, readPl, Slot.path, M.path, mIndex, ixN, M.val, M.seq, E.mf, E.mfL, It.mf, truth, fl, D.imm, D.immL, bltC, notIns, bltin, updPl, M.upd, setM, allLeaf, callOw, outsA, backA, Slot.isOw, D.tyOk, D.hasTy, asgT, asgL, own1, isLst, mutM, M.fz, M.fzL, items, D.asInt, binop, D.eqOk, D.eqv, eqd_int, eqd_ints, zc]
end
end Lw
end
section
set_option Elab.async false
set_option linter.all false
set_option maxRecDepth 100000
set_option maxHeartbeats 4000000
namespace Lw
open Py PySem
variable {C : Py.Ctx}
theorem wrs_len (rs : List (List Int)) (q : List Int) (ns : List Nat) : (wrs rs q ns).length = q.length := by unfold wrs; rw [List.length_map, List.length_range]
theorem wr_le (rs : List (List Int)) (q : List Int) (ns : List Nat) : ∀ x ∈ wrs rs q ns, x ≤ ns.length := by
  intro x hx
  obtain ⟨k, _, rfl⟩ := List.mem_map.mp hx
  exact List.length_filter_le _ _
theorem eqd_rows (x y : List Int) : eqd (rowD x) (rowD y) = some (x == y) := eqd_ints x y
/-- the state behind the draws of lists, row and rounds -/
def St (sc : D) (m : M) (rs : List (List Int)) (q : List Int) (n : Nat) (x6 x7 x8 x9 x10 x11 x12 : Slot) : Py.Env :=
  [.sh sc, .ow m, .sh (.int q.length), .sh (.lst (rs.map rowD)), .sh (rowD q), .sh (.int n), x6, x7, x8, x9, x10, x11, x12, .dead]
section
variable (cs : List Int) (hcs : cs.length ≤ 1000) (sc : D)
variable (hmth : C.mth 0 m_look_at_row = some f_Rules_look_at_row) (hlen : C.lenOf 0 = some f_Rules___len__) (hini : C.init 0 = some f_Rules___init__)
variable (rs : List (List Int)) (q : List Int) (hR : Rows q.length rs) (hq : Bits q) (hql : q.length ≤ 5) (n : Nat) (hn : n ≤ 200) (d : Nat) (m : M)
include hR hql
include hini in
theorem al6 : evS C (callN C fns (d + 8)) (alB 6) (St sc m rs q n .dead .dead .dead .dead .dead .dead .dead) = .ok (St sc m rs q n (.sh (RU q.length rs)) .dead .dead .dead .dead .dead .dead) .next := by
  have e := c_init (C := C) (d + 3) q.length rs hR (by omega)
  have e2 := M_RU q.length rs
  unfold alB F__law_all St
  generalize M.ins 0 [2, 1] [.leaf (.int q.length), .leaf (.tup (rs.map rowD))] = I at *
  simp [evS, ev, evs, R.bind, E.mf, E.mfL, hini, e, e2, asgT]
include hn in
theorem al7 (x6 : Slot) : evS C (callN C fns (d + 8)) (alB 7) (St sc m rs q n x6 .dead .dead .dead .dead .dead .dead) = .ok (St sc m rs q n x6 .dead .dead .dead .dead (.sh (.tup (natsD (playN rs q n).1))) (.sh (rowD (playN rs q n).2))) .next := by
  have hr := hR.lt
  have e := c_played (C := C) rs q hR.len hR.ne (by omega) (by omega) (d + 7) n (by omega)
  unfold alB F__law_all St
  simp [evS, ev, evs, R.bind, E.mf, E.mfL, fl, e, asgT, asgL]
include hmth hq hn in
theorem al8 (x7 x8 x9 x10 : Slot) : evS C (callN C fns (d + 8)) (alB 8) (St sc m rs q n (.sh (RU q.length rs)) x7 x8 x9 x10 (.sh (.tup (natsD (playN rs q n).1))) (.sh (rowD (playN rs q n).2))) = .ok (St sc m rs q n (.sh (RU q.length rs)) x7 x8 x9 x10 (.sh (.tup (natsD (playN rs q n).1))) (.sh (rowD (playN rs q n).2))) .next := by
  have hr := hR.lt
  have e1 := c_taken (C := C) rs q hR.len hR.ne (by omega) (by omega) hmth hq (d + 2) n (by omega)
  have e2 := c_weights (C := C) rs q hR.len hR.ne (by omega) (by omega) hmth hq (d + 2) n (by omega)
  have e3 := c_same_nats (C := C) (d + 6) (playN rs q n).1 (by rw [play_num]; omega)
  have e4 := c_same (C := C) (d + 6) (playN rs q n).2 (by rw [play_len hR.len hR.ne]; omega)
  unfold alB F__law_all St
  simp [evSs, evS, evT, ev, evs, R.bind, R.ofO, E.mf, E.mfL, fl, D.imm, truth, e1, e2, e3, e4]
include hmth hlen hq hn in
theorem al9 (x7 x8 x9 x10 x12 : Slot) : evS C (callN C fns (d + 8)) (alB 9) (St sc m rs q n (.sh (RU q.length rs)) x7 x8 x9 x10 (.sh (.tup (natsD (playN rs q n).1))) x12) = .ok (St sc m rs q n (.sh (RU q.length rs)) x7 x8 x9 x10 (.sh (.tup (natsD (playN rs q n).1))) x12) .next := by
  have hr := hR.lt
  have e1 := c_counted (C := C) hmth hlen (d + 1) q.length rs q hR (by omega) hq (playN rs q n).1 (play_lt hR.ne n) (by rw [play_num]; omega)
  unfold alB F__law_all St
  simp [evSs, evS, evT, ev, evs, R.bind, R.ofO, E.mf, E.mfL, fl, D.imm, truth, e1]
include hn in
theorem al10 (x6 x7 x8 x9 x10 : Slot) : evS C (callN C fns (d + 8)) (alB 10) (St sc m rs q n x6 x7 x8 x9 x10 (.sh (.tup (natsD (playN rs q n).1))) (.sh (rowD (playN rs q n).2))) = .ok (St sc m rs q n x6 x7 x8 x9 x10 (.sh (.tup (natsD (playN rs q n).1))) (.sh (rowD (playN rs q n).2))) .next := by
  have hr := hR.lt
  have e1 := c_wrong (C := C) rs q hR.len (by omega) (by omega) (playN rs q n).1 (play_lt hR.ne n) (by rw [play_num]; omega) (d + 7)
  have hw := wr_le rs q (playN rs q n).1
  have hwl := wrs_len rs q (playN rs q n).1
  have hp := play_wr hR.len hR.ne n
  have hp2 : (playN rs q n).2 = (wrs rs q (playN rs q n).1).map fun k => (2 : Int) ^ k := by
    rw [hp]
    unfold wrs
    rw [List.map_map]
    rfl
  rw [play_num] at hw
  generalize (playN rs q n).1 = N at *
  generalize wrs rs q N = W at *
  have e := ev_lcB (C := C) (orc := callN C fns (d + 8)) (own := [13]) (tg := .n 13) (it := .e (.call f__law_wrong [.var 3, .var 4, .var 11] [0, 1, 2])) (elt := .bin .shl (.con (.int 1)) (.var 13)) (b := false)
    (G := St sc m rs q n x6 x7 x8 x9 x10 (.sh (.tup (natsD N))) (.sh (rowD (playN rs q n).2))) (G1 := St sc m rs q n x6 x7 x8 x9 x10 (.sh (.tup (natsD N))) (.sh (rowD (playN rs q n).2)))
    W (fun k : Nat => .int k) (fun k => .int (2 ^ k)) (by unfold St; simp [evSs, evS, evT, evI, ev, evs, evA, evIfs, evSq, evIt, R.bind, R.ofO, readM, readPl, Slot.path, M.path, mIndex, ixN, M.val, M.seq, E.mf, E.mfL, It.mf, cmpop, truth, fl, D.imm, D.immL, bltC, notIns, bltin, updPl, M.upd, setM, allLeaf, callOw, outsA, backA, Slot.isOw, D.tyOk, D.hasTy, asgT, asgL, own1, isLst, mutM, M.fz, M.fzL, items, D.asInt, binop, D.eqOk, D.eqv, eqd_int, eqd_ints, e1]; rfl) (by rfl) (by rfl) (fun k hk => by
      have := shlN (n := k) (by have := hw k hk; omega)
      unfold St
      generalize (2 : Int) ^ k = w at *
      simp [lcStep, evSs, evS, evT, evI, ev, evs, evA, evIfs, evSq, evIt, R.bind, R.ofO, readM, readPl, Slot.path, M.path, mIndex, ixN, M.val, M.seq, E.mf, E.mfL, It.mf, cmpop, truth, fl, D.imm, D.immL, bltC, notIns, bltin, updPl, M.upd, setM, allLeaf, callOw, outsA, backA, Slot.isOw, D.tyOk, D.hasTy, asgT, asgL, own1, isLst, mutM, M.fz, M.fzL, items, D.asInt, D.eqOk, D.eqv, eqd_int, eqd_ints, wipe, this]) (by rfl) (by omega)
  have e3 : W.map (fun k => D.int (2 ^ k)) = (playN rs q n).2.map D.int := by rw [hp2, List.map_map]; rfl
  rw [e3] at e
  generalize (playN rs q n).2 = Z at *
  unfold alB F__law_all
  unfold St at *
  have hz : cmpop .ne (.tup (Z.map D.int)) (rowD Z) = some (.bl false) := by
    show Option.map _ (eqd (rowD Z) (rowD Z)) = _
    rw [eqd_rows]
    simp
  simp [evSs, evS, evT, evI, ev, evs, evA, evIfs, evSq, evIt, R.bind, R.ofO, readM, readPl, Slot.path, M.path, mIndex, ixN, M.val, M.seq, E.mf, E.mfL, It.mf, truth, fl, D.imm, D.immL, bltC, notIns, bltin, updPl, M.upd, setM, allLeaf, callOw, outsA, backA, Slot.isOw, D.tyOk, D.hasTy, asgT, asgL, own1, isLst, mutM, M.fz, M.fzL, items, D.asInt, binop, D.eqOk, D.eqv, eqd_int, eqd_ints, ↓e, hz]
end
end Lw
end
section
set_option Elab.async false
set_option linter.all false
set_option maxRecDepth 100000
set_option maxHeartbeats 4000000
namespace Lw
open Py PySem
variable {C : Py.Ctx}
section
variable (cs : List Int) (hcs : cs.length ≤ 1000) (sc : D)
variable (hmth : C.mth 0 m_look_at_row = some f_Rules_look_at_row) (hlen : C.lenOf 0 = some f_Rules___len__) (hini : C.init 0 = some f_Rules___init__)
variable (rs : List (List Int)) (q : List Int) (hR : Rows q.length rs) (hq : Bits q) (hql : q.length ≤ 5) (n : Nat) (hn : n ≤ 200) (d : Nat)
include hcs hql
include hn in
theorem al11 (m : M) (hm : Bx cs m) (x6 x11 x12 : Slot) : ∃ (m' : M) (g : Nat), Bx cs m' ∧ g ≤ n ∧ evS C (callN C fns (d + 8)) (alB 11) (St sc m rs q n x6 .dead .dead .dead .dead x11 x12) = .ok (St sc m' rs q n x6 (.sh (.int g)) .dead .dead .dead x11 x12) .next := by
  obtain ⟨m1, g, e1, b1, hx⟩ := c_draw (C := C) cs hcs (d + 7) (min n 9 + 1) (by omega) (by omega) m hm
  refine ⟨m1, g, b1, by omega, ?_⟩
  have e : ev C (callN C fns (d + 8)) (.bin .add (.blt .min [.var 5, .con (.int 9)]) (.con (.int 1))) (St sc m rs q n x6 .dead .dead .dead .dead x11 x12) = .ok (St sc m rs q n x6 .dead .dead .dead .dead x11 x12) (.int (min n 9 + 1 : Nat), false) := by
    unfold St
    by_cases h : 9 < n
    · have h' : (9 : Int) < n := by omega
      rw [Nat.min_eq_right (by omega)]
      simp [evSs, evS, evT, evI, ev, evs, evA, evIfs, evSq, evIt, R.bind, R.ofO, readM, readPl, Slot.path, M.path, mIndex, ixN, M.val, M.seq, E.mf, E.mfL, It.mf, cmpop, truth, fl, D.imm, D.immL, bltC, notIns, bltin, updPl, M.upd, setM, allLeaf, callOw, outsA, backA, Slot.isOw, D.tyOk, D.hasTy, asgT, asgL, own1, isLst, mutM, M.fz, M.fzL, items, D.asInt, binop, D.eqOk, D.eqv, eqd_int, eqd_ints, h, h']
    · have h' : ¬ (9 : Int) < n := by omega
      rw [Nat.min_eq_left (by omega)]
      simp [evSs, evS, evT, evI, ev, evs, evA, evIfs, evSq, evIt, R.bind, R.ofO, readM, readPl, Slot.path, M.path, mIndex, ixN, M.val, M.seq, E.mf, E.mfL, It.mf, cmpop, truth, fl, D.imm, D.immL, bltC, notIns, bltin, updPl, M.upd, setM, allLeaf, callOw, outsA, backA, Slot.isOw, D.tyOk, D.hasTy, asgT, asgL, own1, isLst, mutM, M.fz, M.fzL, items, D.asInt, binop, D.eqOk, D.eqv, eqd_int, eqd_ints, h, h']
  generalize ((min n 9 + 1 : Nat) : Int) = z at *
  unfold alB F__law_all
  unfold St at *
  simp [evS, ev, evA, ↓e, R.bind, callOw, outsA, backA, Slot.isOw, e1, asgT]
theorem al12 (m : M) (hm : Bx cs m) (x6 x7 x11 x12 : Slot) : ∃ (m' : M) (q2 : List Int), Bx cs m' ∧ Bits q2 ∧ q2.length = q.length ∧ evS C (callN C fns (d + 8)) (alB 12) (St sc m rs q n x6 x7 .dead .dead .dead x11 x12) = .ok (St sc m' rs q n x6 x7 (.sh (rowD q2)) .dead .dead x11 x12) .next := by
  have hp := pow_le hql
  have hq := pow_pos' q.length
  have hsh := shl1 (s := q.length) (by omega)
  obtain ⟨m1, x, e1, b1, hx⟩ := c_draw (C := C) cs hcs (d + 7) (2 ^ q.length) hq (by omega) m hm
  have e2 := c_row (C := C) (d + 7) x q.length (by omega)
  refine ⟨m1, bits x q.length, b1, bits_ok x q.length, bits_len x q.length, ?_⟩
  generalize bits x q.length = q3 at *
  generalize ((2 ^ q.length : Nat) : Int) = z at *
  unfold alB F__law_all St
  simp [evSs, evS, evT, evI, ev, evs, evA, evIfs, evSq, evIt, R.bind, R.ofO, readM, readPl, Slot.path, M.path, mIndex, ixN, M.val, M.seq, E.mf, E.mfL, It.mf, cmpop, truth, fl, D.imm, D.immL, bltC, notIns, bltin, updPl, M.upd, setM, allLeaf, callOw, outsA, backA, Slot.isOw, D.tyOk, D.hasTy, asgT, asgL, own1, isLst, mutM, M.fz, M.fzL, items, D.asInt, D.eqOk, D.eqv, eqd_int, eqd_ints, hsh, e1, e2]
omit hcs
include hmth hR hq hn
theorem al13 (m : M) (g : Nat) (hg : g ≤ n) (x8 x9 x10 x12 : Slot) : evS C (callN C fns (d + 8)) (alB 13) (St sc m rs q n (.sh (RU q.length rs)) (.sh (.int g)) x8 x9 x10 (.sh (.tup (natsD (playN rs q n).1))) x12) = .ok (St sc m rs q n (.sh (RU q.length rs)) (.sh (.int g)) x8 x9 x10 (.sh (.tup (natsD (playN rs q n).1))) x12) .next := by
  have hr := hR.lt
  have e1 := c_taken (C := C) rs q hR.len hR.ne (by omega) (by omega) hmth hq (d + 2) g (by omega)
  have e3 := c_same_nats (C := C) (d + 6) (playN rs q g).1 (by rw [play_num]; omega)
  have hc : slice (.tup (natsD (playN rs q n).1)) none (some (g : Int)) = some (.tup (natsD (playN rs q g).1)) := by
    have hp := play_pre (rs := rs) (q := q) g (n - g)
    rw [show g + (n - g) = n by omega] at hp
    have hl := play_num (rs := rs) (q := q) n
    rw [← hp]
    unfold slice cutD sIx
    simp
    have : ¬ ((g : Int) < 0) := by omega
    rw [if_neg this, natsD, List.length_map, hl, Nat.min_eq_left hg, natsD, List.map_take]
  unfold alB F__law_all St
  simp [evSs, evS, evT, evI, ev, evs, R.bind, R.ofO, E.mf, E.mfL, fl, D.imm, truth, D.asInt, e1, e3, hc]
include hn in
theorem al14 (m : M) (g : Nat) (hg : g ≤ n) (q2 : List Int) (hq2 : Bits q2) (hl2 : q2.length = q.length) (x9 x10 x11 x12 : Slot) : evS C (callN C fns (d + 8)) (alB 14) (St sc m rs q n (.sh (RU q.length rs)) (.sh (.int g)) (.sh (rowD q2)) x9 x10 x11 x12) = .ok (St sc m rs q n (.sh (RU q.length rs)) (.sh (.int g)) (.sh (rowD q2)) x9 x10 x11 x12) .next := by
  have hr := hR.lt
  have hlen : ∀ r ∈ rs, r.length = q2.length := fun r h => (hR.len r h).trans hl2.symm
  have e1 := c_taken (C := C) rs q2 hlen hR.ne (by omega) (by omega) hmth hq2 (d + 2) g (by omega)
  rw [hl2] at e1
  have e2 := c_played (C := C) rs q2 hlen hR.ne (by omega) (by omega) (d + 7) g (by omega)
  have e3 := c_same_nats (C := C) (d + 6) (playN rs q2 g).1 (by rw [play_num]; omega)
  have z : index (.tup [.tup (natsD (playN rs q2 g).1), rowD (playN rs q2 g).2]) (.int 0) = some (.tup (natsD (playN rs q2 g).1)) := rfl
  unfold alB F__law_all St
  simp [evSs, evS, evT, evI, ev, evs, R.bind, R.ofO, E.mf, E.mfL, fl, D.imm, truth, D.asInt, e1, e2, e3, z]
theorem al15 (m : M) (g : Nat) (hg : g ≤ n) (x8 x9 x10 x11 x12 : Slot) : evS C (callN C fns (d + 8)) (alB 15) (St sc m rs q n (.sh (RU q.length rs)) (.sh (.int g)) x8 x9 x10 x11 x12) = .ok (St sc m rs q n (.sh (RU q.length rs)) (.sh (.int g)) x8 x9 x10 x11 x12) .next := by
  have hr := hR.lt
  have e1 := c_weights (C := C) rs q hR.len hR.ne (by omega) (by omega) hmth hq (d + 2) g (by omega)
  have e2 := c_played (C := C) rs q hR.len hR.ne (by omega) (by omega) (d + 7) g (by omega)
  have e4 := c_same (C := C) (d + 6) (playN rs q g).2 (by rw [play_len hR.len hR.ne]; omega)
  have z : index (.tup [.tup (natsD (playN rs q g).1), rowD (playN rs q g).2]) (.int 1) = some (rowD (playN rs q g).2) := rfl
  unfold alB F__law_all St
  simp [evSs, evS, evT, evI, ev, evs, R.bind, R.ofO, E.mf, E.mfL, fl, D.imm, truth, D.asInt, e1, e2, e4, z]
include hcs hlen
theorem al16 (m : M) (hm : Bx cs m) (q2 : List Int) (hq2 : Bits q2) (hl2 : q2.length = q.length) (x7 x10 x11 x12 : Slot) : ∃ (m' : M) (x9 : Slot), Bx cs m' ∧ evS C (callN C fns (d + 8)) (alB 16) (St sc m rs q n (.sh (RU q.length rs)) x7 (.sh (rowD q2)) .dead x10 x11 x12) = .ok (St sc m' rs q n (.sh (RU q.length rs)) x7 (.sh (rowD q2)) x9 x10 x11 x12) .next := by
  obtain ⟨G2, e, m', x9, b, rfl⟩ := evS_forR (C := C) (orc := callN C fns (d + 8)) (tg := .n 9) (a := .con (.int 3)) (body := match alB 16 with | .for_ _ _ b => b | _ => []) (b := false)
    (G := St sc m rs q n (.sh (RU q.length rs)) x7 (.sh (rowD q2)) .dead x10 x11 x12) (G1 := St sc m rs q n (.sh (RU q.length rs)) x7 (.sh (rowD q2)) .dead x10 x11 x12) 3
    (fun k (G : Py.Env) => ∃ (m' : M) (x9 : Slot), Bx cs m' ∧ G = St sc m' rs q n (.sh (RU q.length rs)) x7 (.sh (rowD q2)) x9 x10 x11 x12) (by rw [ev]; rfl) (by omega) ⟨m, .dead, hm, rfl⟩ (fun k hk G hG => by
      obtain ⟨m1, x9, b1, rfl⟩ := hG
      obtain ⟨m2, ns, e1, b2, hns, hnl⟩ := c_numbers (C := C) cs hcs (d + 6) q.length rs hR (by omega) m1 b1
      have e2 := c_counted (C := C) hmth hlen (d + 1) q2.length rs q2 (hl2 ▸ hR) (by omega) hq2 ns hns hnl
      rw [hl2] at e2
      refine ⟨St sc m1 rs q n (.sh (RU q.length rs)) x7 (.sh (rowD q2)) (.sh (.int k)) x10 x11 x12, St sc m2 rs q n (.sh (RU q.length rs)) x7 (.sh (rowD q2)) (.sh (.int k)) x10 x11 x12, by simp [St, asgT], ?_, m2, _, b2, rfl⟩
      unfold alB F__law_all St
      simp only [List.getD_cons_succ, List.getD_cons_zero]
      simp [evSs, evS, evT, evI, ev, evs, evA, R.bind, R.ofO, E.mf, E.mfL, fl, D.imm, truth, callOw, outsA, backA, Slot.isOw, e1, e2])
  exact ⟨m', x9, b, e⟩
omit hmth hq hn hlen in
theorem al17 (m : M) (hm : Bx cs m) (x6 x7 x8 x9 x11 x12 : Slot) : ∃ (m' : M) (ns : List Nat), Bx cs m' ∧ (∀ x ∈ ns, x < rs.length) ∧ ns.length ≤ 1000 ∧ evS C (callN C fns (d + 8)) (alB 17) (St sc m rs q n x6 x7 x8 x9 .dead x11 x12) = .ok (St sc m' rs q n x6 x7 x8 x9 (.sh (.tup (natsD ns))) x11 x12) .next := by
  obtain ⟨m2, ns, e1, b2, hns, hnl⟩ := c_numbers (C := C) cs hcs (d + 6) q.length rs hR (by omega) m hm
  refine ⟨m2, ns, b2, hns, hnl, ?_⟩
  unfold alB F__law_all St
  simp [evSs, evS, evT, evI, ev, evs, evA, R.bind, R.ofO, E.mf, E.mfL, fl, D.imm, truth, callOw, outsA, backA, Slot.isOw, e1, asgT]
omit hcs hmth hq hn in
theorem al18 (m : M) (ns : List Nat) (hns : ∀ x ∈ ns, x < rs.length) (hnl : ns.length ≤ 1000) (x7 x8 x9 x11 x12 : Slot) : evS C (callN C fns (d + 8)) (alB 18) (St sc m rs q n (.sh (RU q.length rs)) x7 x8 x9 (.sh (.tup (natsD ns))) x11 x12) = .ok (St sc m rs q n (.sh (RU q.length rs)) x7 x8 x9 (.sh (.tup (natsD ns))) x11 x12) .next := by
  have hr := hR.lt
  have e3 := c_voted_by (C := C) rs q hR.len (by omega) (by omega) hlen ns hns hnl (d + 2)
  have e4 := c_voted (C := C) rs q hR.len (by omega) (by omega) ns hns hnl (d + 7)
  have e6 := c_same (C := C) (d + 6) (vt rs ns q.length) (by unfold vt; rw [List.length_map, List.length_range]; omega)
  unfold alB F__law_all St
  simp [evSs, evS, evT, evI, ev, evs, R.bind, R.ofO, E.mf, E.mfL, fl, D.imm, truth, D.asInt, e3, e4, e6]
omit hcs hn in
theorem al19 (m : M) (ns : List Nat) (hns : ∀ x ∈ ns, x < rs.length) (hnl : ns.length ≤ 1000) (x7 x8 x9 x11 x12 : Slot) : evS C (callN C fns (d + 8)) (alB 19) (St sc m rs q n (.sh (RU q.length rs)) x7 x8 x9 (.sh (.tup (natsD ns))) x11 x12) = .ok (St sc m rs q n (.sh (RU q.length rs)) x7 x8 x9 (.sh (.tup (natsD ns))) x11 x12) (.ret (.bl true)) := by
  have hr := hR.lt
  have e1 := c_wrong_counts (C := C) rs q hR.len (by omega) (by omega) hmth hlen hq ns hns hnl (d + 2)
  have e2 := c_wrong (C := C) rs q hR.len (by omega) (by omega) ns hns hnl (d + 7)
  have e5 := c_same_nats (C := C) (d + 6) (wrs rs q ns) (by unfold wrs; rw [List.length_map, List.length_range]; omega)
  unfold alB F__law_all St
  simp [evSs, evS, evT, evI, ev, evs, R.bind, R.ofO, E.mf, E.mfL, fl, D.imm, truth, D.asInt, e1, e2, e5]
end
theorem law_ok (hmth : C.mth 0 m_look_at_row = some f_Rules_look_at_row) (hlen : C.lenOf 0 = some f_Rules___len__) (hini : C.init 0 = some f_Rules___init__) (d : Nat) (cs : List Int) (hcs : cs.length ≤ 1000) : ∃ os, callN C fns (d + 10) f_law [.sh (.fro (cs.map D.int))] = .ok os (.bl true) := by
  have h0 : evS C (callN C fns (d + 8)) (alB 0) (enter 14 [.sh (.fro (cs.map D.int))]) = .ok [.sh (.fro (cs.map D.int)), .ow (box cs 0 0 0), .dead, .dead, .dead, .dead, .dead, .dead, .dead, .dead, .dead, .dead, .dead, .dead] .next := by
    have e := c_box (C := C) (d + 7) cs hcs
    unfold alB F__law_all
    simp [evS, ev, evs, R.bind, E.mf, E.mfL, fl, e, enter, own1, box, List.replicate]
  generalize D.fro (cs.map D.int) = sc at *
  obtain ⟨m1, s, b1, hs, e1⟩ := al1 (C := C) cs hcs sc d (box cs 0 0 0) ⟨0, 0, 0, rfl, by omega, by omega, by omega, by omega⟩
  obtain ⟨m2, rs, b2, hR, e2⟩ := al2 (C := C) cs hcs sc d s hs m1 b1
  obtain ⟨m3, q, b3, hq, hl, e3⟩ := al3 (C := C) cs hcs sc d s hs rs m2 b2
  subst hl
  obtain ⟨m4, n0, b4, hn0, e4⟩ := al4 (C := C) cs hcs sc d q.length rs q m3 b3
  obtain ⟨m5, n, b5, hn, e5⟩ := al5 (C := C) cs hcs sc d q.length n0 hn0 rs q m4 b4
  have e6 := al6 (C := C) sc hini rs q hR hs n d m5
  have e7 := al7 (C := C) sc rs q hR hs n hn d m5 (.sh (RU q.length rs))
  have e8 := al8 (C := C) sc hmth rs q hR hq hs n hn d m5 .dead .dead .dead .dead
  have e9 := al9 (C := C) sc hmth hlen rs q hR hq hs n hn d m5 .dead .dead .dead .dead (.sh (rowD (playN rs q n).2))
  have e10 := al10 (C := C) sc rs q hR hs n hn d m5 (.sh (RU q.length rs)) .dead .dead .dead .dead
  obtain ⟨m11, g, b11, hg, e11⟩ := al11 (C := C) cs hcs sc rs q hs n hn d m5 b5 (.sh (RU q.length rs)) (.sh (.tup (natsD (playN rs q n).1))) (.sh (rowD (playN rs q n).2))
  obtain ⟨m12, q2, b12, hq2, hl2, e12⟩ := al12 (C := C) cs hcs sc rs q hs n d m11 b11 (.sh (RU q.length rs)) (.sh (.int g)) (.sh (.tup (natsD (playN rs q n).1))) (.sh (rowD (playN rs q n).2))
  have e13 := al13 (C := C) sc hmth rs q hR hq hs n hn d m12 g hg (.sh (rowD q2)) .dead .dead (.sh (rowD (playN rs q n).2))
  have e14 := al14 (C := C) sc hmth rs q hR hq hs n hn d m12 g hg q2 hq2 hl2 .dead .dead (.sh (.tup (natsD (playN rs q n).1))) (.sh (rowD (playN rs q n).2))
  have e15 := al15 (C := C) sc hmth rs q hR hq hs n hn d m12 g hg (.sh (rowD q2)) .dead .dead (.sh (.tup (natsD (playN rs q n).1))) (.sh (rowD (playN rs q n).2))
  obtain ⟨m16, x9, b16, e16⟩ := al16 (C := C) cs hcs sc hmth hlen rs q hR hq hs n hn d m12 b12 q2 hq2 hl2 (.sh (.int g)) .dead (.sh (.tup (natsD (playN rs q n).1))) (.sh (rowD (playN rs q n).2))
  obtain ⟨m17, ns, b17, hns, hnl, e17⟩ := al17 (C := C) cs hcs sc rs q hR hs n d m16 b16 (.sh (RU q.length rs)) (.sh (.int g)) (.sh (rowD q2)) x9 (.sh (.tup (natsD (playN rs q n).1))) (.sh (rowD (playN rs q n).2))
  have e18 := al18 (C := C) sc hlen rs q hR hs n d m17 ns hns hnl (.sh (.int g)) (.sh (rowD q2)) x9 (.sh (.tup (natsD (playN rs q n).1))) (.sh (rowD (playN rs q n).2))
  have e19 := al19 (C := C) sc hmth hlen rs q hR hq hs n d m17 ns hns hnl (.sh (.int g)) (.sh (rowD q2)) x9 (.sh (.tup (natsD (playN rs q n).1))) (.sh (rowD (playN rs q n).2))
  have hA : ∃ os, callN C fns (d + 9) f__law_all [.sh sc] = .ok os (.bl true) := by
    refine ⟨[.dead], ?_⟩
    have : evSs C (callN C fns (d + 8)) F__law_all.body (enter F__law_all.n [.sh sc]) = .ok (St sc m17 rs q n (.sh (RU q.length rs)) (.sh (.int g)) (.sh (rowD q2)) x9 (.sh (.tup (natsD ns))) (.sh (.tup (natsD (playN rs q n).1))) (.sh (rowD (playN rs q n).2))) (.ret (.bl true)) := by
      show evSs C _ F__law_all.body (enter 14 [.sh sc]) = _
      rw [al_body, evSs_next h0, evSs_next e1, evSs_next e2, evSs_next e3, evSs_next e4, evSs_next e5]
      show evSs C _ _ (St sc m5 rs q n .dead .dead .dead .dead .dead .dead .dead) = _
      rw [evSs_next e6, evSs_next e7, evSs_next e8, evSs_next e9, evSs_next e10, evSs_next e11, evSs_next e12, evSs_next e13, evSs_next e14, evSs_next e15, evSs_next e16, evSs_next e17, evSs_next e18]
      rw [evSs, e19]
      rfl
    show runFn C _ F__law_all _ = _
    rw [runFn, this]
    rfl
  obtain ⟨os, hA⟩ := hA
  refine ⟨[.dead], ?_⟩
  show runFn C _ F_law _ = _
  simp [runFn, F_law, ioOk, enter, leave, evSs, evS, ev, evs, R.bind, E.mf, E.mfL, fl, D.imm, hA]
end Lw
end

namespace Cl
theorem claim : ∀ ns : List Int, ns.length ≤ 63 → ∃ os, Py.callN Lw.lw.ctx Lw.lw.fns 20 Lw.f_law [.sh (.fro (ns.map Py.D.int))] = .ok os (.bl true) :=
  fun ns h => Lw.law_ok (C := Lw.lw.ctx) (by rfl) (by rfl) (by rfl) 10 ns (by omega)
end Cl
open PySem PySem.W PySem.Calls PyProof.Rows
theorem PySem.Challenge.cw_learnrealm_k97_taken_one_by_one_holds : PySem.Challenge.rw_learnrealm_k97_taken_one_by_one.Holds := by
  w_on; o_law
  refine HandSHeadRun.head_any (r := OpenLaw.row PySem.Challenge.rw_learnrealm_k97_taken_one_by_one) (q := view (OpenLaw.row PySem.Challenge.rw_learnrealm_k97_taken_one_by_one).prog [45]) (H := Hd.hk) (ob := Hd.ob) (M := 20000) (loose := Hd.loose) (d := HandSHeadRun.topDef (OpenLaw.row PySem.Challenge.rw_learnrealm_k97_taken_one_by_one).prog 45) (kwd := []) Hd.ob_eq
    (by kernel_rfl) (fun s => by kernel_rfl) Hd.run (by kernel_rfl) (by kernel_rfl) (by kernel_rfl) (by rfl) (by first | assumption | decide +kernel) (by decide +kernel) ⟨rfl, rfl, rfl, rfl, rfl, by decide +kernel⟩ ?hw ?hc
  case hw => w_witness2
  case hc =>
    refine L2.walk_ofE (l := PySem.Challenge.rw_learnrealm_k97_taken_one_by_one) (n := 63) (k := 2 * 20 + 1) (x := "script") (CX := C8.CX0) rfl (by decide) (by kernel_rfl) ⟨rfl, by decide, by decide⟩ ?F (fun _ _ _ _ z => z)
    intro w mg fa h Y G hmg0
    obtain ⟨K, KX, c⟩ := Y
    have hmg : mg ("law" : PySem.Str) = some (.ref fa) := by
      have e : (HandSHeadRun.topDef (OpenLaw.row PySem.Challenge.rw_learnrealm_k97_taken_one_by_one).prog 45).name = ("law" : PySem.Str) := by kernel_rfl
      rw [← e]
      exact hmg0
    obtain ⟨fd, sp, h1, h2, h3⟩ := Py.law_facts (L := Lw.lw) (fuel := 400) (P := (PySem.Challenge.rw_learnrealm_k97_taken_one_by_one).prog) (w := w) (n := 63) (d := 20) (iL := Lw.f_law) (x := "script") KX G c Lw.allc Lw.rowsc Lw.kws_ok (by kernel_rfl) (by kernel_rfl) (by kernel_rfl) hmg Cl.claim
    exact ⟨K, fd, sp, KX, h1, h2, h3⟩


