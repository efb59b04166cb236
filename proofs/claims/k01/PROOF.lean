import PyProof.Rows.All
import Wide.All
import OpenK.AllK
import Wide.FinOn
import HandS.ForMost
import HandS.ForExc
import HandS.TupAny
import HandS.SortInts
import HandS.Flow
import HandS.IsInst
import HandS.Style
import HandS.Text
import HandS.Rev
import HandS.Iter
import HandS.Comp
import HandS.More
import HandS.List
import HandS.ExcIs
import HandS.ExcField
import KE.KExcIs
import HandS.Words
import HandS.WordsExc
import HandS.ExcInit
import HandS.TryMany
import HandS.Ends
import PySem.Challenge.RW_roundproof_k01_functions
set_option Elab.async false
set_option linter.all false
set_option maxRecDepth 100000
set_option maxHeartbeats 4000000
namespace Pyr
open PySem

/-! # A small language over plain data, and what it computes -/
abbrev D := PyData

/-- what comes of an expression: a value, an exception of an own class (its number, its field), or nothing that is told -/
inductive R (α : Type) where
  | ok (a : α)
  | exc (c : Nat) (f : D)
  | stuck

namespace R
def bind {α β : Type} : R α → (α → R β) → R β
  | ok a, f => f a
  | exc c d, _ => exc c d
  | stuck, _ => stuck
@[simp] theorem bind_ok {α β : Type} (a : α) (f : α → R β) : (ok a).bind f = f a := (rfl)
@[simp] theorem bind_exc {α β : Type} (c : Nat) (d : D) (f : α → R β) : (exc c d : R α).bind f = exc c d := (rfl)
@[simp] theorem bind_stuck {α β : Type} (f : α → R β) : (stuck : R α).bind f = stuck := (rfl)
/-- an exception is nothing that is told -/
def calm {α : Type} : R α → R α
  | ok a => ok a
  | _ => stuck
@[simp] theorem calm_ok {α : Type} (a : α) : (ok a).calm = ok a := (rfl)
@[simp] theorem calm_exc {α : Type} (c : Nat) (d : D) : (exc c d : R α).calm = stuck := (rfl)
@[simp] theorem calm_stuck {α : Type} : (stuck : R α).calm = stuck := (rfl)
def map {α β : Type} (g : α → β) : R α → R β
  | ok a => ok (g a)
  | exc c d => exc c d
  | stuck => stuck
@[simp] theorem map_ok {α β : Type} (a : α) (g : α → β) : (ok a).map g = ok (g a) := (rfl)
@[simp] theorem map_exc {α β : Type} (c : Nat) (d : D) (g : α → β) : (exc c d : R α).map g = exc c d := (rfl)
@[simp] theorem map_stuck {α β : Type} (g : α → β) : (stuck : R α).map g = stuck := (rfl)
end R
open R (ok exc stuck)

def Line : Nat := 16777216

inductive Op2 where | add | sub | mul | mod | fdiv | pow
  deriving DecidableEq
inductive Cm where | eq | ne | lt | le | gt | ge | is | isnot | isin | notin
  deriving DecidableEq
inductive F1 where | len | tuple | list | str | int | sum | max | min | sorted | sortedset
  deriving DecidableEq
inductive Ty where | tuple | int | bool | str | list | valueError | exc (c : Nat)
  deriving DecidableEq
inductive Tg where | one (i : Nat) | many (is : List Nat)

inductive E where
  | nil | cons (h t : E)
  | var (i : Nat)
  | cst (d : D)
  | glob (x : Str) (d : D)
  | tup (es : E) | lst (es : E)
  | call (f : Nat) (es : E)
  | callv (i : Nat) (es : E)
  | bin (op : Op2) (a b : E)
  | rep (a b : E)
  | neg (a : E) | not (a : E)
  | cmp (c : Cm) (a b : E)
  | chain (c1 c2 : Cm) (a b c : E)
  | chain3 (c1 c2 c3 : Cm) (a b c d : E)
  | and (a b : E) | or (a b : E)
  | ife (c a b : E)
  | f1 (f : F1) (a : E)
  | isi (t : Ty) (a : E)
  | max2 (a b : E) | maxd (a b : E) | divmod (a b : E)
  | idx (a b : E)
  | slf (a lo : E) | slt (a hi : E) | slb (a lo hi : E)
  | rev (a : E)
  | comp (tg : Tg) (it cond elt : E)
  | rng1 (a : E) | rng2 (a b : E) | rng3 (a b c : E) | enum (a : E) | zip3 (a b c : E) | revd (a : E)
  | lrng (a : E)
  | join (a b : E) | index (a b : E) | count (a b : E)
  | inD (neg : Bool) (x : Str) (kvs : List (Str × D)) (a : E)
  | getD (x : Str) (kvs : List (Str × D)) (a : E)
  | sortD (x : Str) (kvs : List (Str × D))
  | exf (x : Str) (a : E)

inductive S where
  | nil | cons (s t : S)
  | doc | pass | brk | cont
  | set (i : Nat) (e : E)
  | setfn (i : Nat) (x : Str) (kvs : List (Str × D)) (e : E)
  | unpack (is : List Nat) (e : E)
  | par (is : List Nat) (es : E)
  | setidx (i : Nat) (k e : E)
  | aug (op : Op2) (i : Nat) (e : E)
  | app (i : Nat) (e : E) | ext (i : Nat) (e : E) | ins (i : Nat) (k e : E)
  | expr (e : E)
  | ite (c : E) (a b : S)
  | while (c : E) (b : S)
  | for (tg : Tg) (it : E) (b : S)
  | ret (e : E)
  | raise (c : Nat) (es : E)
  | raiseX (c : Nat) (x : Str) (e : E)
  | raiseFrom (c : Nat)
  | try (b : S) (hs : S)
  | hcons (c : Nat) (slot : Option Nat) (suite : S) (more : S)
  | never

/-! ## the operations -/
def excD (c : Nat) (f : D) : D := .dict [(.int c, f)]
def fnD (i : Nat) : D := .dict [(.none, .int i)]

def truthy : D → R Bool
  | .none => ok false
  | .bool b => ok b
  | .int i => ok (i != 0)
  | .str x => if x.length ≤ Line then ok (x.length != 0) else stuck
  | .list xs => ok (!xs.isEmpty)
  | .tuple xs => ok (!xs.isEmpty)
  | .dict _ => stuck

def small64 (i : Int) : Bool := decide (-(2 ^ 64) < i ∧ i < 2 ^ 64)

def addD : D → D → R D
  | .int i, .int j => ok (.int (i + j))
  | .str x, .str y => if x.length + y.length ≤ Line then ok (.str (x ++ y)) else stuck
  | .list xs, .list ys => if xs.length + ys.length ≤ Line then ok (.list (xs ++ ys)) else stuck
  | .tuple xs, .tuple ys => if xs.length + ys.length ≤ Line then ok (.tuple (xs ++ ys)) else stuck
  | _, _ => stuck
def mulD : D → D → R D
  | .int i, .int j => if small64 i || small64 j then ok (.int (i * j)) else stuck
  | _, _ => stuck
def repD : D → D → R D
  | .list xs, .int k => if -(2 ^ 63) ≤ k ∧ k < 2 ^ 63 ∧ xs.length * k.toNat ≤ Line then ok (.list (List.replicate k.toNat xs).flatten) else stuck
  | _, _ => stuck
def binD : Op2 → D → D → R D
  | .add, a, b => addD a b
  | .sub, .int i, .int j => ok (.int (i - j))
  | .mul, a, b => mulD a b
  | .mod, .int i, .int j => if 0 < j then ok (.int (i % j)) else stuck
  | .fdiv, .int i, .int j => if 0 < j ∧ j < 1073741824 then ok (.int (i / j)) else stuck
  | .pow, .int i, .int j => if 0 ≤ j ∧ j ≤ 1000000 ∧ i.natAbs < 2 ^ 64 then ok (.int (i ^ j.toNat)) else stuck
  | _, _, _ => stuck

def eqR (a b : D) : R Bool := if a.depth ≤ 150 ∨ b.depth ≤ 150 then ok (PyData.eqv a b) else stuck
def isR : D → D → R Bool
  | .none, .none => ok true
  | .bool _, .none | .int _, .none | .str _, .none | .list _, .none | .tuple _, .none => ok false
  | .bool a, .bool b => ok (decide (a = b))
  | _, _ => stuck
def items : D → R (List D)
  | .list xs => ok xs
  | .tuple xs => ok xs
  | _ => stuck
def inR : D → D → R Bool
  | .str x, .str y => ok (!(Builtin.Str.occurrences y x 0 y.length 1).isEmpty)
  | x, .list ys => if x.depth ≤ 150 then ok (ys.any fun y => PyData.eqv y x) else stuck
  | x, .tuple ys => if x.depth ≤ 150 then ok (ys.any fun y => PyData.eqv y x) else stuck
  | _, _ => stuck
def cmpR : Cm → D → D → R Bool
  | .eq, a, b => eqR a b
  | .ne, a, b => (eqR a b).map fun k => !k
  | .lt, .int i, .int j => ok (decide (i < j))
  | .le, .int i, .int j => ok (decide (i ≤ j))
  | .gt, .int i, .int j => ok (decide (j < i))
  | .ge, .int i, .int j => ok (decide (j ≤ i))
  | .is, a, b => isR a b
  | .isnot, a, b => (isR a b).map fun k => !k
  | .isin, a, b => inR a b
  | .notin, a, b => (inR a b).map fun k => !k
  | _, _, _ => stuck

def asInts : List D → Option (List Int)
  | [] => some []
  | .int i :: r => (asInts r).map (i :: ·)
  | _ :: _ => none
def asStrs : List D → Option (List Str)
  | [] => some []
  | .str i :: r => (asStrs r).map (i :: ·)
  | _ :: _ => none
/-- the greatest, the least of some -/
def maxI : List Int → Int
  | [] => 0
  | [i] => i
  | i :: r => max i (maxI r)
def minI : List Int → Int
  | [] => 0
  | [i] => i
  | i :: r => min i (minI r)
/-- rising, each once -/
def insU (i : Int) : List Int → List Int
  | [] => [i]
  | j :: r => if i < j then i :: j :: r else if i = j then j :: r else j :: insU i r
def sortU : List Int → List Int
  | [] => []
  | i :: r => insU i (sortU r)
def insI (i : Int) : List Int → List Int
  | [] => [i]
  | j :: r => if i ≤ j then i :: j :: r else j :: insI i r
def sortI : List Int → List Int
  | [] => []
  | i :: r => insI i (sortI r)

def f1R : F1 → D → R D
  | .len, .list xs => ok (.int xs.length)
  | .len, .tuple xs => ok (.int xs.length)
  | .len, .str x => if x.length ≤ Line then ok (.int x.length) else stuck
  | .tuple, .list xs => ok (.tuple xs)
  | .tuple, .tuple xs => ok (.tuple xs)
  | .list, .list xs => ok (.list xs)
  | .list, .tuple xs => ok (.list xs)
  | .str, .int i => if i.natAbs.log2 < 1920 then ok (.str (toString i)) else stuck
  | .int, .int i => ok (.int i)
  | .int, .bool b => ok (.int (if b then 1 else 0))
  | .sum, .list xs => match asInts xs with
    | some ns => ok (.int ns.sum)
    | none => stuck
  | .max, .list xs => match asInts xs with
    | some (n :: ns) => ok (.int (maxI (n :: ns)))
    | _ => stuck
  | .min, .list xs => match asInts xs with
    | some (n :: ns) => ok (.int (minI (n :: ns)))
    | _ => stuck
  | .sorted, .list xs => match asInts xs with
    | some ns => ok (.list ((sortI ns).map .int))
    | none => stuck
  | .sortedset, .list xs => match asInts xs with
    | some ns => if ns.length ≤ 1000 then ok (.list ((sortU ns).map .int)) else stuck
    | none => stuck
  | _, _ => stuck
/-- does the clause take it: 0 is the root of the own classes -/
def takesC (c c' : Nat) : Bool := c == 0 || c == c'
/-- an exception's class -/
def excNo : D → Option Nat
  | .dict [(.int c, _)] => if 0 ≤ c then some c.toNat else none
  | _ => none
def isiR : Ty → D → R Bool
  | .tuple, d => match d with
    | .tuple _ => ok true
    | .dict _ => stuck
    | _ => ok false
  | .list, d => match d with
    | .list _ => ok true
    | .dict _ => stuck
    | _ => ok false
  | .int, d => match d with
    | .int _ => ok true
    | .bool _ => ok true
    | .dict _ => stuck
    | _ => ok false
  | .bool, d => match d with
    | .bool _ => ok true
    | .dict _ => stuck
    | _ => ok false
  | .str, d => match d with
    | .str _ => ok true
    | .dict _ => stuck
    | _ => ok false
  | .valueError, d => match excNo d with
    | some _ => ok true
    | none => stuck
  | .exc c, d => match excNo d with
    | some c' => ok (takesC c c')
    | none => stuck

abbrev nthI {α : Type} (xs : List α) (k : Int) : Option α := L2.atI xs k
def idxR : D → D → R D
  | .list xs, .int k => match nthI xs k with
    | some d => ok d
    | none => stuck
  | .tuple xs, .int k => match nthI xs k with
    | some d => ok d
    | none => stuck
  | .str x, .int k => if x.length ≤ Line then (match nthI x.cps.toList k with
    | some c => ok (.str ⟨#[c]⟩)
    | none => stuck) else stuck
  | _, _ => stuck
def cutL {α : Type} (xs : List α) (lo hi : Option Int) : List α := (xs.drop (HT.sIx xs.length 0 lo)).take (HT.sIx xs.length xs.length hi - HT.sIx xs.length 0 lo)
def cutR (d : D) (lo hi : Option Int) : R D := match d with
  | .list xs => ok (.list (cutL xs lo hi))
  | .tuple xs => ok (.tuple (cutL xs lo hi))
  | .str x => if x.length ≤ Line then ok (.str ⟨(cutL x.cps.toList lo hi).toArray⟩) else stuck
  | _ => stuck
def partR : D → R Int
  | .int i => ok i
  | _ => stuck
def revR : D → R D
  | .list xs => ok (.list xs.reverse)
  | _ => stuck

/-- what is walked -/
def walkR : D → R (List D)
  | .list xs => ok xs
  | .tuple xs => ok xs
  | .str x => if x.length ≤ Line then ok (x.cps.toList.map fun c => .str ⟨#[c]⟩) else stuck
  | _ => stuck
def big62 (i : Int) : Bool := decide (-(2 ^ 62) ≤ i ∧ i < 2 ^ 62)
def rngR (lo hi : Int) : R D := if big62 lo && big62 hi && decide ((hi - lo).toNat ≤ Line) then ok (.list ((List.range (hi - lo).toNat).map fun (k : Nat) => .int (lo + k))) else stuck
/-- downwards by ones -/
def rngDown (lo hi : Int) : R D := if big62 lo && big62 hi && decide ((lo - hi).toNat ≤ Line) then ok (.list ((List.range (lo - hi).toNat).map fun (k : Nat) => .int (lo - k))) else stuck
def rng1R : D → R D
  | .int j => rngR 0 j
  | _ => stuck
def rng2R : D → D → R D
  | .int i, .int j => rngR i j
  | _, _ => stuck
def rng3R : D → D → D → R D
  | .int i, .int j, .int k => if k = -1 then rngDown i j else stuck
  | _, _, _ => stuck
def enumL : Nat → List D → List D
  | _, [] => []
  | n, d :: r => .tuple [.int n, d] :: enumL (n + 1) r
def enumR : D → R D
  | .list xs => ok (.list (enumL 0 xs))
  | _ => stuck
def zip3L : List D → List D → List D → List D
  | a :: as, b :: bs, c :: cs => .tuple [a, b, c] :: zip3L as bs cs
  | _, _, _ => []
def zip3R (a b c : D) : R D := (items a).bind fun xs => (items b).bind fun ys => (items c).bind fun zs => ok (.list (zip3L xs ys zs))
def revdR (a : D) : R D := (items a).bind fun xs => ok (.list xs.reverse)

def sumLen : List Str → Nat
  | [] => 0
  | x :: r => x.length + sumLen r
def joinR : D → D → R D
  | .str a, .list xs => match asStrs xs with
    | some ys => if sumLen ys + ys.length * a.length ≤ Line then ok (.str (Txt.join a ys)) else stuck
    | none => stuck
  | _, _ => stuck
def findD (x : D) : List D → Nat → Option Nat
  | [], _ => none
  | y :: r, n => if PyData.eqv y x then some n else findD x r (n + 1)
def indexR : D → D → R D
  | .list ys, x => if x.depth ≤ 150 then (match findD x ys 0 with
    | some j => ok (.int j)
    | none => stuck) else stuck
  | _, _ => stuck
def countR : D → D → R D
  | .list ys, x => if x.depth ≤ 150 then ok (.int ((ys.countP fun y => PyData.eqv y x : Nat))) else stuck
  | _, _ => stuck
def lookS (kvs : List (Str × D)) (x : Str) : Option D := match kvs with
  | [] => none
  | (k, d) :: r => if k = x then some d else lookS r x

/-- an exception's field -/
def exfR (n : Str) : D → R D
  | .dict [(.int c, .dict [(.str y, f)])] => if 0 ≤ c ∧ y = n then ok f else stuck
  | _ => stuck

/-! ## the environment: what each slot holds -/
abbrev Env := List (Option D)
def getS (ρ : Env) (i : Nat) : R D := match ρ[i]? with
  | some (some d) => ok d
  | _ => stuck
def setAll : List Nat → List D → Env → Option Env
  | [], [], ρ => some ρ
  | i :: is, d :: ds, ρ => setAll is ds (ρ.set i (some d))
  | _, _, _ => none
def setTg : Tg → D → Env → Option Env
  | .one i, d, ρ => some (ρ.set i (some d))
  | .many is, .tuple ds, ρ => setAll is ds ρ
  | .many _, _, _ => none

/-- a comprehension's items, one behind the other: each gives an item, or none -/
def compL (f : D → R (Option D)) : List D → R (List D)
  | [] => ok []
  | d :: ds => (f d).bind fun o => (compL f ds).bind fun ys => ok (match o with | some y => y :: ys | none => ys)

/-- one item -/
def compF (t : Tg) (sC : Env → R Bool) (sE : Env → R D) (ρ : Env) (d : D) : R (Option D) := match setTg t d ρ with
  | none => stuck
  | some ρ' => (sC ρ').calm.bind fun k => if k then (sE ρ').calm.bind fun y => ok (some y) else ok none
def getL (ρ : Env) (i : Nat) : R (List D) := match ρ[i]? with
  | some (some (.list xs)) => ok xs
  | _ => stuck

section
variable (C : Nat → List D → R D)
mutual
def evE : E → Env → R D
  | .nil, _ => ok (.bool true)
  | .cons _ _, _ => stuck
  | .var i, ρ => getS ρ i
  | .cst d, _ => ok d
  | .glob _ d, _ => ok d
  | .tup es, ρ => (evEs es ρ).bind fun ds => ok (.tuple ds)
  | .lst es, ρ => (evEs es ρ).bind fun ds => ok (.list ds)
  | .call f es, ρ => (evEs es ρ).bind fun ds => C f ds
  | .callv i es, ρ => (getS ρ i).bind fun g => (evEs es ρ).bind fun ds => match g with
    | .dict [(.none, .int k)] => if 0 ≤ k then C k.toNat ds else stuck
    | _ => stuck
  | .bin op a b, ρ => (evE a ρ).bind fun x => (evE b ρ).bind fun y => binD op x y
  | .rep a b, ρ => (evE a ρ).bind fun x => (evE b ρ).bind fun y => repD x y
  | .neg a, ρ => (evE a ρ).bind fun x => match x with
    | .int i => ok (.int (-i))
    | _ => stuck
  | .not a, ρ => (evE a ρ).bind fun x => (truthy x).bind fun k => ok (.bool (!k))
  | .cmp c a b, ρ => (evE a ρ).bind fun x => (evE b ρ).bind fun y => (cmpR c x y).bind fun k => ok (.bool k)
  | .chain c1 c2 a b c, ρ => (evE a ρ).bind fun x => (evE b ρ).bind fun y => (cmpR c1 x y).bind fun k =>
      if k then (evE c ρ).bind fun z => (cmpR c2 y z).bind fun k2 => ok (.bool k2) else ok (.bool false)
  | .chain3 c1 c2 c3 a b c d, ρ => (evE a ρ).bind fun x => (evE b ρ).bind fun y => (cmpR c1 x y).bind fun k =>
      if k then (evE c ρ).bind fun z => (cmpR c2 y z).bind fun k2 => if k2 then (evE d ρ).bind fun u => (cmpR c3 z u).bind fun k3 => ok (.bool k3) else ok (.bool false) else ok (.bool false)
  | .and a b, ρ => (evE a ρ).bind fun x => (truthy x).bind fun k => if k then evE b ρ else ok x
  | .or a b, ρ => (evE a ρ).bind fun x => (truthy x).bind fun k => if k then ok x else evE b ρ
  | .ife c a b, ρ => (evE c ρ).bind fun x => (truthy x).bind fun k => if k then evE a ρ else evE b ρ
  | .f1 f a, ρ => (evE a ρ).bind fun x => f1R f x
  | .isi t a, ρ => (evE a ρ).bind fun x => (isiR t x).bind fun k => ok (.bool k)
  | .max2 a b, ρ => (evE a ρ).bind fun x => (evE b ρ).bind fun y => match x, y with
    | .int i, .int j => ok (.int (if j > i then j else i))
    | _, _ => stuck
  | .maxd a b, ρ => (evE a ρ).bind fun x => (evE b ρ).bind fun y => match x with
    | .list [] => ok y
    | .list (d :: ds) => f1R .max (.list (d :: ds))
    | _ => stuck
  | .divmod a b, ρ => (evE a ρ).bind fun x => (evE b ρ).bind fun y => match x, y with
    | .int i, .int j => if 0 < j ∧ j < 1073741824 then ok (.tuple [.int (i / j), .int (i % j)]) else stuck
    | _, _ => stuck
  | .idx a b, ρ => (evE a ρ).bind fun x => (evE b ρ).bind fun y => idxR x y
  | .slf a lo, ρ => (evE a ρ).bind fun x => (evE lo ρ).bind fun l => (partR l).bind fun i => cutR x (some i) none
  | .slt a hi, ρ => (evE a ρ).bind fun x => (evE hi ρ).bind fun h => (partR h).bind fun j => cutR x none (some j)
  | .slb a lo hi, ρ => (evE a ρ).bind fun x => (evE lo ρ).bind fun l => (partR l).bind fun i => (evE hi ρ).bind fun h => (partR h).bind fun j => cutR x (some i) (some j)
  | .rev a, ρ => (evE a ρ).bind fun x => revR x
  | .comp tg it cond elt, ρ => ((evE it ρ).bind walkR).bind fun ds =>
      (compL (compF tg (fun ρ' => (evE cond ρ').bind truthy) (fun ρ' => evE elt ρ') ρ) ds).bind fun ys => ok (.list ys)
  | .rng1 a, ρ => (evE a ρ).bind fun x => rng1R x
  | .rng2 a b, ρ => (evE a ρ).bind fun x => (evE b ρ).bind fun y => rng2R x y
  | .rng3 a b c, ρ => (evE a ρ).bind fun x => (evE b ρ).bind fun y => (evE c ρ).bind fun z => rng3R x y z
  | .enum a, ρ => (evE a ρ).bind fun x => enumR x
  | .zip3 a b c, ρ => (evE a ρ).bind fun x => (evE b ρ).bind fun y => (evE c ρ).bind fun z => zip3R x y z
  | .revd a, ρ => (evE a ρ).bind fun x => revdR x
  | .lrng a, ρ => (evE a ρ).bind fun x => rng1R x
  | .join a b, ρ => (evE a ρ).bind fun x => (evE b ρ).bind fun y => joinR x y
  | .index a b, ρ => (evE a ρ).bind fun x => (evE b ρ).bind fun y => indexR x y
  | .count a b, ρ => (evE a ρ).bind fun x => (evE b ρ).bind fun y => countR x y
  | .inD neg _ kvs a, ρ => (evE a ρ).bind fun x => match x with
    | .str s => ok (.bool ((lookS kvs s).isSome != neg))
    | _ => stuck
  | .getD _ kvs a, ρ => (evE a ρ).bind fun x => match x with
    | .str s => (match lookS kvs s with
      | some d => ok d
      | none => stuck)
    | _ => stuck
  | .sortD _ kvs, _ => ok (.list (kvs.map fun p => .str p.1))
  | .exf n a, ρ => (evE a ρ).bind fun x => exfR n x
def evEs : E → Env → R (List D)
  | .nil, _ => ok []
  | .cons h t, ρ => (evE h ρ).bind fun d => (evEs t ρ).bind fun ds => ok (d :: ds)
  | _, _ => stuck
end
end

/-- what comes of a statement -/
inductive Out where
  | nx (ρ : Env) | rt (d : D) | bk (ρ : Env) | ct (ρ : Env)
  | exc (c : Nat) (f : D) (ρ : Env)
  | stuck

def R.out {α : Type} (r : R α) (ρ : Env) (f : α → Out) : Out := match r with
  | .ok a => f a
  | .exc c d => .exc c d ρ
  | .stuck => .stuck
@[simp] theorem R.out_ok {α : Type} (a : α) (ρ : Env) (f : α → Out) : (R.ok a).out ρ f = f a := (rfl)
@[simp] theorem R.out_exc {α : Type} (c : Nat) (d : D) (ρ : Env) (f : α → Out) : (R.exc c d : R α).out ρ f = .exc c d ρ := (rfl)
@[simp] theorem R.out_stuck {α : Type} (ρ : Env) (f : α → Out) : (R.stuck : R α).out ρ f = .stuck := (rfl)

def Out.seq (o : Out) (f : Env → Out) : Out := match o with
  | .nx ρ => f ρ
  | o => o
@[simp] theorem Out.seq_nx (ρ : Env) (f : Env → Out) : (Out.nx ρ).seq f = f ρ := (rfl)
@[simp] theorem Out.seq_rt (d : D) (f : Env → Out) : (Out.rt d).seq f = .rt d := (rfl)
@[simp] theorem Out.seq_bk (ρ : Env) (f : Env → Out) : (Out.bk ρ).seq f = .bk ρ := (rfl)
@[simp] theorem Out.seq_ct (ρ : Env) (f : Env → Out) : (Out.ct ρ).seq f = .ct ρ := (rfl)
@[simp] theorem Out.seq_exc (c : Nat) (d : D) (ρ : Env) (f : Env → Out) : (Out.exc c d ρ).seq f = .exc c d ρ := (rfl)
@[simp] theorem Out.seq_stuck (f : Env → Out) : Out.stuck.seq f = .stuck := (rfl)

/-- an exception within a suite is nothing that is told -/
def Out.calm (o : Out) : Out := match o with
  | .exc _ _ _ => .stuck
  | o => o
@[simp] theorem Out.calm_nx (ρ : Env) : (Out.nx ρ).calm = .nx ρ := (rfl)
@[simp] theorem Out.calm_rt (d : D) : (Out.rt d).calm = .rt d := (rfl)
@[simp] theorem Out.calm_bk (ρ : Env) : (Out.bk ρ).calm = .bk ρ := (rfl)
@[simp] theorem Out.calm_ct (ρ : Env) : (Out.ct ρ).calm = .ct ρ := (rfl)
@[simp] theorem Out.calm_exc (c : Nat) (d : D) (ρ : Env) : (Out.exc c d ρ).calm = .stuck := (rfl)
@[simp] theorem Out.calm_stuck : Out.stuck.calm = .stuck := (rfl)

/-- a loop over items -/
def forL (step : D → Env → Out) : List D → Env → Out
  | [], ρ => .nx ρ
  | d :: ds, ρ => match step d ρ with
    | .nx ρ' => forL step ds ρ'
    | .ct ρ' => forL step ds ρ'
    | .bk ρ' => .nx ρ'
    | .rt v => .rt v
    | .exc c f ρ' => .exc c f ρ'
    | .stuck => .stuck
/-- a while, of so many turns at most -/
def whileL (test : Env → R Bool) (step : Env → Out) : Nat → Env → Out
  | 0, _ => .stuck
  | n + 1, ρ => (test ρ).out ρ fun k => if k then (match step ρ with
      | .nx ρ' => whileL test step n ρ'
      | .ct ρ' => whileL test step n ρ'
      | .bk ρ' => .nx ρ'
      | .rt v => .rt v
      | .exc c f ρ' => .exc c f ρ'
      | .stuck => .stuck) else .nx ρ
def wfuel : Nat := 1000000

def setO : Option Env → Out
  | some ρ => .nx ρ
  | none => .stuck
def augF : Op2 → D → D → Nat → Env → Out
  | .add, .int a, .int b, i, ρ => .nx (ρ.set i (some (.int (a + b))))
  | .sub, .int a, .int b, i, ρ => .nx (ρ.set i (some (.int (a - b))))
  | _, _, _, _, _ => .stuck
def setF (i : Nat) (xs : List D) (d n : D) (ρ : Env) : Out := match n with
  | .int j => (match L2.ixN xs.length j with
    | some m => .nx (ρ.set i (some (.list (xs.set m d))))
    | none => .stuck)
  | _ => .stuck
def appF (i : Nat) (xs : List D) (d : D) (ρ : Env) : Out := if xs.length < Line then .nx (ρ.set i (some (.list (xs ++ [d])))) else .stuck
def extF (i : Nat) (xs : List D) (d : D) (ρ : Env) : Out := match d with
  | .list ys => if xs.length + ys.length ≤ Line then .nx (ρ.set i (some (.list (xs ++ ys)))) else .stuck
  | _ => .stuck
def insF (i : Nat) (xs : List D) (n d : D) (ρ : Env) : Out := match n with
  | .int j => if xs.length < Line ∧ 0 ≤ j ∧ j < 2 ^ 63 then .nx (ρ.set i (some (.list (xs.take j.toNat ++ [d] ++ xs.drop j.toNat)))) else .stuck
  | _ => .stuck
def stepF (tg : Tg) (f : Env → Out) (d : D) (ρ : Env) : Out := match setTg tg d ρ with
  | some ρ' => f ρ'
  | none => .stuck


section
variable (C : Nat → List D → R D)
mutual
def exS : S → Env → Out
  | .nil, ρ => .nx ρ
  | .cons s t, ρ => (exS s ρ).seq fun ρ' => exS t ρ'
  | .doc, ρ => .nx ρ
  | .pass, ρ => .nx ρ
  | .brk, ρ => .bk ρ
  | .cont, ρ => .ct ρ
  | .set i e, ρ => (evE C e ρ).out ρ fun d => .nx (ρ.set i (some d))
  | .setfn i _ kvs e, ρ => (evE C e ρ).out ρ fun d => match d with
    | .str s => (match lookS kvs s with
      | some d => .nx (ρ.set i (some d))
      | none => .stuck)
    | _ => .stuck
  | .unpack is e, ρ => (evE C e ρ).out ρ fun d => setO (setTg (.many is) d ρ)
  | .par is es, ρ => (evEs C es ρ).out ρ fun ds => setO (setAll is ds ρ)
  | .setidx i k e, ρ => (evE C e ρ).out ρ fun d => (getL ρ i).out ρ fun xs => (evE C k ρ).out ρ fun n => setF i xs d n ρ
  | .aug op i e, ρ => (getS ρ i).out ρ fun x => (evE C e ρ).out ρ fun y => augF op x y i ρ
  | .app i e, ρ => (getL ρ i).out ρ fun xs => (evE C e ρ).out ρ fun d => appF i xs d ρ
  | .ext i e, ρ => (getL ρ i).out ρ fun xs => (evE C e ρ).out ρ fun d => extF i xs d ρ
  | .ins i k e, ρ => (getL ρ i).out ρ fun xs => (evE C k ρ).out ρ fun n => (evE C e ρ).out ρ fun d => insF i xs n d ρ
  | .expr e, ρ => (evE C e ρ).out ρ fun _ => .nx ρ
  | .ite c a b, ρ => ((evE C c ρ).bind truthy).out ρ fun k => if k then exS a ρ else exS b ρ
  | .while c b, ρ => whileL (fun ρ => (evE C c ρ).bind truthy) (fun ρ => exS b ρ) wfuel ρ
  | .for tg it b, ρ => ((evE C it ρ).bind walkR).out ρ fun ds => forL (stepF tg fun ρ => exS b ρ) ds ρ
  | .ret e, ρ => (evE C e ρ).out ρ fun d => .rt d
  | .raise c es, ρ => (evEs C es ρ).out ρ fun ds => .exc c (.dict []) ρ
  | .raiseX c x e, ρ => (evE C e ρ).out ρ fun d => .exc c (.dict [(.str x, d)]) ρ
  | .raiseFrom c, ρ => .exc c (.dict []) ρ
  | .try b hs, ρ => match exS b ρ with
    | .exc c f ρ' => exH hs c f ρ'
    | o => o
  | .hcons _ _ _ _, _ => .stuck
  | .never, _ => .stuck
def exH : S → Nat → D → Env → Out
  | .hcons c slot suite more, c', f, ρ => if takesC c c' then (match slot with
      | none => (exS suite ρ).calm
      | some i => match (exS suite (ρ.set i (some (excD c' f)))).calm with
        | .nx ρ' => .nx (ρ'.set i none)
        | .bk ρ' => .bk (ρ'.set i none)
        | .ct ρ' => .ct (ρ'.set i none)
        | o => o) else exH more c' f ρ
  | _, c', f, ρ => .exc c' f ρ
end
end

/-- a def: how many parameters, how many slots, its body -/
structure Def where
  np : Nat
  ns : Nat
  body : S
def runD (C : Nat → List D → R D) (d : Def) (args : List D) : R D :=
  if args.length = d.np then match exS C d.body (args.map some ++ List.replicate (d.ns - d.np) none) with
    | .rt v => ok v
    | .nx _ => ok .none
    | .exc c f _ => exc c f
    | _ => stuck
  else stuck
def callF (ds : List Def) : Nat → Nat → List D → R D
  | 0, _, _ => stuck
  | n + 1, f, args => match ds[f]? with
    | some d => runD (callF ds n) d args
    | none => stuck
end Pyr

namespace Pyr
open PySem L2

/-! # How data lies in the heap: F the frozen part, H the whole -/
mutual
theorem Dp_mono {K : PySem.W.Frag} {F F' : Hp} (e : Same F F') : ∀ (d : D) (v : V), Dp K F v d → Dp K F' v d
  | .none, _, h => by cases h; exact .non
  | .bool b, _, h => by cases h; exact .bl b
  | .int i, _, h => by cases h; exact .int i
  | .str x, _, h => by cases h; exact .str x
  | .list ds, _, h => by
    cases h with
    | lst hs ha => exact .lst (e.seq hs) (DpAll_mono e ds _ ha)
  | .tuple ds, _, h => by
    cases h with
    | tup hs ha =>
      refine .tup ?_ (DpAll_mono e ds _ ha)
      rcases hs with (h | ⟨o, h⟩) | h
      · exact .inl (.inl (e _ _ h))
      · exact .inl (.inr ⟨o, e _ _ h⟩)
      · exact .inr h
  | .dict _, _, h => by cases h
theorem DpAll_mono {K : PySem.W.Frag} {F F' : Hp} (e : Same F F') : ∀ (ds : List D) (vs : List V), DpAll K F vs ds → DpAll K F' vs ds
  | [], _, h => by cases h; exact .nil
  | d :: ds, _, h => by
    cases h with
    | cons h1 h2 => exact .cons (Dp_mono e d _ h1) (DpAll_mono e ds _ h2)
end

abbrev Lay (d : D) : Prop := d.canLay0 = true
abbrev LayAll (ds : List D) : Prop := PyData.canLayAll0 ds = true
theorem layAll_cons {d : D} {ds : List D} : LayAll (d :: ds) ↔ Lay d ∧ LayAll ds := by
  show (d.canLay0 && PyData.canLayAll0 ds) = true ↔ _
  rw [Bool.and_eq_true]
theorem layAll_iff : ∀ {ds : List D}, LayAll ds ↔ ∀ d ∈ ds, Lay d
  | [] => ⟨fun _ _ q => absurd q (by simp), fun _ => rfl⟩
  | d :: ds => by rw [layAll_cons, layAll_iff (ds := ds)]; simp
theorem layAll_append {ds es : List D} : LayAll (ds ++ es) ↔ LayAll ds ∧ LayAll es := by
  rw [layAll_iff, layAll_iff, layAll_iff]
  constructor
  · exact fun h => ⟨fun d q => h d (List.mem_append_left _ q), fun d q => h d (List.mem_append_right _ q)⟩
  · rintro ⟨a, b⟩ d q
    rcases List.mem_append.mp q with q | q
    · exact a d q
    · exact b d q

def Rep (K : PySem.W.Frag) (F : Hp) (v : V) (d : D) : Prop := Dp K F v d ∧ Lay d
def RepAll (K : PySem.W.Frag) (F : Hp) (vs : List V) (ds : List D) : Prop := DpAll K F vs ds ∧ LayAll ds
theorem Rep.mono {K : PySem.W.Frag} {F F' : Hp} {v : V} {d : D} (h : Rep K F v d) (e : Same F F') : Rep K F' v d := ⟨Dp_mono e _ _ h.1, h.2⟩
theorem RepAll.mono {K : PySem.W.Frag} {F F' : Hp} {v : List V} {d : List D} (h : RepAll K F v d) (e : Same F F') : RepAll K F' v d := ⟨DpAll_mono e _ _ h.1, h.2⟩
theorem RepAll.nil {K : PySem.W.Frag} {F : Hp} : RepAll K F [] [] := ⟨.nil, rfl⟩
theorem RepAll.cons {K : PySem.W.Frag} {F : Hp} {v : V} {d : D} {vs : List V} {ds : List D} (h : Rep K F v d) (t : RepAll K F vs ds) : RepAll K F (v :: vs) (d :: ds) := ⟨.cons h.1 t.1, layAll_cons.mpr ⟨h.2, t.2⟩⟩
theorem RepAll.inv_cons {K : PySem.W.Frag} {F : Hp} {vs : List V} {d : D} {ds : List D} (h : RepAll K F vs (d :: ds)) : ∃ v r, vs = v :: r ∧ Rep K F v d ∧ RepAll K F r ds := by
  obtain ⟨h, l⟩ := h
  have l := layAll_cons.mp l
  cases h with
  | cons a b => exact ⟨_, _, rfl, ⟨a, l.1⟩, b, l.2⟩
theorem RepAll.inv_nil {K : PySem.W.Frag} {F : Hp} {vs : List V} (h : RepAll K F vs []) : vs = [] := by
  obtain ⟨h, _⟩ := h
  cases h; rfl
theorem RepAll.length {K : PySem.W.Frag} {F : Hp} : ∀ {ds : List D} {vs : List V}, RepAll K F vs ds → vs.length = ds.length
  | [], _, h => by rw [h.inv_nil]; rfl
  | d :: ds, _, h => by
    obtain ⟨v, r, rfl, _, t⟩ := h.inv_cons
    simp [RepAll.length t]
theorem RepAll.append {K : PySem.W.Frag} {F : Hp} : ∀ {ds : List D} {vs : List V} {es : List D} {ws : List V}, RepAll K F vs ds → RepAll K F ws es → RepAll K F (vs ++ ws) (ds ++ es)
  | [], _, _, _, h, q => by rw [h.inv_nil]; exact q
  | d :: ds, _, _, _, h, q => by
    obtain ⟨v, r, rfl, a, t⟩ := h.inv_cons
    exact .cons a (RepAll.append t q)
theorem RepAll.get {K : PySem.W.Frag} {F : Hp} : ∀ {ds : List D} {vs : List V} {i : Nat} {d : D}, RepAll K F vs ds → ds[i]? = some d → ∃ v, vs[i]? = some v ∧ Rep K F v d
  | [], _, _, _, _, e => by simp at e
  | d :: ds, _, 0, x, h, e => by
    obtain ⟨v, r, rfl, a, t⟩ := h.inv_cons
    simp at e; subst e
    exact ⟨v, rfl, a⟩
  | d :: ds, _, i + 1, x, h, e => by
    obtain ⟨v, r, rfl, a, t⟩ := h.inv_cons
    simpa using RepAll.get t (by simpa using e)
theorem RepAll.get' {K : PySem.W.Frag} {F : Hp} : ∀ {ds : List D} {vs : List V} {i : Nat} {v : V}, RepAll K F vs ds → vs[i]? = some v → ∃ d, ds[i]? = some d ∧ Rep K F v d
  | [], _, _, _, h, e => by rw [h.inv_nil] at e; simp at e
  | d :: ds, _, 0, x, h, e => by
    obtain ⟨v, r, rfl, a, t⟩ := h.inv_cons
    simp at e; subst e
    exact ⟨d, rfl, a⟩
  | d :: ds, _, i + 1, x, h, e => by
    obtain ⟨v, r, rfl, a, t⟩ := h.inv_cons
    simpa using RepAll.get' t (by simpa using e)
theorem RepAll.set {K : PySem.W.Frag} {F : Hp} {v : V} {d : D} (q : Rep K F v d) : ∀ {ds : List D} {vs : List V} (i : Nat), RepAll K F vs ds → RepAll K F (vs.set i v) (ds.set i d)
  | [], _, i, h => by rw [h.inv_nil]; exact .nil
  | e :: ds, _, 0, h => by
    obtain ⟨w, r, rfl, a, t⟩ := h.inv_cons
    exact .cons q t
  | e :: ds, _, i + 1, h => by
    obtain ⟨w, r, rfl, a, t⟩ := h.inv_cons
    exact .cons a (RepAll.set q i t)
theorem RepAll.take {K : PySem.W.Frag} {F : Hp} : ∀ {ds : List D} {vs : List V} (i : Nat), RepAll K F vs ds → RepAll K F (vs.take i) (ds.take i)
  | [], _, i, h => by rw [h.inv_nil]; simp; exact .nil
  | e :: ds, _, 0, h => by simp; exact .nil
  | e :: ds, _, i + 1, h => by
    obtain ⟨w, r, rfl, a, t⟩ := h.inv_cons
    exact .cons a (RepAll.take i t)
theorem RepAll.drop {K : PySem.W.Frag} {F : Hp} : ∀ {ds : List D} {vs : List V} (i : Nat), RepAll K F vs ds → RepAll K F (vs.drop i) (ds.drop i)
  | [], _, i, h => by rw [h.inv_nil]; simp; exact .nil
  | e :: ds, _, 0, h => h
  | e :: ds, _, i + 1, h => by
    obtain ⟨w, r, rfl, a, t⟩ := h.inv_cons
    exact RepAll.drop i t
theorem RepAll.reverse {K : PySem.W.Frag} {F : Hp} : ∀ {ds : List D} {vs : List V}, RepAll K F vs ds → RepAll K F vs.reverse ds.reverse
  | [], _, h => by rw [h.inv_nil]; exact .nil
  | e :: ds, _, h => by
    obtain ⟨w, r, rfl, a, t⟩ := h.inv_cons
    rw [List.reverse_cons, List.reverse_cons]
    exact .append (RepAll.reverse t) (.cons a .nil)
theorem RepAll.rep {K : PySem.W.Frag} {F : Hp} {ds : List D} {vs : List V} (h : RepAll K F vs ds) : ∀ k : Nat, RepAll K F (List.replicate k vs).flatten (List.replicate k ds).flatten
  | 0 => .nil
  | k + 1 => by
    rw [List.replicate_succ, List.replicate_succ, List.flatten_cons, List.flatten_cons]
    exact .append h (RepAll.rep h k)
/-- a list's, a tuple's own parts -/
theorem Rep.list {K : PySem.W.Frag} {F : Hp} {v : V} {ds : List D} (h : Rep K F v (.list ds)) : ∃ a vs, v = .ref a ∧ SqL K F a vs ∧ RepAll K F vs ds := by
  obtain ⟨h, l⟩ := h
  cases h with
  | lst hs ha => exact ⟨_, _, rfl, hs, ha, l⟩
theorem Rep.tuple {K : PySem.W.Frag} {F : Hp} {v : V} {ds : List D} (h : Rep K F v (.tuple ds)) : ∃ a vs, v = .ref a ∧ SqT K F a vs ∧ RepAll K F vs ds := by
  obtain ⟨h, l⟩ := h
  cases h with
  | tup hs ha => exact ⟨_, _, rfl, hs, ha, l⟩
theorem Rep.ofList {K : PySem.W.Frag} {F : Hp} {a : Addr} {vs : List V} {ds : List D} (h : SqL K F a vs) (q : RepAll K F vs ds) : Rep K F (.ref a) (.list ds) := ⟨.lst h q.1, q.2⟩
theorem Rep.ofTuple {K : PySem.W.Frag} {F : Hp} {a : Addr} {vs : List V} {ds : List D} (h : SqT K F a vs) (q : RepAll K F vs ds) : Rep K F (.ref a) (.tuple ds) := ⟨.tup h q.1, q.2⟩
theorem Rep.int {K : PySem.W.Frag} {F : Hp} (i : Int) : Rep K F (.int i) (.int i) := ⟨.int i, rfl⟩
theorem Rep.bl {K : PySem.W.Frag} {F : Hp} (i : Bool) : Rep K F (.bl i) (.bool i) := ⟨.bl i, rfl⟩
theorem Rep.non {K : PySem.W.Frag} {F : Hp} : Rep K F .non .none := ⟨.non, rfl⟩
theorem Rep.str {K : PySem.W.Frag} {F : Hp} {x : Str} (h : PyData.strOk x = true) : Rep K F (.str x) (.str x) := ⟨.str x, h⟩
theorem Rep.int_inv {K : PySem.W.Frag} {F : Hp} {v : V} {i : Int} (h : Rep K F v (.int i)) : v = .int i := by obtain ⟨h, _⟩ := h; cases h; rfl
theorem Rep.bl_inv {K : PySem.W.Frag} {F : Hp} {v : V} {i : Bool} (h : Rep K F v (.bool i)) : v = .bl i := by obtain ⟨h, _⟩ := h; cases h; rfl
theorem Rep.non_inv {K : PySem.W.Frag} {F : Hp} {v : V} (h : Rep K F v .none) : v = .non := by obtain ⟨h, _⟩ := h; cases h; rfl
theorem Rep.str_inv {K : PySem.W.Frag} {F : Hp} {v : V} {x : Str} (h : Rep K F v (.str x)) : v = .str x ∧ PyData.strOk x = true := by
  obtain ⟨h, l⟩ := h; cases h; exact ⟨rfl, l⟩
theorem Rep.dict_inv {K : PySem.W.Frag} {F : Hp} {v : V} {x} (h : Rep K F v (.dict x)) : False := by
  obtain ⟨h, l⟩ := h; cases h
theorem SqT_mono {K : PySem.W.Frag} {H H' : Hp} {a : Addr} {xs : List V} (e : Same H H') (h : SqT K H a xs) : SqT K H' a xs := by
  rcases h with (h | ⟨o, h⟩) | h
  · exact .inl (.inl (e _ _ h))
  · exact .inl (.inr ⟨o, e _ _ h⟩)
  · exact .inr h

/-! ## the frozen part grows -/
structure Ext (F H F' H' : Hp) : Prop where
  sF : Same F F'
  sH : Same H H'
  sub : Same F' H'
  nf : ∀ a, H a ≠ none → F a = none → F' a = none
theorem Ext.refl {F H : Hp} (s : Same F H) : Ext F H F H := ⟨.refl _, .refl _, s, fun _ _ h => h⟩
theorem Ext.trans {F H F1 H1 F2 H2 : Hp} (a : Ext F H F1 H1) (b : Ext F1 H1 F2 H2) : Ext F H F2 H2 :=
  ⟨a.sF.trans b.sF, a.sH.trans b.sH, b.sub, fun x h n => b.nf x (fun z => h (a.sH.free z)) (a.nf x h n)⟩
theorem same_upd {F : Hp} {p : Addr} {o : HO} (h : F p = none) : Same F (upd F p o) := fun b u e => by
  rw [upd_ne (ne_of_none e h)]; exact e
/-- a new object, frozen -/
theorem Ext.alloc {F H : Hp} {p : Addr} {o : HO} (s : Same F H) (h : H p = none) : Ext F H (upd F p o) (upd H p o) := by
  have hF := s.free h
  refine ⟨same_upd hF, same_upd h, fun b u e => ?_, fun a n m => ?_⟩
  · by_cases hb : b = p
    · subst hb; rw [upd_same] at e ⊢; exact e
    · rw [upd_ne hb] at e ⊢; exact s _ _ e
  · have : a ≠ p := fun z => n (by rw [z]; exact h)
    rw [upd_ne this]; exact m
/-- .. not frozen -/
theorem Ext.own {F H : Hp} {p : Addr} {o : HO} (s : Same F H) (h : H p = none) : Ext F H F (upd H p o) :=
  ⟨.refl _, same_upd h, fun b u e => by
    have z := s _ _ e
    rw [upd_ne (ne_of_none z h)]; exact z, fun _ _ m => m⟩
/-- what stands is frozen -/
theorem Ext.freeze {F0 H0 F H : Hp} {p : Addr} {o : HO} (x : Ext F0 H0 F H) (h : H p = some o) (n : F p = none) (h0 : H0 p = none) : Ext F0 H0 (upd F p o) H := by
  refine ⟨x.sF.trans (same_upd n), x.sH, fun b u e => ?_, fun a q m => ?_⟩
  · by_cases hb : b = p
    · subst hb; rw [upd_same] at e; cases e; exact h
    · rw [upd_ne hb] at e; exact x.sub _ _ e
  · have : a ≠ p := fun z => q (by rw [z]; exact h0)
    rw [upd_ne this]; exact x.nf a q m

/-! ## results: frozen, fresh, only looked at -/
inductive Md where | frz | fresh | peek
  deriving DecidableEq
def Res (K : PySem.W.Frag) (F' H H' : Hp) (v : V) (d : D) : Md → Prop
  | .frz => Rep K F' v d
  | .fresh => match d with
    | .list ds => ∃ a vs, v = .ref a ∧ H' a = some (.lst vs) ∧ H a = none ∧ F' a = none ∧ RepAll K F' vs ds
    | d => Rep K F' v d
  | .peek => match d with
    | .list ds => ∃ a vs, v = .ref a ∧ SqL K H' a vs ∧ RepAll K F' vs ds
    | d => Rep K F' v d
theorem Res.of_rep {K : PySem.W.Frag} {F' H H' : Hp} {v : V} {d : D} (s : Same F' H') (h : Rep K F' v d) : Res K F' H H' v d .peek := by
  cases d with
  | list ds =>
    obtain ⟨a, vs, e, hs, q⟩ := h.list
    exact ⟨a, vs, e, s.seq hs, q⟩
  | none => exact h
  | bool _ => exact h
  | int _ => exact h
  | str _ => exact h
  | tuple _ => exact h
  | dict _ => exact h
/-- a result that isn't a list is a result in each way -/
theorem Res.flat {K : PySem.W.Frag} {F' H H' : Hp} {v : V} {d : D} (h : Rep K F' v d) (nl : ∀ ds, d ≠ .list ds) : ∀ m, Res K F' H H' v d m := by
  intro m
  cases m with
  | frz => exact h
  | fresh => cases d <;> first | exact h | exact absurd rfl (nl _)
  | peek => cases d <;> first | exact h | exact absurd rfl (nl _)
theorem Res.peek_mono {K : PySem.W.Frag} {F H0 H F' H' : Hp} {v : V} {d : D} (h : Res K F H0 H v d .peek) (x : Ext F H F' H') : Res K F' H0 H' v d .peek := by
  cases d with
  | list ds =>
    obtain ⟨a, vs, e, hs, q⟩ := h
    exact ⟨a, vs, e, x.sH.seq hs, q.mono x.sF⟩
  | none => exact Rep.mono h x.sF
  | bool _ => exact Rep.mono h x.sF
  | int _ => exact Rep.mono h x.sF
  | str _ => exact Rep.mono h x.sF
  | tuple _ => exact Rep.mono h x.sF
  | dict _ => exact Rep.mono h x.sF
/-- what is looked at lies in the whole heap -/
theorem Res.peek_rep {K : PySem.W.Frag} {F H0 H : Hp} {v : V} {d : D} (h : Res K F H0 H v d .peek) (s : Same F H) : Rep K H v d := by
  cases d with
  | list ds =>
    obtain ⟨a, vs, e, hs, q⟩ := h
    subst e
    exact .ofList hs (q.mono s)
  | none => exact Rep.mono h s
  | bool _ => exact Rep.mono h s
  | int _ => exact Rep.mono h s
  | str _ => exact Rep.mono h s
  | tuple _ => exact Rep.mono h s
  | dict _ => exact Rep.mono h s

/-! ## exceptions -/
/-- the own classes: their names, the names of their fields -/
abbrev XTab := List (Str × Option Str)
def ExcR (K : PySem.W.Frag) (mg : Str → Option Value) (xt : XTab) (F : Hp) (c : Nat) (f : D) (cls : Value) (dx : Option Addr) : Prop :=
  ∃ nm fld C, xt[c]? = some (nm, fld) ∧ mg nm = some (.ref C) ∧ cls = .ref C ∧ (match fld with
    | none => dx = none ∧ f = .dict []
    | some x => ∃ d v w, dx = some d ∧ F d = some (.xd [(x, v)]) ∧ f = .dict [(.str x, w)] ∧ Rep K F v w)
theorem ExcR.mono {K : PySem.W.Frag} {mg : Str → Option Value} {xt : XTab} {F F' : Hp} {c : Nat} {f : D} {cls : Value} {dx : Option Addr} (h : ExcR K mg xt F c f cls dx) (s : Same F F') : ExcR K mg xt F' c f cls dx := by
  obtain ⟨nm, fld, C, a, b, e, r⟩ := h
  refine ⟨nm, fld, C, a, b, e, ?_⟩
  cases fld with
  | none => exact r
  | some x =>
    obtain ⟨d, v, w, e1, e2, e3, e4⟩ := r
    exact ⟨d, v, w, e1, s _ _ e2, e3, e4.mono s⟩

/-! ## the slots -/
/-- how a special slot (a def, a caught exception, an object) lies: what is its own stands at A -/
abbrev SpR := Nat → Hp → Hp → V → D → List Addr → Prop
def SpM (Sp : SpR) : Prop := ∀ {i : Nat} {F H F' H' : Hp} {v : V} {d : D} {A : List Addr}, Sp i F H v d A → Same F F' → (∀ b ∈ A, H' b = H b) → Sp i F' H' v d A
/-- what stands at A is of no other slot -/
structure OwnA (sp τ : List Nat) (H0 F H : Hp) (σ : L2.St) (ρ : Env) (A : List Addr) : Prop where
  at_ : ∀ b ∈ A, H b ≠ none ∧ F b = none ∧ H0 b = none
  ap : ∀ b ∈ A, ∀ j es, j ∈ τ → j ∉ sp → ρ[j]? = some (some (.list es)) → σ[j]? = some (some (.ref b)) → False
def SpAt (Sp : SpR) (sp τ : List Nat) (H0 F H : Hp) (σ : L2.St) (ρ : Env) (i : Nat) (v : V) (d : D) : Prop := ∃ A, Sp i F H v d A ∧ OwnA sp τ H0 F H σ ρ A
theorem SpAt.to {Sp : SpR} {sp τ τ' : List Nat} {H0 F H F' H' : Hp} {σ σ' : L2.St} {ρ ρ' : Env} {i : Nat} {v : V} {d : D} (h : SpAt Sp sp τ H0 F H σ ρ i v d) (m : SpM Sp) (sF : Same F F')
    (k : ∀ b, H b ≠ none → F b = none → H0 b = none → (∀ j es, j ∈ τ → j ∉ sp → ρ[j]? = some (some (.list es)) → σ[j]? = some (some (.ref b)) → False) →
      H' b = H b ∧ F' b = none ∧ ∀ j es, j ∈ τ' → j ∉ sp → ρ'[j]? = some (some (.list es)) → σ'[j]? = some (some (.ref b)) → False) : SpAt Sp sp τ' H0 F' H' σ' ρ' i v d := by
  obtain ⟨A, hs, o⟩ := h
  have kk : ∀ b ∈ A, H' b = H b ∧ F' b = none ∧ ∀ j es, j ∈ τ' → j ∉ sp → ρ'[j]? = some (some (.list es)) → σ'[j]? = some (some (.ref b)) → False := fun b hb => by
    obtain ⟨a1, a2, a3⟩ := o.at_ b hb
    exact k b a1 a2 a3 (o.ap b hb)
  refine ⟨A, m hs sF fun b hb => (kk b hb).1, fun b hb => ?_, fun b hb => (kk b hb).2.2⟩
  obtain ⟨a1, a2, a3⟩ := o.at_ b hb
  obtain ⟨k1, k2, k3⟩ := kk b hb
  exact ⟨by rw [k1]; exact a1, k2, a3⟩
structure EnvR (K : PySem.W.Frag) (Sp : SpR) (sp τ : List Nat) (F0 H0 F H : Hp) (σ : L2.St) (ρ : Env) : Prop where
  ext : Ext F0 H0 F H
  slot : ∀ i d, ρ[i]? = some (some d) → ∃ v, σ[i]? = some (some v) ∧ (if i ∈ sp then SpAt Sp sp τ H0 F H σ ρ i v d else if i ∈ τ then Res K F H0 H v d .fresh else Rep K F v d)
  apart : ∀ i j a ds es, i ≠ j → i ∈ τ → j ∈ τ → i ∉ sp → j ∉ sp → ρ[i]? = some (some (.list ds)) → ρ[j]? = some (some (.list es)) → σ[i]? = some (some (.ref a)) → σ[j]? = some (some (.ref a)) → False
  len : σ.length = ρ.length
  spm : SpM Sp
theorem Res.fresh_keep {K : PySem.W.Frag} {F H0 H F' H' : Hp} {v : V} {d : D} (h : Res K F H0 H v d .fresh) (x : Ext F H F' H') : Res K F' H0 H' v d .fresh := by
  cases d with
  | list ds =>
    obtain ⟨a, vs, e, hs, h0, hf, q⟩ := h
    exact ⟨a, vs, e, x.sH _ _ hs, h0, x.nf a (by rw [hs]; simp) hf, q.mono x.sF⟩
  | none => exact Rep.mono h x.sF
  | bool _ => exact Rep.mono h x.sF
  | int _ => exact Rep.mono h x.sF
  | str _ => exact Rep.mono h x.sF
  | tuple _ => exact Rep.mono h x.sF
  | dict _ => exact Rep.mono h x.sF
theorem EnvR.more {K : PySem.W.Frag} {Sp : SpR} {sp τ : List Nat} {F0 H0 F H F' H' : Hp} {σ : L2.St} {ρ : Env} (h : EnvR K Sp sp τ F0 H0 F H σ ρ) (x : Ext F H F' H') : EnvR K Sp sp τ F0 H0 F' H' σ ρ := by
  refine ⟨h.ext.trans x, fun i d e => ?_, h.apart, h.len, h.spm⟩
  obtain ⟨v, e1, q⟩ := h.slot i d e
  refine ⟨v, e1, ?_⟩
  split at q
  · rename_i c
    rw [if_pos c]
    refine q.to h.spm x.sF fun b h1 h2 h3 h4 => ⟨?_, x.nf b h1 h2, h4⟩
    cases e2 : H b with
    | none => exact absurd e2 h1
    | some u => exact x.sH _ _ e2
  · rename_i c
    rw [if_neg c]
    split at q
    · rename_i c2; rw [if_pos c2]; exact q.fresh_keep x
    · rename_i c2; rw [if_neg c2]; exact q.mono x.sF
/-- a fresh list is frozen -/
theorem Res.fresh_frz {K : PySem.W.Frag} {F0 H0 F H : Hp} {v : V} {d : D} (h : Res K F H0 H v d .fresh) (x : Ext F0 H0 F H) : ∃ F', Ext F0 H0 F' H ∧ Same F F' ∧ Rep K F' v d ∧ (∀ a, F' a ≠ F a → v = .ref a ∧ ∃ ds, d = .list ds) := by
  cases d with
  | list ds =>
    obtain ⟨a, vs, e, hs, h0, hf, q⟩ := h
    subst e
    refine ⟨upd F a (.lst vs), x.freeze hs hf h0, same_upd hf, .ofList (.of upd_same) (q.mono (same_upd hf)), fun b n => ?_⟩
    by_cases hb : b = a
    · subst hb; exact ⟨rfl, _, rfl⟩
    · rw [upd_ne hb] at n; exact absurd rfl n
  | none => exact ⟨F, x, .refl _, h, fun a n => absurd rfl n⟩
  | bool _ => exact ⟨F, x, .refl _, h, fun a n => absurd rfl n⟩
  | int _ => exact ⟨F, x, .refl _, h, fun a n => absurd rfl n⟩
  | str _ => exact ⟨F, x, .refl _, h, fun a n => absurd rfl n⟩
  | tuple _ => exact ⟨F, x, .refl _, h, fun a n => absurd rfl n⟩
  | dict _ => exact ⟨F, x, .refl _, h, fun a n => absurd rfl n⟩
end Pyr

namespace Pyr
open PySem L2 PyProof.Rows
open R (ok exc stuck)

/-! # The readings of the small language's expressions -/
theorem PE.imp {X : Cx} {e : Expr} {t t' : TE} (h : PE X e t) (i : ∀ σ H Q, t' σ H Q → t σ H Q) : PE X e t' := ⟨fun pins s σ H Q I q => h.run pins s σ H Q I (i σ H Q q)⟩
theorem PT.imp {X : Cx} {e : Expr} {t t' : TT} (h : PT X e t) (i : ∀ σ H Q, t' σ H Q → t σ H Q) : PT X e t' := ⟨fun pins s σ H Q I q => h.run pins s σ H Q I (i σ H Q q)⟩
theorem PW.imp {X : Cx} {e : Expr} {t t' : TT} (h : PW X e t) (i : ∀ σ H Q, t' σ H Q → t σ H Q) : PW X e t' := ⟨fun w pins s σ H Q I q => h.run w pins s σ H Q I (i σ H Q q)⟩
theorem PA.imp {X : Cx} {e : List Expr} {t t' : TA} (h : PA X e t) (i : ∀ σ H Q, t' σ H Q → t σ H Q) : PA X e t' := ⟨fun p pins s σ H Q I q => h.run p pins s σ H Q I (i σ H Q q)⟩
theorem PS.imp {X : Cx} {e : Stmt} {t t' : TS} (h : PS X e t) (i : ∀ D σ H, t' D σ H → t D σ H) : PS X e t' := ⟨fun pins s σ H D I q => h.run pins s σ H D I (i D σ H q)⟩
theorem PSs.imp {X : Cx} {e : List Stmt} {t t' : TS} (h : PSs X e t) (i : ∀ D σ H, t' D σ H → t D σ H) : PSs X e t' := ⟨fun pins s σ H D I q => h.run pins s σ H D I (i D σ H q)⟩

/-- what stays the same through a def's body -/
structure Z where
  xt : XTab
  Sp : SpR
  sp : List Nat
  F0 : Hp
  H0 : Hp

section
variable (K : PySem.W.Frag) (mg : Str → Option Value) (z : Z) (W : WX)
def PostE (m : Md) (F H : Hp) (σ : L2.St) (Q : VK) : R D → Prop
  | .ok d => ∀ v F' H', Ext F H F' H' → Res K F' H H' v d m → Q v H'
  | .exc c f => ∀ F' H' cls dx, Ext F H F' H' → ExcR K mg z.xt F' c f cls dx → W cls dx σ H'
  | .stuck => False
def PostT (F H : Hp) (σ : L2.St) (Q : Bool → Hp → Prop) : R Bool → Prop
  | .ok d => ∀ F' H', Ext F H F' H' → Q d H'
  | .exc c f => ∀ F' H' cls dx, Ext F H F' H' → ExcR K mg z.xt F' c f cls dx → W cls dx σ H'
  | .stuck => False
def PostA (F H : Hp) (σ : L2.St) (Q : List V → Hp → Prop) : R (List D) → Prop
  | .ok ds => ∀ vs F' H', Ext F H F' H' → RepAll K F' vs ds → Q vs H'
  | .exc c f => ∀ F' H' cls dx, Ext F H F' H' → ExcR K mg z.xt F' c f cls dx → W cls dx σ H'
  | .stuck => False
def tE (τ : List Nat) (m : Md) (sem : Env → R D) : TE := fun σ H Q => ∃ F ρ, EnvR K z.Sp z.sp τ z.F0 z.H0 F H σ ρ ∧ PostE K mg z W m F H σ Q (sem ρ)
def tT (τ : List Nat) (sem : Env → R Bool) : TT := fun σ H Q => ∃ F ρ, EnvR K z.Sp z.sp τ z.F0 z.H0 F H σ ρ ∧ PostT K mg z W F H σ Q (sem ρ)
def tA (τ : List Nat) (sem : Env → R (List D)) : TA := fun σ H Q => ∃ F ρ, EnvR K z.Sp z.sp τ z.F0 z.H0 F H σ ρ ∧ PostA K mg z W F H σ Q (sem ρ)
end

section
variable {K : PySem.W.Frag} {mg : Str → Option Value} {z : Z} {W : WX} {τ : List Nat} {F H F1 H1 : Hp} {σ : L2.St} {ρ : Env}
abbrev Ev (K : PySem.W.Frag) (z : Z) (τ : List Nat) (F H : Hp) (σ : L2.St) (ρ : Env) : Prop := EnvR K z.Sp z.sp τ z.F0 z.H0 F H σ ρ
theorem Res.back {K : PySem.W.Frag} {F' H H1 H' : Hp} {v : V} {d : D} {m : Md} (s : Same H H1) (h : Res K F' H1 H' v d m) : Res K F' H H' v d m := by
  cases m with
  | frz => exact h
  | peek => cases d <;> exact h
  | fresh =>
    cases d with
    | list ds =>
      obtain ⟨a, vs, e, hs, h0, hf, q⟩ := h
      exact ⟨a, vs, e, hs, s.free h0, hf, q⟩
    | _ => exact h
theorem PostE.more {m : Md} {Q : VK} {r : R D} (x : Ext F H F1 H1) (p : PostE K mg z W m F H σ Q r) : PostE K mg z W m F1 H1 σ Q r := by
  cases r with
  | ok d => exact fun v F' H' y q => p v F' H' (x.trans y) (q.back x.sH)
  | exc c f => exact fun F' H' cls dx y q => p F' H' cls dx (x.trans y) q
  | stuck => exact p
theorem PostT.more {Q : Bool → Hp → Prop} {r : R Bool} (x : Ext F H F1 H1) (p : PostT K mg z W F H σ Q r) : PostT K mg z W F1 H1 σ Q r := by
  cases r with
  | ok d => exact fun F' H' y => p F' H' (x.trans y)
  | exc c f => exact fun F' H' cls dx y q => p F' H' cls dx (x.trans y) q
  | stuck => exact p
theorem PostA.more {Q : List V → Hp → Prop} {r : R (List D)} (x : Ext F H F1 H1) (p : PostA K mg z W F H σ Q r) : PostA K mg z W F1 H1 σ Q r := by
  cases r with
  | ok d => exact fun v F' H' y q => p v F' H' (x.trans y) q
  | exc c f => exact fun F' H' cls dx y q => p F' H' cls dx (x.trans y) q
  | stuck => exact p

/-- any of the three ways in which something is wanted of an end -/
structure PostLike (K : PySem.W.Frag) (mg : Str → Option Value) (z : Z) (W : WX) {β : Type} (P : Hp → Hp → L2.St → R β → Prop) : Prop where
  more : ∀ {F H F1 H1 σ r}, Ext F H F1 H1 → P F H σ r → P F1 H1 σ r
  exc : ∀ {F H σ c f}, P F H σ (.exc c f) → ∀ F' H' cls dx, Ext F H F' H' → ExcR K mg z.xt F' c f cls dx → W cls dx σ H'
  stuck : ∀ {F H σ}, P F H σ .stuck → False
theorem likeE (K : PySem.W.Frag) (mg : Str → Option Value) (z : Z) (W : WX) (m : Md) (Q : VK) : PostLike K mg z W (fun F H σ r => PostE K mg z W m F H σ Q r) := ⟨fun x p => p.more x, fun p => p, fun p => p⟩
theorem likeT (K : PySem.W.Frag) (mg : Str → Option Value) (z : Z) (W : WX) (Q : Bool → Hp → Prop) : PostLike K mg z W (fun F H σ r => PostT K mg z W F H σ Q r) := ⟨fun x p => p.more x, fun p => p, fun p => p⟩
theorem likeA (K : PySem.W.Frag) (mg : Str → Option Value) (z : Z) (W : WX) (Q : List V → Hp → Prop) : PostLike K mg z W (fun F H σ r => PostA K mg z W F H σ Q r) := ⟨fun x p => p.more x, fun p => p, fun p => p⟩

/-- a step ahead of the rest -/
theorem stepE {β : Type} {P : Hp → Hp → L2.St → R β → Prop} (L : PostLike K mg z W P) {m : Md} {s1 : Env → R D} {f : D → R β} {G : VK} (env : Ev K z τ F H σ ρ) (w : P F H σ ((s1 ρ).bind f))
    (h : ∀ d v F1 H1, s1 ρ = ok d → Ext F H F1 H1 → Ev K z τ F1 H1 σ ρ → Res K F1 H H1 v d m → P F1 H1 σ (f d) → G v H1) : tE K mg z W τ m s1 σ H G := by
  refine ⟨F, ρ, env, ?_⟩
  cases e : s1 ρ with
  | ok d =>
    rw [e] at w
    exact fun v F1 H1 x r => h d v F1 H1 e x (env.more x) r (L.more x w)
  | exc c f =>
    rw [e] at w
    exact L.exc w
  | stuck =>
    rw [e] at w
    exact L.stuck w
theorem stepT {β : Type} {P : Hp → Hp → L2.St → R β → Prop} (L : PostLike K mg z W P) {s1 : Env → R Bool} {f : Bool → R β} {G : Bool → Hp → Prop} (env : Ev K z τ F H σ ρ) (w : P F H σ ((s1 ρ).bind f))
    (h : ∀ d F1 H1, s1 ρ = ok d → Ext F H F1 H1 → Ev K z τ F1 H1 σ ρ → P F1 H1 σ (f d) → G d H1) : tT K mg z W τ s1 σ H G := by
  refine ⟨F, ρ, env, ?_⟩
  cases e : s1 ρ with
  | ok d =>
    rw [e] at w
    exact fun F1 H1 x => h d F1 H1 e x (env.more x) (L.more x w)
  | exc c f =>
    rw [e] at w
    exact L.exc w
  | stuck =>
    rw [e] at w
    exact L.stuck w
theorem stepA {β : Type} {P : Hp → Hp → L2.St → R β → Prop} (L : PostLike K mg z W P) {s1 : Env → R (List D)} {f : List D → R β} {G : List V → Hp → Prop} (env : Ev K z τ F H σ ρ) (w : P F H σ ((s1 ρ).bind f))
    (h : ∀ d v F1 H1, s1 ρ = ok d → Ext F H F1 H1 → Ev K z τ F1 H1 σ ρ → RepAll K F1 v d → P F1 H1 σ (f d) → G v H1) : tA K mg z W τ s1 σ H G := by
  refine ⟨F, ρ, env, ?_⟩
  cases e : s1 ρ with
  | ok d =>
    rw [e] at w
    exact fun v F1 H1 x r => h d v F1 H1 e x (env.more x) r (L.more x w)
  | exc c f =>
    rw [e] at w
    exact L.exc w
  | stuck =>
    rw [e] at w
    exact L.stuck w

/-- from fresh to frozen, to looked at -/
theorem tE_fresh_frz {s1 : Env → R D} {Q : VK} (h : tE K mg z W τ .frz s1 σ H Q) : tE K mg z W τ .fresh s1 σ H Q := by
  obtain ⟨F, ρ, env, w⟩ := h
  refine ⟨F, ρ, env, ?_⟩
  cases e : s1 ρ with
  | ok d =>
    rw [e] at w
    intro v F1 H1 x r
    cases d with
    | list ds =>
      obtain ⟨a, vs, ea, hs, h0, hf, q⟩ := r
      subst ea
      exact w _ _ H1 (x.freeze hs hf h0) (.ofList (.of upd_same) (q.mono (same_upd hf)))
    | _ => exact w v F1 H1 x r
  | exc c f => rw [e] at w; exact w
  | stuck => rw [e] at w; exact w
theorem Res.fresh_peek {K : PySem.W.Frag} {F' H H' : Hp} {v : V} {d : D} (h : Res K F' H H' v d .fresh) : Res K F' H H' v d .peek := by
  cases d with
  | list ds =>
    obtain ⟨a, vs, e, hs, h0, hf, q⟩ := h
    exact ⟨a, vs, e, .of hs, q⟩
  | _ => exact h
theorem tE_weak {m m' : Md} {s1 : Env → R D} {Q : VK} (hm : ∀ F' H H' v d, Same F' H' → Res K F' H H' v d m → Res K F' H H' v d m') (h : tE K mg z W τ m' s1 σ H Q) : tE K mg z W τ m s1 σ H Q := by
  obtain ⟨F, ρ, env, w⟩ := h
  refine ⟨F, ρ, env, ?_⟩
  cases e : s1 ρ with
  | ok d =>
    rw [e] at w
    exact fun v F1 H1 x r => w v F1 H1 x (hm _ _ _ _ _ x.sub r)
  | exc c f => rw [e] at w; exact w
  | stuck => rw [e] at w; exact w
theorem tE_frz_peek {s1 : Env → R D} {Q : VK} (h : tE K mg z W τ .peek s1 σ H Q) : tE K mg z W τ .frz s1 σ H Q := tE_weak (fun _ _ _ _ _ s r => Res.of_rep s r) h
theorem tE_fresh_peek {s1 : Env → R D} {Q : VK} (h : tE K mg z W τ .peek s1 σ H Q) : tE K mg z W τ .fresh s1 σ H Q := tE_weak (fun _ _ _ _ _ _ r => r.fresh_peek) h
end

/-! ## single forms -/
section
variable {X : Cx} {z : Z} {W : WX} {τ : List Nat} {m : Md} {pos : Pos}
/-- the end: a value that is no list, the heap as it is -/
theorem endFlat {K : PySem.W.Frag} {mg : Str → Option Value} {F H : Hp} {σ : L2.St} {Q : VK} {d : D} {v : V} {ρ : Env} (env : Ev K z τ F H σ ρ) (w : PostE K mg z W m F H σ Q (.ok d)) (r : Rep K F v d) (nl : ∀ ds, d ≠ .list ds) : Q v H := w v F H (.refl env.ext.sub) (.flat r nl m)

theorem line_eq : sizeLine = Line := by rw [sizeLine_eq]; rfl

/-- a slot that is read -/
theorem s_var {i : Nat} {x : Str} (hN : X.N[i]? = some x) (hv : Vis X.env.scope x) (hd : (x == ("__debug__" : Str)) = false) (hcd : (x == ("__classdict__" : Str)) = false) (hs : i ∉ z.sp) (hm : m = .peek ∨ (m = .frz ∧ i ∉ τ)) :
    PE X (.Name x pos) (tE X.K X.mg z W τ m fun ρ => getS ρ i) := by
  refine PE.imp (pe_var hN hv hd hcd) ?_
  rintro σ H Q ⟨F, ρ, env, w⟩
  dsimp only [getS] at w
  split at w
  · rename_i d e
    obtain ⟨v, e1, q⟩ := env.slot i d e
    rw [if_neg hs] at q
    refine ⟨v, e1, w v F H (.refl env.ext.sub) ?_⟩
    rcases hm with rfl | ⟨rfl, ht⟩
    · split at q
      · exact q.fresh_peek
      · exact .of_rep env.ext.sub q
    · rw [if_neg ht] at q
      exact q
  · exact w.elim
theorem s_int {i : Int} {j : Nat} : PE X (.Constant (.int i) j pos) (tE X.K X.mg z W τ m fun _ => ok (.int i)) := by
  refine PE.imp pe_int ?_
  rintro σ H Q ⟨F, ρ, env, w⟩
  exact endFlat env w (.int i) (fun _ h => nomatch h)
theorem s_bool {i : Bool} {j : Nat} : PE X (.Constant (.bool i) j pos) (tE X.K X.mg z W τ m fun _ => ok (.bool i)) := by
  refine PE.imp pe_bl ?_
  rintro σ H Q ⟨F, ρ, env, w⟩
  exact endFlat env w (.bl i) (fun _ h => nomatch h)
theorem s_none {j : Nat} : PE X (.Constant .none j pos) (tE X.K X.mg z W τ m fun _ => ok .none) := by
  refine PE.imp pe_non ?_
  rintro σ H Q ⟨F, ρ, env, w⟩
  exact endFlat env w .non (fun _ h => nomatch h)
theorem s_str {x : Str} {j : Nat} (h : PyData.strOk x = true) : PE X (.Constant (.str x) j pos) (tE X.K X.mg z W τ m fun _ => ok (.str x)) := by
  refine PE.imp pe_str ?_
  rintro σ H Q ⟨F, ρ, env, w⟩
  exact endFlat env w (.str h) (fun _ h => nomatch h)
/-- a constant of the module -/
def GlobOk (K : PySem.W.Frag) (mg : Str → Option Value) (x : Str) (d : D) : Prop := ∃ u v, mg x = some u ∧ RelV v u ∧ Rep K (fun _ => none) v d
theorem s_glob {x : Str} {d : D} (hg : Gl X x) (h : GlobOk X.K X.mg x d) (hd : (x == ("__debug__" : Str)) = false) (hm : m = .peek ∨ m = .frz) : PE X (.Name x pos) (tE X.K X.mg z W τ m fun _ => ok d) := by
  obtain ⟨u, v, h1, h2, h3⟩ := h
  refine PE.imp (pe_glob hg h1 h2 hd) ?_
  rintro σ H Q ⟨F, ρ, env, w⟩
  have r : Rep X.K F v d := h3.mono fun b o e => nomatch e
  refine w v F H (.refl env.ext.sub) ?_
  rcases hm with rfl | rfl
  · exact .of_rep env.ext.sub r
  · exact r
/-- displays -/
theorem s_tup {es : List Expr} {k : Nat} {s1 : Env → R (List D)} (ha : PA X es (tA X.K X.mg z W τ s1)) (hl : ∀ ρ ds, s1 ρ = ok ds → ds.length ≤ Line) :
    PE X (.Tuple es k pos) (tE X.K X.mg z W τ m fun ρ => (s1 ρ).bind fun ds => ok (.tuple ds)) := by
  refine PE.imp (pe_tup ha) ?_
  rintro σ H Q ⟨F, ρ, env, w⟩
  refine stepA (likeE ..) env w fun ds vs F1 H1 e x env1 r w1 => ⟨by rw [r.length, line_eq]; exact hl _ _ e, fun p hp => ?_⟩
  exact w1 _ _ _ (.alloc env1.ext.sub hp) (.flat (.ofTuple (.of upd_same) (r.mono (same_upd (env1.ext.sub.free hp)))) (fun _ h => nomatch h) m)
theorem own_list {K : PySem.W.Frag} {mg : Str → Option Value} {F H : Hp} {σ : L2.St} {Q : VK} {ds : List D} {vs : List V} {p : Addr} {ρ : Env} (hm : m = .fresh) (env : Ev K z τ F H σ ρ) (w : PostE K mg z W m F H σ Q (.ok (.list ds))) (r : RepAll K F vs ds) (hp : H p = none) : Q (.ref p) (upd H p (.lst vs)) := by
  subst hm
  exact w _ _ _ (.own env.ext.sub hp) ⟨p, vs, rfl, upd_same, hp, env.ext.sub.free hp, r⟩
theorem s_lst {es : List Expr} {s1 : Env → R (List D)} (ha : PA X es (tA X.K X.mg z W τ s1)) (hl : ∀ ρ ds, s1 ρ = ok ds → ds.length ≤ Line) (hm : m = .fresh) :
    PE X (.List es pos) (tE X.K X.mg z W τ m fun ρ => (s1 ρ).bind fun ds => ok (.list ds)) := by
  refine PE.imp (pe_lst ha) ?_
  rintro σ H Q ⟨F, ρ, env, w⟩
  refine stepA (likeE ..) env w fun ds vs F1 H1 e x env1 r w1 => ⟨by rw [r.length, line_eq]; exact hl _ _ e, fun p hp => ?_⟩
  exact own_list hm env1 w1 r hp
/-- argument lists -/
theorem s_nil : PA X [] (tA X.K X.mg z W τ fun _ => ok []) := by
  refine PA.imp pa_nil ?_
  rintro σ H Q ⟨F, ρ, env, w⟩
  exact w [] F H (.refl env.ext.sub) .nil
theorem s_cons {e : Expr} {es : List Expr} {s1 : Env → R D} {s2 : Env → R (List D)} (h1 : PE X e (tE X.K X.mg z W τ .frz s1)) (h2 : PA X es (tA X.K X.mg z W τ s2)) (hs : starEach (e :: es) X.env = (false, eval e X.env) :: starEach es X.env) :
    PA X (e :: es) (tA X.K X.mg z W τ fun ρ => (s1 ρ).bind fun d => (s2 ρ).bind fun ds => ok (d :: ds)) := by
  refine PA.imp (pa_cons h1 h2 hs) ?_
  rintro σ H Q ⟨F, ρ, env, w⟩
  refine stepE (likeA ..) env w fun d v F1 H1 e x env1 r w1 => ?_
  refine stepA (likeA ..) env1 w1 fun ds vs F2 H2 e2 x2 env2 r2 w2 => ?_
  exact w2 _ _ _ (.refl env2.ext.sub) (.cons (Rep.mono r x2.sF) r2)

/-! ### truth -/
theorem truthy_ok {K : PySem.W.Frag} {F H0 H : Hp} {v : V} {d : D} {k : Bool} (h : truthy d = ok k) (s : Same F H) (r : Res K F H0 H v d .peek) : TruV K v H k := by
  cases d with
  | none => cases (Rep.non_inv r); simp only [truthy, R.ok.injEq] at h; exact h.symm
  | bool b => cases (Rep.bl_inv r); simp only [truthy, R.ok.injEq] at h; exact h.symm
  | int b => cases (Rep.int_inv r); simp only [truthy, R.ok.injEq] at h; exact h.symm
  | str y =>
    obtain ⟨rfl, _⟩ := Rep.str_inv r
    simp only [truthy] at h
    split at h
    · rename_i c
      cases h
      refine ⟨by rw [line_eq]; exact c, ?_⟩
      by_cases e : y.length = 0
      · rw [e]; rfl
      · have e2 : (y.length : Int) ≠ 0 := by omega
        rw [(bne_iff_ne.mpr e), (bne_iff_ne.mpr e2)]
    · cases h
  | list ds =>
    obtain ⟨a, vs, rfl, hs, q⟩ := r
    simp only [truthy, R.ok.injEq] at h
    refine .inl ⟨vs, hs, ?_⟩
    rw [← h]
    have := q.length
    cases vs <;> cases ds <;> simp_all
  | tuple ds =>
    obtain ⟨a, vs, rfl, hs, q⟩ := Rep.tuple r
    simp only [truthy, R.ok.injEq] at h
    refine .inr (.inl ⟨vs, SqT_mono s hs, ?_⟩)
    rw [← h]
    have := q.length
    cases vs <;> cases ds <;> simp_all
  | dict _ => cases h
theorem truthy_cases (d : D) : (∃ k, truthy d = ok k) ∨ truthy d = stuck := by
  cases d <;> simp only [truthy] <;> first | exact .inl ⟨_, rfl⟩ | exact .inr rfl | exact .inr trivial | skip
  split
  · exact .inl ⟨_, rfl⟩
  · exact .inr rfl
/-- a test by truth -/
theorem s_test {a : Expr} {s1 : Env → R D} (ha : PE X a (tE X.K X.mg z W τ .peek s1)) (he : ∀ whole, isTrue a X.env whole = (do let v ← whole; standAt a.pos; holding [v] (PySem.truthy v))) :
    PT X a (tT X.K X.mg z W τ fun ρ => (s1 ρ).bind truthy) := by
  refine PT.imp (pt_truth ha he) ?_
  rintro σ H Q ⟨F, ρ, env, w⟩
  refine stepE (likeT ..) env w fun d v F1 H1 e x env1 r w1 => ?_
  rcases truthy_cases d with ⟨k, hk⟩ | hk
  · rw [hk] at w1
    exact ⟨k, truthy_ok hk env1.ext.sub r, w1 F1 H1 (.refl env1.ext.sub)⟩
  · rw [hk] at w1; exact w1.elim
theorem s_not {a : Expr} {s1 : Env → R D} (ha : PE X a (tE X.K X.mg z W τ .peek s1)) :
    PE X (.UnaryOp .Not a pos) (tE X.K X.mg z W τ m fun ρ => (s1 ρ).bind fun x => (truthy x).bind fun k => ok (.bool (!k))) := by
  refine PE.imp (pe_notT ha) ?_
  rintro σ H Q ⟨F, ρ, env, w⟩
  refine stepE (likeE ..) env w fun d v F1 H1 e x env1 r w1 => ?_
  rcases truthy_cases d with ⟨k, hk⟩ | hk
  · rw [hk] at w1
    exact ⟨k, truthy_ok hk env1.ext.sub r, endFlat env1 w1 (.bl _) (fun _ h => nomatch h)⟩
  · rw [hk] at w1; exact w1.elim
theorem s_notT {a : Expr} {s1 : Env → R Bool} (ha : PT X a (tT X.K X.mg z W τ s1)) :
    PT X (.UnaryOp .Not a pos) (tT X.K X.mg z W τ fun ρ => (s1 ρ).bind fun k => ok (!k)) := by
  refine PT.imp (pt_not ha) ?_
  rintro σ H Q ⟨F, ρ, env, w⟩
  refine stepT (likeT ..) env w fun k F1 H1 e x env1 w1 => ?_
  exact w1 F1 H1 (.refl env1.ext.sub)
end
end Pyr

namespace Pyr
open PySem L2 PyProof.Rows
open R (ok exc stuck)
section
variable {X : Cx} {z : Z} {W : WX} {τ : List Nat} {m : Md} {pos : Pos}

/-! ## operators -/
/-- list + list, whatever they are -/
def rCatL (K : PySem.W.Frag) : R2 := fun x y H Q => ∃ l b xs zs, x = .ref l ∧ y = .ref b ∧ SqL K H l xs ∧ SqL K H b zs ∧ xs.length + zs.length ≤ sizeLine ∧ ∀ p, H p = none → Q (.ref p) (upd H p (.lst (xs ++ zs)))
theorem op_catL : OpR X (binaryOp .Add) (rCatL X.K) := by
  intro pins s σ H x y v u Q I rx ry h
  obtain ⟨l, b, xs, zs, rfl, rfl, hH, hB, hz, q⟩ := h
  cases rx
  cases ry
  obtain ⟨its, r, pl, z1⟩ := I.list hH
  obtain ⟨its2, r2, pl2, z2⟩ := I.list hB
  obtain ⟨⟨cls, dd, data, sl⟩, ho, hc, n, hd⟩ := pl.isList
  obtain ⟨⟨cls2, dd2, data2, sl2⟩, ho2, hc2, n2, hd2⟩ := pl2.isList
  simp only at hc hd hc2 hd2
  subst hc hd hc2 hd2
  have hl := r.length
  have hl2 := r2.length
  have ea : its.toArray ++ its2.toArray = (its ++ its2).toArray := by simp
  refine concat_meets ⟨_, ho, rfl⟩ ⟨_, ho2, rfl⟩ noFill_list_add seq_list_add PySem.F.slot_list_add PySem.F.entry_list_add (PySem.F.args_list_add_2 _ _) (list_addW l b its.toArray its2.toArray n n2 dd dd2 sl sl2 (by simp only [List.size_toArray]; omega)) ⟨ho, ho2, ?_⟩
  rw [ea]
  exact ⟨.ref _, _, I.lnew (t' := s.toks) (r.append r2) (by rw [List.length_append]; omega), rfl, q _ I.fresh⟩

theorem strOk_append {x y : Str} (a : PyData.strOk x = true) (b : PyData.strOk y = true) : PyData.strOk (x ++ y) = true := by
  unfold PyData.strOk at a b ⊢
  rw [Array.all_eq_true_iff_forall_mem] at a b ⊢
  intro c hc
  have e : (x ++ y).cps = x.cps ++ y.cps := rfl
  rw [e] at hc
  rcases Array.mem_append.mp hc with h | h
  · exact a c h
  · exact b c h

/-- + by its kinds -/
def rAddAll (K : PySem.W.Frag) : R2 := fun x y H Q => (∃ i j, x = .int i ∧ y = .int j ∧ Q (.int (i + j)) H) ∨ (∃ i j, x = .str i ∧ y = .str j ∧ i.length + j.length ≤ sizeLine ∧ Q (.str (i ++ j)) H) ∨ rCatL K x y H Q ∨ rCatA K x y H Q
theorem op_addAll : OpR X (binaryOp .Add) (rAddAll X.K) := OpR.or op_add (OpR.or op_add_str (OpR.or op_catL op_catA))

theorem addD_ok {K : PySem.W.Frag} {mg : Str → Option Value} {F H G1 G2 : Hp} {σ : L2.St} {Q : VK} {a b : D} {x y : V} {ρ : Env} (env : Ev K z τ F H σ ρ) (hm : m ≠ .frz ∨ ∀ ds, a ≠ .list ds) (hm2 : m = .fresh ∨ ∀ ds, a ≠ .list ds)
    (ra : Res K F G1 H x a .peek) (rb : Res K F G2 H y b .peek) (w : PostE K mg z W m F H σ Q (addD a b)) : rAddAll K x y H Q := by
  have s := env.ext.sub
  cases a <;> cases b <;> simp only [addD] at w <;> first | exact w.elim | skip
  · rename_i i j
    rw [Rep.int_inv ra, Rep.int_inv rb]
    exact .inl ⟨i, j, rfl, rfl, endFlat env w (.int _) (fun _ h => nomatch h)⟩
  · rename_i i j
    obtain ⟨e1, o1⟩ := Rep.str_inv ra
    obtain ⟨e2, o2⟩ := Rep.str_inv rb
    split at w
    · rename_i c
      exact .inr (.inl ⟨i, j, e1, e2, by rw [line_eq]; exact c, endFlat env w (.str (strOk_append o1 o2)) (fun _ h => nomatch h)⟩)
    · exact w.elim
  · rename_i xs ys
    obtain ⟨a, vs, e1, h1, q1⟩ := ra
    obtain ⟨b, ws, e2, h2, q2⟩ := rb
    split at w
    · rename_i c
      refine .inr (.inr (.inl ⟨a, b, vs, ws, e1, e2, h1, h2, by rw [line_eq, q1.length, q2.length]; exact c, fun p hp => ?_⟩))
      have hm3 : m = .fresh := hm2.elim id fun h => absurd rfl (h xs)
      exact own_list hm3 env w (q1.append q2) hp
    · exact w.elim
  · rename_i xs ys
    obtain ⟨a, vs, e1, h1, q1⟩ := Rep.tuple ra
    obtain ⟨b, ws, e2, h2, q2⟩ := Rep.tuple rb
    split at w
    · rename_i c
      refine .inr (.inr (.inr ⟨a, b, vs, ws, e1, e2, SqT_mono s h1, SqT_mono s h2, by rw [line_eq, q1.length, q2.length]; exact c, fun e => ?_, fun n e => ?_, fun n1 n2 p hp => ?_⟩))
      · subst e
        have ex : xs = [] := by
          have := q1.length
          cases xs
          · rfl
          · simp at this
        subst ex
        exact endFlat env w (.ofTuple h2 q2) (fun _ h => nomatch h)
      · subst e
        have ex : ys = [] := by
          have := q2.length
          cases ys
          · rfl
          · simp at this
        subst ex
        rw [List.append_nil] at w
        exact endFlat env w (.ofTuple h1 q1) (fun _ h => nomatch h)
      · exact w _ _ _ (.alloc s hp) (.flat (.ofTuple (.of upd_same) ((q1.append q2).mono (same_upd (s.free hp)))) (fun _ h => nomatch h) m)
    · exact w.elim

theorem Res.not_list {K : PySem.W.Frag} {F G H : Hp} {v : V} {d : D} {m : Md} (h : Rep K F v d) (nl : ∀ ds, d ≠ .list ds) : Res K F G H v d m := .flat h nl m

/-- a + b -/
theorem s_add {a b : Expr} {s1 s2 : Env → R D} (ha : PE X a (tE X.K X.mg z W τ .peek s1)) (hb : PE X b (tE X.K X.mg z W τ .peek s2)) (hm : m = .fresh) :
    PE X (.BinOp a .Add b pos) (tE X.K X.mg z W τ m fun ρ => (s1 ρ).bind fun x => (s2 ρ).bind fun y => binD .add x y) := by
  refine PE.imp (pe_op op_addAll ha hb) ?_
  rintro σ H Q ⟨F, ρ, env, w⟩
  refine stepE (likeE ..) env w fun d v F1 H1 e x env1 r w1 => ?_
  refine stepE (likeE ..) env1 w1 fun d2 v2 F2 H2 e2 x2 env2 r2 w2 => ?_
  exact addD_ok env2 (.inl (by rw [hm]; decide)) (.inl hm) (r.peek_mono x2) r2 w2

def rSubAll : R2 := rI0 fun i j => .int (i - j)
theorem s_sub {a b : Expr} {s1 s2 : Env → R D} (ha : PE X a (tE X.K X.mg z W τ .peek s1)) (hb : PE X b (tE X.K X.mg z W τ .peek s2)) :
    PE X (.BinOp a .Sub b pos) (tE X.K X.mg z W τ m fun ρ => (s1 ρ).bind fun x => (s2 ρ).bind fun y => binD .sub x y) := by
  refine PE.imp (pe_op op_sub ha hb) ?_
  rintro σ H Q ⟨F, ρ, env, w⟩
  refine stepE (likeE ..) env w fun d v F1 H1 e x env1 r w1 => ?_
  refine stepE (likeE ..) env1 w1 fun d2 v2 F2 H2 e2 x2 env2 r2 w2 => ?_
  cases d <;> cases d2 <;> simp only [binD] at w2 <;> first | exact w2.elim | skip
  rename_i i j
  exact ⟨i, j, Rep.int_inv r, Rep.int_inv r2, endFlat env2 w2 (.int _) (fun _ h => nomatch h)⟩
theorem s_mul {a b : Expr} {s1 s2 : Env → R D} (ha : PE X a (tE X.K X.mg z W τ .peek s1)) (hb : PE X b (tE X.K X.mg z W τ .peek s2)) :
    PE X (.BinOp a .Mult b pos) (tE X.K X.mg z W τ m fun ρ => (s1 ρ).bind fun x => (s2 ρ).bind fun y => binD .mul x y) := by
  refine PE.imp (pe_op op_mul ha hb) ?_
  rintro σ H Q ⟨F, ρ, env, w⟩
  refine stepE (likeE ..) env w fun d v F1 H1 e x env1 r w1 => ?_
  refine stepE (likeE ..) env1 w1 fun d2 v2 F2 H2 e2 x2 env2 r2 w2 => ?_
  cases d <;> cases d2 <;> simp only [binD, mulD] at w2 <;> first | exact w2.elim | skip
  rename_i i j
  split at w2
  · rename_i c
    refine ⟨i, j, Rep.int_inv r, Rep.int_inv r2, ?_, endFlat env2 w2 (.int _) (fun _ h => nomatch h)⟩
    rw [Bool.or_eq_true] at c
    exact c.imp of_decide_eq_true of_decide_eq_true
  · exact w2.elim
theorem s_mod {a b : Expr} {s1 s2 : Env → R D} (ha : PE X a (tE X.K X.mg z W τ .peek s1)) (hb : PE X b (tE X.K X.mg z W τ .peek s2)) :
    PE X (.BinOp a .Mod b pos) (tE X.K X.mg z W τ m fun ρ => (s1 ρ).bind fun x => (s2 ρ).bind fun y => binD .mod x y) := by
  refine PE.imp (pe_op op_mod ha hb) ?_
  rintro σ H Q ⟨F, ρ, env, w⟩
  refine stepE (likeE ..) env w fun d v F1 H1 e x env1 r w1 => ?_
  refine stepE (likeE ..) env1 w1 fun d2 v2 F2 H2 e2 x2 env2 r2 w2 => ?_
  cases d <;> cases d2 <;> simp only [binD] at w2 <;> first | exact w2.elim | skip
  rename_i i j
  split at w2
  · rename_i c
    exact ⟨i, j, Rep.int_inv r, Rep.int_inv r2, c, endFlat env2 w2 (.int _) (fun _ h => nomatch h)⟩
  · exact w2.elim
theorem s_fdiv {a b : Expr} {s1 s2 : Env → R D} (ha : PE X a (tE X.K X.mg z W τ .peek s1)) (hb : PE X b (tE X.K X.mg z W τ .peek s2)) :
    PE X (.BinOp a .FloorDiv b pos) (tE X.K X.mg z W τ m fun ρ => (s1 ρ).bind fun x => (s2 ρ).bind fun y => binD .fdiv x y) := by
  refine PE.imp (pe_op op_fdiv ha hb) ?_
  rintro σ H Q ⟨F, ρ, env, w⟩
  refine stepE (likeE ..) env w fun d v F1 H1 e x env1 r w1 => ?_
  refine stepE (likeE ..) env1 w1 fun d2 v2 F2 H2 e2 x2 env2 r2 w2 => ?_
  cases d <;> cases d2 <;> simp only [binD] at w2 <;> first | exact w2.elim | skip
  rename_i i j
  split at w2
  · rename_i c
    exact ⟨i, j, Rep.int_inv r, Rep.int_inv r2, c, endFlat env2 w2 (.int _) (fun _ h => nomatch h)⟩
  · exact w2.elim
theorem s_pow {a b : Expr} {s1 s2 : Env → R D} (ha : PE X a (tE X.K X.mg z W τ .peek s1)) (hb : PE X b (tE X.K X.mg z W τ .peek s2)) :
    PE X (.BinOp a .Pow b pos) (tE X.K X.mg z W τ m fun ρ => (s1 ρ).bind fun x => (s2 ρ).bind fun y => binD .pow x y) := by
  refine PE.imp (pe_op op_pow ha hb) ?_
  rintro σ H Q ⟨F, ρ, env, w⟩
  refine stepE (likeE ..) env w fun d v F1 H1 e x env1 r w1 => ?_
  refine stepE (likeE ..) env1 w1 fun d2 v2 F2 H2 e2 x2 env2 r2 w2 => ?_
  cases d <;> cases d2 <;> simp only [binD] at w2 <;> first | exact w2.elim | skip
  rename_i i j
  split at w2
  · rename_i c
    exact ⟨i, j, Rep.int_inv r, Rep.int_inv r2, c, endFlat env2 w2 (.int _) (fun _ h => nomatch h)⟩
  · exact w2.elim
/-- list * int -/
theorem s_rep {a b : Expr} {s1 s2 : Env → R D} (ha : PE X a (tE X.K X.mg z W τ .fresh s1)) (hb : PE X b (tE X.K X.mg z W τ .peek s2)) (hm : m = .fresh) :
    PE X (.BinOp a .Mult b pos) (tE X.K X.mg z W τ m fun ρ => (s1 ρ).bind fun x => (s2 ρ).bind fun y => repD x y) := by
  refine PE.imp (pe_op op_rep ha hb) ?_
  rintro σ H Q ⟨F, ρ, env, w⟩
  refine stepE (likeE ..) env w fun d v F1 H1 e x env1 r w1 => ?_
  refine stepE (likeE ..) env1 w1 fun d2 v2 F2 H2 e2 x2 env2 r2 w2 => ?_
  cases d <;> cases d2 <;> simp only [repD] at w2 <;> first | exact w2.elim | skip
  rename_i xs k
  obtain ⟨a, vs, e1, h1, _, _, q1⟩ := r
  split at w2
  · rename_i c
    refine ⟨a, k, vs, e1, Rep.int_inv r2, x2.sH _ _ h1, c.1, c.2.1, by rw [line_eq, q1.length]; exact c.2.2, fun p hp => ?_⟩
    exact own_list hm env2 w2 ((q1.mono x2.sF).rep k.toNat) hp
  · exact w2.elim
theorem s_neg {a : Expr} {s1 : Env → R D} (ha : PE X a (tE X.K X.mg z W τ .peek s1)) :
    PE X (.UnaryOp .USub a pos) (tE X.K X.mg z W τ m fun ρ => (s1 ρ).bind fun x => match x with | .int i => ok (.int (-i)) | _ => stuck) := by
  refine PE.imp (pe_un un_neg ha) ?_
  rintro σ H Q ⟨F, ρ, env, w⟩
  refine stepE (likeE ..) env w fun d v F1 H1 e x env1 r w1 => ?_
  cases d <;> first | exact w1.elim | skip
  rename_i i
  exact ⟨i, Rep.int_inv r, endFlat env1 w1 (.int _) (fun _ h => nomatch h)⟩

/-! ## comparisons -/
theorem canLay_of {d : D} (h : Lay d) : d.canLay0 = true := h
def rEqP (K : PySem.W.Frag) : R2 := fun x y H Q => ∃ d e, Dp K H x d ∧ Dp K H y e ∧ Lay d ∧ Lay e ∧ (d.depth ≤ 150 ∨ e.depth ≤ 150) ∧ Q (.bl (PyData.eqv d e)) H
def rNeP (K : PySem.W.Frag) : R2 := fun x y H Q => ∃ d e, Dp K H x d ∧ Dp K H y e ∧ Lay d ∧ Lay e ∧ (d.depth ≤ 150 ∨ e.depth ≤ 150) ∧ Q (.bl (!PyData.eqv d e)) H
theorem room_min {u a b : Nat} (hu : u + 200 < cLine) (h : a ≤ 150 ∨ b ≤ 150) : u + min a b < cLine := by
  have h1 := Nat.min_le_left a b
  have h2 := Nat.min_le_right a b
  rcases h with h | h <;> omega
theorem op_eqP (hu : X.A.units + 200 < cLine) : OpR X (compareOp .Eq) (rEqP X.K) := by
  intro pins s σ H x y v u Q I rx ry h
  obtain ⟨d, e, hd, he, sd, se, hp, q⟩ := h
  obtain ⟨as, r1⟩ := Dp.reads I d x v hd rx
  obtain ⟨bs, r2⟩ := Dp.reads I e y u he ry
  exact SeqAt.compareEq_reads r1 r2 sd se (room_min hu hp) ⟨.bl _, H, I, rfl, q⟩
theorem op_neP (hu : X.A.units + 200 < cLine) : OpR X (compareOp .NotEq) (rNeP X.K) := by
  intro pins s σ H x y v u Q I rx ry h
  obtain ⟨d, e, hd, he, sd, se, hp, q⟩ := h
  obtain ⟨as, r1⟩ := Dp.reads I d x v hd rx
  obtain ⟨bs, r2⟩ := Dp.reads I e y u he ry
  exact SeqAt.compareNe_reads r1 r2 sd se (room_min hu hp) ⟨.bl _, H, I, rfl, q⟩
/-- what a comparison by its kind asks -/
def CmpOk (X : Cx) (c : Cm) (op : CmpOp) (r : R2) : Prop := OpR X (compareOp op) r ∧ ∀ {F H G1 G2 : Hp} {x y : V} {a b : D} {k : Bool} {Q : VK}, Same F H → cmpR c a b = ok k → Res X.K F G1 H x a .peek → Res X.K F G2 H y b .peek → Q (.bl k) H → r x y H Q
theorem cmp_cases (c : Cm) (a b : D) : (∃ k, cmpR c a b = ok k) ∨ cmpR c a b = stuck := by
  have e : (∃ k, eqR a b = ok k) ∨ eqR a b = stuck := by unfold eqR; split <;> first | exact .inl ⟨_, rfl⟩ | exact .inr rfl
  have i : (∃ k, isR a b = ok k) ∨ isR a b = stuck := by unfold isR; split <;> first | exact .inl ⟨_, rfl⟩ | exact .inr rfl
  have n : (∃ k, inR a b = ok k) ∨ inR a b = stuck := by
    unfold inR
    split <;> first | exact .inl ⟨_, rfl⟩ | exact .inr rfl | skip
    all_goals (split <;> first | exact .inl ⟨_, rfl⟩ | exact .inr rfl)
  cases c <;> simp only [cmpR]
  case eq => exact e
  case ne => rcases e with ⟨k, e⟩ | e <;> rw [e] <;> first | exact .inl ⟨_, rfl⟩ | exact .inr rfl
  case is => exact i
  case isnot => rcases i with ⟨k, e⟩ | e <;> rw [e] <;> first | exact .inl ⟨_, rfl⟩ | exact .inr rfl
  case isin => exact n
  case notin => rcases n with ⟨k, e⟩ | e <;> rw [e] <;> first | exact .inl ⟨_, rfl⟩ | exact .inr rfl
  all_goals (cases a <;> cases b <;> first | exact .inl ⟨_, rfl⟩ | exact .inr rfl)
theorem eqR_ok {a b : D} {k : Bool} (h : eqR a b = ok k) : (a.depth ≤ 150 ∨ b.depth ≤ 150) ∧ k = PyData.eqv a b := by
  unfold eqR at h
  split at h
  · rename_i c; cases h; exact ⟨c, rfl⟩
  · cases h
theorem cok_eq (hu : X.A.units + 200 < cLine) : CmpOk X .eq .Eq (rEqP X.K) := by
  refine ⟨op_eqP hu, fun s h ra rb q => ?_⟩
  obtain ⟨c, rfl⟩ := eqR_ok h
  have r1 := ra.peek_rep s
  have r2 := rb.peek_rep s
  exact ⟨_, _, r1.1, r2.1, r1.2, r2.2, c, q⟩
theorem map_not {r : R Bool} {k : Bool} (h : r.map (fun k => !k) = ok k) : r = ok (!k) := by
  cases r with
  | ok b =>
    have e : (!b) = k := R.ok.inj h
    rw [← e, Bool.not_not]
  | exc c f => cases h
  | stuck => cases h
theorem cok_ne (hu : X.A.units + 200 < cLine) : CmpOk X .ne .NotEq (rNeP X.K) := by
  refine ⟨op_neP hu, fun s h ra rb q => ?_⟩
  obtain ⟨c, e⟩ := eqR_ok (map_not h)
  have r1 := ra.peek_rep s
  have r2 := rb.peek_rep s
  refine ⟨_, _, r1.1, r2.1, r1.2, r2.2, c, ?_⟩
  rw [← e, Bool.not_not]
  exact q
theorem cok_lt : CmpOk X .lt .Lt (rI0 fun i j => .bl (decide (i < j))) := by
  refine ⟨op_lt, fun {_ _ _ _ _ _ a b _ _} s h ra rb q => ?_⟩
  cases a <;> cases b <;> simp only [cmpR] at h <;> first | cases h | skip
  exact ⟨_, _, Rep.int_inv ra, Rep.int_inv rb, q⟩
theorem cok_le : CmpOk X .le .LtE (rI0 fun i j => .bl (decide (i ≤ j))) := by
  refine ⟨op_le, fun {_ _ _ _ _ _ a b _ _} s h ra rb q => ?_⟩
  cases a <;> cases b <;> simp only [cmpR] at h <;> first | cases h | skip
  exact ⟨_, _, Rep.int_inv ra, Rep.int_inv rb, q⟩
theorem cok_gt : CmpOk X .gt .Gt (rI0 fun i j => .bl (decide (j < i))) := by
  refine ⟨op_gt, fun {_ _ _ _ _ _ a b _ _} s h ra rb q => ?_⟩
  cases a <;> cases b <;> simp only [cmpR] at h <;> first | cases h | skip
  exact ⟨_, _, Rep.int_inv ra, Rep.int_inv rb, q⟩
theorem cok_ge : CmpOk X .ge .GtE (rI0 fun i j => .bl (decide (j ≤ i))) := by
  refine ⟨op_ge, fun {_ _ _ _ _ _ a b _ _} s h ra rb q => ?_⟩
  cases a <;> cases b <;> simp only [cmpR] at h <;> first | cases h | skip
  exact ⟨_, _, Rep.int_inv ra, Rep.int_inv rb, q⟩
/-- a op b -/
theorem s_cmp {c : Cm} {op : CmpOp} {r : R2} {a b : Expr} {s1 s2 : Env → R D} (C : CmpOk X c op r) (ha : PE X a (tE X.K X.mg z W τ .peek s1)) (hb : PE X b (tE X.K X.mg z W τ .peek s2)) (hm : behindInMarks op b = false) :
    PE X (.Compare a [op] [b] pos) (tE X.K X.mg z W τ m fun ρ => (s1 ρ).bind fun x => (s2 ρ).bind fun y => (cmpR c x y).bind fun k => ok (.bool k)) := by
  refine PE.imp (pe_cmpR C.1 ha hb hm) ?_
  rintro σ H Q ⟨F, ρ, env, w⟩
  refine stepE (likeE ..) env w fun d v F1 H1 e x env1 r w1 => ?_
  refine stepE (likeE ..) env1 w1 fun d2 v2 F2 H2 e2 x2 env2 r2 w2 => ?_
  rcases cmp_cases c d d2 with ⟨k, h⟩ | h
  · rw [h] at w2
    exact C.2 env2.ext.sub h (r.peek_mono x2) r2 (endFlat env2 w2 (.bl k) (fun _ h => nomatch h))
  · rw [h] at w2; exact w2.elim
theorem s_cmpT {c : Cm} {op : CmpOp} {r : R2} {a b : Expr} {s1 s2 : Env → R D} (C : CmpOk X c op r) (ha : PE X a (tE X.K X.mg z W τ .peek s1)) (hb : PE X b (tE X.K X.mg z W τ .peek s2)) (hm : behindInMarks op b = false) :
    PT X (.Compare a [op] [b] pos) (tT X.K X.mg z W τ fun ρ => (s1 ρ).bind fun x => (s2 ρ).bind fun y => cmpR c x y) := by
  refine PT.imp (pt_cmpR C.1 ha hb hm) ?_
  rintro σ H Q ⟨F, ρ, env, w⟩
  refine stepE (likeT ..) env w fun d v F1 H1 e x env1 r w1 => ?_
  refine stepE (likeT ..) env1 w1 fun d2 v2 F2 H2 e2 x2 env2 r2 w2 => ?_
  rcases cmp_cases c d d2 with ⟨k, h⟩ | h
  · rw [h] at w2
    exact C.2 env2.ext.sub h (r.peek_mono x2) r2 ⟨k, rfl, w2 F2 H2 (.refl env2.ext.sub)⟩
  · rw [h] at w2; exact w2.elim
/-- a op b op' c -/
theorem s_chain {c c' : Cm} {op op' : CmpOp} {r r' : R2} {a b e : Expr} {s1 s2 s3 : Env → R D} (C : CmpOk X c op r) (C' : CmpOk X c' op' r') (ha : PE X a (tE X.K X.mg z W τ .peek s1)) (hb : PE X b (tE X.K X.mg z W τ .peek s2)) (he : PE X e (tE X.K X.mg z W τ .peek s3))
    (hm : lastMarks [op, op'] [b, e] = false) :
    PE X (.Compare a [op, op'] [b, e] pos) (tE X.K X.mg z W τ m fun ρ => (s1 ρ).bind fun x => (s2 ρ).bind fun y => (cmpR c x y).bind fun k =>
      if k then (s3 ρ).bind fun z => (cmpR c' y z).bind fun k2 => ok (.bool k2) else ok (.bool false)) := by
  refine PE.imp (pe_chain C.1 C'.1 ha hb he hm) ?_
  rintro σ H Q ⟨F, ρ, env, w⟩
  refine stepE (likeE ..) env w fun d v F1 H1 e x env1 r w1 => ?_
  refine stepE (likeE ..) env1 w1 fun d2 v2 F2 H2 e2 x2 env2 r2 w2 => ?_
  rcases cmp_cases c d d2 with ⟨k, h⟩ | h
  · rw [h] at w2
    refine C.2 env2.ext.sub h (r.peek_mono x2) r2 ⟨k, rfl, ?_⟩
    cases k with
    | true =>
      rw [if_pos rfl]
      rw [R.bind_ok, if_pos rfl] at w2
      refine stepE (likeE ..) env2 w2 fun d3 v3 F3 H3 e3 x3 env3 r3 w3 => ?_
      rcases cmp_cases c' d2 d3 with ⟨k, h⟩ | h
      · rw [h] at w3
        exact C'.2 env3.ext.sub h (r2.peek_mono x3) r3 (endFlat env3 w3 (.bl k) (fun _ h => nomatch h))
      · rw [h] at w3; exact w3.elim
    | false =>
      rw [if_neg Bool.false_ne_true]
      rw [R.bind_ok, if_neg Bool.false_ne_true] at w2
      exact endFlat env2 w2 (.bl _) (fun _ h => nomatch h)
  · rw [h] at w2; exact w2.elim
theorem s_chainT {c c' : Cm} {op op' : CmpOp} {r r' : R2} {a b e : Expr} {s1 s2 s3 : Env → R D} (C : CmpOk X c op r) (C' : CmpOk X c' op' r') (ha : PE X a (tE X.K X.mg z W τ .peek s1)) (hb : PE X b (tE X.K X.mg z W τ .peek s2)) (he : PE X e (tE X.K X.mg z W τ .peek s3))
    (hm : lastMarks [op, op'] [b, e] = false) :
    PT X (.Compare a [op, op'] [b, e] pos) (tT X.K X.mg z W τ fun ρ => (s1 ρ).bind fun x => (s2 ρ).bind fun y => (cmpR c x y).bind fun k =>
      if k then (s3 ρ).bind fun z => cmpR c' y z else ok false) := by
  refine PT.imp (pt_chain C.1 C'.1 ha hb he hm) ?_
  rintro σ H Q ⟨F, ρ, env, w⟩
  refine stepE (likeT ..) env w fun d v F1 H1 e x env1 r w1 => ?_
  refine stepE (likeT ..) env1 w1 fun d2 v2 F2 H2 e2 x2 env2 r2 w2 => ?_
  rcases cmp_cases c d d2 with ⟨k, h⟩ | h
  · rw [h] at w2
    refine C.2 env2.ext.sub h (r.peek_mono x2) r2 ⟨k, rfl, ?_⟩
    cases k with
    | true =>
      rw [if_pos rfl]
      rw [R.bind_ok, if_pos rfl] at w2
      refine stepE (likeT ..) env2 w2 fun d3 v3 F3 H3 e3 x3 env3 r3 w3 => ?_
      rcases cmp_cases c' d2 d3 with ⟨k, h⟩ | h
      · rw [h] at w3
        exact C'.2 env3.ext.sub h (r2.peek_mono x3) r3 ⟨k, rfl, w3 F3 H3 (.refl env3.ext.sub)⟩
      · rw [h] at w3; exact w3.elim
    | false =>
      rw [if_neg Bool.false_ne_true]
      rw [R.bind_ok, if_neg Bool.false_ne_true] at w2
      exact ⟨false, rfl, w2 F2 H2 (.refl env2.ext.sub)⟩
  · rw [h] at w2; exact w2.elim
end
end Pyr

namespace Pyr
open PySem L2 PyProof.Rows
open R (ok exc stuck)
section
variable {X : Cx} {z : Z} {W : WX} {τ : List Nat} {m : Md} {pos : Pos}

/-! ## is, in -/
def rIsAll : R2 := fun x y H Q => (y = .non ∧ Q (.bl (decide (x = .non))) H) ∨ rIsB x y H Q
def rNotAll : R2 := fun x y H Q => (y = .non ∧ Q (.bl (!decide (x = .non))) H) ∨ rNotB x y H Q
theorem rep_non_dec {K : PySem.W.Frag} {F G H : Hp} {x : V} {d : D} {k : Bool} (h : isR d .none = ok k) (r : Res K F G H x d .peek) : k = decide (x = .non) := by
  cases d <;> simp only [isR] at h <;> first | cases h | skip
  · rw [Rep.non_inv r]; rfl
  · rw [Rep.bl_inv r]; rfl
  · rw [Rep.int_inv r]; rfl
  · rw [(Rep.str_inv r).1]; rfl
  · obtain ⟨a, vs, e, _⟩ := r; rw [e]; rfl
  · obtain ⟨a, vs, e, _⟩ := Rep.tuple r; rw [e]; rfl
theorem isR_right {a b : D} {k : Bool} (h : isR a b = ok k) : b = .none ∨ (∃ p q, a = .bool p ∧ b = .bool q ∧ k = decide (p = q)) := by
  cases b with
  | none => exact .inl rfl
  | bool q =>
    cases a with
    | bool p => simp only [isR, R.ok.injEq] at h; exact .inr ⟨p, q, rfl, rfl, h.symm⟩
    | _ => simp only [isR] at h; cases h
  | _ => cases a <;> simp only [isR] at h <;> cases h
theorem cok_is : CmpOk X .is .Is rIsAll := by
  refine ⟨OpR.or op_isN op_isBl, fun s h ra rb q => ?_⟩
  rcases isR_right h with rfl | ⟨p, r, rfl, rfl, e⟩
  · refine .inl ⟨Rep.non_inv rb, ?_⟩
    rw [← rep_non_dec h ra]; exact q
  · refine .inr ⟨p, r, Rep.bl_inv ra, Rep.bl_inv rb, ?_⟩
    rw [← e]; exact q
theorem cok_isnot : CmpOk X .isnot .IsNot rNotAll := by
  refine ⟨OpR.or op_notN op_notBl, fun s h ra rb q => ?_⟩
  have h2 := map_not h
  rcases isR_right h2 with rfl | ⟨p, r, rfl, rfl, e⟩
  · refine .inl ⟨Rep.non_inv rb, ?_⟩
    rw [← rep_non_dec h2 ra, Bool.not_not]; exact q
  · refine .inr ⟨p, r, Rep.bl_inv ra, Rep.bl_inv rb, ?_⟩
    rw [← e, Bool.not_not]; exact q
/-- x in y, y a list or a tuple of data -/
def rInP (K : PySem.W.Frag) (neg : Bool) : R2 := fun x y H Q => ∃ a vs d ds, y = .ref a ∧ (SqL K H a vs ∨ SqT K H a vs) ∧ RepAll K H vs ds ∧ Rep K H x d ∧ d.depth ≤ 150 ∧ Q (.bl (if neg then !(ds.any fun y => PyData.eqv y d) else ds.any fun y => PyData.eqv y d)) H
/-- what == gives, by the places of a list -/
theorem memEq {pins : List (Addr × Obj)} {σ : L2.St} {H : Hp} {s : Shared} {A : Around} (I : Inv X pins σ H s) {x : V} {v : Value} {d : D} (rx : RelV x v) (hx : Rep X.K H x d) (hd : d.depth ≤ 150) (hu : A.units + 200 < cLine) :
    ∀ {ds : List D} {vs : List V} {us : List Value}, RepAll X.K H vs ds → Vals vs us → ∃ e : Value → Bool, (∀ u ∈ us, SeqAt.EqAt A s u v (e u)) ∧ us.any e = ds.any fun y => PyData.eqv y d := by
  -- an answer for each value by its own reading
  obtain ⟨bs, rd⟩ := Dp.reads I d x v hx.1 rx
  have one : ∀ {y : V} {u : Value} {e : D}, Rep X.K H y e → RelV y u → SeqAt.EqAt A s u v (PyData.eqv e d) := fun {y u e} hy ry => by
    obtain ⟨as, re⟩ := Dp.reads I e y u hy.1 ry
    exact SeqAt.eqAt_reads e d A s u v as bs re rd hy.2 hx.2 (room_min hu (.inr hd))
  -- the reading of a value is one
  have uniq : ∀ {y y' : V} {u : Value} {e e' : D}, Rep X.K H y e → RelV y u → Rep X.K H y' e' → RelV y' u → e = e' := fun {y y' u e e'} hy ry hy' ry' => by
    obtain ⟨as, re⟩ := Dp.reads I e y u hy.1 ry
    obtain ⟨as', re'⟩ := Dp.reads I e' y' u hy'.1 ry'
    exact SeqAt.Reads.unique e e' u as as' hy.2 re re'
  intro ds vs us h r
  classical
  refine ⟨fun u => if h : ∃ y e, Rep X.K H y e ∧ RelV y u then PyData.eqv (Classical.choose (Classical.choose_spec h)) d else false, ?_, ?_⟩
  · intro u hu
    have key : ∀ {ds : List D} {vs : List V} {us : List Value}, RepAll X.K H vs ds → Vals vs us → ∀ u ∈ us, ∃ y e, Rep X.K H y e ∧ RelV y u := by
      intro ds
      induction ds with
      | nil =>
        intro vs us h r u hu
        rw [h.inv_nil] at r
        cases r
        cases hu
      | cons e ds ih =>
        intro vs us h r u hu
        obtain ⟨y, rs, rfl, hy, ht⟩ := h.inv_cons
        cases r with
        | cons r1 r2 =>
          rcases List.mem_cons.mp hu with rfl | hu
          · exact ⟨y, e, hy, r1⟩
          · exact ih ht r2 u hu
    have hk := key h r u hu
    dsimp only
    rw [dif_pos hk]
    have sp := Classical.choose_spec (Classical.choose_spec hk)
    exact one sp.1 sp.2
  · have key : ∀ {ds : List D} {vs : List V} {us : List Value}, RepAll X.K H vs ds → Vals vs us → us.any (fun u => if h : ∃ y e, Rep X.K H y e ∧ RelV y u then PyData.eqv (Classical.choose (Classical.choose_spec h)) d else false) = ds.any fun y => PyData.eqv y d := by
      intro ds
      induction ds with
      | nil =>
        intro vs us h r
        rw [h.inv_nil] at r
        cases r
        rfl
      | cons e ds ih =>
        intro vs us h r
        obtain ⟨y, rs, rfl, hy, ht⟩ := h.inv_cons
        cases r with
        | cons r1 r2 =>
          rw [List.any_cons, List.any_cons, ih ht r2]
          have hk : ∃ y e, Rep X.K H y e ∧ RelV y _ := ⟨y, e, hy, r1⟩
          rw [dif_pos hk]
          have sp := Classical.choose_spec (Classical.choose_spec hk)
          rw [uniq sp.1 sp.2 hy r1]
    exact key h r
theorem op_inP (hu : X.A.units + 201 < cLine) : OpR X (compareOp .In) (rInP X.K false) := by
  intro pins s σ H x y v u Q I rx ry h
  obtain ⟨a, vs, d, ds, rfl, hs, hv, hx, hd, q⟩ := h
  cases ry
  have hu' : X.A.in1.units + 200 < cLine := by show X.A.units + 1 + 200 < _; omega
  rcases hs with hs | hs
  · obtain ⟨its, r, pl, _⟩ := I.list hs
    obtain ⟨e, he, ea⟩ := memEq I rx hx hd hu' hv r
    refine SeqAt.in_listAt e pl.isList (fun y hy => he y (by simpa using hy)) ⟨.bl _, H, I, ?_, q⟩
    show Value.bool _ = Value.bool _
    rw [if_neg Bool.false_ne_true, ← ea]
    simp
  · obtain ⟨its, r, pl, _⟩ := I.tuple hs
    obtain ⟨e, he, ea⟩ := memEq I rx hx hd hu' hv r
    refine SeqAt.in_tupleAt e (show s.heap.IsTuple a its.toArray from pl) (fun y hy => he y (by simpa using hy)) ⟨.bl _, H, I, ?_, q⟩
    show Value.bool _ = Value.bool _
    rw [if_neg Bool.false_ne_true, ← ea]
    simp
theorem op_notInP (hu : X.A.units + 201 < cLine) : OpR X (compareOp .NotIn) (rInP X.K true) := by
  intro pins s σ H x y v u Q I rx ry h
  obtain ⟨a, vs, d, ds, rfl, hs, hv, hx, hd, q⟩ := h
  cases ry
  have hu' : X.A.in1.units + 200 < cLine := by show X.A.units + 1 + 200 < _; omega
  rcases hs with hs | hs
  · obtain ⟨its, r, pl, _⟩ := I.list hs
    obtain ⟨e, he, ea⟩ := memEq I rx hx hd hu' hv r
    refine SeqAt.notIn_listAt e pl.isList (fun y hy => he y (by simpa using hy)) ⟨.bl _, H, I, ?_, q⟩
    show Value.bool _ = Value.bool _
    rw [if_pos rfl, ← ea]
    simp
  · obtain ⟨its, r, pl, _⟩ := I.tuple hs
    obtain ⟨e, he, ea⟩ := memEq I rx hx hd hu' hv r
    refine SeqAt.notIn_tupleAt e (show s.heap.IsTuple a its.toArray from pl) (fun y hy => he y (by simpa using hy)) ⟨.bl _, H, I, ?_, q⟩
    show Value.bool _ = Value.bool _
    rw [if_pos rfl, ← ea]
    simp
def rInAll (K : PySem.W.Frag) : R2 := fun x y H Q => (∃ i j, x = .str i ∧ y = .str j ∧ Q (.bl (!(Builtin.Str.occurrences j i 0 j.length 1).isEmpty)) H) ∨ rInP K false x y H Q
def rNinAll (K : PySem.W.Frag) : R2 := fun x y H Q => (∃ i j, x = .str i ∧ y = .str j ∧ Q (.bl (!(!(Builtin.Str.occurrences j i 0 j.length 1).isEmpty))) H) ∨ rInP K true x y H Q
theorem inR_cases {a b : D} {k : Bool} (h : inR a b = ok k) : (∃ i j, a = .str i ∧ b = .str j ∧ k = !(Builtin.Str.occurrences j i 0 j.length 1).isEmpty) ∨ (∃ ds, (b = .list ds ∨ b = .tuple ds) ∧ a.depth ≤ 150 ∧ k = ds.any fun y => PyData.eqv y a) := by
  unfold inR at h
  split at h
  · cases h; exact .inl ⟨_, _, rfl, rfl, rfl⟩
  · split at h
    · rename_i c; cases h; exact .inr ⟨_, .inl rfl, c, rfl⟩
    · cases h
  · split at h
    · rename_i c; cases h; exact .inr ⟨_, .inr rfl, c, rfl⟩
    · cases h
  · cases h
theorem rep_seq {K : PySem.W.Frag} {F G H : Hp} {y : V} {b : D} {ds : List D} (s : Same F H) (h : b = .list ds ∨ b = .tuple ds) (r : Res K F G H y b .peek) : ∃ a vs, y = .ref a ∧ (SqL K H a vs ∨ SqT K H a vs) ∧ RepAll K F vs ds := by
  rcases h with rfl | rfl
  · obtain ⟨a, vs, e, h, q⟩ := r
    exact ⟨a, vs, e, .inl h, q⟩
  · obtain ⟨a, vs, e, h, q⟩ := Rep.tuple r
    exact ⟨a, vs, e, .inr (SqT_mono s h), q⟩
theorem cok_in (hu : X.A.units + 201 < cLine) : CmpOk X .isin .In (rInAll X.K) := by
  refine ⟨OpR.or op_in_str (op_inP hu), fun s h ra rb q => ?_⟩
  rcases inR_cases h with ⟨i, j, rfl, rfl, e⟩ | ⟨ds, e, c, e2⟩
  · refine .inl ⟨i, j, (Rep.str_inv ra).1, (Rep.str_inv rb).1, ?_⟩
    rw [← e]; exact q
  · obtain ⟨a, vs, e3, hs, hv⟩ := rep_seq s e rb
    refine .inr ⟨a, vs, _, ds, e3, hs, hv.mono s, ra.peek_rep s, c, ?_⟩
    rw [if_neg Bool.false_ne_true, ← e2]; exact q
theorem cok_notin (hu : X.A.units + 201 < cLine) : CmpOk X .notin .NotIn (rNinAll X.K) := by
  refine ⟨OpR.or L2.op_notIn_str (op_notInP hu), fun s h ra rb q => ?_⟩
  rcases inR_cases (map_not h) with ⟨i, j, rfl, rfl, e⟩ | ⟨ds, e, c, e2⟩
  · refine .inl ⟨i, j, (Rep.str_inv ra).1, (Rep.str_inv rb).1, ?_⟩
    rw [← e, Bool.not_not]; exact q
  · obtain ⟨a, vs, e3, hs, hv⟩ := rep_seq s e rb
    refine .inr ⟨a, vs, _, ds, e3, hs, hv.mono s, ra.peek_rep s, c, ?_⟩
    rw [if_pos rfl, ← e2, Bool.not_not]; exact q

/-! ## three comparisons in a row -/
def tChain3 (r r' r'' : R2) (ta tb tc td : TE) : TE := fun σ H Q => ta σ H fun x H1 => tb σ H1 fun y H2 => r x y H2 fun z H3 => ∃ k, z = .bl k ∧
  (if k = true then tc σ H3 fun w' H4 => r' y w' H4 fun z2 H5 => ∃ k2, z2 = .bl k2 ∧ (if k2 = true then td σ H5 fun w2 H6 => r'' w' w2 H6 Q else Q (.bl false) H5) else Q (.bl false) H3)
theorem pe_chain3 {a b c d : Expr} {ta tb tc td : TE} {op op' op'' : CmpOp} {r r' r'' : R2} (ho : OpR X (compareOp op) r) (ho' : OpR X (compareOp op') r') (ho'' : OpR X (compareOp op'') r'') (ha : PE X a ta) (hb : PE X b tb) (hc : PE X c tc) (hd : PE X d td)
    (hm : lastMarks [op, op', op''] [b, c, d] = false) : PE X (.Compare a [op, op', op''] [b, c, d] pos) (tChain3 r r' r'' ta tb tc td) := by
  refine ⟨fun pins s σ H Q I h => ?_⟩
  refine Compare_chain (thn (ha.run pins s σ H _ I h) fun v s1 ⟨x, H1, I1, r1, q1⟩ => chain_link (thn (hb.run pins s1 σ H1 _ I1 q1) fun u s2 ⟨y, H2, I2, r2, q2⟩ =>
    thn (ho pins s2 σ H2 x y v u _ I2 r1 r2 q2) fun d s3 ⟨z, H3, I3, r3, k, e, q3⟩ => ?_)) hm
  subst e
  cases r3
  refine wpAny_truthy_bool ?_
  cases k with
  | false => exact ite_ff ⟨.bl false, H3, I3, rfl, q3⟩
  | true =>
    refine ite_tt (chain_link (thn (hc.run pins s3 σ H3 _ I3 q3) fun w' s4 ⟨z', H4, I4, r4, q4⟩ => thn (ho' pins s4 σ H4 y z' u w' _ I4 r2 r4 q4) fun d' s5 ⟨z2, H5, I5, r5, k2, e2, q5⟩ => ?_))
    subst e2
    cases r5
    refine wpAny_truthy_bool ?_
    cases k2 with
    | false => exact ite_ff ⟨.bl false, H5, I5, rfl, q5⟩
    | true => exact ite_tt (chain_last (thn (hd.run pins s5 σ H5 _ I5 q5) fun w2 s6 ⟨z6, H6, I6, r6, q6⟩ => ho'' pins s6 σ H6 z' z6 w' w2 Q I6 r4 r6 q6))
theorem pt_chain3 {a b c d : Expr} {ta tb tc td : TE} {op op' op'' : CmpOp} {r r' r'' : R2} (ho : OpR X (compareOp op) r) (ho' : OpR X (compareOp op') r') (ho'' : OpR X (compareOp op'') r'') (ha : PE X a ta) (hb : PE X b tb) (hc : PE X c tc) (hd : PE X d td)
    (hm : lastMarks [op, op', op''] [b, c, d] = false) : PT X (.Compare a [op, op', op''] [b, c, d] pos) (tTest (tChain3 r r' r'' ta tb tc td)) := by
  refine ⟨fun pins s σ H Q I h => ?_⟩
  refine isTrue_chain (thn (ha.run pins s σ H _ I h) fun v s1 ⟨x, H1, I1, r1, q1⟩ => test_link (thn (hb.run pins s1 σ H1 _ I1 q1) fun u s2 ⟨y, H2, I2, r2, q2⟩ =>
    thn (ho pins s2 σ H2 x y v u _ I2 r1 r2 q2) fun d s3 ⟨z, H3, I3, r3, k, e, q3⟩ => ?_)) hm
  subst e
  cases r3
  refine wpAny_truthy_bool ?_
  cases k with
  | false =>
    obtain ⟨k', e', q'⟩ := q3
    cases e'
    exact ite_ff ⟨H3, I3, q'⟩
  | true =>
    refine ite_tt (test_link (thn (hc.run pins s3 σ H3 _ I3 q3) fun w' s4 ⟨z', H4, I4, r4, q4⟩ => thn (ho' pins s4 σ H4 y z' u w' _ I4 r2 r4 q4) fun d' s5 ⟨z2, H5, I5, r5, k2, e2, q5⟩ => ?_))
    subst e2
    cases r5
    refine wpAny_truthy_bool ?_
    cases k2 with
    | false =>
      obtain ⟨k', e', q'⟩ := q5
      cases e'
      exact ite_ff ⟨H5, I5, q'⟩
    | true =>
      refine ite_tt (test_last (thn (hd.run pins s5 σ H5 _ I5 q5) fun w2 s6 ⟨z6, H6, I6, r6, q6⟩ => thn (ho'' pins s6 σ H6 z' z6 w' w2 _ I6 r4 r6 q6) fun d' s7 ⟨z7, H7, I7, r7, k3, e3, q7⟩ => ?_))
      subst e3
      cases r7
      exact wpAny_truthy_bool ⟨H7, I7, q7⟩
theorem s_chain3 {c c' c'' : Cm} {op op' op'' : CmpOp} {r r' r'' : R2} {a b e f : Expr} {s1 s2 s3 s4 : Env → R D} (C : CmpOk X c op r) (C' : CmpOk X c' op' r') (C'' : CmpOk X c'' op'' r'') (ha : PE X a (tE X.K X.mg z W τ .peek s1)) (hb : PE X b (tE X.K X.mg z W τ .peek s2)) (he : PE X e (tE X.K X.mg z W τ .peek s3)) (hf : PE X f (tE X.K X.mg z W τ .peek s4))
    (hm : lastMarks [op, op', op''] [b, e, f] = false) :
    PE X (.Compare a [op, op', op''] [b, e, f] pos) (tE X.K X.mg z W τ m fun ρ => (s1 ρ).bind fun x => (s2 ρ).bind fun y => (cmpR c x y).bind fun k =>
      if k then (s3 ρ).bind fun z => (cmpR c' y z).bind fun k2 => if k2 then (s4 ρ).bind fun u => (cmpR c'' z u).bind fun k3 => ok (.bool k3) else ok (.bool false) else ok (.bool false)) := by
  refine PE.imp (pe_chain3 C.1 C'.1 C''.1 ha hb he hf hm) ?_
  rintro σ H Q ⟨F, ρ, env, w⟩
  refine stepE (likeE ..) env w fun d v F1 H1 e x env1 r w1 => ?_
  refine stepE (likeE ..) env1 w1 fun d2 v2 F2 H2 e2 x2 env2 r2 w2 => ?_
  rcases cmp_cases c d d2 with ⟨k, h⟩ | h
  · rw [h] at w2
    refine C.2 env2.ext.sub h (r.peek_mono x2) r2 ⟨k, rfl, ?_⟩
    cases k with
    | true =>
      rw [if_pos rfl]
      rw [R.bind_ok, if_pos rfl] at w2
      refine stepE (likeE ..) env2 w2 fun d3 v3 F3 H3 e3 x3 env3 r3 w3 => ?_
      rcases cmp_cases c' d2 d3 with ⟨k, h⟩ | h
      · rw [h] at w3
        refine C'.2 env3.ext.sub h (r2.peek_mono x3) r3 ⟨k, rfl, ?_⟩
        cases k with
        | true =>
          rw [if_pos rfl]
          rw [R.bind_ok, if_pos rfl] at w3
          refine stepE (likeE ..) env3 w3 fun d4 v4 F4 H4 e4 x4 env4 r4 w4 => ?_
          rcases cmp_cases c'' d3 d4 with ⟨k, h⟩ | h
          · rw [h] at w4
            exact C''.2 env4.ext.sub h (r3.peek_mono x4) r4 (endFlat env4 w4 (.bl k) (fun _ h => nomatch h))
          · rw [h] at w4; exact w4.elim
        | false =>
          rw [if_neg Bool.false_ne_true]
          rw [R.bind_ok, if_neg Bool.false_ne_true] at w3
          exact endFlat env3 w3 (.bl _) (fun _ h => nomatch h)
      · rw [h] at w3; exact w3.elim
    | false =>
      rw [if_neg Bool.false_ne_true]
      rw [R.bind_ok, if_neg Bool.false_ne_true] at w2
      exact endFlat env2 w2 (.bl _) (fun _ h => nomatch h)
  · rw [h] at w2; exact w2.elim
theorem s_chain3T {c c' c'' : Cm} {op op' op'' : CmpOp} {r r' r'' : R2} {a b e f : Expr} {s1 s2 s3 s4 : Env → R D} (C : CmpOk X c op r) (C' : CmpOk X c' op' r') (C'' : CmpOk X c'' op'' r'') (ha : PE X a (tE X.K X.mg z W τ .peek s1)) (hb : PE X b (tE X.K X.mg z W τ .peek s2)) (he : PE X e (tE X.K X.mg z W τ .peek s3)) (hf : PE X f (tE X.K X.mg z W τ .peek s4))
    (hm : lastMarks [op, op', op''] [b, e, f] = false) :
    PT X (.Compare a [op, op', op''] [b, e, f] pos) (tT X.K X.mg z W τ fun ρ => (s1 ρ).bind fun x => (s2 ρ).bind fun y => (cmpR c x y).bind fun k =>
      if k then (s3 ρ).bind fun z => (cmpR c' y z).bind fun k2 => if k2 then (s4 ρ).bind fun u => cmpR c'' z u else ok false else ok false) := by
  refine PT.imp (pt_chain3 C.1 C'.1 C''.1 ha hb he hf hm) ?_
  rintro σ H Q ⟨F, ρ, env, w⟩
  refine stepE (likeT ..) env w fun d v F1 H1 e x env1 r w1 => ?_
  refine stepE (likeT ..) env1 w1 fun d2 v2 F2 H2 e2 x2 env2 r2 w2 => ?_
  rcases cmp_cases c d d2 with ⟨k, h⟩ | h
  · rw [h] at w2
    refine C.2 env2.ext.sub h (r.peek_mono x2) r2 ⟨k, rfl, ?_⟩
    cases k with
    | true =>
      rw [if_pos rfl]
      rw [R.bind_ok, if_pos rfl] at w2
      refine stepE (likeT ..) env2 w2 fun d3 v3 F3 H3 e3 x3 env3 r3 w3 => ?_
      rcases cmp_cases c' d2 d3 with ⟨k, h⟩ | h
      · rw [h] at w3
        refine C'.2 env3.ext.sub h (r2.peek_mono x3) r3 ⟨k, rfl, ?_⟩
        cases k with
        | true =>
          rw [if_pos rfl]
          rw [R.bind_ok, if_pos rfl] at w3
          refine stepE (likeT ..) env3 w3 fun d4 v4 F4 H4 e4 x4 env4 r4 w4 => ?_
          rcases cmp_cases c'' d3 d4 with ⟨k, h⟩ | h
          · rw [h] at w4
            exact C''.2 env4.ext.sub h (r3.peek_mono x4) r4 ⟨k, rfl, w4 F4 H4 (.refl env4.ext.sub)⟩
          · rw [h] at w4; exact w4.elim
        | false =>
          rw [if_neg Bool.false_ne_true]
          rw [R.bind_ok, if_neg Bool.false_ne_true] at w3
          exact ⟨false, rfl, w3 F3 H3 (.refl env3.ext.sub)⟩
      · rw [h] at w3; exact w3.elim
    | false =>
      rw [if_neg Bool.false_ne_true]
      rw [R.bind_ok, if_neg Bool.false_ne_true] at w2
      exact ⟨false, rfl, w2 F2 H2 (.refl env2.ext.sub)⟩
  · rw [h] at w2; exact w2.elim

/-! ## and, or, if-else -/
theorem s_and {a b : Expr} {rest : List Expr} {s1 s2 : Env → R D} (ha : PE X a (tE X.K X.mg z W τ m s1)) (hb : PE X (.BoolOp .And (b :: rest) pos) (tE X.K X.mg z W τ m s2)) :
    PE X (.BoolOp .And (a :: b :: rest) pos) (tE X.K X.mg z W τ m fun ρ => (s1 ρ).bind fun x => (truthy x).bind fun k => if k then s2 ρ else ok x) := by
  refine PE.imp (pe_andT ha hb) ?_
  rintro σ H Q ⟨F, ρ, env, w⟩
  refine stepE (likeE ..) env w fun d v F1 H1 e x env1 r w1 => ?_
  have rp : Res X.K F1 H H1 v d .peek := by
    cases m with
    | frz => exact .of_rep env1.ext.sub r
    | fresh => exact r.fresh_peek
    | peek => exact r
  rcases truthy_cases d with ⟨k, hk⟩ | hk
  · rw [hk] at w1
    refine ⟨k, truthy_ok hk env1.ext.sub rp, ?_⟩
    cases k with
    | true =>
      rw [if_pos rfl]
      exact ⟨F1, ρ, env1, by simpa using w1⟩
    | false =>
      rw [if_neg Bool.false_ne_true]
      rw [R.bind_ok, if_neg Bool.false_ne_true] at w1
      -- the value itself, from where it came
      dsimp only at w
      rw [e, R.bind_ok, hk, R.bind_ok, if_neg Bool.false_ne_true] at w
      exact w v F1 H1 x r
  · rw [hk] at w1; exact w1.elim
theorem s_or {a b : Expr} {rest : List Expr} {s1 s2 : Env → R D} (ha : PE X a (tE X.K X.mg z W τ m s1)) (hb : PE X (.BoolOp .Or (b :: rest) pos) (tE X.K X.mg z W τ m s2)) :
    PE X (.BoolOp .Or (a :: b :: rest) pos) (tE X.K X.mg z W τ m fun ρ => (s1 ρ).bind fun x => (truthy x).bind fun k => if k then ok x else s2 ρ) := by
  refine PE.imp (pe_orT ha hb) ?_
  rintro σ H Q ⟨F, ρ, env, w⟩
  refine stepE (likeE ..) env w fun d v F1 H1 e x env1 r w1 => ?_
  have rp : Res X.K F1 H H1 v d .peek := by
    cases m with
    | frz => exact .of_rep env1.ext.sub r
    | fresh => exact r.fresh_peek
    | peek => exact r
  rcases truthy_cases d with ⟨k, hk⟩ | hk
  · rw [hk] at w1
    refine ⟨k, truthy_ok hk env1.ext.sub rp, ?_⟩
    cases k with
    | true =>
      rw [if_pos rfl]
      dsimp only at w
      rw [e, R.bind_ok, hk, R.bind_ok, if_pos rfl] at w
      exact w v F1 H1 x r
    | false =>
      rw [if_neg Bool.false_ne_true]
      exact ⟨F1, ρ, env1, by simpa using w1⟩
  · rw [hk] at w1; exact w1.elim
theorem s_ife {c a b : Expr} {s0 : Env → R Bool} {s1 s2 : Env → R D} (hc : PT X c (tT X.K X.mg z W τ s0)) (ha : PE X a (tE X.K X.mg z W τ m s1)) (hb : PE X b (tE X.K X.mg z W τ m s2)) :
    PE X (.IfExp c a b pos) (tE X.K X.mg z W τ m fun ρ => (s0 ρ).bind fun k => if k then s1 ρ else s2 ρ) := by
  refine PE.imp (pe_ifExp hc ha hb) ?_
  rintro σ H Q ⟨F, ρ, env, w⟩
  refine stepT (likeE ..) env w fun k F1 H1 e x env1 w1 => ?_
  cases k with
  | true => rw [if_pos rfl]; exact ⟨F1, ρ, env1, by simpa using w1⟩
  | false => rw [if_neg Bool.false_ne_true]; exact ⟨F1, ρ, env1, by simpa using w1⟩
/-- as tests -/
theorem s_andT {a b : Expr} {rest : List Expr} {s1 s2 : Env → R Bool} (ha : PT X a (tT X.K X.mg z W τ s1)) (hb : PW X (.BoolOp .And (b :: rest) pos) (tT X.K X.mg z W τ s2)) :
    PW X (.BoolOp .And (a :: b :: rest) pos) (tT X.K X.mg z W τ fun ρ => (s1 ρ).bind fun k => if k then s2 ρ else ok false) := by
  refine PW.imp (pw_and ha hb) ?_
  rintro σ H Q ⟨F, ρ, env, w⟩
  refine stepT (likeT ..) env w fun k F1 H1 e x env1 w1 => ?_
  cases k with
  | true => rw [if_pos rfl]; exact ⟨F1, ρ, env1, by simpa using w1⟩
  | false => rw [if_neg Bool.false_ne_true]; exact w1 F1 H1 (.refl env1.ext.sub)
theorem s_orT {a b : Expr} {rest : List Expr} {s1 s2 : Env → R Bool} (ha : PT X a (tT X.K X.mg z W τ s1)) (hb : PW X (.BoolOp .Or (b :: rest) pos) (tT X.K X.mg z W τ s2)) :
    PW X (.BoolOp .Or (a :: b :: rest) pos) (tT X.K X.mg z W τ fun ρ => (s1 ρ).bind fun k => if k then ok true else s2 ρ) := by
  refine PW.imp (pw_or ha hb) ?_
  rintro σ H Q ⟨F, ρ, env, w⟩
  refine stepT (likeT ..) env w fun k F1 H1 e x env1 w1 => ?_
  cases k with
  | true => rw [if_pos rfl]; exact w1 F1 H1 (.refl env1.ext.sub)
  | false => rw [if_neg Bool.false_ne_true]; exact ⟨F1, ρ, env1, by simpa using w1⟩
theorem pt_ifExp {c a b : Expr} {tc ta tb : TT} (hc : PT X c tc) (ha : PT X a ta) (hb : PT X b tb) : PT X (.IfExp c a b pos) (fun σ H Q => tc σ H fun k H1 => if k = true then ta σ H1 Q else tb σ H1 Q) := by
  refine ⟨fun pins s σ H Q I h => ?_⟩
  refine isTrue_IfExp (thn (hc.run pins s σ H _ I h) fun k s1 ⟨H1, I1, q1⟩ => ?_)
  cases k with
  | true => exact ha.run pins s1 σ H1 Q I1 q1
  | false => exact hb.run pins s1 σ H1 Q I1 q1
theorem s_ifeT {c a b : Expr} {s0 s1 s2 : Env → R Bool} (hc : PT X c (tT X.K X.mg z W τ s0)) (ha : PT X a (tT X.K X.mg z W τ s1)) (hb : PT X b (tT X.K X.mg z W τ s2)) :
    PT X (.IfExp c a b pos) (tT X.K X.mg z W τ fun ρ => (s0 ρ).bind fun k => if k then s1 ρ else s2 ρ) := by
  refine PT.imp (pt_ifExp hc ha hb) ?_
  rintro σ H Q ⟨F, ρ, env, w⟩
  refine stepT (likeT ..) env w fun k F1 H1 e x env1 w1 => ?_
  cases k with
  | true => rw [if_pos rfl]; exact ⟨F1, ρ, env1, by simpa using w1⟩
  | false => rw [if_neg Bool.false_ne_true]; exact ⟨F1, ρ, env1, by simpa using w1⟩
end
end Pyr

namespace Pyr
open PySem L2 PyProof.Rows
open R (ok exc stuck)
section
variable {X : Cx} {z : Z} {W : WX} {τ : List Nat} {m : Md} {pos : Pos}

/-! ## calls of built-ins with one argument -/
/-- no star: what an argument list asks of its items -/
def NoStar (e : Expr) : Prop := ∀ es env, starEach (e :: es) env = (false, eval e env) :: starEach es env
theorem noStar_all : ∀ {es : List Expr} {env : PySem.Env} {pos : Pos}, (∀ e ∈ es, NoStar e) → (backTo pos (starEach es env)).any (·.1) = false
  | [], _, _, _ => rfl
  | e :: es, env, pos, h => by
    rw [h e List.mem_cons_self es env]
    have ih := noStar_all (es := es) (env := env) (pos := pos) fun e' q => h e' (List.mem_cons_of_mem _ q)
    show (false || (backTo pos (starEach es env)).any (·.1)) = false
    rw [ih]; rfl

/-- a function of one value that raises nothing -/
def Calm1 (op : D → R D) : Prop := ∀ d, (∃ e, op d = ok e) ∨ op d = stuck
/-- what a built-in asks, from what the small language says -/
def Call1 (X : Cx) (z : Z) (W : WX) (τ : List Nat) (m : Md) (op : D → R D) (r : List V → Hp → VK → Prop) : Prop :=
  ∀ {F H G : Hp} {σ : L2.St} {ρ : Env} {Q : VK} {d : D} {v : V} {e : D}, op d = ok e → Ev X.K z τ F H σ ρ → Res X.K F G H v d .peek → PostE X.K X.mg z W m F H σ Q (ok e) → r [v] H Q
theorem s_callB {x : Str} {id : String} {a : Expr} {p : Pos} {s1 : Env → R D} {op : D → R D} {r : List V → Hp → VK → Prop} (hc : CallR X (.builtin id) r) (k : Call1 X z W τ m op r) (cm : Calm1 op) (hg : Gl X x) (hm : X.mg x = none) (hv : bootBuiltins x = some (.builtin id))
    (ha : PE X a (tE X.K X.mg z W τ .peek s1)) (hs : NoStar a) (hn : x ≠ "__name__") (hdb : (x == ("__debug__" : Str)) = false) :
    PE X (.Call (.Name x p) [a] [] pos) (tE X.K X.mg z W τ m fun ρ => (s1 ρ).bind op) := by
  refine PE.imp (pe_callB hc hg hm hv (pa_cons ha pa_nil (hs _ _)) hn hdb (hs _ _) rfl) ?_
  rintro σ H Q ⟨F, ρ, env, w⟩
  refine stepE (likeE ..) env w fun d v F1 H1 e x env1 r1 w1 => ?_
  rcases cm d with ⟨e', h⟩ | h
  · rw [h] at w1; exact k h env1 r1 w1
  · rw [h] at w1; exact w1.elim
theorem s_callTy {x : Str} {T : String} {a : Expr} {p : Pos} {s1 : Env → R D} {op : D → R D} {r : List V → Hp → VK → Prop} (hc : CallR X (.type T) r) (k : Call1 X z W τ m op r) (cm : Calm1 op) (hg : Gl X x) (hm : X.mg x = none) (hv : bootBuiltins x = some (.type T))
    (ha : PE X a (tE X.K X.mg z W τ .peek s1)) (hs : NoStar a) (hn : x ≠ "__name__") (hdb : (x == ("__debug__" : Str)) = false) :
    PE X (.Call (.Name x p) [a] [] pos) (tE X.K X.mg z W τ m fun ρ => (s1 ρ).bind op) := by
  refine PE.imp (pe_callTy hc hg hm hv (pa_cons ha pa_nil (hs _ _)) hn hdb (hs _ _) rfl) ?_
  rintro σ H Q ⟨F, ρ, env, w⟩
  refine stepE (likeE ..) env w fun d v F1 H1 e x env1 r1 w1 => ?_
  rcases cm d with ⟨e', h⟩ | h
  · rw [h] at w1; exact k h env1 r1 w1
  · rw [h] at w1; exact w1.elim
theorem calm_f1 (f : F1) : Calm1 (f1R f) := by
  intro d
  cases f <;> cases d <;> simp only [f1R] <;> first | exact .inl ⟨_, rfl⟩ | exact .inr rfl | exact .inr trivial | skip
  all_goals (split <;> first | exact .inl ⟨_, rfl⟩ | exact .inr rfl | skip)
  all_goals (split <;> first | exact .inl ⟨_, rfl⟩ | exact .inr rfl)

theorem asInts_rep {K : PySem.W.Frag} {F : Hp} : ∀ {ds : List D} {ns : List Int} {vs : List V}, asInts ds = some ns → RepAll K F vs ds → vs = ns.map V.int
  | [], ns, vs, h, r => by
    cases h; rw [r.inv_nil]; rfl
  | d :: ds, ns, vs, h, r => by
    obtain ⟨v, t, rfl, a, b⟩ := r.inv_cons
    cases d with
    | int i =>
      simp only [asInts] at h
      cases e : asInts ds with
      | none => rw [e] at h; cases h
      | some ms =>
        rw [e] at h
        cases h
        rw [a.int_inv, asInts_rep e b]
        rfl
    | _ => simp only [asInts] at h; cases h
theorem asInts_len : ∀ {ds : List D} {ns : List Int}, asInts ds = some ns → ns.length = ds.length
  | [], ns, h => by cases h; rfl
  | d :: ds, ns, h => by
    cases d with
    | int i =>
      simp only [asInts] at h
      cases e : asInts ds with
      | none => rw [e] at h; cases h
      | some ms => rw [e] at h; cases h; simp [asInts_len e]
    | _ => simp only [asInts] at h; cases h
theorem asStrs_rep {K : PySem.W.Frag} {F : Hp} : ∀ {ds : List D} {ns : List Str} {vs : List V}, asStrs ds = some ns → RepAll K F vs ds → vs = ns.map V.str
  | [], ns, vs, h, r => by
    cases h; rw [r.inv_nil]; rfl
  | d :: ds, ns, vs, h, r => by
    obtain ⟨v, t, rfl, a, b⟩ := r.inv_cons
    cases d with
    | str i =>
      simp only [asStrs] at h
      cases e : asStrs ds with
      | none => rw [e] at h; cases h
      | some ms =>
        rw [e] at h
        cases h
        rw [a.str_inv.1, asStrs_rep e b]
        rfl
    | _ => simp only [asStrs] at h; cases h
theorem repInts {K : PySem.W.Frag} {F : Hp} : ∀ ns : List Int, RepAll K F (ns.map V.int) (ns.map PyData.int)
  | [] => .nil
  | n :: ns => .cons (.int n) (repInts ns)

theorem c_len : Call1 X z W τ m (f1R .len) (fun xs H Q => ∃ x n, xs = [x] ∧ LenV X.K x H n ∧ Q (.int n) H) := by
  intro F H G σ ρ Q d v e h env r w
  cases d <;> simp only [f1R] at h <;> first | cases h | skip
  · rename_i x
    split at h
    · rename_i c
      cases h
      obtain ⟨rfl, _⟩ := Rep.str_inv r
      exact ⟨_, _, rfl, ⟨by rw [line_eq]; exact c, rfl⟩, endFlat env w (.int _) (fun _ h => nomatch h)⟩
    · cases h
  · obtain ⟨a, vs, rfl, hs, q⟩ := r
    refine ⟨_, _, rfl, .inl ⟨vs, hs, rfl⟩, ?_⟩
    rw [q.length]
    exact endFlat env w (.int _) (fun _ h => nomatch h)
  · obtain ⟨a, vs, rfl, hs, q⟩ := Rep.tuple r
    refine ⟨_, _, rfl, .inr ⟨vs, SqT_mono env.ext.sub hs, rfl⟩, ?_⟩
    rw [q.length]
    exact endFlat env w (.int _) (fun _ h => nomatch h)
theorem c_tuple : Call1 X z W τ m (f1R .tuple) (fun xs H Q => ∃ p ys, xs = [.ref p] ∧ ((SqL X.K H p ys ∧ ∀ l, H l = none → Q (.ref l) (upd H l (.tup ys))) ∨ (SqT X.K H p ys ∧ Q (.ref p) H))) := by
  intro F H G σ ρ Q d v e h env r w
  cases d <;> simp only [f1R] at h <;> first | cases h | skip
  · obtain ⟨a, vs, rfl, hs, q⟩ := r
    refine ⟨_, vs, rfl, .inl ⟨hs, fun l hl => ?_⟩⟩
    exact w _ _ _ (.alloc env.ext.sub hl) (.flat (.ofTuple (.of upd_same) (q.mono (same_upd (env.ext.sub.free hl)))) (fun _ h => nomatch h) m)
  · obtain ⟨a, vs, rfl, hs, q⟩ := Rep.tuple r
    exact ⟨_, vs, rfl, .inr ⟨SqT_mono env.ext.sub hs, endFlat env w (.ofTuple hs q) (fun _ h => nomatch h)⟩⟩
theorem c_list (hm : m = .fresh) : Call1 X z W τ m (f1R .list) (fun xs H Q => ∃ p ys, xs = [.ref p] ∧ (SqL X.K H p ys ∨ SqT X.K H p ys) ∧ ∀ l, H l = none → Q (.ref l) (upd H l (.lst ys))) := by
  intro F H G σ ρ Q d v e h env r w
  cases d <;> simp only [f1R] at h <;> first | cases h | skip
  · obtain ⟨a, vs, rfl, hs, q⟩ := r
    exact ⟨_, vs, rfl, .inl hs, fun l hl => own_list hm env w q hl⟩
  · obtain ⟨a, vs, rfl, hs, q⟩ := Rep.tuple r
    exact ⟨_, vs, rfl, .inr (SqT_mono env.ext.sub hs), fun l hl => own_list hm env w q hl⟩
theorem strOk_digits (i : Int) : PyData.strOk (toString i : Str) = true := by
  have key : ∀ s : String, PyData.strOk (Str.ofString s) = true := fun s => by
    unfold PyData.strOk
    rw [Array.all_eq_true_iff_forall_mem]
    intro c hc
    have e : (Str.ofString s).cps = (s.toList.map Char.toNat).toArray := by rw [Str.ofString_eq_toList]
    rw [e] at hc
    obtain ⟨ch, _, rfl⟩ := List.mem_map.mp (by simpa using hc)
    have := ch.valid
    unfold UInt32.isValidChar Nat.isValidChar at this
    show decide (ch.toNat < 1114112) = true
    rw [decide_eq_true_eq]
    have : ch.toNat = ch.val.toNat := rfl
    omega
  exact key _
theorem c_str : Call1 X z W τ m (f1R .str) (fun xs H Q => ∃ i, xs = [.int i] ∧ i.natAbs.log2 < 1920 ∧ Q (.str (toString i)) H) := by
  intro F H G σ ρ Q d v e h env r w
  cases d <;> simp only [f1R] at h <;> first | cases h | skip
  rename_i i
  split at h
  · rename_i c
    cases h
    rw [Rep.int_inv r]
    exact ⟨i, rfl, c, endFlat env w (.str (strOk_digits i)) (fun _ h => nomatch h)⟩
  · cases h
theorem c_int : Call1 X z W τ m (f1R .int) (fun xs H Q => (∃ i, xs = [.int i] ∧ Q (.int i) H) ∨ ∃ k, xs = [.bl k] ∧ Q (.int (if k then 1 else 0)) H) := by
  intro F H G σ ρ Q d v e h env r w
  cases d <;> simp only [f1R] at h <;> first | cases h | skip
  · rename_i k
    rw [Rep.bl_inv r]
    exact .inr ⟨k, rfl, endFlat env w (.int _) (fun _ h => nomatch h)⟩
  · rename_i i
    rw [Rep.int_inv r]
    exact .inl ⟨i, rfl, endFlat env w (.int _) (fun _ h => nomatch h)⟩
theorem c_sum : Call1 X z W τ m (f1R .sum) (rSum X.K) := by
  intro F H G σ ρ Q d v e h env r w
  cases d <;> simp only [f1R] at h <;> first | cases h | skip
  rename_i ds
  split at h
  · rename_i ns en
    cases h
    obtain ⟨a, vs, rfl, hs, q⟩ := r
    rw [asInts_rep en q] at hs
    exact ⟨a, ns, rfl, hs, endFlat env w (.int _) (fun _ h => nomatch h)⟩
  · cases h
theorem maxI_mem : ∀ (ns : List Int), ns ≠ [] → maxI ns ∈ ns ∧ ∀ y ∈ ns, y ≤ maxI ns
  | [], h => absurd rfl h
  | [i], _ => ⟨by simp [maxI], by simp [maxI]⟩
  | i :: j :: r, _ => by
    obtain ⟨h1, h2⟩ := maxI_mem (j :: r) (by simp)
    have e : maxI (i :: j :: r) = max i (maxI (j :: r)) := rfl
    rw [e]
    refine ⟨?_, fun y hy => ?_⟩
    · by_cases c : i ≤ maxI (j :: r)
      · rw [Int.max_eq_right c]; exact List.mem_cons_of_mem _ h1
      · rw [Int.max_eq_left (by omega)]; exact List.mem_cons_self
    · rcases List.mem_cons.mp hy with rfl | hy
      · exact Int.le_max_left ..
      · exact Int.le_trans (h2 y hy) (Int.le_max_right ..)
theorem minI_mem : ∀ (ns : List Int), ns ≠ [] → minI ns ∈ ns ∧ ∀ y ∈ ns, minI ns ≤ y
  | [], h => absurd rfl h
  | [i], _ => ⟨by simp [minI], by simp [minI]⟩
  | i :: j :: r, _ => by
    obtain ⟨h1, h2⟩ := minI_mem (j :: r) (by simp)
    have e : minI (i :: j :: r) = min i (minI (j :: r)) := rfl
    rw [e]
    refine ⟨?_, fun y hy => ?_⟩
    · by_cases c : i ≤ minI (j :: r)
      · rw [Int.min_eq_left c]; exact List.mem_cons_self
      · rw [Int.min_eq_right (by omega)]; exact List.mem_cons_of_mem _ h1
    · rcases List.mem_cons.mp hy with rfl | hy
      · exact Int.min_le_left ..
      · exact Int.le_trans (Int.min_le_right ..) (h2 y hy)
theorem c_max : Call1 X z W τ m (f1R .max) (rMax X.K) := by
  intro F H G σ ρ Q d v e h env r w
  cases d <;> simp only [f1R] at h <;> first | cases h | skip
  rename_i ds
  split at h
  · rename_i n ns en
    cases h
    obtain ⟨a, vs, rfl, hs, q⟩ := r
    rw [asInts_rep en q] at hs
    refine ⟨a, _, rfl, hs, by simp, fun m' h1 h2 => ?_⟩
    obtain ⟨k1, k2⟩ := maxI_mem (n :: ns) (by simp)
    have e : m' = maxI (n :: ns) := by
      have := h2 _ k1
      have := k2 _ h1
      omega
    rw [e]
    exact endFlat env w (.int _) (fun _ h => nomatch h)
  · cases h
theorem c_min : Call1 X z W τ m (f1R .min) (rMin X.K) := by
  intro F H G σ ρ Q d v e h env r w
  cases d <;> simp only [f1R] at h <;> first | cases h | skip
  rename_i ds
  split at h
  · rename_i n ns en
    cases h
    obtain ⟨a, vs, rfl, hs, q⟩ := r
    rw [asInts_rep en q] at hs
    refine ⟨a, _, rfl, hs, by simp, fun m' h1 h2 => ?_⟩
    obtain ⟨k1, k2⟩ := minI_mem (n :: ns) (by simp)
    have e : m' = minI (n :: ns) := by
      have := h2 _ k1
      have := k2 _ h1
      omega
    rw [e]
    exact endFlat env w (.int _) (fun _ h => nomatch h)
  · cases h
/-! sorting -/
theorem insI_perm (i : Int) : ∀ l : List Int, (insI i l).Perm (i :: l)
  | [] => .refl _
  | j :: r => by
    unfold insI
    split
    · exact .refl _
    · exact .trans (.cons j (insI_perm i r)) (.swap i j r)
theorem insI_sorted (i : Int) : ∀ l : List Int, l.Pairwise (· ≤ ·) → (insI i l).Pairwise (· ≤ ·)
  | [], _ => by simp [insI]
  | j :: r, h => by
    unfold insI
    have hj := List.pairwise_cons.mp h
    split
    · rename_i c
      refine List.pairwise_cons.mpr ⟨fun y hy => ?_, h⟩
      rcases List.mem_cons.mp hy with rfl | hy
      · exact c
      · exact Int.le_trans c (hj.1 y hy)
    · rename_i c
      refine List.pairwise_cons.mpr ⟨fun y hy => ?_, insI_sorted i r hj.2⟩
      rcases List.mem_cons.mp ((insI_perm i r).mem_iff.mp hy) with rfl | hy
      · omega
      · exact hj.1 y hy
theorem sortI_perm : ∀ l : List Int, (sortI l).Perm l
  | [] => .refl _
  | i :: r => .trans (insI_perm i _) (.cons i (sortI_perm r))
theorem sortI_sorted : ∀ l : List Int, (sortI l).Pairwise (· ≤ ·)
  | [] => .nil
  | i :: r => insI_sorted i _ (sortI_sorted r)
theorem sorted_eq : ∀ {l m : List Int}, l.Perm m → l.Pairwise (· ≤ ·) → m.Pairwise (· ≤ ·) → l = m
  | [], m, p, _, _ => (List.nil_perm.mp p).symm
  | a :: l, [], p, _, _ => by simpa using p.length_eq
  | a :: l, b :: m, p, h1, h2 => by
    obtain ⟨a1, a2⟩ := List.pairwise_cons.mp h1
    obtain ⟨b1, b2⟩ := List.pairwise_cons.mp h2
    have e : a = b := by
      have x1 : a ∈ b :: m := p.mem_iff.mp List.mem_cons_self
      have x2 : b ∈ a :: l := p.mem_iff.mpr List.mem_cons_self
      rcases List.mem_cons.mp x1 with z | z
      · exact z
      · rcases List.mem_cons.mp x2 with y | y
        · exact y.symm
        · have := a1 b y
          have := b1 a z
          omega
    subst e
    rw [sorted_eq (List.perm_cons a |>.mp p) a2 b2]
theorem c_sorted (hm : m = .fresh) : Call1 X z W τ m (f1R .sorted) (rSortedI X.K) := by
  intro F H G σ ρ Q d v e h env r w
  cases d <;> simp only [f1R] at h <;> first | cases h | skip
  rename_i ds
  split at h
  · rename_i ns en
    cases h
    obtain ⟨a, vs, rfl, hs, q⟩ := r
    rw [asInts_rep en q] at hs
    refine ⟨a, ns, rfl, hs, fun ns' p hp hw hn => ?_⟩
    have e : ns' = sortI ns := sorted_eq (hp.trans (sortI_perm ns).symm) hw (sortI_sorted ns)
    rw [e]
    exact own_list hm env w (repInts _) hn
  · cases h

/-! ## isinstance -/
theorem tyx_list {K : PySem.W.Frag} {H : Hp} {a : Addr} {xs : List V} (h : SqL K H a xs) : TyX K H (.ref a) (.type "list") := by
  rcases h with (h | ⟨o, h⟩) | ⟨o, its, n, h1, h2, _⟩
  · exact .base (.lst h)
  · exact .base (.frz h)
  · exact .kList h1 h2
theorem tyx_tuple {K : PySem.W.Frag} {H : Hp} {a : Addr} {xs : List V} (h : SqT K H a xs) : TyX K H (.ref a) (.type "tuple") := by
  rcases h with (h | ⟨o, h⟩) | ⟨o, its, n, h1, h2, _⟩
  · exact .base (.tup h)
  · exact .fTuple h
  · exact .kTuple h1 h2
def tyName : Ty → String
  | .tuple => "tuple" | .int => "int" | .bool => "bool" | .str => "str" | .list => "list" | .valueError => "ValueError" | .exc _ => ""
def dTy : D → String
  | .none => "NoneType" | .bool _ => "bool" | .int _ => "int" | .str _ => "str" | .list _ => "list" | .tuple _ => "tuple" | .dict _ => ""
theorem tyx_of {K : PySem.W.Frag} {F G H : Hp} {v : V} {d : D} (s : Same F H) (r : Res K F G H v d .peek) : TyX K H v (.type (dTy d)) := by
  cases d with
  | none => rw [Rep.non_inv r]; exact .base .non
  | bool b => rw [Rep.bl_inv r]; exact .base (.bl b)
  | int b => rw [Rep.int_inv r]; exact .base (.int b)
  | str b => rw [(Rep.str_inv r).1]; exact .base (.str b)
  | list ds => obtain ⟨a, vs, rfl, hs, q⟩ := r; exact tyx_list hs
  | tuple ds => obtain ⟨a, vs, rfl, hs, q⟩ := Rep.tuple r; exact tyx_tuple (SqT_mono s hs)
  | dict x => exact (Rep.dict_inv r).elim
def plainTy : Ty → Bool
  | .tuple | .int | .bool | .str | .list => true
  | _ => false
theorem kit_all {K : PySem.W.Frag} {t : Ty} (hp : plainTy t = true) {d : D} {k : Bool} (h : isiR t d = ok k) : PySem.W.kitOne K (.type (dTy d)) (.type (tyName t)) = some k := by
  cases t <;> first | exact absurd hp Bool.false_ne_true | skip
  all_goals (cases d <;> simp only [isiR] at h <;> first | cases h | skip)
  all_goals (refine kit_ty ?_; simp only [dTy, tyName]; decide +kernel)
theorem boot_ty {t : Ty} (hp : plainTy t = true) : bootBuiltins (Str.ofString (tyName t)) = some (.type (tyName t)) := by
  cases t <;> first | exact absurd hp Bool.false_ne_true | (simp only [tyName]; decide +kernel)
theorem isi_cases (t : Ty) (hp : plainTy t = true) (d : D) : (∃ k, isiR t d = ok k) ∨ isiR t d = stuck := by
  cases t <;> first | exact absurd hp Bool.false_ne_true | skip
  all_goals (cases d <;> simp only [isiR] <;> first | exact .inl ⟨_, rfl⟩ | exact .inr rfl | exact .inr trivial)
theorem s_isi {t : Ty} {a : Expr} {p p2 : Pos} {s1 : Env → R D} (hp : plainTy t = true) (hg : Gl X "isinstance") (hm : X.mg "isinstance" = none) (hg2 : Gl X (Str.ofString (tyName t))) (hm2 : X.mg (Str.ofString (tyName t)) = none)
    (ha : PE X a (tE X.K X.mg z W τ .peek s1)) (hs : NoStar a) :
    PE X (.Call (.Name "isinstance" p) [a, .Name (Str.ofString (tyName t)) p2] [] pos) (tE X.K X.mg z W τ m fun ρ => (s1 ρ).bind fun x => (isiR t x).bind fun k => ok (.bool k)) := by
  have hty : PE X (.Name (Str.ofString (tyName t)) p2) (tC (.ty (tyName t))) := by
    refine pe_bltn hg2 hm2 (boot_ty hp) rfl ?_ ?_
    · cases t <;> first | exact absurd hp Bool.false_ne_true | (simp only [tyName]; decide)
    · cases t <;> first | exact absurd hp Bool.false_ne_true | (simp only [tyName]; decide)
  refine PE.imp (pe_callB call_isi hg hm (by decide +kernel) (pa_cons ha (pa_cons hty pa_nil rfl) (hs _ _)) (by decide) (by decide) (hs _ _) rfl) ?_
  rintro σ H Q ⟨F, ρ, env, w⟩
  refine stepE (likeE ..) env w fun d v F1 H1 e x env1 r1 w1 => ?_
  rcases isi_cases t hp d with ⟨k, h⟩ | h
  · rw [h] at w1
    exact ⟨v, .ty (tyName t), _, _, k, rfl, .ty _, tyx_of env1.ext.sub r1, kit_all hp h, endFlat env1 w1 (.bl k) (fun _ h => nomatch h)⟩
  · rw [h] at w1; exact w1.elim

/-! ## an item, a slice -/
theorem s_idx {a b : Expr} {s1 s2 : Env → R D} (ha : PE X a (tE X.K X.mg z W τ .peek s1)) (hb : PE X b (tE X.K X.mg z W τ .peek s2)) (hs : PlainIx b) (hm : m = .frz ∨ m = .peek) :
    PE X (.Subscript a b pos) (tE X.K X.mg z W τ m fun ρ => (s1 ρ).bind fun x => (s2 ρ).bind fun y => idxR x y) := by
  refine PE.imp (pe_ix ix_seq ha hb hs) ?_
  rintro σ H Q ⟨F, ρ, env, w⟩
  refine stepE (likeE ..) env w fun d v F1 H1 e x env1 r w1 => ?_
  refine stepE (likeE ..) env1 w1 fun d2 v2 F2 H2 e2 x2 env2 r2 w2 => ?_
  have fin : ∀ {y : V} {e : D}, Rep X.K F2 y e → PostE X.K X.mg z W m F2 H2 σ Q (ok e) → Q y H2 := fun {y e} ry wy => by
    refine wy y F2 H2 (.refl env2.ext.sub) ?_
    rcases hm with rfl | rfl
    · exact ry
    · exact .of_rep env2.ext.sub ry
  have at_ : ∀ {ds : List D} {vs : List V} {k : Int} {e : D}, RepAll X.K F2 vs ds → atI ds k = some e → ∃ y, atI vs k = some y ∧ Rep X.K F2 y e := fun {ds vs k e} q h => by
    unfold atI at h ⊢
    rw [q.length]
    cases hi : ixN ds.length k with
    | none => rw [hi] at h; cases h
    | some j =>
      rw [hi] at h
      exact q.get h
  cases d2 <;> first | (cases d <;> simp only [idxR] at w2 <;> exact w2.elim) | skip
  rename_i k
  have ek := Rep.int_inv r2
  cases d <;> simp only [idxR, nthI] at w2 <;> first | exact w2.elim | skip
  · rename_i xs
    obtain ⟨rfl, ok1⟩ := Rep.str_inv r
    split at w2
    · rename_i c
      cases h : atI xs.cps.toList k with
      | none => rw [h] at w2; exact w2.elim
      | some cc =>
        rw [h] at w2
        refine .inr (.inr ⟨xs, k, cc, rfl, ek, by rw [line_eq]; exact c, h, fin (.str ?_) w2⟩)
        obtain ⟨j, _, hj, _⟩ := atI_get h
        unfold PyData.strOk at ok1 ⊢
        rw [Array.all_eq_true_iff_forall_mem] at ok1
        have hmem : cc ∈ xs.cps := by
          have := List.mem_of_getElem? hj
          simpa using this
        have := ok1 cc hmem
        simpa using this
    · exact w2.elim
  · rename_i xs
    obtain ⟨p, vs, rfl, hs1, q1⟩ := r
    cases h : atI xs k with
    | none => rw [h] at w2; exact w2.elim
    | some e =>
      rw [h] at w2
      obtain ⟨y, hy, ry⟩ := at_ (q1.mono x2.sF) h
      exact .inl ⟨p, vs, k, y, rfl, ek, x2.sH.seq hs1, hy, fin ry w2⟩
  · rename_i xs
    obtain ⟨p, vs, rfl, hs1, q1⟩ := Rep.tuple r
    cases h : atI xs k with
    | none => rw [h] at w2; exact w2.elim
    | some e =>
      rw [h] at w2
      obtain ⟨y, hy, ry⟩ := at_ (q1.mono x2.sF) h
      exact .inr (.inl ⟨p, vs, k, y, rfl, ek, SqT_mono env2.ext.sub (SqT_mono x2.sF hs1), hy, fin ry w2⟩)
end
end Pyr

namespace Pyr
open PySem L2 PyProof.Rows
open R (ok exc stuck)
section
variable {X : Cx} {z : Z} {W : WX} {τ : List Nat} {m : Md} {pos : Pos}

/-! ## slices -/
def rSlAll (K : PySem.W.Frag) : V → Option Int → Option Int → Hp → VK → Prop := fun x lo hi H Q => rSlL K x lo hi H Q ∨ rSlA K x lo hi H Q ∨ rSlS x lo hi H Q
theorem sl_all : SlR X (rSlAll X.K) := SlR.or sl_list (SlR.or sl_tupA sl_str)
theorem strOk_cut {x : Str} {lo hi : Option Int} (h : PyData.strOk x = true) : PyData.strOk (cutS x lo hi) = true := by
  unfold PyData.strOk at h ⊢
  rw [Array.all_eq_true_iff_forall_mem] at h ⊢
  intro c hc
  refine h c ?_
  unfold cutS at hc
  have hc' := List.mem_of_mem_drop (List.mem_of_mem_take (by simpa using hc))
  simpa using hc'
theorem cut_ok {K : PySem.W.Frag} {mg : Str → Option Value} {F H G : Hp} {σ : L2.St} {Q : VK} {d : D} {x : V} {lo hi : Option Int} {ρ : Env} (hm : m = .fresh) (env : Ev K z τ F H σ ρ) (r : Res K F G H x d .peek) (w : PostE K mg z W m F H σ Q (cutR d lo hi)) : rSlAll K x lo hi H Q := by
  have s := env.ext.sub
  cases d <;> simp only [cutR] at w <;> first | exact w.elim | skip
  · rename_i y
    obtain ⟨rfl, o⟩ := Rep.str_inv r
    split at w
    · rename_i c
      refine .inr (.inr ⟨y, rfl, by rw [line_eq]; exact c, ?_⟩)
      have e : (⟨(cutL y.cps.toList lo hi).toArray⟩ : Str) = cutS y lo hi := by
        unfold cutL cutS
        have : y.cps.toList.length = y.length := by simp [Str.length]
        rw [this]
      rw [e] at w
      exact endFlat env w (.str (strOk_cut o)) (fun _ h => nomatch h)
    · exact w.elim
  · rename_i xs
    obtain ⟨a, vs, rfl, hs, q⟩ := r
    refine .inl ⟨a, vs, rfl, hs, fun p hp => ?_⟩
    have l := q.length
    refine own_list hm env w ?_ hp
    unfold cutV cutL
    rw [l]
    exact (q.drop _).take _
  · rename_i xs
    obtain ⟨a, vs, rfl, hs, q⟩ := Rep.tuple r
    have l := q.length
    refine .inr (.inl ⟨a, vs, rfl, SqT_mono s hs, fun e => ?_, fun _ p hp => ?_⟩)
    · obtain ⟨e1, e2⟩ := e
      rw [l] at e1 e2
      have ec : cutL xs lo hi = xs := by
        unfold cutL
        rw [e1, e2]
        simp
      rw [ec] at w
      exact endFlat env w (.ofTuple hs q) (fun _ h => nomatch h)
    · refine w _ _ _ (.alloc s hp) (.flat (.ofTuple (.of upd_same) (RepAll.mono ?_ (same_upd (s.free hp)))) (fun _ h => nomatch h) m)
      unfold cutV cutL
      rw [l]
      exact (q.drop _).take _
theorem part_ok {F H G : Hp} {K : PySem.W.Frag} {d : D} {v : V} {i : Int} (h : partR d = ok i) (r : Res K F G H v d .peek) : v = .int i := by
  cases d <;> simp only [partR] at h <;> first | cases h | skip
  exact Rep.int_inv r
theorem part_cases (d : D) : (∃ i, partR d = ok i) ∨ partR d = stuck := by
  cases d <;> simp only [partR] <;> first | exact .inl ⟨_, rfl⟩ | exact .inr rfl | exact .inr trivial
theorem s_slf {a lo : Expr} {p2 : Pos} {s1 s2 : Env → R D} (ha : PE X a (tE X.K X.mg z W τ .peek s1)) (hb : PE X lo (tE X.K X.mg z W τ .peek s2)) (hm : m = .fresh) :
    PE X (.Subscript a (.Slice (some lo) none none p2) pos) (tE X.K X.mg z W τ m fun ρ => (s1 ρ).bind fun x => (s2 ρ).bind fun l => (partR l).bind fun i => cutR x (some i) none) := by
  refine PE.imp (pe_slice sl_all ha (po_some hb) po_none) ?_
  rintro σ H Q ⟨F, ρ, env, w⟩
  refine stepE (likeE ..) env w fun d v F1 H1 e x env1 r w1 => ?_
  refine stepE (likeE ..) env1 w1 fun d2 v2 F2 H2 e2 x2 env2 r2 w2 => ?_
  rcases part_cases d2 with ⟨i, h⟩ | h
  · rw [h] at w2
    exact ⟨i, part_ok h r2, cut_ok hm env2 (r.peek_mono x2) w2⟩
  · rw [h] at w2; exact w2.elim
theorem s_slt {a hi : Expr} {p2 : Pos} {s1 s2 : Env → R D} (ha : PE X a (tE X.K X.mg z W τ .peek s1)) (hb : PE X hi (tE X.K X.mg z W τ .peek s2)) (hm : m = .fresh) :
    PE X (.Subscript a (.Slice none (some hi) none p2) pos) (tE X.K X.mg z W τ m fun ρ => (s1 ρ).bind fun x => (s2 ρ).bind fun l => (partR l).bind fun i => cutR x none (some i)) := by
  refine PE.imp (pe_slice sl_all ha po_none (po_some hb)) ?_
  rintro σ H Q ⟨F, ρ, env, w⟩
  refine stepE (likeE ..) env w fun d v F1 H1 e x env1 r w1 => ?_
  refine stepE (likeE ..) env1 w1 fun d2 v2 F2 H2 e2 x2 env2 r2 w2 => ?_
  rcases part_cases d2 with ⟨i, h⟩ | h
  · rw [h] at w2
    exact ⟨i, part_ok h r2, cut_ok hm env2 (r.peek_mono x2) w2⟩
  · rw [h] at w2; exact w2.elim
theorem s_slb {a lo hi : Expr} {p2 : Pos} {s1 s2 s3 : Env → R D} (ha : PE X a (tE X.K X.mg z W τ .peek s1)) (hb : PE X lo (tE X.K X.mg z W τ .peek s2)) (hc : PE X hi (tE X.K X.mg z W τ .peek s3)) (hm : m = .fresh) :
    PE X (.Subscript a (.Slice (some lo) (some hi) none p2) pos) (tE X.K X.mg z W τ m fun ρ => (s1 ρ).bind fun x => (s2 ρ).bind fun l => (partR l).bind fun i => (s3 ρ).bind fun h => (partR h).bind fun j => cutR x (some i) (some j)) := by
  refine PE.imp (pe_slice sl_all ha (po_some hb) (po_some hc)) ?_
  rintro σ H Q ⟨F, ρ, env, w⟩
  refine stepE (likeE ..) env w fun d v F1 H1 e x env1 r w1 => ?_
  refine stepE (likeE ..) env1 w1 fun d2 v2 F2 H2 e2 x2 env2 r2 w2 => ?_
  rcases part_cases d2 with ⟨i, h⟩ | h
  · rw [h, R.bind_ok] at w2
    refine ⟨i, part_ok h r2, ?_⟩
    refine stepE (likeE ..) env2 w2 fun d3 v3 F3 H3 e3 x3 env3 r3 w3 => ?_
    rcases part_cases d3 with ⟨j, h⟩ | h
    · rw [h] at w3
      exact ⟨j, part_ok h r3, cut_ok hm env3 (r.peek_mono (x2.trans x3)) w3⟩
    · rw [h] at w3; exact w3.elim
  · rw [h] at w2; exact w2.elim
/-- a list from behind -/
theorem s_rev {a : Expr} {k : Nat} {p1 p2 p3 : Pos} {s1 : Env → R D} (ha : PE X a (tE X.K X.mg z W τ .peek s1)) (hm : m = .fresh) :
    PE X (.Subscript a (.Slice none none (some (.UnaryOp .USub (.Constant (.int 1) k p1) p2)) p3) pos) (tE X.K X.mg z W τ m fun ρ => (s1 ρ).bind fun x => revR x) := by
  refine PE.imp (pe_revL ha) ?_
  rintro σ H Q ⟨F, ρ, env, w⟩
  refine stepE (likeE ..) env w fun d v F1 H1 e x env1 r w1 => ?_
  cases d <;> simp only [revR] at w1 <;> first | exact w1.elim | skip
  obtain ⟨a, vs, rfl, hs, q⟩ := r
  exact ⟨a, vs, rfl, hs, fun p hp => own_list hm env1 w1 q.reverse hp⟩

/-! ## calls of the text's own defs -/
/-- what a def of the small language promises -/
def spF (K : PySem.W.Frag) (mg : Str → Option Value) (xt : XTab) (f : List D → R D) (fr : Bool) : Sp := fun vs H Q E => ∃ F ds, Same F H ∧ RepAll K F vs ds ∧ (match f ds with
  | .ok d => ∀ v F' H', Ext F H F' H' → Res K F' H H' v d (if fr then .fresh else .frz) → Q v H'
  | .exc c g => ∀ F' H' cls dx, Ext F H F' H' → ExcR K mg xt F' c g cls dx → E cls dx H'
  | .stuck => False)
/-- a def stands under its name -/
structure FnAt (X : Cx) (xt : XTab) (k : Nat) (x : Str) (f : List D → R D) (fr : Bool) (ad : Addr) (fd : FuncData) (ps : List Str) : Prop where
  ok : FnOk X.prog X.w X.K X.mg X.base (L2.CX X.prog X.w) k ad fd ps (spF X.K X.mg xt f fr)
  mg : X.mg x = some (.ref ad)
  kp : PySem.W.keepIn X.K (.ref ad) = true
  bd : Binds X.K fd ps []
theorem sp_of {K : PySem.W.Frag} {mg : Str → Option Value} {F H : Hp} {σ : L2.St} {Q : VK} {f : List D → R D} {fr : Bool} {vs : List V} {ds : List D} {ρ : Env} (hm : m = if fr then .fresh else .frz) (env : Ev K z τ F H σ ρ) (r : RepAll K F vs ds) (w : PostE K mg z W m F H σ Q (f ds)) :
    spF K mg z.xt f fr vs H Q (WE W σ) := by
  subst hm
  refine ⟨F, ds, env.ext.sub, r, ?_⟩
  cases e : f ds with
  | ok d => rw [e] at w; exact w
  | exc c g => rw [e] at w; exact w
  | stuck => rw [e] at w; exact w
theorem s_call {x : Str} {p : Pos} {k : Nat} {f : List D → R D} {fr : Bool} {ad : Addr} {fd : FuncData} {ps : List Str} {e : Expr} {es : List Expr} {s1 : Env → R (List D)} (G : FnAt X z.xt k x f fr ad fd ps) (hr : Room k X.A) (tk : Takes X W) (hg : Gl X x) (hdb : (x == ("__debug__" : Str)) = false)
    (ha : PA X (e :: es) (tA X.K X.mg z W τ s1)) (hs : ∀ a ∈ e :: es, NoStar a) (hm : m = if fr then .fresh else .frz) :
    PE X (.Call (.Name x p) (e :: es) [] pos) (tE X.K X.mg z W τ m fun ρ => (s1 ρ).bind fun ds => f ds) := by
  refine PE.imp (pe_callS (E := WE W) G.ok hr hg G.mg G.kp G.bd (fun σ => passAt tk σ) ha hdb (hs e List.mem_cons_self _ _) (noStar_all fun a q => hs a (List.mem_cons_of_mem _ q))) ?_
  rintro σ H Q ⟨F, ρ, env, w⟩
  refine stepA (likeE ..) env w fun ds vs F1 H1 e1 x1 env1 r w1 => ?_
  exact sp_of hm env1 r w1
/-- without arguments -/
theorem pe_callS0 {CX : CXT} {k : Nat} {f : Addr} {fd : FuncData} {ps : List Str} {sp : Sp} {E : L2.St → XK} {x : Str} {p pos : Pos} (F : FnOk X.prog X.w X.K X.mg X.base CX k f fd ps sp) (hr : Room k X.A) (hg : Gl X x) (hm : X.mg x = some (.ref f)) (hk : PySem.W.keepIn X.K (.ref f) = true) (hb : Binds X.K fd ps []) (hx : ∀ σ, PassesAt CX X σ (E σ))
    (hdb : (x == ("__debug__" : Str)) = false := by decide) : PE X (.Call (.Name x p) [] [] pos) (fun σ H Q => sp [] H Q (E σ)) := by
  refine ⟨fun pins s σ H Q I h => ?_⟩
  refine wpAny_Call_Name_kw (ld_glob I hg hm ?_ hdb)
  exact PySem.W.callWith_K0 I.kIn hk (run_fnS F hr hb (hx σ) I .nil h)
end
end Pyr

namespace Pyr
open PySem L2 PyProof.Rows
open R (ok exc stuck)

/-! # Walks -/
/-- J yields the data ds, one after the other, in each heap that keeps F -/
def WalksD (K : PySem.W.Frag) (J : It) (F : Hp) (ds : List D) : Prop := ∀ F' H', Same F F' → Same F' H' → ∀ i,
  (∀ d, ds[i]? = some d → J.go i H' ∧ ∀ x H2, J.yld i H' x H2 → ∃ F2, Ext F' H' F2 H2 ∧ Rep K F2 x d) ∧ (ds.length ≤ i → J.stop i H')
theorem Rep.list_at {K : PySem.W.Frag} {F : Hp} {a : Addr} {ds : List D} {vs : List V} (h : RepAll K F vs ds) {i : Nat} {d : D} (e : ds[i]? = some d) {x : V} (ex : vs[i]? = some x) : Rep K F x d := by
  obtain ⟨v, e1, r⟩ := h.get e
  rw [ex] at e1; cases e1; exact r
theorem walks_list {K : PySem.W.Frag} {F : Hp} {a : Addr} {vs : List V} {ds : List D} (h : SqL K F a vs) (r : RepAll K F vs ds) : WalksD K (Itl K a) F ds := by
  intro F' H' s1 s2 i
  have h' : SqL K H' a vs := s2.seq (s1.seq h)
  refine ⟨fun d e => ?_, fun l => ⟨vs, h', by rw [r.length]; exact l⟩⟩
  obtain ⟨v, e1, q⟩ := r.get e
  refine ⟨⟨vs, v, h', e1⟩, ?_⟩
  rintro x H2 ⟨rfl, hx⟩
  have ex := hx vs h'
  rw [e1] at ex; cases ex
  exact ⟨F', .refl s2, q.mono s1⟩
theorem walks_tup {K : PySem.W.Frag} {F : Hp} {a : Addr} {vs : List V} {ds : List D} (h : SqT K F a vs) (r : RepAll K F vs ds) : WalksD K (Itt K a) F ds := by
  intro F' H' s1 s2 i
  have h' : SqT K H' a vs := SqT_mono s2 (SqT_mono s1 h)
  refine ⟨fun d e => ?_, fun l => ⟨vs, h', by rw [r.length]; exact l⟩⟩
  obtain ⟨v, e1, q⟩ := r.get e
  refine ⟨⟨vs, v, h', e1⟩, ?_⟩
  rintro x H2 ⟨rfl, hx⟩
  have ex := hx vs h'
  rw [e1] at ex; cases ex
  exact ⟨F', .refl s2, q.mono s1⟩
theorem strOk_one {x : Str} (h : PyData.strOk x = true) {i c : Nat} (e : x.cps[i]? = some c) : PyData.strOk (⟨#[c]⟩ : Str) = true := by
  unfold PyData.strOk at h ⊢
  rw [Array.all_eq_true_iff_forall_mem] at h ⊢
  intro b hb
  have : b = c := by simpa using hb
  subst this
  exact h b (Array.mem_of_getElem? e)
theorem walks_str {K : PySem.W.Frag} {F : Hp} {x : Str} (h : PyData.strOk x = true) : WalksD K (Its x) F (x.cps.toList.map fun c => .str ⟨#[c]⟩) := by
  intro F' H' s1 s2 i
  refine ⟨fun d e => ?_, fun l => by simpa [Its] using l⟩
  rw [List.getElem?_map, Option.map_eq_some_iff] at e
  obtain ⟨c, e1, rfl⟩ := e
  have e1 : x.cps[i]? = some c := by simpa using e1
  refine ⟨(Array.getElem?_eq_some_iff.mp e1).1, ?_⟩
  rintro v H2 ⟨rfl, c', e2, rfl⟩
  rw [e1] at e2; cases e2
  exact ⟨F', .refl s2, .str (strOk_one h e1)⟩
theorem walks_range {K : PySem.W.Frag} {F : Hp} {lo : Int} {n : Nat} : WalksD K (Itr lo n) F ((List.range n).map fun (k : Nat) => .int (lo + k)) := by
  intro F' H' s1 s2 i
  refine ⟨fun d e => ?_, fun l => by simpa [Itr] using l⟩
  rw [List.getElem?_map, Option.map_eq_some_iff] at e
  obtain ⟨c, e1, rfl⟩ := e
  obtain ⟨hi, e2⟩ := List.getElem?_eq_some_iff.mp e1
  have hi : i < n := by simpa using hi
  have e2 : i = c := by simpa using e2
  subst e2
  refine ⟨hi, ?_⟩
  rintro v H2 ⟨rfl, rfl⟩
  exact ⟨F', .refl s2, .int _⟩
theorem walks_down {K : PySem.W.Frag} {F : Hp} {lo : Int} {n : Nat} : WalksD K (Itc lo (-1) n) F ((List.range n).map fun (k : Nat) => .int (lo - k)) := by
  intro F' H' s1 s2 i
  refine ⟨fun d e => ?_, fun l => by simpa [Itc] using l⟩
  rw [List.getElem?_map, Option.map_eq_some_iff] at e
  obtain ⟨c, e1, rfl⟩ := e
  obtain ⟨hi, e2⟩ := List.getElem?_eq_some_iff.mp e1
  have hi : i < n := by simpa using hi
  have e2 : i = c := by simpa using e2
  subst e2
  refine ⟨hi, ?_⟩
  rintro v H2 ⟨rfl, rfl⟩
  refine ⟨F', .refl s2, ?_⟩
  have : lo + (i : Int) * -1 = lo - i := by omega
  rw [this]
  exact .int _
theorem enumL_get : ∀ (ds : List D) (n i : Nat), (enumL n ds)[i]? = (ds[i]?).map fun d => .tuple [.int ((n + i : Nat) : Int), d]
  | [], n, i => by simp [enumL]
  | d :: r, n, 0 => by simp [enumL]
  | d :: r, n, i + 1 => by
    have := enumL_get r (n + 1) i
    simp only [enumL, List.getElem?_cons_succ, this]
    congr 2
    funext d
    rw [show n + 1 + i = n + (i + 1) by omega]
theorem enumL_len : ∀ (ds : List D) (n : Nat), (enumL n ds).length = ds.length
  | [], n => rfl
  | d :: r, n => by simp [enumL, enumL_len r]
theorem walks_enum {K : PySem.W.Frag} {F : Hp} {a : Addr} {vs : List V} {ds : List D} (h : SqL K F a vs) (r : RepAll K F vs ds) : WalksD K (Ite K a) F (enumL 0 ds) := by
  intro F' H' s1 s2 i
  have h' : SqL K H' a vs := s2.seq (s1.seq h)
  refine ⟨fun d e => ?_, fun l => ⟨vs, h', by rw [r.length, ← enumL_len ds 0]; exact l⟩⟩
  rw [enumL_get, Option.map_eq_some_iff] at e
  obtain ⟨c, e1, rfl⟩ := e
  obtain ⟨v, e2, q⟩ := r.get e1
  refine ⟨⟨vs, v, h', e2⟩, ?_⟩
  rintro x H2 ⟨T, y, rfl, hT, rfl, hx⟩
  have ex := hx vs h'
  rw [e2] at ex; cases ex
  refine ⟨upd F' T _, .alloc s2 hT, ?_⟩
  have hn := s2.free hT
  refine .ofTuple (.of upd_same) ?_
  rw [show (0 + i : Nat) = i by omega]
  exact .cons (.int _) (.cons ((q.mono s1).mono (same_upd hn)) .nil)
theorem walks_rev {K : PySem.W.Frag} {F : Hp} {a : Addr} {vs : List V} {ds : List D} (h : SqL K F a vs) (r : RepAll K F vs ds) : WalksD K (Itv K a vs.length) F ds.reverse := by
  intro F' H' s1 s2 i
  have h' : SqL K H' a vs := s2.seq (s1.seq h)
  have l := r.length
  refine ⟨fun d e => ?_, fun l2 => by simpa [Itv, l] using l2⟩
  have hi : i < ds.length := by
    have := (List.getElem?_eq_some_iff.mp e).1
    simpa using this
  rw [List.getElem?_reverse hi] at e
  obtain ⟨v, e2, q⟩ := r.get e
  have e2' : vs[vs.length - 1 - i]? = some v := by rw [l]; exact e2
  refine ⟨⟨by rw [l]; exact hi, vs, v, h', e2'⟩, ?_⟩
  rintro x H2 ⟨rfl, hx⟩
  have ex := hx vs h'
  rw [e2'] at ex; cases ex
  exact ⟨F', .refl s2, q.mono s1⟩
theorem walks_revT {K : PySem.W.Frag} {F : Hp} {a : Addr} {vs : List V} {ds : List D} (h : SqT K F a vs) (r : RepAll K F vs ds) : WalksD K (RT.ItvT K a vs.length) F ds.reverse := by
  intro F' H' s1 s2 i
  have h' : SqT K H' a vs := SqT_mono s2 (SqT_mono s1 h)
  have l := r.length
  refine ⟨fun d e => ?_, fun l2 => by simpa [RT.ItvT, l] using l2⟩
  have hi : i < ds.length := by
    have := (List.getElem?_eq_some_iff.mp e).1
    simpa using this
  rw [List.getElem?_reverse hi] at e
  obtain ⟨v, e2, q⟩ := r.get e
  have e2' : vs[vs.length - 1 - i]? = some v := by rw [l]; exact e2
  refine ⟨⟨by rw [l]; exact hi, vs, v, h', e2'⟩, ?_⟩
  rintro x H2 ⟨rfl, hx⟩
  have ex := hx vs h'
  rw [e2'] at ex; cases ex
  exact ⟨F', .refl s2, q.mono s1⟩

/-- what an iterable's reading wants -/
def PostI (K : PySem.W.Frag) (z : Z) (mg : Str → Option Value) (W : WX) (F H : Hp) (σ : L2.St) (G : It → Hp → Prop) : R (List D) → Prop
  | .ok ds => ∀ J F' H', Ext F H F' H' → ds.length ≤ Line → WalksD K J F' ds → G J H'
  | .exc c f => ∀ F' H' cls dx, Ext F H F' H' → ExcR K mg z.xt F' c f cls dx → W cls dx σ H'
  | .stuck => False
def tI (K : PySem.W.Frag) (mg : Str → Option Value) (z : Z) (W : WX) (τ : List Nat) (sem : Env → R (List D)) : TI := fun σ H G => ∃ F ρ, Ev K z τ F H σ ρ ∧ PostI K z mg W F H σ G (sem ρ)
theorem likeI (K : PySem.W.Frag) (mg : Str → Option Value) (z : Z) (W : WX) (G : It → Hp → Prop) : PostLike K mg z W (fun F H σ r => PostI K z mg W F H σ G r) := by
  refine ⟨fun {F H F1 H1 σ r} x p => ?_, fun p => p, fun p => p⟩
  cases r with
  | ok d => exact fun v F' H' y l q => p v F' H' (x.trans y) l q
  | exc c f => exact fun F' H' cls dx y q => p F' H' cls dx (x.trans y) q
  | stuck => exact p
theorem PI.imp {X : Cx} {tg iter : Expr} {t t' : TI} (h : PI X tg iter t) (i : ∀ σ H G, t' σ H G → t σ H G) : PI X tg iter t' := ⟨fun pins s σ H G I q => h.run pins s σ H G I (i σ H G q)⟩

/-- what the invariant knows of the sizes of lists and tuples -/
def Known (K : PySem.W.Frag) (H : Hp) : Prop := ∀ a xs, SqL K H a xs ∨ SqT K H a xs → xs.length ≤ sizeLine
theorem inv_known {X : Cx} {pins : List (Addr × Obj)} {σ : L2.St} {H : Hp} {s : Shared} (I : Inv X pins σ H s) : Known X.K H := by
  rintro a xs (h | h)
  · obtain ⟨_, _, _, l⟩ := I.list h
    exact l
  · obtain ⟨_, _, _, l⟩ := I.tuple h
    exact l
theorem PI.known {X : Cx} {tg iter : Expr} {t : TI} (h : PI X tg iter t) : PI X tg iter (fun σ H G => t σ H fun J H1 => Known X.K H1 → G J H1) := by
  refine ⟨fun pins s σ H G I q => thn (h.run pins s σ H _ I q) fun v s1 h1 => thn h1 fun itv s2 h2 => ?_⟩
  obtain ⟨it, fp, tn, J, H2, e, I2, T, st2, f2, g⟩ := h2
  exact ⟨it, fp, tn, J, H2, e, I2, T, st2, f2, g (inv_known I2)⟩

section
variable {X : Cx} {z : Z} {W : WX} {τ : List Nat} {tg : Expr} {pos : Pos}
/-- a list, a tuple, a text as they stand -/
def iAny (K : PySem.W.Frag) (te : TE) : TI := fun σ H G => te σ H fun x H1 => (∃ a, x = .ref a ∧ (∃ xs, SqL K H1 a xs) ∧ G (Itl K a) H1) ∨ (∃ a, x = .ref a ∧ (∃ xs, SqT K H1 a xs) ∧ G (Itt K a) H1) ∨ ∃ y, x = .str y ∧ G (Its y) H1
theorem pi_any {e : Expr} {te : TE} (he : PE X e te) : PI X tg e (iAny X.K te) := by
  refine ⟨fun pins s σ H G I h => ?_⟩
  refine thn (he.run pins s σ H _ I h) fun v s1 ⟨x, H1, I1, r1, q⟩ => ?_
  rcases q with ⟨a, rfl, ⟨xs, hq⟩, q⟩ | ⟨a, rfl, ⟨xs, hq⟩, q⟩ | ⟨y, rfl, q⟩
  · cases r1
    obtain ⟨its, rv, p, _⟩ := I1.list hq
    exact wpAny_pyIter_list p.isList (pi_one (tk := s1.toks) I1 _ (turn_list a _) ⟨_, Heap.get?_push_size _ rfl, rfl, rfl⟩ q)
  · cases r1
    obtain ⟨its, rv, p, _⟩ := I1.tuple hq
    exact wpAny_pyIter_tuple (show s1.heap.IsTuple a its.toArray from p) (pi_one (tk := s1.toks) I1 _ (turn_tuple a _) ⟨_, Heap.get?_push_size _ rfl, rfl, rfl⟩ q)
  · obtain ⟨t, rfl⟩ := r1
    cases ha : y.cps.all (· < 128)
    · exact wpAny_pyIter_wide ha (pi_one (tk := s1.toks) I1 _ (turn_str _ y t _ (.inr rfl)) ⟨_, Heap.get?_push_size _ rfl, rfl, rfl⟩ q)
    · exact wpAny_pyIter_ascii ha (pi_one (tk := s1.toks) I1 _ (turn_str _ y t _ (.inl rfl)) ⟨_, Heap.get?_push_size _ rfl, rfl, rfl⟩ q)
theorem walkR_cases (d : D) : (∃ k, walkR d = ok k) ∨ walkR d = stuck := by
  cases d <;> simp only [walkR] <;> first | exact .inl ⟨_, rfl⟩ | exact .inr rfl | exact .inr trivial | skip
  split
  · exact .inl ⟨_, rfl⟩
  · exact .inr rfl
theorem i_any {e : Expr} {s1 : Env → R D} (he : PE X e (tE X.K X.mg z W τ .frz s1)) : PI X tg e (tI X.K X.mg z W τ fun ρ => (s1 ρ).bind walkR) := by
  refine PI.imp (PI.known (pi_any he)) ?_
  rintro σ H G ⟨F, ρ, env, w⟩
  dsimp only at w
  refine stepE (likeI ..) env w fun d v F1 H1 e x env1 r w1 => ?_
  have s := env1.ext.sub
  cases d <;> simp only [walkR] at w1 <;> first | exact w1.elim | skip
  · obtain ⟨rfl, o⟩ := Rep.str_inv r
    split at w1
    · rename_i c
      exact .inr (.inr ⟨_, rfl, fun _ => w1 _ _ _ (.refl s) (by simpa [Str.length] using c) (walks_str o)⟩)
    · exact w1.elim
  · obtain ⟨a, vs, rfl, hs, q⟩ := Rep.list r
    exact .inl ⟨a, rfl, ⟨vs, s.seq hs⟩, fun kn => w1 _ _ _ (.refl s) (by rw [← q.length, ← line_eq]; exact kn a vs (.inl (s.seq hs))) (walks_list hs q)⟩
  · obtain ⟨a, vs, rfl, hs, q⟩ := Rep.tuple r
    exact .inr (.inl ⟨a, rfl, ⟨vs, SqT_mono s hs⟩, fun kn => w1 _ _ _ (.refl s) (by rw [← q.length, ← line_eq]; exact kn a vs (.inr (SqT_mono s hs))) (walks_tup hs q)⟩)
theorem i_revd {e : Expr} {p : Pos} {s1 : Env → R D} (hg : Gl X "reversed") (hm : X.mg "reversed" = none) (he : PE X e (tE X.K X.mg z W τ .frz s1)) (hs : starEach [e] X.env = (false, eval e X.env) :: starEach [] X.env) :
    PI X tg (.Call (.Name "reversed" p) [e] [] pos) (tI X.K X.mg z W τ fun ρ => ((s1 ρ).bind revdR).bind walkR) := by
  refine PI.imp (PI.known (RT.pi_revA hg hm he hs)) ?_
  rintro σ H G ⟨F, ρ, env, w⟩
  dsimp only at w
  have w : PostI X.K z X.mg W F H σ G ((s1 ρ).bind fun d => (revdR d).bind walkR) := by
    cases e : s1 ρ <;> rw [e] at w <;> exact w
  refine stepE (likeI ..) env w fun d v F1 H1 e x env1 r w1 => ?_
  have s := env1.ext.sub
  cases d <;> simp only [revdR, items, R.bind_ok, R.bind_stuck, walkR] at w1 <;> first | exact w1.elim | skip
  · obtain ⟨a, vs, rfl, hs, q⟩ := Rep.list r
    exact ⟨a, vs, rfl, .inl ⟨s.seq hs, fun kn => w1 _ _ _ (.refl s) (by rw [List.length_reverse, ← q.length, ← line_eq]; exact kn a vs (.inl (s.seq hs))) (walks_rev hs q)⟩⟩
  · obtain ⟨a, vs, rfl, hs, q⟩ := Rep.tuple r
    exact ⟨a, vs, rfl, .inr ⟨SqT_mono s hs, fun kn => w1 _ _ _ (.refl s) (by rw [List.length_reverse, ← q.length, ← line_eq]; exact kn a vs (.inr (SqT_mono s hs))) (walks_revT hs q)⟩⟩
theorem i_enum {e : Expr} {p tpos : Pos} {elts : List Expr} {kk : Nat} {s1 : Env → R D} (hg : Gl X "enumerate") (hm : X.mg "enumerate" = none) (he : PE X e (tE X.K X.mg z W τ .frz s1)) (hs : NoStar e) :
    PI X (.Tuple elts kk tpos) (.Call (.Name "enumerate" p) [e] [] pos) (tI X.K X.mg z W τ fun ρ => ((s1 ρ).bind enumR).bind walkR) := by
  refine PI.imp (PI.known (pi_enum hg hm (s_cons he s_nil (hs _ _)) (hs [] X.env))) ?_
  rintro σ H G ⟨F, ρ, env, w⟩
  dsimp only at w
  refine ⟨F, ρ, env, ?_⟩
  show PostA X.K X.mg z W F H σ _ ((s1 ρ).bind fun d => ok [d])
  cases e : s1 ρ with
  | stuck => rw [e] at w; exact w
  | exc c f => rw [e] at w; exact w
  | ok d =>
    rw [e] at w
    intro vs F1 H1 x r
    have s := x.sub
    obtain ⟨v, rs, rfl, rv, rr⟩ := r.inv_cons
    rw [rr.inv_nil]
    simp only [R.bind_ok] at w
    cases d <;> simp only [enumR, R.bind_ok, R.bind_stuck, walkR] at w <;> first | exact w.elim | skip
    obtain ⟨a, vs, rfl, hs, q⟩ := Rep.list rv
    exact ⟨a, vs, rfl, s.seq hs, fun kn => w _ _ _ x (by rw [enumL_len, ← q.length, ← line_eq]; exact kn a vs (.inl (s.seq hs))) (walks_enum hs q)⟩
theorem rngR_walk {K : PySem.W.Frag} {mg : Str → Option Value} {F H : Hp} {σ : L2.St} {G : It → Hp → Prop} {lo hi : Int} (s : Same F H) (w : PostI K z mg W F H σ G ((rngR lo hi).bind walkR)) : (-(2 ^ 62) ≤ lo ∧ lo < 2 ^ 62 ∧ -(2 ^ 62) ≤ hi ∧ hi < 2 ^ 62) ∧ G (Itr lo (hi - lo).toNat) H := by
  unfold rngR at w
  split at w
  · rename_i c
    simp only [Bool.and_eq_true, big62, decide_eq_true_eq] at c
    exact ⟨⟨c.1.1.1, c.1.1.2, c.1.2.1, c.1.2.2⟩, w _ _ _ (.refl s) (by simpa using c.2) walks_range⟩
  · exact w.elim
theorem i_rng1 {a : Expr} {p : Pos} {s1 : Env → R D} (hg : Gl X "range") (hm : X.mg "range" = none) (he : PE X a (tE X.K X.mg z W τ .frz s1)) (hs : NoStar a) :
    PI X tg (.Call (.Name "range" p) [a] [] pos) (tI X.K X.mg z W τ fun ρ => ((s1 ρ).bind rng1R).bind walkR) := by
  refine PI.imp (pi_range1 hg hm (s_cons he s_nil (hs _ _)) (hs [] X.env)) ?_
  rintro σ H G ⟨F, ρ, env, w⟩
  dsimp only at w
  refine ⟨F, ρ, env, ?_⟩
  show PostA X.K X.mg z W F H σ _ ((s1 ρ).bind fun d => ok [d])
  cases e : s1 ρ with
  | stuck => rw [e] at w; exact w
  | exc c f => rw [e] at w; exact w
  | ok d =>
    rw [e] at w
    intro vs F1 H1 x r
    obtain ⟨v, rs, rfl, rv, rr⟩ := r.inv_cons
    rw [rr.inv_nil]
    simp only [R.bind_ok] at w
    cases d <;> simp only [rng1R, R.bind_stuck] at w <;> first | exact w.elim | skip
    have w := (likeI X.K X.mg z W G).more x w
    obtain ⟨⟨c1, c2, c3, c4⟩, q⟩ := rngR_walk x.sub w
    refine ⟨_, by rw [Rep.int_inv rv], c3, c4, ?_⟩
    simpa using q
theorem i_rng2 {a b : Expr} {p : Pos} {s1 s2 : Env → R D} (hg : Gl X "range") (hm : X.mg "range" = none) (ha : PE X a (tE X.K X.mg z W τ .frz s1)) (hb : PE X b (tE X.K X.mg z W τ .frz s2)) (hs : NoStar a) (hs2 : NoStar b) :
    PI X tg (.Call (.Name "range" p) [a, b] [] pos) (tI X.K X.mg z W τ fun ρ => ((s1 ρ).bind fun x => (s2 ρ).bind fun y => rng2R x y).bind walkR) := by
  refine PI.imp (pi_range2 hg hm (s_cons ha (s_cons hb s_nil (hs2 _ _)) (hs _ _)) (by rw [hs, hs2]; rfl) (hs2 [] X.env)) ?_
  rintro σ H G ⟨F, ρ, env, w⟩
  dsimp only at w
  refine ⟨F, ρ, env, ?_⟩
  show PostA X.K X.mg z W F H σ _ ((s1 ρ).bind fun d => ((s2 ρ).bind fun d => ok [d]).bind fun ds => ok (d :: ds))
  cases e : s1 ρ with
  | stuck => rw [e] at w; exact w
  | exc c f => rw [e] at w; exact w
  | ok d =>
    rw [e] at w
    cases e2 : s2 ρ with
    | stuck => rw [e2] at w; exact w
    | exc c f => rw [e2] at w; exact w
    | ok d2 =>
      rw [e2] at w
      intro vs F1 H1 x r
      obtain ⟨v, rs, rfl, rv, rr⟩ := r.inv_cons
      obtain ⟨v2, rs2, rfl, rv2, rr2⟩ := rr.inv_cons
      rw [rr2.inv_nil]
      simp only [R.bind_ok] at w
      cases d <;> cases d2 <;> simp only [rng2R, R.bind_stuck] at w <;> first | exact w.elim | skip
      have w := (likeI X.K X.mg z W G).more x w
      obtain ⟨c, q⟩ := rngR_walk x.sub w
      exact ⟨_, _, by rw [Rep.int_inv rv, Rep.int_inv rv2], c, q⟩
theorem i_rng3 {a b e : Expr} {p : Pos} {s1 s2 s3 : Env → R D} (hg : Gl X "range") (hm : X.mg "range" = none) (ha : PE X a (tE X.K X.mg z W τ .frz s1)) (hb : PE X b (tE X.K X.mg z W τ .frz s2)) (he : PE X e (tE X.K X.mg z W τ .frz s3))
    (hs : NoStar a) (hs2 : NoStar b) (hs3 : NoStar e) :
    PI X tg (.Call (.Name "range" p) [a, b, e] [] pos) (tI X.K X.mg z W τ fun ρ => ((s1 ρ).bind fun x => (s2 ρ).bind fun y => (s3 ρ).bind fun u => rng3R x y u).bind walkR) := by
  refine PI.imp (pi_range3 hg hm (s_cons ha (s_cons hb (s_cons he s_nil (hs3 _ _)) (hs2 _ _)) (hs _ _)) (hs _ _) (noStar_all fun q hq => ?_)) ?_
  · rcases List.mem_cons.mp hq with rfl | hq
    · exact hs2
    · rcases List.mem_cons.mp hq with rfl | hq
      · exact hs3
      · cases hq
  rintro σ H G ⟨F, ρ, env, w⟩
  dsimp only at w
  refine ⟨F, ρ, env, ?_⟩
  show PostA X.K X.mg z W F H σ _ ((s1 ρ).bind fun d => ((s2 ρ).bind fun d => ((s3 ρ).bind fun d => ok [d]).bind fun ds => ok (d :: ds)).bind fun ds => ok (d :: ds))
  cases e1 : s1 ρ with
  | stuck => rw [e1] at w; exact w
  | exc c f => rw [e1] at w; exact w
  | ok d =>
    rw [e1] at w
    cases e2 : s2 ρ with
    | stuck => rw [e2] at w; exact w
    | exc c f => rw [e2] at w; exact w
    | ok d2 =>
      rw [e2] at w
      cases e3 : s3 ρ with
      | stuck => rw [e3] at w; exact w
      | exc c f => rw [e3] at w; exact w
      | ok d3 =>
        rw [e3] at w
        intro vs F1 H1 x r
        obtain ⟨v, rs, rfl, rv, rr⟩ := r.inv_cons
        obtain ⟨v2, rs2, rfl, rv2, rr2⟩ := rr.inv_cons
        obtain ⟨v3, rs3, rfl, rv3, rr3⟩ := rr2.inv_cons
        rw [rr3.inv_nil]
        simp only [R.bind_ok] at w
        cases d <;> cases d2 <;> cases d3 <;> simp only [rng3R, R.bind_stuck] at w <;> first | exact w.elim | skip
        split at w
        · rename_i k
          subst k
          unfold rngDown at w
          split at w
          · rename_i c
            simp only [Bool.and_eq_true, big62, decide_eq_true_eq] at c
            exact ⟨_, _, _, _, by rw [Rep.int_inv rv, Rep.int_inv rv2, Rep.int_inv rv3], RgC.neg c.1.1.1 c.1.1.2 c.1.2.1 c.1.2.2, w _ _ _ x (by simpa using c.2) walks_down⟩
          · exact w.elim
        · exact w.elim
end
end Pyr

namespace Pyr
open PySem L2 PyProof.Rows
open R (ok exc stuck)

/-! # Targets -/
def Tg.slots : Tg → List Nat
  | .one i => [i]
  | .many is => is
def gAll : List Nat → TGs
  | [] => gNil
  | i :: is => gCons (gName i) (gAll is)
def gTg (K : PySem.W.Frag) : Tg → TG
  | .one i => gName i
  | .many is => gTup K is.length (gAll is)
/-- the names at the places -/
def NamesAt (X : Cx) : List Nat → List Expr → Prop
  | [], [] => True
  | i :: is, .Name x _ :: es => X.N[i]? = some x ∧ Loc X.env.scope x ∧ (X.fn x = true ∨ X.env.scope.names.lookup x = some .local) ∧ NamesAt X is es
  | _, _ => False
theorem pgs_names {X : Cx} (hN : X.N.Nodup) : ∀ {is : List Nat} {es : List Expr}, NamesAt X is es → PGs X es (gAll is) ∧ (assignEach es X.env).length = is.length ∧ (assignEach es X.env).findIdx? (·.1) = none
  | [], [], _ => ⟨pgs_nil, rfl, rfl⟩
  | i :: is, .Name x p :: es, h => by
    obtain ⟨h1, h2, h3, h4⟩ := h
    obtain ⟨a, b, c⟩ := pgs_names hN h4
    have e : assignEach (.Name x p :: es) X.env = (false, assign (.Name x p) X.env) :: assignEach es X.env := rfl
    refine ⟨pgs_cons (pg_name hN h1 h2 h3) a, ?_, ?_⟩
    · rw [e]; simp [b]
    · rw [e, List.findIdx?_cons]
      simp [c]
  | _ :: _, [], h => h.elim
  | [], _ :: _, h => h.elim
  | _ :: _, .Constant .. :: _, h => h.elim
  | _ :: _, .Tuple .. :: _, h => h.elim
  | _ :: _, .Attribute .. :: _, h => h.elim
  | _ :: _, .Subscript .. :: _, h => h.elim
  | _ :: _, .List .. :: _, h => h.elim
  | _ :: _, .Starred .. :: _, h => h.elim
  | _ :: _, .BoolOp .. :: _, h => h.elim
  | _ :: _, .BinOp .. :: _, h => h.elim
  | _ :: _, .UnaryOp .. :: _, h => h.elim
  | _ :: _, .Compare .. :: _, h => h.elim
  | _ :: _, .IfExp .. :: _, h => h.elim
  | _ :: _, .Call .. :: _, h => h.elim
  | _ :: _, _ :: _, h => by
    unfold NamesAt at h
    split at h
    · rename_i e; cases e
    · rename_i e1 e2
      cases e1; cases e2
      obtain ⟨h1, h2, h3, h4⟩ := h
      obtain ⟨a, b, c⟩ := pgs_names hN h4
      refine ⟨pgs_cons (pg_name hN h1 h2 h3) a, ?_, ?_⟩
      · show (_ :: assignEach _ X.env).length = _
        simp [b]
      · show (_ :: assignEach _ X.env).findIdx? _ = none
        rw [List.findIdx?_cons]
        simp [c]
    · exact h.elim
def TgAt (X : Cx) : Tg → Expr → Prop
  | .one i, .Name x _ => X.N[i]? = some x ∧ Loc X.env.scope x ∧ (X.fn x = true ∨ X.env.scope.names.lookup x = some .local)
  | .many is, .Tuple es _ _ => NamesAt X is es
  | _, _ => False
theorem pg_of {X : Cx} (hN : X.N.Nodup) (hc : X.calm = true) {t : Tg} {e : Expr} (h : TgAt X t e) : PG X e (gTg X.K t) := by
  unfold TgAt at h
  split at h
  · exact pg_name hN h.1 h.2.1 h.2.2
  · obtain ⟨a, b, c⟩ := pgs_names hN h
    exact pg_tup hc a b c
  · exact h.elim

/-! ## the slots, set -/
section
variable {K : PySem.W.Frag} {Sp : SpR} {sp τ : List Nat} {F0 H0 F H : Hp} {σ : L2.St} {ρ : Env}
def minus (τ is : List Nat) : List Nat := τ.filter fun i => !is.contains i
theorem mem_minus {τ is : List Nat} {i : Nat} : i ∈ minus τ is ↔ i ∈ τ ∧ i ∉ is := by
  unfold minus; simp
/-- a slot is given a frozen value -/
theorem EnvR.setFrz (h : EnvR K Sp sp τ F0 H0 F H σ ρ) {i : Nat} {v : V} {d : D} {is : List Nat} (hi : i ∉ sp) (hm : i ∈ is) (ho : ∀ j ∈ is, j = i ∨ j ∉ τ) (r : Rep K F v d) :
    EnvR K Sp sp (minus τ is) F0 H0 F H (σ.set i (some v)) (ρ.set i (some d)) := by
  have keep : ∀ b, (∀ j es, j ∈ τ → j ∉ sp → ρ[j]? = some (some (.list es)) → σ[j]? = some (some (.ref b)) → False) → ∀ j es, j ∈ minus τ is → j ∉ sp → (ρ.set i (some d))[j]? = some (some (.list es)) → (σ.set i (some v))[j]? = some (some (.ref b)) → False := by
    intro b k j es hj hs e1 e2
    have hj' := mem_minus.mp hj
    have n : i ≠ j := fun z => hj'.2 (z ▸ hm)
    rw [List.getElem?_set_ne n] at e1 e2
    exact k j es hj'.1 hs e1 e2
  refine ⟨h.ext, fun j e hj => ?_, fun j k a ds es njk hj hk nj nk e1 e2 e3 e4 => ?_, by simp [h.len], h.spm⟩
  · by_cases hji : i = j
    · subst hji
      have lt : i < ρ.length := by
        rcases Nat.lt_or_ge i ρ.length with l | l
        · exact l
        · rw [List.getElem?_eq_none (by simpa using l)] at hj; cases hj
      rw [List.getElem?_set_self lt] at hj
      cases hj
      refine ⟨v, List.getElem?_set_self (by rw [h.len]; exact lt), ?_⟩
      rw [if_neg hi, if_neg (fun z => (mem_minus.mp z).2 hm)]
      exact r
    · rw [List.getElem?_set_ne hji] at hj
      obtain ⟨w, e1, q⟩ := h.slot j e hj
      refine ⟨w, by rw [List.getElem?_set_ne hji]; exact e1, ?_⟩
      by_cases c : j ∈ sp
      · rw [if_pos c] at q ⊢
        exact q.to h.spm (.refl _) fun b h1 h2 h3 h4 => ⟨rfl, h2, keep b h4⟩
      · rw [if_neg c] at q ⊢
        have iff : j ∈ minus τ is ↔ j ∈ τ := by
          rw [mem_minus]
          refine ⟨fun x => x.1, fun x => ⟨x, fun hjs => ?_⟩⟩
          rcases ho j hjs with z | z
          · exact hji z.symm
          · exact z x
        by_cases c2 : j ∈ τ
        · rw [if_pos c2] at q; rw [if_pos (iff.mpr c2)]; exact q
        · rw [if_neg c2] at q; rw [if_neg (fun z => c2 (iff.mp z))]; exact q
  · have hj' := mem_minus.mp hj
    have hk' := mem_minus.mp hk
    have n1 : i ≠ j := fun z => hj'.2 (z ▸ hm)
    have n2 : i ≠ k := fun z => hk'.2 (z ▸ hm)
    rw [List.getElem?_set_ne n1] at e1 e3
    rw [List.getElem?_set_ne n2] at e2 e4
    exact h.apart j k a ds es njk hj'.1 hk'.1 nj nk e1 e2 e3 e4
theorem minus_nil : minus τ [] = τ := by
  unfold minus
  exact List.filter_eq_self.mpr (by simp)
theorem minus_cons {i : Nat} {is : List Nat} : minus τ (i :: is) = minus (minus τ [i]) is := by
  unfold minus
  rw [List.filter_filter]
  congr 1
  funext j
  simp only [List.contains_cons, List.contains_nil, Bool.or_false, Bool.not_or]
  rw [Bool.and_comm]
theorem minus_of_not {is : List Nat} (h : ∀ i ∈ is, i ∉ τ) : minus τ is = τ := by
  unfold minus
  refine List.filter_eq_self.mpr fun a ha => ?_
  simp only [List.contains_eq_mem, Bool.not_eq_true', decide_eq_false_iff_not]
  exact fun z => h a z ha
/-- the slots at is forgotten by the small language -/
def wipeD (ρ : Env) : List Nat → Env
  | [] => ρ
  | i :: is => (wipeD ρ is).set i none
theorem wipeD_length : ∀ is, (wipeD ρ is).length = ρ.length
  | [] => rfl
  | i :: is => by simp [wipeD, wipeD_length is]
theorem wipeD_some {i : Nat} {d : D} : ∀ {is}, (wipeD ρ is)[i]? = some (some d) → ρ[i]? = some (some d) ∧ i ∉ is
  | [], h => ⟨h, by simp⟩
  | j :: is, h => by
    unfold wipeD at h
    by_cases hj : j = i
    · subst hj
      by_cases l : j < (wipeD ρ is).length
      · rw [List.getElem?_set_self l] at h; cases h
      · rw [List.getElem?_eq_none (by simpa using l)] at h; cases h
    · rw [List.getElem?_set_ne hj] at h
      obtain ⟨a, b⟩ := wipeD_some h
      exact ⟨a, by simp only [List.mem_cons, not_or]; exact ⟨fun z => hj z.symm, b⟩⟩
theorem wipe_keep {σ : L2.St} {i : Nat} : ∀ {is : List Nat}, i ∉ is → (wipe σ is)[i]? = σ[i]?
  | [], _ => rfl
  | j :: is, h => by
    have h' : ¬ (i = j ∨ i ∈ is) := fun q => h (List.mem_cons.mpr q)
    unfold wipe
    rw [List.getElem?_set_ne (fun z => h' (.inl z.symm))]
    exact wipe_keep fun z => h' (.inr z)
theorem EnvR.wiped (h : EnvR K Sp sp τ F0 H0 F H σ ρ) (is : List Nat) : EnvR K Sp sp (minus τ is) F0 H0 F H (wipe σ is) (wipeD ρ is) := by
  refine ⟨h.ext, fun j e hj => ?_, fun j k a ds es njk hj hk nj nk e1 e2 e3 e4 => ?_, by rw [wipe_length, wipeD_length, h.len], h.spm⟩
  · obtain ⟨e1, n⟩ := wipeD_some hj
    obtain ⟨v, e2, q⟩ := h.slot j e e1
    refine ⟨v, by rw [wipe_keep n]; exact e2, ?_⟩
    by_cases c : j ∈ sp
    · rw [if_pos c] at q ⊢
      refine q.to h.spm (.refl _) fun b h1 h2 h3 h4 => ⟨rfl, h2, fun k es hk hs r1 r2 => ?_⟩
      obtain ⟨r3, n2⟩ := wipeD_some r1
      rw [wipe_keep n2] at r2
      exact h4 k es (mem_minus.mp hk).1 hs r3 r2
    · rw [if_neg c] at q ⊢
      by_cases c2 : j ∈ τ
      · rw [if_pos c2] at q; rw [if_pos (mem_minus.mpr ⟨c2, n⟩)]; exact q
      · rw [if_neg c2] at q; rw [if_neg fun z => c2 (mem_minus.mp z).1]; exact q
  · have hj' := mem_minus.mp hj
    have hk' := mem_minus.mp hk
    rw [wipe_keep hj'.2] at e3
    rw [wipe_keep hk'.2] at e4
    exact h.apart j k a ds es njk hj'.1 hk'.1 nj nk (wipeD_some e1).1 (wipeD_some e2).1 e3 e4
theorem setAll_none {j : Nat} : ∀ {is : List Nat} {ds : List D} {ρ : Env}, j ∈ is → setAll is ds (ρ.set j none) = setAll is ds ρ
  | i :: is, [], ρ, h => rfl
  | i :: is, d :: ds, ρ, h => by
    show setAll is ds ((ρ.set j none).set i (some d)) = setAll is ds (ρ.set i (some d))
    by_cases e : j = i
    · subst e; rw [List.set_set]
    · rw [List.set_comm _ _ e]
      rcases List.mem_cons.mp h with z | z
      · exact absurd z e
      · exact setAll_none z
theorem setAll_wipe {is : List Nat} {ds : List D} : ∀ {js : List Nat} {ρ : Env}, (∀ j ∈ js, j ∈ is) → setAll is ds (wipeD ρ js) = setAll is ds ρ
  | [], ρ, h => rfl
  | j :: js, ρ, h => by
    unfold wipeD
    rw [setAll_none (h j List.mem_cons_self)]
    exact setAll_wipe fun i hi => h i (List.mem_cons_of_mem _ hi)
theorem setTg_wipe {t : Tg} {d : D} {ρ : Env} : setTg t d (wipeD ρ t.slots) = setTg t d ρ := by
  cases t with
  | one i =>
    show some (((ρ.set i none)).set i (some d)) = some (ρ.set i (some d))
    rw [List.set_set]
  | many is => cases d <;> first | rfl | exact setAll_wipe fun j hj => hj
theorem wipe_set {σ : L2.St} {i : Nat} {v : Option V} : ∀ {is : List Nat}, i ∈ is → wipe (σ.set i v) is = wipe σ is
  | j :: is, h => by
    unfold wipe
    by_cases hi : i ∈ is
    · rw [wipe_set hi]
    · have e : i = j := by
        rcases List.mem_cons.mp h with z | z
        · exact z
        · exact absurd z hi
      subst e
      have g : ∀ {js : List Nat} , i ∉ js → wipe (σ.set i v) js = (wipe σ js).set i v := by
        intro js
        induction js with
        | nil => intro _; rfl
        | cons k ks ih =>
          intro hk
          have hk' : ¬ (i = k ∨ i ∈ ks) := fun q => hk (List.mem_cons.mpr q)
          unfold wipe
          rw [ih fun z => hk' (.inr z), List.set_comm _ _ fun z => hk' (.inl z)]
      rw [g hi, List.set_set]
theorem gAll_ok {Q : L2.St → Hp → Prop} {js : List Nat} : ∀ {is : List Nat} {ds : List D} {vs : List V} {σ : L2.St} {ρ ρ' : Env} {τ : List Nat}, EnvR K Sp sp τ F0 H0 F H σ ρ → RepAll K F vs ds → setAll is ds ρ = some ρ' → (∀ i ∈ is, i ∉ sp) → (∀ i ∈ is, i ∈ js) →
    (∀ σ', EnvR K Sp sp (minus τ is) F0 H0 F H σ' ρ' → wipe σ' js = wipe σ js → Q σ' H) → gAll is vs σ H Q
  | [], [], vs, σ, ρ, ρ', τ, env, r, e, hs, hj, q => by
    cases e
    exact ⟨r.inv_nil, q σ (by rw [minus_nil]; exact env) rfl⟩
  | [], _ :: _, vs, σ, ρ, ρ', τ, env, r, e, hs, hj, q => by cases e
  | _ :: _, [], vs, σ, ρ, ρ', τ, env, r, e, hs, hj, q => by cases e
  | i :: is, d :: ds, vs, σ, ρ, ρ', τ, env, r, e, hs, hj, q => by
    obtain ⟨v, rs, rfl, rv, rr⟩ := r.inv_cons
    refine ⟨v, rs, rfl, ?_⟩
    have env1 := env.setFrz (is := [i]) (hs i List.mem_cons_self) List.mem_cons_self (fun j hj => .inl (by simpa using hj)) rv
    refine gAll_ok env1 rr e (fun i hi => hs i (List.mem_cons_of_mem _ hi)) (fun i hi => hj i (List.mem_cons_of_mem _ hi)) fun σ' env2 hw => q σ' ?_ ?_
    · rw [minus_cons]; exact env2
    · rw [hw, wipe_set (hj i List.mem_cons_self)]
theorem gTg_ok {Q : L2.St → Hp → Prop} {js : List Nat} {t : Tg} {d : D} {v : V} {ρ' : Env} (env : EnvR K Sp sp τ F0 H0 F H σ ρ) (r : Rep K F v d) (e : setTg t d ρ = some ρ') (hs : ∀ i ∈ t.slots, i ∉ sp) (hj : ∀ i ∈ t.slots, i ∈ js)
    (q : ∀ σ', EnvR K Sp sp (minus τ t.slots) F0 H0 F H σ' ρ' → wipe σ' js = wipe σ js → Q σ' H) : gTg K t v σ H Q := by
  cases t with
  | one i =>
    cases e
    refine q _ (env.setFrz (is := [i]) (hs i (by simp [Tg.slots])) List.mem_cons_self (fun j hj => .inl (by simpa using hj)) r) (wipe_set (hj i (by simp [Tg.slots])))
  | many is =>
    cases d <;> first | (cases e; done) | skip
    rename_i ds
    obtain ⟨a, vs, rfl, hs', q'⟩ := Rep.tuple r
    have l : ∀ {is : List Nat} {ds : List D} {ρ ρ' : Env}, setAll is ds ρ = some ρ' → ds.length = is.length := by
      intro is
      induction is with
      | nil => intro ds ρ ρ' e; cases ds <;> first | rfl | cases e
      | cons i is ih => intro ds ρ ρ' e; cases ds <;> first | (cases e; done) | exact congrArg (· + 1) (ih e)
    exact ⟨a, vs, rfl, SqT_mono env.ext.sub hs', by rw [q'.length]; exact l e, gAll_ok env q' e hs hj q⟩
end

/-! # Comprehensions -/
theorem compL_calm {f : D → R (Option D)} (h : ∀ d c x, f d ≠ exc c x) : ∀ ds c x, compL f ds ≠ exc c x
  | [], c, x => fun e => nomatch e
  | d :: ds, c, x => by
    intro e
    simp only [compL] at e
    cases e1 : f d with
    | exc c x => exact h d c x e1
    | stuck => rw [e1] at e; cases e
    | ok o =>
      rw [e1] at e
      simp only [R.bind_ok] at e
      cases e2 : compL f ds with
      | exc c x => exact compL_calm h ds c x e2
      | stuck => rw [e2] at e; cases e
      | ok o => rw [e2] at e; cases e
theorem calm_no {α : Type} (r : R α) : ∀ c x, r.calm ≠ exc c x := by
  intro c x e
  cases r <;> cases e
theorem compF_calm {t : Tg} {sC : Env → R Bool} {sE : Env → R D} {ρ : Env} (d : D) (c : Nat) (x : D) : compF t sC sE ρ d ≠ exc c x := by
  unfold compF
  split
  · exact fun e => nomatch e
  · rename_i ρ' _
    intro e
    cases e1 : sC ρ' with
    | stuck => rw [e1] at e; cases e
    | exc c x => rw [e1] at e; cases e
    | ok k =>
      rw [e1] at e
      cases k with
      | false => cases e
      | true =>
        simp only [R.calm_ok, R.bind_ok, if_true] at e
        cases e2 : sE ρ' with
        | stuck => rw [e2] at e; cases e
        | exc c x => rw [e2] at e; cases e
        | ok k => rw [e2] at e; cases e
abbrev W0 : WX := fun _ _ _ _ => False
theorem Ext.setOwn {F1 H1 F H : Hp} {p : Addr} {o : HO} (x : Ext F1 H1 F H) (h1 : H1 p = none) (hF : F p = none) : Ext F1 H1 F (upd H p o) := by
  refine ⟨x.sF, fun b u e => ?_, fun b u e => ?_, x.nf⟩
  · rw [upd_ne (ne_of_none e h1)]; exact x.sH _ _ e
  · rw [upd_ne (ne_of_none e hF)]; exact x.sub _ _ e
section
variable {X : Cx} {z : Z} {W : WX} {τ : List Nat} {pos : Pos}
theorem comp_red {elt tg iter : Expr} {ifs : List Expr} {own : List (Str × Nat)} {t : Tg} {sI : Env → R (List D)} {sC : Env → R Bool} {sE : Env → R D} {tt : TT} {σ : L2.St} {H : Hp} {Q : VK} (ho : own.map (·.2) = t.slots) (hsp : ∀ i ∈ t.slots, i ∉ z.sp)
    (htt : ∀ σ H Q, tT X.K X.mg z W0 (minus τ t.slots) sC σ H Q → tt σ H Q)
    (h : tE X.K X.mg z W τ .fresh (fun ρ => (sI ρ).bind fun ds => (compL (compF t sC sE ρ) ds).bind fun ys => ok (.list ys)) σ H Q) :
    tLc (tI X.K X.mg z W τ sI) (gTg X.K t) tt (tE X.K X.mg z W0 (minus τ t.slots) .frz sE) (own.map (·.2)) σ H Q := by
  obtain ⟨F, ρ, env, w⟩ := h
  dsimp only at w
  refine ⟨F, ρ, env, ?_⟩
  cases e : sI ρ with
  | stuck => rw [e] at w; exact w
  | exc c f => rw [e] at w; exact w
  | ok ds =>
    rw [e] at w
    intro J F1 H1 x1 hl wk Dn hD
    have w := w.more x1
    have env1 := env.more x1
    simp only [R.bind_ok] at w
    cases e2 : compL (compF t sC sE ρ) ds with
    | stuck => rw [e2] at w; exact w.elim
    | exc c f => exact absurd e2 (compL_calm compF_calm ds c f)
    | ok ys =>
      rw [e2] at w
      simp only [R.bind_ok] at w
      rw [ho]
      refine ⟨fun i m H' => m = ds.length - i ∧ i ≤ ds.length ∧ ∃ F' acc accD zs, Ext F1 H1 F' H' ∧ F' Dn = none ∧ H' Dn = some (.lst acc) ∧ RepAll X.K F' acc accD ∧ accD.length ≤ i ∧ compL (compF t sC sE ρ) (ds.drop i) = ok zs ∧ accD ++ zs = ys, ⟨_, rfl, Nat.zero_le _, F1, [], [], ys, .own env1.ext.sub hD, env1.ext.sub.free hD, upd_same, .nil, Nat.le_refl _, e2, rfl⟩, ?_⟩
      rintro i m H' ⟨rfl, hi, F', acc, accD, zs, x2, fD, hDa, ra, la, ec, ez⟩
      obtain ⟨wk1, wk2⟩ := wk F' H' x2.sF x2.sub i
      by_cases hlt : i < ds.length
      · right
        have ed : ds[i]? = some ds[i] := by simp [hlt]
        obtain ⟨go, yld⟩ := wk1 _ ed
        refine ⟨go, fun H4 => ∃ F4 acc4 accD4 zs4, Ext F1 H1 F4 H4 ∧ F4 Dn = none ∧ H4 Dn = some (.lst acc4) ∧ RepAll X.K F4 acc4 accD4 ∧ accD4.length ≤ i + 1 ∧ compL (compF t sC sE ρ) (ds.drop (i + 1)) = ok zs4 ∧ accD4 ++ zs4 = ys, fun H4 p => ⟨ds.length - (i + 1), by omega, rfl, hlt, p⟩, fun xv H2 y => ?_⟩
        obtain ⟨F2, x3, rx⟩ := yld xv H2 y
        rw [List.drop_eq_getElem_cons hlt] at ec
        simp only [compL] at ec
        have env2 := (env1.more (x2.trans x3)).wiped t.slots
        cases e3 : setTg t ds[i] ρ with
        | none => simp only [compF, e3] at ec; cases ec
        | some ρ' =>
          simp only [compF, e3] at ec
          have x23 := x2.trans x3
          have fD2 : F2 Dn = none := x3.nf Dn (by rw [hDa]; simp) fD
          have hD2 : H2 Dn = some (.lst acc) := x3.sH _ _ hDa
          refine gTg_ok (js := t.slots) env2 rx (setTg_wipe.trans e3) hsp (fun i h => h) fun σ3 env3 hw => ?_
          have env3 : Ev X.K z (minus τ t.slots) F2 H2 σ3 ρ' := by
            have em : minus (minus τ t.slots) t.slots = minus τ t.slots := minus_of_not fun i hi q => (mem_minus.mp q).2 hi
            rw [em] at env3
            exact env3
          refine ⟨?_, ?_⟩
          · rw [hw]
            have idem : ∀ js : List Nat, wipe (wipe σ js) js = wipe σ js := by
              intro js
              refine List.ext_getElem? fun k => ?_
              by_cases hk : k ∈ js
              · have z : ∀ (σ : L2.St) {js : List Nat}, k ∈ js → (wipe σ js)[k]? = if k < σ.length then some none else none := by
                  intro σ js
                  induction js with
                  | nil => intro q; cases q
                  | cons j js ih =>
                    intro q
                    unfold wipe
                    by_cases hj : j = k
                    · subst hj
                      by_cases l : j < σ.length
                      · rw [List.getElem?_set_self (by rw [wipe_length]; exact l), if_pos l]
                      · rw [List.getElem?_eq_none (by simpa [wipe_length] using l), if_neg l]
                    · rw [List.getElem?_set_ne hj]
                      rcases List.mem_cons.mp q with q | q
                      · exact absurd q.symm hj
                      · exact ih q
                rw [z _ hk, z _ hk, wipe_length]
              · rw [wipe_keep hk]
            exact idem t.slots
          · refine htt _ _ _ ⟨F2, ρ', env3, ?_⟩
            cases e4 : sC ρ' with
            | stuck => rw [e4] at ec; cases ec
            | exc c f => rw [e4] at ec; cases ec
            | ok k =>
              rw [e4] at ec
              simp only [R.calm_ok, R.bind_ok] at ec
              intro F3 H3 x4
              have x24 := x23.trans x4
              have fD3 : F3 Dn = none := x4.nf Dn (by rw [hD2]; simp) fD2
              have hD3 : H3 Dn = some (.lst acc) := x4.sH _ _ hD2
              cases k with
              | false =>
                simp only [Bool.false_eq_true, if_false, R.bind_ok] at ec ⊢
                cases e5 : compL (compF t sC sE ρ) (ds.drop (i + 1)) with
                | stuck =>
                  have ec' : (compL (compF t sC sE ρ) (ds.drop (i + 1))).bind (fun ys => ok ys) = ok zs := ec
                  rw [e5] at ec'; cases ec'
                | exc c f => exact absurd e5 (compL_calm compF_calm _ c f)
                | ok z4 =>
                  have ec' : (compL (compF t sC sE ρ) (ds.drop (i + 1))).bind (fun ys => ok ys) = ok zs := ec
                  rw [e5] at ec'
                  cases ec'
                  exact ⟨F3, acc, accD, _, x24, fD3, hD3, ra.mono (x3.sF.trans x4.sF), Nat.le_succ_of_le la, rfl, ez⟩
              | true =>
                simp only [if_true] at ec ⊢
                refine ⟨F3, ρ', env3.more x4, ?_⟩
                cases e6 : sE ρ' with
                | stuck => rw [e6] at ec; cases ec
                | exc c f => rw [e6] at ec; cases ec
                | ok d =>
                  rw [e6] at ec
                  simp only [R.calm_ok, R.bind_ok] at ec
                  intro v F5 H5 x6 r6
                  have fD5 : F5 Dn = none := x6.nf Dn (by rw [hD3]; simp) fD3
                  have hD5 : H5 Dn = some (.lst acc) := x6.sH _ _ hD3
                  refine ⟨acc, hD5, ?_, ?_⟩
                  · rw [ra.length, line_eq]; omega
                  · cases e5 : compL (compF t sC sE ρ) (ds.drop (i + 1)) with
                    | stuck =>
                      have ec' : (compL (compF t sC sE ρ) (ds.drop (i + 1))).bind (fun ys => ok (d :: ys)) = ok zs := ec
                      rw [e5] at ec'; cases ec'
                    | exc c f => exact absurd e5 (compL_calm compF_calm _ c f)
                    | ok z4 =>
                      have ec' : (compL (compF t sC sE ρ) (ds.drop (i + 1))).bind (fun ys => ok (d :: ys)) = ok zs := ec
                      rw [e5] at ec'
                      cases ec'
                      refine ⟨F5, acc ++ [v], accD ++ [d], z4, (x24.trans x6).setOwn hD fD5, fD5, upd_same, .append (ra.mono (x3.sF.trans (x4.sF.trans x6.sF))) (.cons r6 .nil), by simp; exact la, rfl, ?_⟩
                      rw [List.append_assoc]; exact ez
      · left
        have ei : i = ds.length := by omega
        subst ei
        rw [List.drop_length] at ec
        cases ec
        rw [List.append_nil] at ez
        subst ez
        exact ⟨wk2 (Nat.le_refl _), w _ F' H' x2 ⟨Dn, acc, rfl, hDa, hD, fD, ra⟩⟩
end
end Pyr

namespace Pyr
open PySem L2 PyProof.Rows
open R (ok exc stuck)

/-! # Statements -/
section
variable {K : PySem.W.Frag} {Sp : SpR} {sp τ : List Nat} {F0 H0 F H : Hp} {σ : L2.St} {ρ : Env}
/-- one owned slot is frozen -/
theorem EnvR.freeze1 (h : EnvR K Sp sp τ F0 H0 F H σ ρ) (i : Nat) : ∃ F', Same F F' ∧ EnvR K Sp sp (minus τ [i]) F0 H0 F' H σ ρ := by
  have base : ∀ F', Same F F' → Ext F0 H0 F' H → (i ∉ sp → i ∈ τ → ∀ d v, ρ[i]? = some (some d) → σ[i]? = some (some v) → Rep K F' v d) →
      (∀ j a ds, j ≠ i → j ∈ τ → j ∉ sp → ρ[j]? = some (some (.list ds)) → σ[j]? = some (some (.ref a)) → F' a = F a) →
      (∀ b, (∀ j es, j ∈ τ → j ∉ sp → ρ[j]? = some (some (.list es)) → σ[j]? = some (some (.ref b)) → False) → F' b = F b) → EnvR K Sp sp (minus τ [i]) F0 H0 F' H σ ρ := by
    intro F' s x hi hj hA
    refine ⟨x, fun j e hje => ?_, fun j k a ds es njk hj hk nj nk e1 e2 e3 e4 => h.apart j k a ds es njk (mem_minus.mp hj).1 (mem_minus.mp hk).1 nj nk e1 e2 e3 e4, h.len, h.spm⟩
    obtain ⟨v, e1, q⟩ := h.slot j e hje
    refine ⟨v, e1, ?_⟩
    by_cases c : j ∈ sp
    · rw [if_pos c] at q ⊢
      exact q.to h.spm s fun b h1 h2 h3 h4 => ⟨rfl, by rw [hA b h4]; exact h2, fun k es hk hs r1 r2 => h4 k es (mem_minus.mp hk).1 hs r1 r2⟩
    · rw [if_neg c] at q ⊢
      by_cases hji : j = i
      · subst hji
        rw [if_neg fun z => (mem_minus.mp z).2 (by simp)]
        by_cases c2 : j ∈ τ
        · exact hi c c2 e v hje e1
        · rw [if_neg c2] at q; exact q.mono s
      · by_cases c2 : j ∈ τ
        · rw [if_pos c2] at q
          rw [if_pos (mem_minus.mpr ⟨c2, by simpa using hji⟩)]
          cases e with
          | list ds =>
            obtain ⟨a, vs, rfl, hs, h0, hf, r⟩ := q
            exact ⟨a, vs, rfl, hs, h0, by rw [hj j a ds hji c2 c hje e1]; exact hf, r.mono s⟩
          | none => exact Rep.mono q s
          | bool _ => exact Rep.mono q s
          | int _ => exact Rep.mono q s
          | str _ => exact Rep.mono q s
          | tuple _ => exact Rep.mono q s
          | dict _ => exact Rep.mono q s
        · rw [if_neg c2] at q
          rw [if_neg fun z => c2 (mem_minus.mp z).1]
          exact q.mono s
  by_cases c : i ∈ sp ∨ i ∉ τ
  · refine ⟨F, .refl _, base F (.refl _) h.ext (fun a b => ?_) (fun _ _ _ _ _ _ _ _ => rfl) fun _ _ => rfl⟩
    rcases c with c | c
    · exact absurd c a
    · exact absurd b c
  · have c1 : i ∉ sp := fun z => c (.inl z)
    have c2 : i ∈ τ := Classical.byContradiction fun z => c (.inr z)
    have flat : (∀ d, ρ[i]? = some (some d) → ∀ ds, d ≠ .list ds) → ∃ F', Same F F' ∧ EnvR K Sp sp (minus τ [i]) F0 H0 F' H σ ρ := by
      intro nl
      refine ⟨F, .refl _, base F (.refl _) h.ext (fun _ _ d v e1 e2 => ?_) (fun _ _ _ _ _ _ _ _ => rfl) fun _ _ => rfl⟩
      obtain ⟨v', e3, q⟩ := h.slot i d e1
      rw [e2] at e3; cases e3
      rw [if_neg c1, if_pos c2] at q
      cases d with
      | list ds => exact absurd rfl (nl _ e1 ds)
      | none => exact q
      | bool _ => exact q
      | int _ => exact q
      | str _ => exact q
      | tuple _ => exact q
      | dict _ => exact q
    cases e : ρ[i]? with
    | none => exact flat fun d q => by rw [e] at q; cases q
    | some od =>
      cases od with
      | none => exact flat fun d q => by rw [e] at q; cases q
      | some d =>
        cases d with
        | list ds =>
          obtain ⟨v, e1, q⟩ := h.slot i _ e
          rw [if_neg c1, if_pos c2] at q
          obtain ⟨a, vs, rfl, hs, h0, hf, r⟩ := q
          have s := same_upd (o := .lst vs) hf
          refine ⟨upd F a (.lst vs), s, base _ s (h.ext.freeze hs hf h0) (fun _ _ d v e2 e3 => ?_) (fun j b es hj c2j cj e2 e3 => ?_) fun b k => upd_ne fun z => k i ds c2 c1 e (by rw [z]; exact e1)⟩
          · rw [e] at e2; cases e2
            rw [e1] at e3; cases e3
            exact .ofList (.of upd_same) (r.mono s)
          · have : b ≠ a := fun z => h.apart j i b es ds hj c2j c2 cj c1 e2 e e3 (by rw [z]; exact e1)
            exact upd_ne this
        | none => exact flat fun d q ds => by rw [e] at q; cases q; intro z; cases z
        | bool _ => exact flat fun d q ds => by rw [e] at q; cases q; intro z; cases z
        | int _ => exact flat fun d q ds => by rw [e] at q; cases q; intro z; cases z
        | str _ => exact flat fun d q ds => by rw [e] at q; cases q; intro z; cases z
        | tuple _ => exact flat fun d q ds => by rw [e] at q; cases q; intro z; cases z
        | dict _ => exact flat fun d q ds => by rw [e] at q; cases q; intro z; cases z
theorem EnvR.same_tau {τ' : List Nat} (h : EnvR K Sp sp τ F0 H0 F H σ ρ) (e : ∀ i, i ∈ τ ↔ i ∈ τ') : EnvR K Sp sp τ' F0 H0 F H σ ρ := by
  refine ⟨h.ext, fun i d hi => ?_, fun i j a ds es n hi hj => h.apart i j a ds es n ((e i).mpr hi) ((e j).mpr hj), h.len, h.spm⟩
  obtain ⟨v, e1, q⟩ := h.slot i d hi
  refine ⟨v, e1, ?_⟩
  by_cases c0 : i ∈ sp
  · rw [if_pos c0] at q ⊢
    exact q.to h.spm (.refl _) fun b h1 h2 h3 h4 => ⟨rfl, h2, fun k es hk hs r1 r2 => h4 k es ((e k).mpr hk) hs r1 r2⟩
  rw [if_neg c0] at q ⊢
  by_cases c : i ∈ τ
  · rw [if_pos c] at q; rw [if_pos ((e i).mp c)]; exact q
  · rw [if_neg c] at q; rw [if_neg fun z => c ((e i).mpr z)]; exact q
theorem EnvR.freezeL : ∀ (is : List Nat) {τ : List Nat} {F : Hp}, EnvR K Sp sp τ F0 H0 F H σ ρ → ∃ F', Same F F' ∧ EnvR K Sp sp (minus τ is) F0 H0 F' H σ ρ
  | [], τ, F, h => ⟨F, .refl _, by rw [minus_nil]; exact h⟩
  | i :: is, τ, F, h => by
    obtain ⟨F1, s1, h1⟩ := h.freeze1 i
    obtain ⟨F2, s2, h2⟩ := EnvR.freezeL is h1
    exact ⟨F2, s1.trans s2, by rw [minus_cons]; exact h2⟩
/-- to fewer owned slots -/
theorem EnvR.fewer {τ' : List Nat} (h : EnvR K Sp sp τ F0 H0 F H σ ρ) (e : ∀ i ∈ τ', i ∈ τ) : ∃ F', Same F F' ∧ EnvR K Sp sp τ' F0 H0 F' H σ ρ := by
  obtain ⟨F', s, h'⟩ := EnvR.freezeL (minus τ τ') h
  refine ⟨F', s, h'.same_tau fun i => ?_⟩
  rw [mem_minus, mem_minus]
  by_cases c : i ∈ τ'
  · exact ⟨fun _ => c, fun _ => ⟨e i c, fun z => z.2 c⟩⟩
  · exact ⟨fun z => absurd ⟨z.1, c⟩ z.2, fun z => absurd z c⟩
end

structure Outs where
  nx : List Nat
  bk : List Nat
  ct : List Nat
  ex : List Nat
structure Outs.Le (o' o : Outs) : Prop where
  nx : ∀ i ∈ o'.nx, i ∈ o.nx
  bk : ∀ i ∈ o'.bk, i ∈ o.bk
  ct : ∀ i ∈ o'.ct, i ∈ o.ct
  ex : ∀ i ∈ o'.ex, i ∈ o.ex
section
variable (K : PySem.W.Frag) (mg : Str → Option Value) (z : Z) (W : WX) (fm : Md)
def PostS (o : Outs) (D : Ends) (F : Hp) : Out → Prop
  | .nx ρ => ∀ σ F' H, Same F F' → Ev K z o.nx F' H σ ρ → D.nx σ H
  | .bk ρ => ∀ σ F' H, Same F F' → Ev K z o.bk F' H σ ρ → D.bk σ H
  | .ct ρ => ∀ σ F' H, Same F F' → Ev K z o.ct F' H σ ρ → D.ct σ H
  | .rt d => ∀ v F' H, Same F F' → Ext z.F0 z.H0 F' H → Res K F' z.H0 H v d fm → D.rt v H
  | .exc c f ρ => ∀ σ F' H cls dx, Same F F' → Ev K z o.ex F' H σ ρ → ExcR K mg z.xt F' c f cls dx → W cls dx σ H
  | .stuck => False
def tS (τ : List Nat) (o : Outs) (sem : Env → Out) : TS := fun D σ H => ∃ F ρ, Ev K z τ F H σ ρ ∧ PostS K mg z W fm o D F (sem ρ)
end
section
variable {K : PySem.W.Frag} {mg : Str → Option Value} {z : Z} {W : WX} {fm : Md} {o o' : Outs} {D : Ends} {F F1 H : Hp} {σ : L2.St} {ρ : Env} {τ τ' : List Nat}
theorem PostS.more {r : Out} (s : Same F F1) (p : PostS K mg z W fm o D F r) : PostS K mg z W fm o D F1 r := by
  cases r with
  | nx ρ => exact fun σ F' H s' e => p σ F' H (s.trans s') e
  | bk ρ => exact fun σ F' H s' e => p σ F' H (s.trans s') e
  | ct ρ => exact fun σ F' H s' e => p σ F' H (s.trans s') e
  | rt d => exact fun v F' H s' e => p v F' H (s.trans s') e
  | exc c f ρ => exact fun σ F' H cls dx s' e => p σ F' H cls dx (s.trans s') e
  | stuck => exact p
theorem PostS.le {r : Out} (l : Outs.Le o' o) (p : PostS K mg z W fm o' D F r) : PostS K mg z W fm o D F r := by
  cases r with
  | nx ρ =>
    intro σ F' H s' e
    obtain ⟨F2, s2, e2⟩ := EnvR.fewer e l.nx
    exact p σ F2 H (s'.trans s2) e2
  | bk ρ =>
    intro σ F' H s' e
    obtain ⟨F2, s2, e2⟩ := EnvR.fewer e l.bk
    exact p σ F2 H (s'.trans s2) e2
  | ct ρ =>
    intro σ F' H s' e
    obtain ⟨F2, s2, e2⟩ := EnvR.fewer e l.ct
    exact p σ F2 H (s'.trans s2) e2
  | rt d => exact p
  | exc c f ρ =>
    intro σ F' H cls dx s' e x
    obtain ⟨F2, s2, e2⟩ := EnvR.fewer e l.ex
    exact p σ F2 H cls dx (s'.trans s2) e2 (x.mono s2)
  | stuck => exact p
theorem tS_weak {sem : Env → Out} (h : ∀ i ∈ τ', i ∈ τ) (l : Outs.Le o' o) (w : tS K mg z W fm τ o' sem D σ H) : tS K mg z W fm τ' o sem D σ H := by
  obtain ⟨F, ρ, env, p⟩ := w
  obtain ⟨F2, s2, e2⟩ := env.fewer h
  exact ⟨F2, ρ, e2, (p.more s2).le l⟩
/-- an expression within a statement -/
theorem outE {m : Md} {s1 : Env → R PyData} {f : PyData → Out} {G : VK} (hx : ∀ i ∈ o.ex, i ∈ τ) (env : Ev K z τ F H σ ρ) (w : PostS K mg z W fm o D F ((s1 ρ).out ρ f))
    (h : ∀ d v F1 H1, s1 ρ = ok d → Ext F H F1 H1 → Ev K z τ F1 H1 σ ρ → Res K F1 H H1 v d m → PostS K mg z W fm o D F1 (f d) → G v H1) : tE K mg z W τ m s1 σ H G := by
  refine ⟨F, ρ, env, ?_⟩
  cases e : s1 ρ with
  | ok d =>
    rw [e] at w
    exact fun v F1 H1 x r => h d v F1 H1 e x (env.more x) r (PostS.more x.sF w)
  | exc c f =>
    rw [e] at w
    intro F' H' cls dx x q
    obtain ⟨F2, s2, e2⟩ := (env.more x).fewer hx
    exact w σ F2 H' cls dx (x.sF.trans s2) e2 (q.mono s2)
  | stuck => rw [e] at w; exact w
theorem outT {s1 : Env → R Bool} {f : Bool → Out} {G : Bool → Hp → Prop} (hx : ∀ i ∈ o.ex, i ∈ τ) (env : Ev K z τ F H σ ρ) (w : PostS K mg z W fm o D F ((s1 ρ).out ρ f))
    (h : ∀ d F1 H1, s1 ρ = ok d → Ext F H F1 H1 → Ev K z τ F1 H1 σ ρ → PostS K mg z W fm o D F1 (f d) → G d H1) : tT K mg z W τ s1 σ H G := by
  refine ⟨F, ρ, env, ?_⟩
  cases e : s1 ρ with
  | ok d =>
    rw [e] at w
    exact fun F1 H1 x => h d F1 H1 e x (env.more x) (PostS.more x.sF w)
  | exc c f =>
    rw [e] at w
    intro F' H' cls dx x q
    obtain ⟨F2, s2, e2⟩ := (env.more x).fewer hx
    exact w σ F2 H' cls dx (x.sF.trans s2) e2 (q.mono s2)
  | stuck => rw [e] at w; exact w
theorem outA {s1 : Env → R (List PyData)} {f : List PyData → Out} {G : List V → Hp → Prop} (hx : ∀ i ∈ o.ex, i ∈ τ) (env : Ev K z τ F H σ ρ) (w : PostS K mg z W fm o D F ((s1 ρ).out ρ f))
    (h : ∀ d v F1 H1, s1 ρ = ok d → Ext F H F1 H1 → Ev K z τ F1 H1 σ ρ → RepAll K F1 v d → PostS K mg z W fm o D F1 (f d) → G v H1) : tA K mg z W τ s1 σ H G := by
  refine ⟨F, ρ, env, ?_⟩
  cases e : s1 ρ with
  | ok d =>
    rw [e] at w
    exact fun v F1 H1 x r => h d v F1 H1 e x (env.more x) r (PostS.more x.sF w)
  | exc c f =>
    rw [e] at w
    intro F' H' cls dx x q
    obtain ⟨F2, s2, e2⟩ := (env.more x).fewer hx
    exact w σ F2 H' cls dx (x.sF.trans s2) e2 (q.mono s2)
  | stuck => rw [e] at w; exact w
/-- a slot is given a list of its own -/
theorem EnvR.setFresh {Sp : SpR} {sp : List Nat} {F0 H0 : Hp} {H1 : Hp} (h0 : EnvR K Sp sp τ F0 H0 F H σ ρ) (x : Ext F H F1 H1) {i : Nat} {v : V} {d : PyData} (hi : i ∉ sp) (r : Res K F1 H H1 v d .fresh) :
    EnvR K Sp sp (i :: minus τ [i]) F0 H0 F1 H1 (σ.set i (some v)) (ρ.set i (some d)) := by
  have h := h0.more x
  have inv : ∀ {j : Nat} {e : PyData}, (ρ.set i (some d))[j]? = some (some e) → (j = i ∧ e = d ∧ i < ρ.length) ∨ (j ≠ i ∧ ρ[j]? = some (some e)) := by
    intro j e hj
    by_cases c : i = j
    · subst c
      left
      have lt : i < ρ.length := by
        rcases Nat.lt_or_ge i ρ.length with l | l
        · exact l
        · rw [List.getElem?_eq_none (by simpa using l)] at hj; cases hj
      rw [List.getElem?_set_self lt] at hj
      cases hj
      exact ⟨rfl, rfl, lt⟩
    · rw [List.getElem?_set_ne c] at hj
      exact .inr ⟨fun z => c z.symm, hj⟩
  have lenS : σ.length = ρ.length := h.len
  -- an owned slot but i holds a list that stood before
  have old : ∀ {j : Nat} {a : Addr} {ds : List PyData}, j ≠ i → j ∈ i :: minus τ [i] → j ∉ sp → ρ[j]? = some (some (.list ds)) → σ[j]? = some (some (.ref a)) → H a ≠ none := by
    intro j a ds hj hm hs e1 e2
    have hm : j ∈ τ := by
      rcases List.mem_cons.mp hm with q | q
      · exact absurd q hj
      · exact (mem_minus.mp q).1
    obtain ⟨v', e3, q⟩ := h0.slot j _ e1
    rw [e2] at e3; cases e3
    rw [if_neg hs, if_pos hm] at q
    obtain ⟨a', vs, e4, hs', _⟩ := q
    cases e4
    rw [hs']; simp
  have new : ∀ {ds}, d = .list ds → ∀ {a}, v = .ref a → H a = none := by
    intro ds ed a ev
    subst ed
    obtain ⟨a', vs, e4, _, hn, _⟩ := r
    rw [ev] at e4; cases e4
    exact hn
  refine ⟨h.ext, fun j e hj => ?_, fun j k a ds es njk hj hk nj nk e1 e2 e3 e4 => ?_, by simp [lenS], h.spm⟩
  · rcases inv hj with ⟨rfl, rfl, lt⟩ | ⟨n, hj'⟩
    · refine ⟨v, List.getElem?_set_self (by rw [lenS]; exact lt), ?_⟩
      rw [if_neg hi, if_pos List.mem_cons_self]
      exact r.back h0.ext.sH
    · obtain ⟨w0, e0, q0⟩ := h0.slot j e hj'
      obtain ⟨w, e1, q⟩ := h.slot j e hj'
      rw [e0] at e1; cases e1
      refine ⟨w0, by rw [List.getElem?_set_ne (fun z => n z.symm)]; exact e0, ?_⟩
      by_cases c : j ∈ sp
      · rw [if_pos c] at q0 ⊢
        refine q0.to h0.spm x.sF fun b h1 h2 h3 h4 => ⟨?_, x.nf b h1 h2, fun k es hk hs r1 r2 => ?_⟩
        · cases e2 : H b with
          | none => exact absurd e2 h1
          | some u => exact x.sH _ _ e2
        · rcases inv r1 with ⟨rfl, q1, l1⟩ | ⟨n1, q1⟩
          · rw [List.getElem?_set_self (by rw [lenS]; exact l1)] at r2
            cases r2
            exact h1 (new q1.symm rfl)
          · rw [List.getElem?_set_ne (fun z => n1 z.symm)] at r2
            refine h4 k es ?_ hs q1 r2
            rcases List.mem_cons.mp hk with y | y
            · exact absurd y n1
            · exact (mem_minus.mp y).1
      · rw [if_neg c] at q ⊢
        have iff : j ∈ i :: minus τ [i] ↔ j ∈ τ := by
          rw [List.mem_cons, mem_minus]
          exact ⟨fun y => y.elim (fun y => absurd y n) fun y => y.1, fun y => .inr ⟨y, by simpa using n⟩⟩
        by_cases c2 : j ∈ τ
        · rw [if_pos c2] at q; rw [if_pos (iff.mpr c2)]; exact q
        · rw [if_neg c2] at q; rw [if_neg fun y => c2 (iff.mp y)]; exact q
  · rcases inv e1 with ⟨rfl, q1, l1⟩ | ⟨n1, q1⟩
    · rcases inv e2 with ⟨rfl, q2, l2⟩ | ⟨n2, q2⟩
      · exact njk rfl
      · rw [List.getElem?_set_self (by rw [lenS]; exact l1)] at e3
        rw [List.getElem?_set_ne (fun z => n2 z.symm)] at e4
        cases e3
        exact old n2 hk nk q2 e4 (new q1.symm rfl)
    · rw [List.getElem?_set_ne (fun z => n1 z.symm)] at e3
      rcases inv e2 with ⟨rfl, q2, l2⟩ | ⟨n2, q2⟩
      · rw [List.getElem?_set_self (by rw [lenS]; exact l2)] at e4
        cases e4
        exact old n1 hj nj q1 e3 (new q2.symm rfl)
      · rw [List.getElem?_set_ne (fun z => n2 z.symm)] at e4
        have hj' : j ∈ τ := by
          rcases List.mem_cons.mp hj with q | q
          · exact absurd q n1
          · exact (mem_minus.mp q).1
        have hk' : k ∈ τ := by
          rcases List.mem_cons.mp hk with q | q
          · exact absurd q n2
          · exact (mem_minus.mp q).1
        exact h.apart j k a ds es njk hj' hk' nj nk q1 q2 e3 e4
/-- a slot is given a value that is no list -/
theorem EnvR.setFlat {Sp : SpR} {sp : List Nat} {F0 H0 : Hp} (h : EnvR K Sp sp τ F0 H0 F H σ ρ) {i : Nat} {v : V} {d : PyData} (hi : i ∉ sp) (r : Rep K F v d) (nl : ∀ ds, d ≠ .list ds) :
    EnvR K Sp sp τ F0 H0 F H (σ.set i (some v)) (ρ.set i (some d)) := by
  have inv : ∀ {j : Nat} {e : PyData}, (ρ.set i (some d))[j]? = some (some e) → (j = i ∧ e = d ∧ i < ρ.length) ∨ (j ≠ i ∧ ρ[j]? = some (some e)) := by
    intro j e hj
    by_cases c : i = j
    · subst c
      left
      have lt : i < ρ.length := by
        rcases Nat.lt_or_ge i ρ.length with l | l
        · exact l
        · rw [List.getElem?_eq_none (by simpa using l)] at hj; cases hj
      rw [List.getElem?_set_self lt] at hj
      cases hj
      exact ⟨rfl, rfl, lt⟩
    · rw [List.getElem?_set_ne c] at hj
      exact .inr ⟨fun z => c z.symm, hj⟩
  refine ⟨h.ext, fun j e hj => ?_, fun j k a ds es njk hj hk nj nk e1 e2 e3 e4 => ?_, by simp [h.len], h.spm⟩
  · rcases inv hj with ⟨rfl, rfl, lt⟩ | ⟨n, hj'⟩
    · refine ⟨v, List.getElem?_set_self (by rw [h.len]; exact lt), ?_⟩
      rw [if_neg hi]
      split
      · exact .flat r nl _
      · exact r
    · obtain ⟨w, e1, q⟩ := h.slot j e hj'
      refine ⟨w, by rw [List.getElem?_set_ne (fun z => n z.symm)]; exact e1, ?_⟩
      by_cases c : j ∈ sp
      · rw [if_pos c] at q ⊢
        refine q.to h.spm (.refl _) fun b h1 h2 h3 h4 => ⟨rfl, h2, fun k es hk hs r1 r2 => ?_⟩
        rcases inv r1 with ⟨rfl, q1, l1⟩ | ⟨n1, q1⟩
        · exact nl _ q1.symm
        · rw [List.getElem?_set_ne (fun z => n1 z.symm)] at r2
          exact h4 k es hk hs q1 r2
      · rw [if_neg c] at q ⊢; exact q
  · rcases inv e1 with ⟨rfl, q1, l1⟩ | ⟨n1, q1⟩
    · exact nl _ q1.symm
    · rcases inv e2 with ⟨rfl, q2, l2⟩ | ⟨n2, q2⟩
      · exact nl _ q2.symm
      · rw [List.getElem?_set_ne (fun z => n1 z.symm)] at e3
        rw [List.getElem?_set_ne (fun z => n2 z.symm)] at e4
        exact h.apart j k a ds es njk hj hk nj nk q1 q2 e3 e4
/-- a slot's own list is changed -/
theorem EnvR.mut {Sp : SpR} {sp : List Nat} {F0 H0 : Hp} (h : EnvR K Sp sp τ F0 H0 F H σ ρ) {i : Nat} {a : Addr} {vs : List V} {ds ds0 : List PyData} (hi : i ∉ sp) (hm : i ∈ τ) (e0 : ρ[i]? = some (some (.list ds0))) (e1 : σ[i]? = some (some (.ref a))) (r : RepAll K F vs ds) :
    EnvR K Sp sp τ F0 H0 F (upd H a (.lst vs)) σ (ρ.set i (some (.list ds))) := by
  obtain ⟨v, e2, q⟩ := h.slot i _ e0
  rw [e1] at e2; cases e2
  rw [if_neg hi, if_pos hm] at q
  obtain ⟨a', vs0, e3, hs, h0, hf, _⟩ := q
  cases e3
  have lt : i < ρ.length := by
    rcases Nat.lt_or_ge i ρ.length with l | l
    · exact l
    · rw [List.getElem?_eq_none l] at e0; cases e0
  have x : Ext F0 H0 F (upd H a (.lst vs)) := h.ext.setOwn h0 hf
  have fix : ∀ {j : Nat} {es}, (ρ.set i (some (PyData.list ds)))[j]? = some (some (.list es)) → ∃ es, ρ[j]? = some (some (.list es)) := by
    intro j es hj
    by_cases c : i = j
    · subst c; exact ⟨_, e0⟩
    · rw [List.getElem?_set_ne c] at hj; exact ⟨_, hj⟩
  refine ⟨x, fun j e hj => ?_, fun j k b es es' njk hj hk nj nk q1 q2 q3 q4 => ?_, by simp [h.len], h.spm⟩
  · by_cases c : i = j
    · subst c
      rw [List.getElem?_set_self lt] at hj
      cases hj
      refine ⟨_, e1, ?_⟩
      rw [if_neg hi, if_pos hm]
      exact ⟨a, vs, rfl, upd_same, h0, hf, r⟩
    · rw [List.getElem?_set_ne c] at hj
      obtain ⟨w, e4, q⟩ := h.slot j e hj
      refine ⟨w, e4, ?_⟩
      by_cases c1 : j ∈ sp
      · rw [if_pos c1] at q ⊢
        refine q.to h.spm (.refl _) fun b h1 h2 h3 h4 => ⟨upd_ne fun z => h4 i ds0 hm hi e0 (by rw [z]; exact e1), h2, fun k es hk hs r1 r2 => ?_⟩
        obtain ⟨es', r3⟩ := fix r1
        exact h4 k es' hk hs r3 r2
      · rw [if_neg c1] at q ⊢
        by_cases c2 : j ∈ τ
        · rw [if_pos c2] at q ⊢
          cases e with
          | list es =>
            obtain ⟨b, ws, rfl, hb, hb0, hbf, rb⟩ := q
            have : b ≠ a := fun z => h.apart j i b es ds0 (fun z => c z.symm) c2 hm c1 hi hj e0 e4 (by rw [z]; exact e1)
            exact ⟨b, ws, rfl, by rw [upd_ne this]; exact hb, hb0, hbf, rb⟩
          | none => exact q
          | bool _ => exact q
          | int _ => exact q
          | str _ => exact q
          | tuple _ => exact q
          | dict _ => exact q
        · rw [if_neg c2] at q ⊢; exact q
  · obtain ⟨_, q1⟩ := fix q1
    obtain ⟨_, q2⟩ := fix q2
    exact h.apart j k b _ _ njk hj hk nj nk q1 q2 q3 q4
end
end Pyr

namespace Pyr
open PySem L2 PyProof.Rows
open R (ok exc stuck)

section
variable {X : Cx} {z : Z} {W : WX} {fm : Md} {o o' : Outs} {τ τ' : List Nat} {pos : Pos} {st : Stmt} {sts : List Stmt} {sem sem2 : Env → Out}
abbrev SS (X : Cx) (z : Z) (W : WX) (fm : Md) (τ : List Nat) (o : Outs) (sem : Env → Out) : TS := tS X.K X.mg z W fm τ o sem
theorem s_weak (h : PS X st (SS X z W fm τ' o sem)) (ht : ∀ i ∈ τ', i ∈ τ) (l : Outs.Le o' o) : PS X st (SS X z W fm τ o' sem) := PS.imp h fun _ _ _ w => tS_weak ht l w
theorem ss_weak (h : PSs X sts (SS X z W fm τ' o sem)) (ht : ∀ i ∈ τ', i ∈ τ) (l : Outs.Le o' o) : PSs X sts (SS X z W fm τ o' sem) := PSs.imp h fun _ _ _ w => tS_weak ht l w
theorem s_next (h : PS X st tNext) (ho : o.nx = τ) : PS X st (SS X z W fm τ o fun ρ => .nx ρ) := by
  refine PS.imp h ?_
  rintro D σ H ⟨F, ρ, env, w⟩
  try dsimp only at w
  exact w σ F H (.refl _) (by rw [ho]; exact env)
theorem ss_nil (ho : o.nx = τ) : PSs X [] (SS X z W fm τ o fun ρ => .nx ρ) := by
  refine PSs.imp pss_nil ?_
  rintro D σ H ⟨F, ρ, env, w⟩
  try dsimp only at w
  exact w σ F H (.refl _) (by rw [ho]; exact env)
theorem s_brk (ho : o.bk = τ) : PS X (.Break pos) (SS X z W fm τ o fun ρ => .bk ρ) := by
  refine PS.imp ps_break ?_
  rintro D σ H ⟨F, ρ, env, w⟩
  try dsimp only at w
  exact w σ F H (.refl _) (by rw [ho]; exact env)
theorem s_cont (ho : o.ct = τ) : PS X (.Continue pos) (SS X z W fm τ o fun ρ => .ct ρ) := by
  refine PS.imp ps_continue ?_
  rintro D σ H ⟨F, ρ, env, w⟩
  try dsimp only at w
  exact w σ F H (.refl _) (by rw [ho]; exact env)
theorem ss_cons {τ1 : List Nat} (h1 : PS X st (SS X z W fm τ { o with nx := τ1 } sem)) (h2 : PSs X sts (SS X z W fm τ1 o sem2)) : PSs X (st :: sts) (SS X z W fm τ o fun ρ => (sem ρ).seq sem2) := by
  refine PSs.imp (pss_cons h1 h2) ?_
  rintro D σ H ⟨F, ρ, env, w⟩
  try dsimp only at w
  refine ⟨F, ρ, env, ?_⟩
  cases e : sem ρ with
  | nx ρ1 =>
    rw [e] at w
    intro σ1 F1 H1 s1 env1
    exact ⟨F1, ρ1, env1, PostS.more s1 w⟩
  | bk ρ1 => rw [e] at w; exact w
  | ct ρ1 => rw [e] at w; exact w
  | rt d => rw [e] at w; exact w
  | exc c f ρ1 => rw [e] at w; exact w
  | stuck => rw [e] at w; exact w
/-- a statement behind which nothing is come to -/
def noNx : Out → Prop
  | .nx _ => False
  | _ => True
theorem ss_cons0 (h1 : PS X st (SS X z W fm τ o sem)) (hn : ∀ ρ, noNx (sem ρ)) : PSs X (st :: sts) (SS X z W fm τ o fun ρ => (sem ρ).seq sem2) := by
  refine PSs.imp (pss_cons h1 pss_never) ?_
  rintro D σ H ⟨F, ρ, env, w⟩
  try dsimp only at w
  refine ⟨F, ρ, env, ?_⟩
  have := hn ρ
  cases e : sem ρ with
  | nx ρ1 => rw [e] at this; exact this.elim
  | bk ρ1 => rw [e] at w; exact w
  | ct ρ1 => rw [e] at w; exact w
  | rt d => rw [e] at w; exact w
  | exc c f ρ1 => rw [e] at w; exact w
  | stuck => rw [e] at w; exact w
theorem s_if {c : Expr} {a b : List Stmt} {sc : Env → R Bool} {sa sb : Env → Out} (hx : ∀ i ∈ o.ex, i ∈ τ) (hc : PT X c (tT X.K X.mg z W τ sc)) (ha : PSs X a (SS X z W fm τ o sa)) (hb : PSs X b (SS X z W fm τ o sb)) :
    PS X (.If c a b pos) (SS X z W fm τ o fun ρ => (sc ρ).out ρ fun k => if k then sa ρ else sb ρ) := by
  refine PS.imp (ps_if hc ha hb) ?_
  rintro D σ H ⟨F, ρ, env, w⟩
  try dsimp only at w
  refine outT hx env w fun k F1 H1 e x env1 w1 => ?_
  cases k with
  | true => exact ⟨F1, ρ, env1, w1⟩
  | false => exact ⟨F1, ρ, env1, w1⟩
theorem s_expr {e : Expr} {m : Md} {s1 : Env → R PyData} (hx : ∀ i ∈ o.ex, i ∈ τ) (he : PE X e (tE X.K X.mg z W τ m s1)) (hs : swapsWith e none pos.line X.env = pure false) (ho : o.nx = τ) :
    PS X (.Expr e pos) (SS X z W fm τ o fun ρ => (s1 ρ).out ρ fun _ => .nx ρ) := by
  refine PS.imp (ps_expr he hs) ?_
  rintro D σ H ⟨F, ρ, env, w⟩
  try dsimp only at w
  refine outE hx env w fun d v F1 H1 e x env1 r w1 => ?_
  exact w1 σ F1 H1 (.refl _) (by rw [ho]; exact env1)
theorem s_ret {e : Expr} {s1 : Env → R PyData} (hx : ∀ i ∈ o.ex, i ∈ τ) (he : PE X e (tE X.K X.mg z W τ fm s1)) : PS X (.Return (some e) pos) (SS X z W fm τ o fun ρ => (s1 ρ).out ρ .rt) := by
  refine PS.imp (ps_ret he) ?_
  rintro D σ H ⟨F, ρ, env, w⟩
  try dsimp only at w
  refine outE hx env w fun d v F1 H1 e x env1 r w1 => ?_
  exact w1 v F1 H1 (.refl _) env1.ext (r.back env.ext.sH)
/-- an owned slot is handed back -/
theorem s_retV {i : Nat} {x : Str} {p : Pos} (hN : X.N[i]? = some x) (hv : Vis X.env.scope x) (hd : (x == ("__debug__" : Str)) = false) (hcd : (x == ("__classdict__" : Str)) = false) (hs : i ∉ z.sp) (hm : i ∈ τ) (hf : fm = .fresh) :
    PS X (.Return (some (.Name x p)) pos) (SS X z W fm τ o fun ρ => (getS ρ i).out ρ .rt) := by
  refine PS.imp (ps_ret (pe_var hN hv hd hcd)) ?_
  rintro D σ H ⟨F, ρ, env, w⟩
  try dsimp only at w
  dsimp only [getS] at w
  split at w
  · rename_i d e
    obtain ⟨v, e1, q⟩ := env.slot i d e
    rw [if_neg hs, if_pos hm] at q
    subst hf
    exact ⟨v, e1, w v F H (.refl _) env.ext q⟩
  · exact w.elim
theorem s_retN : PS X (.Return none pos) (SS X z W fm τ o fun ρ => .rt .none) := by
  refine PS.imp ps_retN ?_
  rintro D σ H ⟨F, ρ, env, w⟩
  try dsimp only at w
  exact w _ F H (.refl _) env.ext (.flat .non (fun _ h => nomatch h) fm)
/-- name = e -/
theorem set_red {i : Nat} {te : TE} {m : Md} {s1 : Env → R PyData} {D : Ends} {σ : L2.St} {H : Hp} (hx : ∀ j ∈ o.ex, j ∈ τ) (hi : i ∉ z.sp) (ho : (m = .frz ∧ o.nx = minus τ [i]) ∨ (m = .fresh ∧ o.nx = i :: minus τ [i]))
    (hte : ∀ σ H Q, tE X.K X.mg z W τ m s1 σ H Q → te σ H Q) (w : SS X z W fm τ o (fun ρ => (s1 ρ).out ρ fun d => .nx (ρ.set i (some d))) D σ H) : tAsg te (gName i) D σ H := by
  obtain ⟨F, ρ, env, w⟩ := w
  refine hte _ _ _ (outE hx env w fun d v F1 H1 e x env1 r w1 => ?_)
  refine w1 _ F1 H1 (.refl _) ?_
  rcases ho with ⟨rfl, ho⟩ | ⟨rfl, ho⟩
  · rw [ho]
    exact env1.setFrz hi (is := [i]) List.mem_cons_self (fun j hj => .inl (by simpa using hj)) r
  · rw [ho]
    exact EnvR.setFresh env x hi r
theorem s_set {i : Nat} {x : Str} {e : Expr} {m : Md} {p : Pos} {s1 : Env → R PyData} (hx : ∀ j ∈ o.ex, j ∈ τ) (hN : X.N.Nodup) (hi : X.N[i]? = some x) (hl : Loc X.env.scope x) (hf : X.fn x = true ∨ X.env.scope.names.lookup x = some .local) (he : PE X e (tE X.K X.mg z W τ m s1))
    (hs : swapsWith e (some (.Name x p)) pos.line X.env = pure false) (hsp : i ∉ z.sp) (ho : (m = .frz ∧ o.nx = minus τ [i]) ∨ (m = .fresh ∧ o.nx = i :: minus τ [i])) :
    PS X (.Assign [.Name x p] e pos) (SS X z W fm τ o fun ρ => (s1 ρ).out ρ fun d => .nx (ρ.set i (some d))) :=
  PS.imp (ps_set hN hi hl he hs hf) fun _ _ _ w => set_red hx hsp ho (fun _ _ _ q => q) w
/-- name = [.. for ..] -/
theorem s_setLc {i : Nat} {y : Str} {py p2 : Pos} {elt tg iter : Expr} {ifs : List Expr} {scope : Scope} {own : List (Str × Nat)} {t : Tg} {sI : Env → R (List PyData)} {sC : Env → R Bool} {sE : Env → R PyData} {tt : TT} (hx : ∀ j ∈ o.ex, j ∈ τ) (hc : X.calm = true) (hN : X.N.Nodup) (hy : X.N[i]? = some y)
    (hyl : X.env.scope.names.lookup y = some .local) (hsw : swapsWith (.ListComp elt [⟨tg, iter, ifs, 0⟩] scope p2) (some (.Name y py)) pos.line X.env = pure true) (hi : PI X tg iter (tI X.K X.mg z W τ sI)) (bo : BlkOk X.N X.env.scope scope own)
    (ho : own.map (·.2) = t.slots) (hsp : ∀ i ∈ t.slots, i ∉ z.sp) (hg : ∀ (s : Shared) (H : Hp) (C : Addr) (cl : List (Str × Addr)) (fp : List Addr), PG (X.blk s H scope (compEnvC scope cl C X.env) fp) tg (gTg X.K t))
    (ht : ∀ (s : Shared) (H : Hp) (C : Addr) (cl : List (Str × Addr)) (fp : List Addr), PTs (X.blk s H scope (compEnvC scope cl C X.env) fp) ifs tt) (htt : ∀ σ H Q, tT X.K X.mg z W0 (minus τ t.slots) sC σ H Q → tt σ H Q)
    (hE : ∀ (s : Shared) (H : Hp) (C : Addr) (cl : List (Str × Addr)) (fp : List Addr), PE (X.blk s H scope (compEnvC scope cl C X.env) fp) elt (tE X.K X.mg z W0 (minus τ t.slots) .frz sE)) (hs : ∀ x, foldedSetIterable iter X.env x = pure x) (hsp2 : i ∉ z.sp) (hnx : o.nx = i :: minus τ [i]) :
    PS X (.Assign [.Name y py] (.ListComp elt [⟨tg, iter, ifs, 0⟩] scope p2) pos) (SS X z W fm τ o fun ρ => ((sI ρ).bind fun ds => (compL (compF t sC sE ρ) ds).bind fun ys => ok (.list ys)).out ρ fun d => .nx (ρ.set i (some d))) :=
  PS.imp (ps_setLc (i := i) hc hN hy hyl hsw hi bo hg ht hE hs) fun _ _ _ w => set_red (m := .fresh) hx hsp2 (.inr ⟨rfl, hnx⟩) (fun _ _ _ q => comp_red (elt := elt) (tg := tg) (iter := iter) (ifs := ifs) ho hsp htt q) w
theorem s_comp {elt tg iter : Expr} {ifs : List Expr} {scope : Scope} {own : List (Str × Nat)} {t : Tg} {sI : Env → R (List PyData)} {sC : Env → R Bool} {sE : Env → R PyData} {tt : TT} (hc : X.calm = true) (hN : X.N.Nodup)
    (hi : PI X tg iter (tI X.K X.mg z W τ sI)) (bo : BlkOk X.N X.env.scope scope own)
    (ho : own.map (·.2) = t.slots) (hsp : ∀ i ∈ t.slots, i ∉ z.sp) (hg : ∀ (s : Shared) (H : Hp) (C : Addr) (cl : List (Str × Addr)) (fp : List Addr), PG (X.blk s H scope (compEnvC scope cl C X.env) fp) tg (gTg X.K t))
    (ht : ∀ (s : Shared) (H : Hp) (C : Addr) (cl : List (Str × Addr)) (fp : List Addr), PTs (X.blk s H scope (compEnvC scope cl C X.env) fp) ifs tt) (htt : ∀ σ H Q, tT X.K X.mg z W0 (minus τ t.slots) sC σ H Q → tt σ H Q)
    (hE : ∀ (s : Shared) (H : Hp) (C : Addr) (cl : List (Str × Addr)) (fp : List Addr), PE (X.blk s H scope (compEnvC scope cl C X.env) fp) elt (tE X.K X.mg z W0 (minus τ t.slots) .frz sE)) (hs : ∀ x, foldedSetIterable iter X.env x = pure x) :
    PE X (.ListComp elt [⟨tg, iter, ifs, 0⟩] scope pos) (tE X.K X.mg z W τ .fresh fun ρ => (sI ρ).bind fun ds => (compL (compF t sC sE ρ) ds).bind fun ys => ok (.list ys)) :=
  PE.imp (pe_lc hc hN hi bo hg ht hE hs) fun _ _ _ q => comp_red (elt := elt) (tg := tg) (iter := iter) (ifs := ifs) ho hsp htt q
/-- a, b, .. = e -/
theorem s_unpack {t : Tg} {tg e : Expr} {s1 : Env → R PyData} (hx : ∀ i ∈ o.ex, i ∈ τ) (he : PE X e (tE X.K X.mg z W τ .frz s1)) (hg : PG X tg (gTg X.K t)) (hs : swapsWithSole [tg] e pos.line X.env = pure false) (hw : swappedStores [tg] e X.env = pure none)
    (h1 : (assignEach [tg] X.env).map (·.2) = [assign tg X.env]) (hsp : ∀ i ∈ t.slots, i ∉ z.sp) (ho : o.nx = minus τ t.slots) :
    PS X (.Assign [tg] e pos) (SS X z W fm τ o fun ρ => (s1 ρ).out ρ fun d => setO (setTg t d ρ)) := by
  refine PS.imp (ps_asg he hg hs hw h1) ?_
  rintro D σ H ⟨F, ρ, env, w⟩
  try dsimp only at w
  refine outE hx env w fun d v F1 H1 e x env1 r w1 => ?_
  cases e2 : setTg t d ρ with
  | none => rw [e2] at w1; exact w1.elim
  | some ρ' =>
    rw [e2] at w1
    exact gTg_ok (js := t.slots) env1 r e2 hsp (fun _ h => h) fun σ' env2 _ => w1 σ' F1 H1 (.refl _) (by rw [ho]; exact env2)
/-- a, b = x, y -/
theorem s_par2 {i j : Nat} {x y : Str} {a b : Expr} {px py pt pt2 : Pos} {kt k2 : Nat} {s1 : Env → R (List PyData)} (hx : ∀ i ∈ o.ex, i ∈ τ) (hc : X.calm = true) (hN : X.N.Nodup) (hi : X.N[i]? = some x) (hj : X.N[j]? = some y) (hij : i ≠ j)
    (hxl : X.env.scope.names.lookup x = some .local) (hyl : X.env.scope.names.lookup y = some .local) (ha : PA X [a, b] (tA X.K X.mg z W τ s1))
    (hw : swappedStores [.Tuple [.Name x px, .Name y py] kt pt] (.Tuple [a, b] k2 pt2) X.env = pure (some [x, y])) (hsp : ∀ k ∈ [i, j], k ∉ z.sp) (ho : o.nx = minus τ [i, j]) :
    PS X (.Assign [.Tuple [.Name x px, .Name y py] kt pt] (.Tuple [a, b] k2 pt2) pos) (SS X z W fm τ o fun ρ => (s1 ρ).out ρ fun ds => setO (setAll [i, j] ds ρ)) := by
  refine PS.imp (ps_par hc hN hi hj hij hxl hyl ha hw) ?_
  rintro D σ H ⟨F, ρ, env, w⟩
  try dsimp only at w
  refine outA hx env w fun ds vs F1 H1 e x env1 r w1 => ?_
  cases e2 : setAll [i, j] ds ρ with
  | none => rw [e2] at w1; exact w1.elim
  | some ρ' =>
    rw [e2] at w1
    match ds, r, e2 with
    | [d1, d2], r, e2 =>
      obtain ⟨v1, r1, rfl, q1, r⟩ := r.inv_cons
      obtain ⟨v2, r2, rfl, q2, r⟩ := r.inv_cons
      rw [r.inv_nil]
      cases e2
      refine ⟨v1, v2, rfl, w1 _ F1 H1 (.refl _) ?_⟩
      rw [ho, minus_cons]
      exact (env1.setFrz (is := [i]) (hsp i (by simp)) List.mem_cons_self (fun k hk => .inl (by simpa using hk)) q1).setFrz (is := [j]) (hsp j (by simp)) List.mem_cons_self (fun k hk => .inl (by simpa using hk)) q2
    | [], _, e2 => cases e2
    | [_], _, e2 => cases e2
    | _ :: _ :: _ :: _, _, e2 => cases e2
theorem s_par3 {i j l : Nat} {x y u : Str} {a b c : Expr} {px py pu pt pt2 : Pos} {kt k2 : Nat} {s1 : Env → R (List PyData)} (hx : ∀ i ∈ o.ex, i ∈ τ) (hc : X.calm = true) (hN : X.N.Nodup) (hi : X.N[i]? = some x) (hj : X.N[j]? = some y) (hl : X.N[l]? = some u) (hij : i ≠ j) (hil : i ≠ l) (hjl : j ≠ l)
    (hxl : X.env.scope.names.lookup x = some .local) (hyl : X.env.scope.names.lookup y = some .local) (hul : X.env.scope.names.lookup u = some .local) (ha : PA X [a, b, c] (tA X.K X.mg z W τ s1))
    (hw : swappedStores [.Tuple [.Name x px, .Name y py, .Name u pu] kt pt] (.Tuple [a, b, c] k2 pt2) X.env = pure (some [x, y, u])) (hsp : ∀ k ∈ [i, j, l], k ∉ z.sp) (ho : o.nx = minus τ [i, j, l]) :
    PS X (.Assign [.Tuple [.Name x px, .Name y py, .Name u pu] kt pt] (.Tuple [a, b, c] k2 pt2) pos) (SS X z W fm τ o fun ρ => (s1 ρ).out ρ fun ds => setO (setAll [i, j, l] ds ρ)) := by
  refine PS.imp (ps_par3 hc hN hi hj hl hij hil hjl hxl hyl hul ha hw) ?_
  rintro D σ H ⟨F, ρ, env, w⟩
  try dsimp only at w
  refine outA hx env w fun ds vs F1 H1 e x env1 r w1 => ?_
  cases e2 : setAll [i, j, l] ds ρ with
  | none => rw [e2] at w1; exact w1.elim
  | some ρ' =>
    rw [e2] at w1
    match ds, r, e2 with
    | [d1, d2, d3], r, e2 =>
      obtain ⟨v1, r1, rfl, q1, r⟩ := r.inv_cons
      obtain ⟨v2, r2, rfl, q2, r⟩ := r.inv_cons
      obtain ⟨v3, r3, rfl, q3, r⟩ := r.inv_cons
      rw [r.inv_nil]
      cases e2
      refine ⟨v1, v2, v3, rfl, w1 _ F1 H1 (.refl _) ?_⟩
      rw [ho, minus_cons, minus_cons (is := [l])]
      exact ((env1.setFrz (is := [i]) (hsp i (by simp)) List.mem_cons_self (fun k hk => .inl (by simpa using hk)) q1).setFrz (is := [j]) (hsp j (by simp)) List.mem_cons_self (fun k hk => .inl (by simpa using hk)) q2).setFrz (is := [l]) (hsp l (by simp)) List.mem_cons_self (fun k hk => .inl (by simpa using hk)) q3
    | [], _, e2 => cases e2
    | [_], _, e2 => cases e2
    | [_, _], _, e2 => cases e2
    | _ :: _ :: _ :: _ :: _, _, e2 => cases e2
theorem getS_ok {ρ : Env} {i : Nat} {d : PyData} (h : getS ρ i = ok d) : ρ[i]? = some (some d) := by
  unfold getS at h
  split at h
  · rename_i e; cases h; exact e
  · cases h
theorem getS_cases (ρ : Env) (i : Nat) : (∃ d, getS ρ i = ok d) ∨ getS ρ i = stuck := by
  unfold getS
  split
  · exact .inl ⟨_, rfl⟩
  · exact .inr rfl
/-- i += e, of ints -/
theorem s_aug {i : Nat} {x : Str} {e : Expr} {p : Pos} {op : Op2} {bop : Operator} {s1 : Env → R PyData} (hop : (op = .add ∧ bop = .Add) ∨ (op = .sub ∧ bop = .Sub)) (hx : ∀ i ∈ o.ex, i ∈ τ) (hN : X.N.Nodup) (hi : X.N[i]? = some x) (hl : Loc X.env.scope x) (hf : X.fn x = true ∨ X.env.scope.names.lookup x = some .local)
    (he : PE X e (tE X.K X.mg z W τ .frz s1)) (hsp : i ∉ z.sp) (ho : o.nx = τ) :
    PS X (.AugAssign (.Name x p) bop e pos) (SS X z W fm τ o fun ρ => (getS ρ i).out ρ fun a => (s1 ρ).out ρ fun b => augF op a b i ρ) := by
  have go : ∀ {f : Int → Int → Int}, PIp X bop (ipI f) → (∀ a b ρ, augF op a b i ρ = .stuck ∨ ∃ p q, a = .int p ∧ b = .int q ∧ augF op a b i ρ = .nx (ρ.set i (some (.int (f p q))))) →
      PS X (.AugAssign (.Name x p) bop e pos) (SS X z W fm τ o fun ρ => (getS ρ i).out ρ fun a => (s1 ρ).out ρ fun b => augF op a b i ρ) := by
    intro f hip hcase
    refine PS.imp (ps_aug hN hi hl he hip hf) ?_
    rintro D σ H ⟨F, ρ, env, w⟩
    try dsimp only at w
    rcases getS_cases ρ i with ⟨a, ea⟩ | ea
    · rw [ea] at w
      have eρ := getS_ok ea
      obtain ⟨v, e1, q⟩ := env.slot i a eρ
      rw [if_neg hsp] at q
      refine ⟨v, e1, outE hx env w fun b v2 F1 H1 e x env1 r w1 => ?_⟩
      rcases hcase a b ρ with h | ⟨p, q2, rfl, rfl, h⟩
      · rw [h] at w1; exact w1.elim
      · rw [h] at w1
        have rv : v = .int p := by
          split at q
          · exact Rep.int_inv q
          · exact Rep.int_inv q
        refine ⟨p, q2, rv, Rep.int_inv r, w1 _ F1 H1 (.refl _) ?_⟩
        rw [ho]
        exact env1.setFlat hsp (.int _) (fun _ h => nomatch h)
    · rw [ea] at w; exact w.elim
  rcases hop with ⟨rfl, rfl⟩ | ⟨rfl, rfl⟩
  · refine go ip_add fun a b ρ => ?_
    cases a <;> cases b <;> first | exact .inl rfl | exact .inr ⟨_, _, rfl, rfl, rfl⟩
  · refine go ip_sub fun a b ρ => ?_
    cases a <;> cases b <;> first | exact .inl rfl | exact .inr ⟨_, _, rfl, rfl, rfl⟩
/-! ### an own list that is changed -/
theorem own_at {F H : Hp} {σ : L2.St} {ρ : Env} {i : Nat} {ds : List PyData} (env : Ev X.K z τ F H σ ρ) (hs : i ∉ z.sp) (hm : i ∈ τ) (e : ρ[i]? = some (some (.list ds))) : ∃ a vs, σ[i]? = some (some (.ref a)) ∧ H a = some (.lst vs) ∧ RepAll X.K F vs ds := by
  obtain ⟨v, e1, q⟩ := env.slot i _ e
  rw [if_neg hs, if_pos hm] at q
  obtain ⟨a, vs, rfl, hs, h0, hf, r⟩ := q
  exact ⟨a, vs, e1, hs, r⟩
theorem getL_ok {ρ : Env} {i : Nat} {d : List PyData} (h : getL ρ i = ok d) : ρ[i]? = some (some (.list d)) := by
  unfold getL at h
  split at h
  · rename_i e; cases h; exact e
  · cases h
theorem getL_cases (ρ : Env) (i : Nat) : (∃ d, getL ρ i = ok d) ∨ getL ρ i = stuck := by
  unfold getL
  split
  · exact .inl ⟨_, rfl⟩
  · exact .inr rfl
theorem outA1 {F H : Hp} {σ : L2.St} {ρ : Env} {D : Ends} {s1 : Env → R PyData} {f : PyData → Out} {G : List V → Hp → Prop} (hx : ∀ i ∈ o.ex, i ∈ τ) (env : Ev X.K z τ F H σ ρ) (w : PostS X.K X.mg z W fm o D F ((s1 ρ).out ρ f))
    (h : ∀ d v F1 H1, s1 ρ = ok d → Ext F H F1 H1 → Ev X.K z τ F1 H1 σ ρ → Rep X.K F1 v d → PostS X.K X.mg z W fm o D F1 (f d) → G [v] H1) : tA X.K X.mg z W τ (fun ρ => (s1 ρ).bind fun d => (ok [] : R (List PyData)).bind fun ds => ok (d :: ds)) σ H G := by
  refine ⟨F, ρ, env, ?_⟩
  show PostA X.K X.mg z W F H σ _ ((s1 ρ).bind fun d => ok [d])
  cases e2 : s1 ρ with
  | stuck => rw [e2] at w; exact w
  | exc c f =>
    rw [e2] at w
    intro F' H' cls dx x q
    obtain ⟨F2, s2, e2⟩ := (env.more x).fewer hx
    exact w σ F2 H' cls dx (x.sF.trans s2) e2 (q.mono s2)
  | ok d =>
    rw [e2] at w
    intro us F1 H1 x r
    obtain ⟨v, rs, rfl, rv1, rr⟩ := r.inv_cons
    rw [rr.inv_nil]
    exact h d v F1 H1 e2 x (env.more x) rv1 (PostS.more x.sF w)
theorem s_app {i : Nat} {x : Str} {e : Expr} {p1 p2 p3 : Pos} {s1 : Env → R PyData} (hx : ∀ i ∈ o.ex, i ∈ τ) (hN : X.N[i]? = some x) (hv : Vis X.env.scope x) (hd : (x == ("__debug__" : Str)) = false) (hcd : (x == ("__classdict__" : Str)) = false) (hs : i ∉ z.sp) (hm : i ∈ τ)
    (he : PE X e (tE X.K X.mg z W τ .frz s1)) (hns : NoStar e) (hline : (p2.endLine == p3.line) = true) (ho : o.nx = τ) :
    PS X (.Expr (.Call (.Attribute (.Name x p1) "append" p2) [e] [] p3) pos) (SS X z W fm τ o fun ρ => (getL ρ i).out ρ fun xs => (s1 ρ).out ρ fun d => appF i xs d ρ) := by
  refine PS.imp (ps_expr (pe_bm PySem.F.plainAttrs_list PySem.F.slot_list_append PySem.F.type_list_append mt_append (pe_var hN hv hd hcd) (s_cons he s_nil (hns _ _)) rfl (by rw [hns]; rfl) hline (hns _ _) rfl) rfl) ?_
  rintro D σ H ⟨F, ρ, env, w⟩
  try dsimp only at w
  rcases getL_cases ρ i with ⟨ds, ea⟩ | ea
  · rw [ea] at w
    have eρ := getL_ok ea
    obtain ⟨b, vs, e1, hb, rv⟩ := own_at env hs hm eρ
    refine ⟨_, e1, .inl ⟨rfl, vs, .of hb⟩, outA1 hx env w fun d v F1 H1 e2 x env1 r w1 => ?_⟩
    unfold appF at w1
    split at w1
    · rename_i c
      refine ⟨b, vs, v, rfl, rfl, x.sH _ _ hb, by rw [rv.length, line_eq]; exact c, w1 σ F1 _ (.refl _) ?_⟩
      rw [ho]
      exact env1.mut hs hm eρ e1 (.append (rv.mono x.sF) (.cons r .nil))
    · exact w1.elim
  · rw [ea] at w; exact w.elim
theorem s_ext {i : Nat} {x : Str} {e : Expr} {p1 p2 p3 : Pos} {s1 : Env → R PyData} (hx : ∀ i ∈ o.ex, i ∈ τ) (hN : X.N[i]? = some x) (hv : Vis X.env.scope x) (hd : (x == ("__debug__" : Str)) = false) (hcd : (x == ("__classdict__" : Str)) = false) (hs : i ∉ z.sp) (hm : i ∈ τ)
    (he : PE X e (tE X.K X.mg z W τ .fresh s1)) (hns : NoStar e) (hline : (p2.endLine == p3.line) = true) (ho : o.nx = τ) :
    PS X (.Expr (.Call (.Attribute (.Name x p1) "extend" p2) [e] [] p3) pos) (SS X z W fm τ o fun ρ => (getL ρ i).out ρ fun xs => (s1 ρ).out ρ fun d => extF i xs d ρ) := by
  refine PS.imp (ps_expr (pe_bm PySem.F.plainAttrs_list PySem.F.slot_list_extend PySem.F.type_list_extend mt_extend (pe_var hN hv hd hcd) (pa_cons he pa_nil (hns _ _)) rfl (by rw [hns]; rfl) hline (hns _ _) rfl) rfl) ?_
  rintro D σ H ⟨F, ρ, env, w⟩
  try dsimp only at w
  rcases getL_cases ρ i with ⟨ds, ea⟩ | ea
  · rw [ea] at w
    have eρ := getL_ok ea
    obtain ⟨b, vs, e1, hb, rv⟩ := own_at env hs hm eρ
    refine ⟨_, e1, .inl ⟨rfl, vs, .of hb⟩, outE hx env w fun d v F1 H1 e2 x env1 r w1 => ?_⟩
    unfold extF at w1
    cases d <;> first | exact w1.elim | skip
    rename_i es
    try dsimp only at w1
    split at w1
    · rename_i c
      obtain ⟨a2, vs2, rfl, h2, hn, hf, r2⟩ := r
      refine ⟨b, a2, vs, vs2, rfl, rfl, x.sH _ _ hb, h2, by rw [rv.length, r2.length, line_eq]; exact c, w1 σ F1 _ (.refl _) ?_⟩
      rw [ho]
      exact env1.mut hs hm eρ e1 (.append (rv.mono x.sF) r2)
    · exact w1.elim
  · rw [ea] at w; exact w.elim
theorem s_ins {i : Nat} {x : Str} {k e : Expr} {p1 p2 p3 : Pos} {s1 s2 : Env → R PyData} (hx : ∀ i ∈ o.ex, i ∈ τ) (hN : X.N[i]? = some x) (hv : Vis X.env.scope x) (hd : (x == ("__debug__" : Str)) = false) (hcd : (x == ("__classdict__" : Str)) = false) (hs : i ∉ z.sp) (hm : i ∈ τ)
    (hk : PE X k (tE X.K X.mg z W τ .frz s1)) (he : PE X e (tE X.K X.mg z W τ .frz s2)) (hnk : NoStar k) (hns : NoStar e) (hline : (p2.endLine == p3.line) = true) (ho : o.nx = τ) :
    PS X (.Expr (.Call (.Attribute (.Name x p1) "insert" p2) [k, e] [] p3) pos) (SS X z W fm τ o fun ρ => (getL ρ i).out ρ fun xs => (s1 ρ).out ρ fun n => (s2 ρ).out ρ fun d => insF i xs n d ρ) := by
  refine PS.imp (ps_expr (pe_bm PySem.F.plainAttrs_list PySem.F.slot_list_insert PySem.F.type_list_insert mt_insert (pe_var hN hv hd hcd) (pa_cons hk (pa_cons he pa_nil (hns _ _)) (hnk _ _)) rfl (by rw [hnk, hns]; rfl) hline (hnk _ _) (by rw [hns]; rfl)) rfl) ?_
  rintro D σ H ⟨F, ρ, env, w⟩
  try dsimp only at w
  rcases getL_cases ρ i with ⟨ds, ea⟩ | ea
  · rw [ea] at w
    have eρ := getL_ok ea
    obtain ⟨b, vs, e1, hb, rv⟩ := own_at env hs hm eρ
    refine ⟨_, e1, .inl ⟨rfl, vs, .of hb⟩, outE hx env w fun n vn F1 H1 e2 x env1 rn w1 => outE hx env1 w1 fun d v F2 H2 e3 x2 env2 r w2 => ?_⟩
    unfold insF at w2
    cases n <;> first | exact w2.elim | skip
    try dsimp only at w2
    split at w2
    · rename_i c
      refine ⟨b, vs, _, v, rfl, by rw [Rep.int_inv rn], x2.sH _ _ (x.sH _ _ hb), by rw [rv.length, line_eq]; exact c.1, c.2.1, c.2.2, w2 σ F2 _ (.refl _) ?_⟩
      rw [ho]
      have rv2 := rv.mono (x.sF.trans x2.sF)
      exact env2.mut hs hm eρ e1 (.append (.append (rv2.take _) (.cons r .nil)) (rv2.drop _))
    · exact w2.elim
  · rw [ea] at w; exact w.elim
/-- x[k] = e -/
theorem s_setidx {i : Nat} {x : Str} {k e : Expr} {p1 p2 : Pos} {s1 s2 : Env → R PyData} (hx : ∀ i ∈ o.ex, i ∈ τ) (hN : X.N[i]? = some x) (hv : Vis X.env.scope x) (hd : (x == ("__debug__" : Str)) = false) (hcd : (x == ("__classdict__" : Str)) = false) (hs : i ∉ z.sp) (hm : i ∈ τ)
    (he : PE X e (tE X.K X.mg z W τ .frz s1)) (hk : PE X k (tE X.K X.mg z W τ .peek s2)) (ho : o.nx = τ)
    (ha : ∀ v, assign (.Subscript (.Name x p1) k p2) X.env v = (do
      let ov ← holding [v] (eval (.Name x p1) X.env)
      let iv ← holding [v, ov] (eval k X.env)
      standAt p2
      holding [v, ov, iv] (setItem ov iv v)
      release [v, ov, iv] []))
    (hsw : swapsWithSole [.Subscript (.Name x p1) k p2] e pos.line X.env = pure false) (hw : swappedStores [.Subscript (.Name x p1) k p2] e X.env = pure none) :
    PS X (.Assign [.Subscript (.Name x p1) k p2] e pos) (SS X z W fm τ o fun ρ => (s1 ρ).out ρ fun d => (getL ρ i).out ρ fun xs => (s2 ρ).out ρ fun n => setF i xs d n ρ) := by
  refine PS.imp (ps_asg he (pg_sub (pe_var hN hv hd hcd) hk set_list ha) hsw hw rfl) ?_
  rintro D σ H ⟨F, ρ, env, w⟩
  try dsimp only at w
  refine outE hx env w fun d v F1 H1 e2 x env1 r w1 => ?_
  rcases getL_cases ρ i with ⟨ds, ea⟩ | ea
  · rw [ea] at w1
    have eρ := getL_ok ea
    obtain ⟨b, vs, e1, hb, rv⟩ := own_at env1 hs hm eρ
    refine ⟨_, e1, outE hx env1 w1 fun n vn F2 H2 e3 x2 env2 rn w2 => ?_⟩
    unfold setF at w2
    cases n <;> first | exact w2.elim | skip
    try dsimp only at w2
    split at w2
    · rename_i m hm2
      refine ⟨b, vs, _, m, rfl, Rep.int_inv rn, x2.sH _ _ hb, by rw [rv.length]; exact hm2, w2 σ F2 _ (.refl _) ?_⟩
      rw [ho]
      exact env2.mut hs hm eρ e1 (RepAll.set (Rep.mono r x2.sF) m (rv.mono x2.sF))
    · exact w2.elim
  · rw [ea] at w1; exact w1.elim

/-! ### loops -/
theorem s_for {t : Tg} {tg iter : Expr} {body : List Stmt} {sI : Env → R (List PyData)} {sb : Env → Out} {τL τB : List Nat} (hp : PassesOwn (model X.prog X.w) X.A X.env X.xe) (hc : X.calm = true) (hi : PI X tg iter (tI X.K X.mg z W τ sI)) (hg : PG X tg (gTg X.K t))
    (hb : PSs X body (SS X z W fm τB { nx := τL, bk := τL, ct := τL, ex := o.ex } sb)) (hs : ∀ x, foldedSetIterable iter X.env x = pure x) (hx : ∀ i ∈ o.ex, i ∈ τ) (hsp : ∀ i ∈ t.slots, i ∉ z.sp) (hτ : τ = τL) (hB : τB = minus τL t.slots) (ho : o.nx = τL) :
    PS X (.For tg iter body [] pos) (SS X z W fm τ o fun ρ => (sI ρ).out ρ fun ds => forL (stepF t sb) ds ρ) := by
  subst hτ
  refine PS.imp (ps_for hp hc hi hg hb hs) ?_
  rintro D σ H ⟨F, ρ, env, w⟩
  try dsimp only at w
  refine ⟨F, ρ, env, ?_⟩
  cases e : sI ρ with
  | stuck => rw [e] at w; exact w
  | exc c f =>
    rw [e] at w
    intro F' H' cls dx x q
    obtain ⟨F2, s2, e2⟩ := (env.more x).fewer hx
    exact w σ F2 H' cls dx (x.sF.trans s2) e2 (q.mono s2)
  | ok ds =>
    rw [e] at w
    intro J F1 H1 x1 hl wk
    have w : PostS X.K X.mg z W fm o D F1 (forL (stepF t sb) ds ρ) := PostS.more x1.sF w
    refine ⟨fun i m σ H' => m = ds.length - i ∧ i ≤ ds.length ∧ ∃ F' ρ', Same F1 F' ∧ Ev X.K z τ F' H' σ ρ' ∧ PostS X.K X.mg z W fm o D F' (forL (stepF t sb) (ds.drop i) ρ'), ⟨_, rfl, Nat.zero_le _, F1, ρ, .refl _, env.more x1, w⟩, ?_⟩
    rintro i m σ' H' ⟨rfl, hi', F', ρ', s1, env1, w1⟩
    obtain ⟨wk1, wk2⟩ := wk F' H' s1 env1.ext.sub i
    by_cases hlt : i < ds.length
    · right
      have ed : ds[i]? = some ds[i] := by simp [hlt]
      obtain ⟨go, yld⟩ := wk1 _ ed
      rw [List.drop_eq_getElem_cons hlt] at w1
      simp only [forL] at w1
      refine ⟨go, fun σ4 H4 => ∃ F4 ρ4, Same F1 F4 ∧ Ev X.K z τ F4 H4 σ4 ρ4 ∧ PostS X.K X.mg z W fm o D F4 (forL (stepF t sb) (ds.drop (i + 1)) ρ4), fun σ4 H4 ⟨F4, ρ4, a, b, c⟩ => ⟨ds.length - (i + 1), by omega, rfl, hlt, F4, ρ4, a, b, c⟩, fun xv H2 y => ?_⟩
      obtain ⟨F2, x2, rx⟩ := yld xv H2 y
      have env2 := env1.more x2
      cases e3 : setTg t ds[i] ρ' with
      | none => simp only [stepF, e3] at w1; exact w1.elim
      | some ρ3 =>
        simp only [stepF, e3] at w1
        refine gTg_ok (js := t.slots) env2 rx e3 hsp (fun _ h => h) fun σ3 env3 _ => ⟨F2, ρ3, by rw [hB]; exact env3, ?_⟩
        have w1 := PostS.more x2.sF w1
        have s12 := s1.trans x2.sF
        cases e4 : sb ρ3 with
        | stuck => rw [e4] at w1; exact w1
        | nx ρ4 =>
          rw [e4] at w1
          intro σ5 F5 H5 s5 env5
          exact ⟨F5, ρ4, s12.trans s5, env5, PostS.more s5 w1⟩
        | ct ρ4 =>
          rw [e4] at w1
          intro σ5 F5 H5 s5 env5
          exact ⟨F5, ρ4, s12.trans s5, env5, PostS.more s5 w1⟩
        | bk ρ4 =>
          rw [e4] at w1
          intro σ5 F5 H5 s5 env5
          exact w1 σ5 F5 H5 s5 (by rw [ho]; exact env5)
        | rt v => rw [e4] at w1; exact w1
        | exc c f ρ4 => rw [e4] at w1; exact w1
    · left
      have ei : i = ds.length := by omega
      subst ei
      rw [List.drop_length] at w1
      exact ⟨wk2 (Nat.le_refl _), w1 σ' F' H' (.refl _) (by rw [ho]; exact env1)⟩
theorem s_while {c : Expr} {body : List Stmt} {sc : Env → R Bool} {sb : Env → Out} {n : Nat} (hp : PassesOwn (model X.prog X.w) X.A X.env X.xe) (hc : PT X c (tT X.K X.mg z W τ sc)) (hb : PSs X body (SS X z W fm τ { nx := τ, bk := τ, ct := τ, ex := o.ex } sb)) (hx : ∀ i ∈ o.ex, i ∈ τ) (ho : o.nx = τ) :
    PS X (.While c body [] pos) (SS X z W fm τ o fun ρ => whileL sc sb n ρ) := by
  refine PS.imp (ps_while hp hc hb) ?_
  rintro D σ H ⟨F, ρ, env, w⟩
  try dsimp only at w
  refine ⟨fun m σ H => ∃ F' ρ', Same F F' ∧ Ev X.K z τ F' H σ ρ' ∧ PostS X.K X.mg z W fm o D F' (whileL sc sb m ρ'), ⟨n, F, ρ, .refl _, env, w⟩, ?_⟩
  rintro m σ1 H1 ⟨F1, ρ1, s1, env1, w1⟩
  cases m with
  | zero => exact w1.elim
  | succ m =>
    simp only [whileL] at w1
    refine outT hx env1 w1 fun k F2 H2 e x env2 w2 => ?_
    cases k with
    | false => exact w2 σ1 F2 H2 (.refl _) (by rw [ho]; exact env2)
    | true =>
      simp only [if_true] at w2 ⊢
      refine ⟨fun σ4 H4 => ∃ F4 ρ4, Same F F4 ∧ Ev X.K z τ F4 H4 σ4 ρ4 ∧ PostS X.K X.mg z W fm o D F4 (whileL sc sb m ρ4), fun σ4 H4 q => ⟨m, Nat.lt_succ_self _, q⟩, F2, ρ1, env2, ?_⟩
      have s12 := s1.trans x.sF
      cases e4 : sb ρ1 with
      | stuck => rw [e4] at w2; exact w2
      | nx ρ4 =>
        rw [e4] at w2
        intro σ5 F5 H5 s5 env5
        exact ⟨F5, ρ4, s12.trans s5, env5, PostS.more s5 w2⟩
      | ct ρ4 =>
        rw [e4] at w2
        intro σ5 F5 H5 s5 env5
        exact ⟨F5, ρ4, s12.trans s5, env5, PostS.more s5 w2⟩
      | bk ρ4 =>
        rw [e4] at w2
        intro σ5 F5 H5 s5 env5
        exact w2 σ5 F5 H5 s5 (by rw [ho]; exact env5)
      | rt v => rw [e4] at w2; exact w2
      | exc c f ρ4 => rw [e4] at w2; exact w2
end
end Pyr

namespace Pyr
open PySem L2 PyProof.Rows
open R (ok exc stuck)

/-! # The checker: a row of the text IS an expression of the small language -/
structure G where
  defs : List (Str × Bool)
  globs : List (Str × D)
  blt : List Str
  N : List Str
  sp : List Nat
  cm : Bool
  exs : XTab
  cts : List Nat
  its : List Nat
  itv : Bool
  xfs : List Str

mutual
def eqD : D → D → Bool
  | .none, .none => true
  | .bool a, .bool b => a == b
  | .int a, .int b => decide (a = b)
  | .str a, .str b => decide (a = b)
  | .list as, .list bs => eqDs as bs
  | .tuple as, .tuple bs => eqDs as bs
  | _, _ => false
def eqDs : List D → List D → Bool
  | [], [] => true
  | a :: as, b :: bs => eqD a b && eqDs as bs
  | _, _ => false
end
mutual
theorem eqD_eq : ∀ {a b : D}, eqD a b = true → a = b
  | .none, b, h => by cases b <;> first | rfl | exact absurd h Bool.false_ne_true
  | .bool a, b, h => by
    cases b <;> first | exact absurd h Bool.false_ne_true | skip
    rename_i b
    exact congrArg _ (eq_of_beq (show (a == b) = true from h))
  | .int a, b, h => by
    cases b <;> first | exact absurd h Bool.false_ne_true | skip
    exact congrArg _ (of_decide_eq_true h)
  | .str a, b, h => by
    cases b <;> first | exact absurd h Bool.false_ne_true | skip
    exact congrArg _ (of_decide_eq_true h)
  | .list as, b, h => by
    cases b <;> first | exact absurd h Bool.false_ne_true | skip
    exact congrArg _ (eqDs_eq h)
  | .tuple as, b, h => by
    cases b <;> first | exact absurd h Bool.false_ne_true | skip
    exact congrArg _ (eqDs_eq h)
  | .dict x, b, h => by cases b <;> exact absurd h Bool.false_ne_true
theorem eqDs_eq : ∀ {a b : List D}, eqDs a b = true → a = b
  | [], b, h => by cases b <;> first | rfl | exact absurd h Bool.false_ne_true
  | a :: as, b, h => by
    cases b <;> first | exact absurd h Bool.false_ne_true | skip
    rename_i b bs
    obtain ⟨h1, h2⟩ := Bool.and_eq_true_iff.mp (show (eqD a b && eqDs as bs) = true from h)
    rw [eqD_eq h1, eqDs_eq h2]
end

def visB (sc : Scope) (x : Str) : Bool := match sc.names.lookup x with
  | some .local => true
  | some .cell => true
  | some .free => true
  | _ => false
theorem visB_ok {sc : Scope} {x : Str} (h : visB sc x = true) : Vis sc x := by
  unfold visB at h
  split at h <;> first | exact absurd h Bool.false_ne_true | skip
  · exact .inl (by assumption)
  · exact .inr (.inl (by assumption))
  · exact .inr (.inr (by assumption))
def locB (sc : Scope) (x : Str) : Bool := match sc.names.lookup x with
  | some .local => true
  | some .cell => true
  | _ => false
theorem locB_ok {sc : Scope} {x : Str} (h : locB sc x = true) : Loc sc x := by
  unfold locB at h
  split at h <;> first | exact absurd h Bool.false_ne_true | skip
  · exact .inl (by assumption)
  · exact .inr (by assumption)
def glB (sc : Scope) (x : Str) : Bool := match sc.names.lookup x with
  | some .globalImplicit => true
  | _ => false
theorem glB_ok {X : Cx} {x : Str} (h : glB X.env.scope x = true) : Gl X x := by
  unfold glB at h
  split at h <;> first | exact absurd h Bool.false_ne_true | skip
  assumption
def okName (x : Str) : Bool := !(x == ("__debug__" : Str)) && !(x == ("__classdict__" : Str))
theorem okName_ok {x : Str} (h : okName x = true) : (x == ("__debug__" : Str)) = false ∧ (x == ("__classdict__" : Str)) = false := by
  unfold okName at h
  simpa using h
def nostarB : Expr → Bool
  | .Starred .. => false
  | _ => true
theorem nostarB_ok {e : Expr} (h : nostarB e = true) : NoStar e := by
  cases e <;> first | exact absurd h Bool.false_ne_true | (intro es env; rfl)
def plainIxB : Expr → Bool
  | .Slice .. => false
  | _ => true
theorem plainIxB_ok {e : Expr} (h : plainIxB e = true) : PlainIx e := by
  cases e <;> first | exact absurd h Bool.false_ne_true | (intro o i; rfl)
def plainTest : Expr → Bool
  | .UnaryOp .Not _ _ => false
  | .BoolOp .. => false
  | .IfExp .. => false
  | .Compare .. => false
  | _ => true
theorem plainTest_ok {e : Expr} {env : PySem.Env} (h : plainTest e = true) : ∀ whole, isTrue e env whole = (do let v ← whole; standAt e.pos; holding [v] (PySem.truthy v)) := by
  intro whole
  cases e <;> first | exact absurd h Bool.false_ne_true | rfl | skip
  rename_i op _ _
  cases op <;> first | exact absurd h Bool.false_ne_true | rfl
def noMark (e : Expr) : Bool := match e with
  | .Set .. => false
  | _ => true
theorem noMark_ok {e : Expr} (h : noMark e = true) (op : CmpOp) : behindInMarks op e = false := by
  cases e <;> first | exact absurd h Bool.false_ne_true | rfl
def notComp (e : Expr) : Bool := match e with
  | .ListComp .. => false
  | .SetComp .. => false
  | .DictComp .. => false
  | _ => true
theorem notComp_ok {e : Expr} (h : notComp e = true) (t : Option Expr) (l : Nat) (env : PySem.Env) : swapsWith e t l env = pure false := by
  cases e <;> first | exact absurd h Bool.false_ne_true | rfl

def cstB : D → Const → Bool
  | .none, .none => true
  | .bool a, .bool b => a == b
  | .int a, .int b => decide (a = b)
  | .str a, .str b => decide (a = b) && PyData.strOk a
  | _, _ => false
def opB : Op2 → Operator → Bool
  | .add, .Add => true
  | .sub, .Sub => true
  | .mul, .Mult => true
  | .mod, .Mod => true
  | .fdiv, .FloorDiv => true
  | .pow, .Pow => true
  | _, _ => false
def cmB : Cm → CmpOp → Bool
  | .eq, .Eq => true
  | .ne, .NotEq => true
  | .lt, .Lt => true
  | .le, .LtE => true
  | .gt, .Gt => true
  | .ge, .GtE => true
  | .is, .Is => true
  | .isnot, .IsNot => true
  | .isin, .In => true
  | .notin, .NotIn => true
  | _, _ => false
def f1Name : F1 → Str
  | .len => "len" | .tuple => "tuple" | .list => "list" | .str => "str" | .int => "int" | .sum => "sum" | .max => "max" | .min => "min" | .sorted => "sorted" | .sortedset => ""
/-- the names of a target with their places -/
def ownOf : Tg → Expr → List (Str × Nat)
  | .one i, .Name x _ => [(x, i)]
  | .many is, .Tuple es _ _ => (es.zip is).map fun (e, i) => (match e with | .Name x _ => x | _ => "", i)
  | _, _ => []
def namesB (N : List Str) (chkN : Str → Bool) : List Nat → List Expr → Bool
  | [], [] => true
  | i :: is, .Name x _ :: es => decide (N[i]? = some x) && chkN x && namesB N chkN is es
  | _, _ => false
def tgB (N : List Str) (chkN : Str → Bool) : Tg → Expr → Bool
  | .one i, .Name x _ => decide (N[i]? = some x) && chkN x
  | .many is, .Tuple es _ _ => namesB N chkN is es
  | _, _ => false
theorem namesB_ok {X : Cx} {chkN : Str → Bool} (h : ∀ x, chkN x = true → Loc X.env.scope x ∧ (X.fn x = true ∨ X.env.scope.names.lookup x = some .local)) : ∀ {is : List Nat} {es : List Expr}, namesB X.N chkN is es = true → NamesAt X is es
  | [], [], _ => trivial
  | [], _ :: _, q => absurd q Bool.false_ne_true
  | i :: is, [], q => absurd q Bool.false_ne_true
  | i :: is, e :: es, q => by
    cases e <;> first | exact absurd q Bool.false_ne_true | skip
    rename_i x p
    obtain ⟨q1, q2⟩ := Bool.and_eq_true_iff.mp (show ((decide (X.N[i]? = some x) && chkN x) && namesB X.N chkN is es) = true from q)
    obtain ⟨q0, q1⟩ := Bool.and_eq_true_iff.mp q1
    exact ⟨of_decide_eq_true q0, (h x q1).1, (h x q1).2, namesB_ok h q2⟩
theorem tgB_ok {X : Cx} {chkN : Str → Bool} (h : ∀ x, chkN x = true → Loc X.env.scope x ∧ (X.fn x = true ∨ X.env.scope.names.lookup x = some .local)) {t : Tg} {e : Expr} (q : tgB X.N chkN t e = true) : TgAt X t e := by
  cases t with
  | one i =>
    cases e <;> first | exact absurd q Bool.false_ne_true | skip
    rename_i x p
    obtain ⟨q0, q1⟩ := Bool.and_eq_true_iff.mp (show (decide (X.N[i]? = some x) && chkN x) = true from q)
    exact ⟨of_decide_eq_true q0, (h x q1).1, (h x q1).2⟩
  | many is =>
    cases e <;> first | exact absurd q Bool.false_ne_true | skip
    exact namesB_ok h q
theorem ownOf_slots {N : List Str} {chkN : Str → Bool} {t : Tg} {e : Expr} (q : tgB N chkN t e = true) : (ownOf t e).map (·.2) = t.slots := by
  cases t with
  | one i =>
    cases e <;> first | exact absurd q Bool.false_ne_true | rfl
  | many is =>
    cases e <;> first | exact absurd q Bool.false_ne_true | skip
    rename_i es k p
    have q : namesB N chkN is es = true := q
    have g : ∀ {is : List Nat} {es : List Expr}, namesB N chkN is es = true → ((es.zip is).map fun (x : Expr × Nat) => ((match x.1 with | .Name x _ => x | _ => "" : Str), x.2)).map (·.2) = is := by
      intro is
      induction is with
      | nil => intro es h; cases es <;> first | rfl | exact absurd h Bool.false_ne_true
      | cons i is ih =>
        intro es h
        cases es with
        | nil => exact absurd h Bool.false_ne_true
        | cons e es =>
          cases e <;> first | exact absurd h Bool.false_ne_true | skip
          obtain ⟨_, q2⟩ := Bool.and_eq_true_iff.mp h
          simpa using ih q2
    exact g q

structure Chk where
  v : Scope → List Nat → Md → Expr → Bool
  t : Scope → List Nat → Expr → Bool
  i : Scope → List Nat → Expr → Expr → Bool
  a : Scope → List Nat → List Expr → Bool
def Chk.mk1 (v : Scope → List Nat → Md → Expr → Bool) : Chk := ⟨v, fun sc τ e => v sc τ .peek e && plainTest e, fun sc τ _ e => v sc τ .frz e && noSetB e, fun _ _ _ => false⟩
where noSetB (e : Expr) : Bool := match e with
  | .Set .. => false
  | _ => true
def Chk.no : Chk := ⟨fun _ _ _ _ => false, fun _ _ _ => false, fun _ _ _ _ => false, fun _ _ _ => false⟩
def Chk.it (i : Scope → List Nat → Expr → Expr → Bool) : Chk := ⟨fun _ _ _ _ => false, fun _ _ _ => false, i, fun _ _ _ => false⟩
/-- the rest of a chain of and, or -/
def restB (op : BoolOp) (rest : List Expr) (b : Expr) (pos : Pos) : Expr := match rest with
  | [] => b
  | _ => .BoolOp op (b :: rest) pos
def bltB (g : G) (sc : Scope) (x : Str) : Bool := glB sc x && g.blt.contains x
def nilB : E → Bool
  | .nil => true
  | _ => false

/-- a caught exception's class is asked -/
def isxB (g : G) (t : Ty) (a : E) (sc : Scope) (x : Str) (a' : Expr) (y : Str) : Bool := decide (x = "isinstance") && bltB g sc x && !g.cm && (match a, a' with
    | .var i, .Name v _ => decide (g.N[i]? = some v) && visB sc v && okName v && decide (i ∈ g.sp)
    | _, _ => false) && (match t with
    | .exc c => decide ((g.exs[c]?).map Prod.fst = some y) && decide (c ∈ g.its) && glB sc y && okName y
    | .valueError => decide (y = "ValueError") && bltB g sc y && g.itv
    | _ => false)
def chk (g : G) : E → Chk
  | .nil => ⟨fun _ _ _ _ => false, fun _ _ _ => false, fun _ _ _ _ => false, fun _ _ es => es.isEmpty⟩
  | .cons h t => ⟨fun _ _ _ _ => false, fun _ _ _ => false, fun _ _ _ _ => false, fun sc τ es => match es with
    | e :: es => (chk g h).v sc τ .frz e && nostarB e && (chk g t).a sc τ es
    | [] => false⟩
  | .var i => .mk1 fun sc τ m e => match e with
    | .Name x _ => decide (g.N[i]? = some x) && visB sc x && okName x && decide (i ∉ g.sp) && (decide (m = .peek) || (decide (m = .frz) && decide (i ∉ τ)))
    | _ => false
  | .cst d => .mk1 fun _ _ _ e => match e with
    | .Constant c _ _ => cstB d c
    | _ => false
  | .glob x d => .mk1 fun sc _ m e => match e with
    | .Name y _ => decide (x = y) && glB sc y && okName y && (g.globs.any fun p => decide (p.1 = x) && eqD p.2 d) && (decide (m = .peek) || decide (m = .frz))
    | _ => false
  | .tup es => .mk1 fun sc τ _ e => match e with
    | .Tuple es' _ _ => (chk g es).a sc τ es' && decide (es'.length ≤ 1000)
    | _ => false
  | .lst es => .mk1 fun sc τ _ e => match e with
    | .List es' _ => (chk g es).a sc τ es' && decide (es'.length ≤ 1000)
    | _ => false
  | .call f es => .mk1 fun sc τ m e => match e with
    | .Call (.Name x _) es' [] _ => g.cm && glB sc x && okName x && (chk g es).a sc τ es' && (match g.defs[f]? with
      | some (y, fr) => decide (x = y) && (fr || decide (m = .peek) || decide (m = .frz))
      | none => false)
    | _ => false
  | .bin op a b => .mk1 fun sc τ _ e => match e with
    | .BinOp a' bop b' _ => opB op bop && (chk g a).v sc τ .peek a' && (chk g b).v sc τ .peek b'
    | _ => false
  | .rep a b => .mk1 fun sc τ _ e => match e with
    | .BinOp a' .Mult b' _ => (chk g a).v sc τ .fresh a' && (chk g b).v sc τ .peek b'
    | _ => false
  | .neg a => .mk1 fun sc τ _ e => match e with
    | .UnaryOp .USub a' _ => (chk g a).v sc τ .peek a'
    | _ => false
  | .not a => { Chk.mk1 (fun sc τ _ e => match e with
    | .UnaryOp .Not a' _ => (chk g a).v sc τ .peek a'
    | _ => false) with t := fun sc τ e => match e with
    | .UnaryOp .Not a' _ => (chk g a).t sc τ a'
    | _ => false }
  | .cmp c a b => let f : Scope → List Nat → Expr → Bool := fun sc τ e => (match e with
      | .Compare a' [op] [b'] _ => cmB c op && (chk g a).v sc τ .peek a' && (chk g b).v sc τ .peek b' && noMark b'
      | _ => false)
    { Chk.mk1 (fun sc τ _ e => f sc τ e) with t := f }
  | .chain c1 c2 a b c => let f : Scope → List Nat → Expr → Bool := fun sc τ e => (match e with
      | .Compare a' [op, op'] [b', c'] _ => cmB c1 op && cmB c2 op' && (chk g a).v sc τ .peek a' && (chk g b).v sc τ .peek b' && (chk g c).v sc τ .peek c' && noMark c'
      | _ => false)
    { Chk.mk1 (fun sc τ _ e => f sc τ e) with t := f }
  | .chain3 c1 c2 c3 a b c d => let f : Scope → List Nat → Expr → Bool := fun sc τ e => (match e with
      | .Compare a' [op, op', op''] [b', c', d'] _ => cmB c1 op && cmB c2 op' && cmB c3 op'' && (chk g a).v sc τ .peek a' && (chk g b).v sc τ .peek b' && (chk g c).v sc τ .peek c' && (chk g d).v sc τ .peek d' && noMark d'
      | _ => false)
    { Chk.mk1 (fun sc τ _ e => f sc τ e) with t := f }
  | .and a b => { Chk.mk1 (fun sc τ m e => match e with
    | .BoolOp .And (a' :: b' :: rest) p => (chk g a).v sc τ m a' && (chk g b).v sc τ m (restB .And rest b' p)
    | _ => false) with t := fun sc τ e => match e with
    | .BoolOp .And (a' :: b' :: rest) p => (chk g a).t sc τ a' && (chk g b).t sc τ (restB .And rest b' p)
    | _ => false }
  | .or a b => { Chk.mk1 (fun sc τ m e => match e with
    | .BoolOp .Or (a' :: b' :: rest) p => (chk g a).v sc τ m a' && (chk g b).v sc τ m (restB .Or rest b' p)
    | _ => false) with t := fun sc τ e => match e with
    | .BoolOp .Or (a' :: b' :: rest) p => (chk g a).t sc τ a' && (chk g b).t sc τ (restB .Or rest b' p)
    | _ => false }
  | .ife c a b => { Chk.mk1 (fun sc τ m e => match e with
    | .IfExp c' a' b' _ => (chk g c).t sc τ c' && (chk g a).v sc τ m a' && (chk g b).v sc τ m b'
    | _ => false) with t := fun sc τ e => match e with
    | .IfExp c' a' b' _ => (chk g c).t sc τ c' && (chk g a).t sc τ a' && (chk g b).t sc τ b'
    | _ => false }
  | .f1 f a => .mk1 fun sc τ _ e => match e with
    | .Call (.Name x _) [a'] [] _ => decide (f ≠ .sortedset) && decide (x = f1Name f) && bltB g sc x && g.cm && (chk g a).v sc τ .peek a' && nostarB a'
    | _ => false
  | .isi t a => .mk1 fun sc τ _ e => match e with
    | .Call (.Name x _) [a', .Name y _] [] _ => isxB g t a sc x a' y || plainTy t && decide (x = "isinstance") && bltB g sc x && decide (y = Str.ofString (tyName t)) && bltB g sc y && (chk g a).v sc τ .peek a' && nostarB a'
    | _ => false
  | .max2 a b => .mk1 fun sc τ _ e => match e with
    | .Call (.Name x _) [a', b'] [] _ => decide (x = "max") && bltB g sc x && g.cm && (chk g a).v sc τ .peek a' && (chk g b).v sc τ .peek b' && nostarB a' && nostarB b'
    | _ => false
  | .divmod a b => .mk1 fun sc τ _ e => match e with
    | .Call (.Name x _) [a', b'] [] _ => decide (x = "divmod") && bltB g sc x && (chk g a).v sc τ .peek a' && (chk g b).v sc τ .peek b' && nostarB a' && nostarB b'
    | _ => false
  | .idx a b => .mk1 fun sc τ m e => match e with
    | .Subscript a' b' _ => (chk g a).v sc τ .peek a' && (chk g b).v sc τ .peek b' && plainIxB b' && (decide (m = .peek) || decide (m = .frz))
    | _ => false
  | .slf a lo => .mk1 fun sc τ _ e => match e with
    | .Subscript a' (.Slice (some l') none none _) _ => (chk g a).v sc τ .peek a' && (chk g lo).v sc τ .peek l'
    | _ => false
  | .slt a hi => .mk1 fun sc τ _ e => match e with
    | .Subscript a' (.Slice none (some h') none _) _ => (chk g a).v sc τ .peek a' && (chk g hi).v sc τ .peek h'
    | _ => false
  | .slb a lo hi => .mk1 fun sc τ _ e => match e with
    | .Subscript a' (.Slice (some l') (some h') none _) _ => (chk g a).v sc τ .peek a' && (chk g lo).v sc τ .peek l' && (chk g hi).v sc τ .peek h'
    | _ => false
  | .rev a => .mk1 fun sc τ _ e => match e with
    | .Subscript a' (.Slice none none (some (.UnaryOp .USub (.Constant (.int j) _ _) _)) _) _ => decide (j = 1) && (chk g a).v sc τ .peek a'
    | _ => false
  | .comp tg it cond elt => .mk1 fun sc τ _ e => match e with
    | .ListComp elt' [⟨tg', iter', ifs', 0⟩] scope _ => g.cm && blkC g.N sc scope (ownOf tg tg') && tgB g.N (locB scope) tg tg' && (tg.slots.all fun i => decide (i ∉ g.sp)) && (chk g it).i sc τ tg' iter' &&
        (match ifs' with
        | [] => nilB cond
        | [c'] => (chk g cond).t (relS scope sc) (minus τ tg.slots) c'
        | _ => false) && (chk g elt).v (relS scope sc) (minus τ tg.slots) .frz elt'
    | _ => false
  | .rng1 a => .it fun sc τ _ e => match e with
    | .Call (.Name x _) [a'] [] _ => decide (x = "range") && bltB g sc x && (chk g a).v sc τ .frz a' && nostarB a'
    | _ => false
  | .rng2 a b => .it fun sc τ _ e => match e with
    | .Call (.Name x _) [a', b'] [] _ => decide (x = "range") && bltB g sc x && (chk g a).v sc τ .frz a' && (chk g b).v sc τ .frz b' && nostarB a' && nostarB b'
    | _ => false
  | .rng3 a b c => .it fun sc τ _ e => match e with
    | .Call (.Name x _) [a', b', c'] [] _ => decide (x = "range") && bltB g sc x && (chk g a).v sc τ .frz a' && (chk g b).v sc τ .frz b' && (chk g c).v sc τ .frz c' && nostarB a' && nostarB b' && nostarB c'
    | _ => false
  | .enum a => .it fun sc τ tg e => match tg, e with
    | .Tuple .., .Call (.Name x _) [a'] [] _ => decide (x = "enumerate") && bltB g sc x && (chk g a).v sc τ .frz a' && nostarB a'
    | _, _ => false
  | .revd a => .it fun sc τ _ e => match e with
    | .Call (.Name x _) [a'] [] _ => decide (x = "reversed") && bltB g sc x && (chk g a).v sc τ .frz a' && nostarB a'
    | _ => false
  | .exf f a => .mk1 fun sc _ m e => match e with
    | .Attribute (.Name v _) x _ => decide (x = f) && !g.cm && g.xfs.contains f && (match a with
      | .var i => decide (g.N[i]? = some v) && visB sc v && okName v && decide (i ∈ g.sp)
      | _ => false) && (decide (m = .peek) || decide (m = .frz))
    | _ => false
  | _ => .no
end Pyr

namespace Pyr
open PySem PySem.Spec L2 PyProof.Rows
/-! # A try whose clauses have a name, or have none -/
/-- a caught exception at a, landed: st without it, s with it -/
structure Caught (X : Cx) (pins : List (Addr × Obj)) (σ : L2.St) (H : Hp) (cls : Value) (dx : Option Addr) (a : Addr) (B : Heap) (st s : Shared) : Prop where
  fly : HandSPX.FlyingZ B (X.env :: X.outer) a (Zc cls dx) s.heap
  inv : Inv X pins σ H st
  gr : ∀ b o, st.heap.get? b = some o → b ∉ frs X.stack → B.get? b = some o
  up : st.heap.UpToSlots s.heap
  new : H a = none
  os : s.os = st.os
  bare : AllBare s.gens
section
variable {X : Cx} {pins : List (Addr × Obj)} {σ : L2.St} {H : Hp} {cls : Value} {dx : Option Addr} {a : Addr} {B : Heap} {st s : Shared} {D : Ends}
theorem Caught.here (c : Caught X pins σ H cls dx a B st s) : Inv X pins σ H s := c.inv.landed c.gr c.fly.1 c.up c.os c.bare
/-- it stands apart from the frames -/
theorem Caught.apart (c : Caught X pins σ H cls dx a B st s) (hf : X.env.frame = some X.env.locals) : a ≠ X.env.locals ∧ a ∉ X.fs := by
  obtain ⟨o1, v1, g1, _, d1⟩ := c.fly.there
  have key : a ∉ frs (X.env :: X.outer) := by
    intro inside
    obtain ⟨_, o2, g2, plain⟩ := c.fly.2.2.1.mem inside
    have same : o1 = o2 := Option.some.inj (g1.symm.trans g2)
    exact plain v1 (same ▸ d1)
  refine ⟨?_, ?_⟩
  · rintro rfl
    apply key
    exact List.mem_filterMap.mpr ⟨X.env, .head _, hf⟩
  · intro inside
    apply key
    obtain ⟨e, me, fe⟩ := List.mem_filterMap.mp inside
    exact List.mem_filterMap.mpr ⟨e, .tail _ me, fe⟩
/-- within a suite -/
theorem Caught.within (c : Caught X pins σ H cls dx a B st s) (hf : X.env.frame = some X.env.locals) :
    ∃ o, Zc cls dx o ∧ (∃ vs, o.data = .fields vs) ∧ s.heap.get? a = some o ∧ Inv (X.suite a ((a, o) :: (X.pn ++ pins))) [] σ H s := by
  obtain ⟨o, vs, g, z, dd⟩ := c.fly.there
  obtain ⟨n1, n2⟩ := c.apart hf
  exact ⟨o, z, ⟨vs, dd⟩, g, c.here.suite g dd c.new n1 n2⟩
/-- no clause took it -/
theorem Caught.on (c : Caught X pins σ H cls dx a B st s) {W : WX} (hs : X.stack = X.env :: X.outer) (hf : X.env.frame = some X.env.locals) (tk : Takes X W) (w : W cls dx σ H) :
    wpAny (model X.prog X.w) X.A (handleBy (.ref a) X.env []) (SP X pins D) X.xe s := by
  apply wpAny_handleBy_nil
  have fl := c.fly
  obtain ⟨_, _, _, o, vs, T, _, _, g, _, dd, i1, _⟩ := fl
  have leaves : wpAny (model X.prog X.w) X.A (setFlight (.ref a) X.env.frame) (fun _ s2 => wpAny (model X.prog X.w) X.A (throw (.ref a) : Sem Flow) (SP X pins D) X.xe s2) X.xe s := by
    rw [hf]
    refine HandSPX.setFlight_upZ c.fly ?_
    intro h2 held more
    refine wpAny_throw (tk _ _ ⟨a, B, st, pins, σ, H, cls, dx, rfl, c.inv, c.gr, c.up.trans more, ?_, c.new, c.os, c.bare, w⟩)
    rw [hs]
    exact .inr (.inr held)
  unfold PySem.passOn
  refine wpAny_bind (wpAny_field g dd i1 ?_)
  rw [if_neg (by simp : ¬ ((Value.ref T == Value.none) = true))]
  first
    | exact wpAny_bind leaves
    | exact wpAny_bind (wpAny_pure (wpAny_bind leaves))
/-- the name that a clause tells is read -/
theorem Caught.name (c : Caught X pins σ H cls dx a B st s) (hf : X.env.frame = some X.env.locals) {x : Str} {C : Value} {p : Pos} (hn : Names X x C) {Q : Value → Shared → Prop} {E : Value → Shared → Prop} (q : Q C s) :
    wpAny (model X.prog X.w) (X.A.mark (some (.ref a))) (eval (.Name x p) X.env) Q E s := by
  obtain ⟨o, _, _, _, I⟩ := c.within hf
  rcases hn with ⟨g, nd, m | ⟨m, b, nn⟩⟩
  · exact ld_glob (X := X.suite a ((a, o) :: (X.pn ++ pins))) I g m q nd
  · exact ld_blt (X := X.suite a ((a, o) :: (X.pn ++ pins))) I g m b q nn nd
/-- does the clause take it? -/
theorem Caught.takes (c : Caught X pins σ H cls dx a B st s) {C : Value} {b : Bool} (e : PySem.W.exmOne X.K cls C = some b) : PySem.W.Looks (model X.prog X.w) s.heap (excMatches (.ref a) C) b := by
  obtain ⟨o, _, g, z, _⟩ := c.fly.there
  refine PySem.W.exm_one c.here.kIn (fun A Q E s' k q => ?_) e
  refine wpAny_typeOf_ref (k _ _ g) ?_
  rw [z.1]; exact q
end

abbrev Cl1 := Value × Option Nat × (Addr → Value → Option Addr → TS)
def endsOf (D : Ends) : Option Nat → Ends
  | none => D
  | some i => { nx := fun σ' H' => D.nx (σ'.set i none) H', rt := D.rt, bk := fun σ' H' => D.bk (σ'.set i none) H', ct := fun σ' H' => D.ct (σ'.set i none) H' }
def slotOf (σ : L2.St) (a : Addr) : Option Nat → L2.St
  | none => σ
  | some i => σ.set i (some (.ref a))
/-- what the clauses want of an exception of the body -/
def wMix (K : PySem.W.Frag) (Wout : WX) (D : Ends) : List Cl1 → WX
  | [] => Wout
  | (C, i, ts) :: r => fun cls dx σ H => ∃ b, PySem.W.exmOne K cls C = some b ∧ (b = true → ∀ a, H a = none → ts a cls dx (endsOf D i) (slotOf σ a i) H) ∧ (b = false → wMix K Wout D r cls dx σ H)
/-- is the clause's name a slot's name -/
def NameOk (X : Cx) : Option Str → Option Nat → Prop
  | none, none => True
  | some n, some i => X.N[i]? = some n ∧ X.env.kindOf n = some .local
  | _, _ => False
inductive HdsMix (X : Cx) : List ExceptHandler → List Cl1 → Prop
  | nil : HdsMix X [] []
  | cons {x : Str} {n : Option Str} {i : Option Nat} {C : Value} {ts : Addr → Value → Option Addr → TS} {b0 : Stmt} {su : List Stmt} {p q : Pos} {hds : List ExceptHandler} {l : List Cl1} (hn : Names X x C) (ho : NameOk X n i)
      (hsu : ∀ (a : Addr) (oe : Obj) (cls : Value) (dx : Option Addr) (pn : List (Addr × Obj)), Zc cls dx oe → (∃ vs, oe.data = .fields vs) → PSs (X.suite a ((a, oe) :: pn)) (b0 :: su) (ts a cls dx)) (r : HdsMix X hds l) :
      HdsMix X (.ExceptHandler (some (.Name x p)) n (b0 :: su) q :: hds) ((C, i, ts) :: l)
section
variable {X : Cx} {pins : List (Addr × Obj)} {σ : L2.St} {H : Hp} {cls : Value} {dx : Option Addr} {a : Addr} {B : Heap} {st : Shared} {D : Ends} {Wout : WX}
theorem clauses_ok (hs : X.stack = X.env :: X.outer) (hf : X.env.frame = some X.env.locals) (hN : X.N.Nodup) (tk : Takes X Wout) {hds : List ExceptHandler} {l : List Cl1} (hh : HdsMix X hds l) :
    ∀ {s : Shared}, Caught X pins σ H cls dx a B st s → wMix X.K Wout D l cls dx σ H → wpAny (model X.prog X.w) X.A (handleBy (.ref a) X.env hds) (SP X pins D) X.xe s := by
  induction hh with
  | nil => exact fun c w => c.on hs hf tk w
  | @cons x n i C ts b0 su p q hds l hn ho hsu r ih =>
    intro s c w
    obtain ⟨b, e, yes, no⟩ := w
    refine wpAny_handleBy_cons (codeAny_handlers_test (c.name hf hn ((c.takes e).here ?_))) (fun z => nomatch z)
    cases b with
    | false => exact ih c (no rfl)
    | true =>
      have w1 := yes rfl a c.new
      have ok := c.inv.ok
      -- the suite, from a state in which the exception is held
      have run : ∀ {s2 : Shared} {σ2 : L2.St} {D2 : Ends} {o : Obj}, Zc cls dx o → (∃ vs, o.data = .fields vs) → Inv (X.suite a ((a, o) :: (X.pn ++ pins))) [] σ2 H s2 → ts a cls dx D2 σ2 H →
          wpAny (model X.prog X.w) (X.A.mark (some (.ref a))) (execs (b0 :: su) X.env) (fun f s6 => SP X pins D2 f s6) (fun _ _ => False) s2 := by
        intro s2 σ2 D2 o z fd I w2
        refine thn ((hsu a o cls dx (X.pn ++ pins) z fd).run [] s2 σ2 H D2 I w2) fun f s6 h6 => ?_
        cases f with
        | next => obtain ⟨σ6, H6, I6, q6⟩ := h6; exact ⟨σ6, H6, I6.unsuite ok, q6⟩
        | brk => obtain ⟨σ6, H6, I6, q6⟩ := h6; exact ⟨σ6, H6, I6.unsuite ok, q6⟩
        | cont => obtain ⟨σ6, H6, I6, q6⟩ := h6; exact ⟨σ6, H6, I6.unsuite ok, q6⟩
        | ret u => obtain ⟨v6, σ6, H6, I6, r6, q6⟩ := h6; exact ⟨v6, σ6, H6, I6.unsuite ok, r6, q6⟩
      have step : ∀ {A : Around} {Q : Unit → Shared → Prop} {E : Value → Shared → Prop}, (∀ h4, Caught X pins σ H cls dx a B st { s with heap := h4 } → Q () { s with heap := h4 }) → wpAny (model X.prog X.w) A (setFlight (.ref a) none) Q E s := fun k =>
        HandSPX.lands_againZ c.fly fun h4 fl4 up4 => k h4 ⟨fl4, c.inv, c.gr, c.up.trans up4, c.new, c.os, c.bare⟩
      cases n with
      | none =>
        cases i with
        | some i => exact ho.elim
        | none =>
          refine codeAny_handlers_suite (step fun h4 c4 => ?_)
          obtain ⟨o, z, fd, _, I⟩ := c4.within hf
          exact wpAny_mono (run z fd I w1) (fun f s6 h6 => h6) fun _ _ f => f.elim
      | some n =>
        cases i with
        | none => exact ho.elim
        | some i =>
          obtain ⟨hi, hl⟩ := ho
          refine codeAny_handlers_suite_as (step fun h4 c4 => ?_)
          obtain ⟨o, z, fd, _, I⟩ := c4.within hf
          refine store_ok (X := X.suite a ((a, o) :: (X.pn ++ pins))) (v := .ref a) I hN hi (.inl hl) rfl (fun s5 I5 => ?_) (.inr hl)
          refine wpAny_mono (run z fd I5 w1) (fun f s6 h6 => ?_) fun _ _ f => f.elim
          cases f with
          | next => obtain ⟨σ6, H6, I6, q6⟩ := h6; exact gone_ok I6 hN hi hl fun s7 I7 => ⟨_, _, I7, q6⟩
          | brk => obtain ⟨σ6, H6, I6, q6⟩ := h6; exact gone_ok I6 hN hi hl fun s7 I7 => ⟨_, _, I7, q6⟩
          | cont => obtain ⟨σ6, H6, I6, q6⟩ := h6; exact gone_ok I6 hN hi hl fun s7 I7 => ⟨_, _, I7, q6⟩
          | ret u => obtain ⟨v6, σ6, H6, I6, r6, q6⟩ := h6; exact gone_ok I6 hN hi hl fun s7 I7 => ⟨v6, _, _, I7, r6, q6⟩
theorem ps_try_mix {body : List Stmt} {h0 : ExceptHandler} {hds : List ExceptHandler} {l : List Cl1} {pos : Pos} {tb : WX → TS} (hs : X.stack = X.env :: X.outer) (hf : X.env.frame = some X.env.locals) (hN : X.N.Nodup) (tk : Takes X Wout)
    (hb : ∀ (W : WX) (pn : List (Addr × Obj)) (xe : Value → Shared → Prop), Takes (X.tr pn xe) W → PassesOwn (model X.prog X.w) X.A X.env xe → PSs (X.tr pn xe) body (tb W))
    (hh : HdsMix X (h0 :: hds) l) : PS X (.Try body (h0 :: hds) [] [] pos) (fun D σ H => tb (wMix X.K Wout D l) D σ H) := by
  constructor
  intro pins s σ H D I h
  have ok := I.ok
  have fr : X.A.frames = some (X.env :: X.outer) := by rw [← hs]; exact ok.frames
  apply wpAny_Try_except
  let xe : Value → Shared → Prop := fun e s1 => wpAny (model X.prog X.w) X.A (noteFrame e X.env) (fun _ s2 => wpAny (model X.prog X.w) X.A (setFlight e none) (fun _ s3 => wpAny (model X.prog X.w) X.A (handleBy e X.env (h0 :: hds)) (SP X pins D) X.xe s3) X.xe s2) X.xe s1
  have catches : Takes (X.tr (X.pn ++ pins) xe) (wMix X.K Wout D l) := by
    rintro u s' ⟨a, B, st, _, σ', H', cls, dx, rfl, I', gr, up, sky, new, os, bare, w⟩
    have I2 : Inv X pins σ' H' st := I'.ofTry ok
    refine Sky.land Zc.steady fr hf (by rw [← hs]; exact sky) fun h3 fl3 up3 => ?_
    exact clauses_ok hs hf hN tk hh ⟨fl3, I2, gr, up.trans up3, new, os, bare⟩ w
  refine wpAny_mono ((hb _ (X.pn ++ pins) xe catches PassesOwn.looking).run [] s σ H D (I.toTry _) h) (fun f s1 h1 => ?_) fun _ _ z => z
  cases f with
  | next => obtain ⟨σ', H', I', q⟩ := h1; exact wpAny_execs_nil ⟨σ', H', I'.ofTry ok, q⟩
  | brk => obtain ⟨σ', H', I', q⟩ := h1; exact ⟨σ', H', I'.ofTry ok, q⟩
  | cont => obtain ⟨σ', H', I', q⟩ := h1; exact ⟨σ', H', I'.ofTry ok, q⟩
  | ret u => obtain ⟨v, σ', H', I', r, q⟩ := h1; exact ⟨v, σ', H', I'.ofTry ok, r, q⟩
end
end Pyr

namespace Pyr
open PySem PySem.Spec L2 PyProof.Rows
/-! # What a suite may ask of its exception -/
/-- the facts of an own exception's class -/
structure ExcK (K : PySem.W.Frag) (D : Addr) : Prop where
  c : (PySem.W.clsIn K D).isSome = true
  g : PySem.W.findIn K (.ref D) "__getattribute__" = some (some (.builtin "BaseException.__getattribute__"))
  k : PySem.W.findIn K (.ref D) "__getattr__" = some none
  s : PySem.W.subIn K (.ref D) (.type "BaseException") = some true
  a : PySem.W.findIn K (.ref D) "__class__" = some (some (.builtin "object.__class__"))
  n : PySem.W.specialIn K (.builtin "object.__class__") "__get__" = some (some (.builtin "getset_descriptor.__get__"))
  t : PySem.W.takesIn K (.builtin "object.__class__") = some true
  m : PySem.W.mroIn K D (.type "object") = some true
  d : PySem.W.hasDictIn K D = true
/-- an exception's dict is tracked -/
def DictAt (H : Hp) (dx : Option Addr) : Prop := ∀ d, dx = some d → ∃ fs, H d = some (.xd fs)
def rIsX (K : PySem.W.Frag) (D a : Addr) (dx : Option Addr) : List V → Hp → VK → Prop := fun xs H Q => ∃ (c : V) (cv : Value) (b : Bool), xs = [.ref a, c] ∧ (∀ u, RelV c u → u = cv) ∧ PySem.W.kitOne K (.ref D) cv = some b ∧ DictAt H dx ∧ Q (.bl b) H
theorem call_isX {X : Cx} {a D : Addr} {oe : Obj} {dx : Option Addr} {pn : List (Addr × Obj)} (C : ExcK X.K D) (hz : Zc (.ref D) dx oe) (hf : ∃ vs, oe.data = .fields vs) : CallR (X.suite a ((a, oe) :: pn)) (.builtin "isinstance") (rIsX X.K D a dx) := by
  intro pins s σ H xs us Q I r h
  obtain ⟨c, cv, b, rfl, one, e, ad, q⟩ := h
  obtain ⟨u1, u2, rfl, r1, r2⟩ := vals2 r
  obtain rfl : u1 = Value.ref a := r1
  obtain rfl := one _ r2
  have at_ : s.heap.get? a = some oe := (I.pin (a, oe) (List.mem_append_left _ (.head _))).1
  have nc : PySem.W.notCls oe = true := by
    obtain ⟨vs, hv⟩ := hf
    unfold PySem.W.notCls
    rw [hv]
  have inst : ∃ od, PySem.W.InstAt s.heap a oe D od := by
    cases dx with
    | none => exact ⟨none, at_, hz.1, nc, by rw [hz.2]; trivial⟩
    | some d =>
      obtain ⟨fs, hd⟩ := ad d rfl
      obtain ⟨mA, hns, _⟩ := show ObjOk X.prog X.w H s.heap d (.xd fs) from I.hok d _ hd
      obtain ⟨od, ho, _⟩ := lookIn_ns hns
      exact ⟨some od, at_, hz.1, nc, by rw [hz.2]; exact ho⟩
  obtain ⟨od, J⟩ := inst
  exact PySem.W.kia_one (PySem.W.kitx_exc C.c C.g C.k C.s C.a C.n C.t C.m) I.kIn J e (fun z => nomatch z) fun tk => ⟨.bl b, H, I.tok tk, rfl, q⟩
open R (ok exc stuck)
theorem excR_fld {K : PySem.W.Frag} {mg : Str → Option Value} {xt : XTab} {F H : Hp} {c : Nat} {f : PyData} {cls : Value} {dx : Option Addr} (h : ExcR K mg xt F c f cls dx) (s : Same F H) : DictAt H dx := by
  obtain ⟨nm, fld, C, _, _, _, r⟩ := h
  intro d e
  cases fld with
  | none => rw [r.1] at e; cases e
  | some x =>
    obtain ⟨d', v, w, e1, e2, _⟩ := r
    rw [e1] at e; cases e
    exact ⟨_, s _ _ e2⟩
/-- the slot of a clause's name, within the suite -/
def spSuite (K : PySem.W.Frag) (mg : Str → Option Value) (xt : XTab) (Sp : SpR) (i : Option Nat) (a : Addr) (c : Nat) (f : PyData) (cls : Value) (dx : Option Addr) : SpR := fun j F H v d A =>
  (some j = i ∧ v = .ref a ∧ d = excD c f ∧ ExcR K mg xt F c f cls dx ∧ A = []) ∨ (some j ≠ i ∧ Sp j F H v d A)
theorem spSuite_m {K : PySem.W.Frag} {mg : Str → Option Value} {xt : XTab} {Sp : SpR} {i : Option Nat} {a : Addr} {c : Nat} {f : PyData} {cls : Value} {dx : Option Addr} (m : SpM Sp) : SpM (spSuite K mg xt Sp i a c f cls dx) := by
  intro j F H F' H' v d A h s k
  rcases h with ⟨h1, h2, h3, h4, h5⟩ | ⟨h1, h2⟩
  · exact .inl ⟨h1, h2, h3, h4.mono s, h5⟩
  · exact .inr ⟨h1, m h2 s k⟩
/-- what is known within a suite -/
def Hot (K : PySem.W.Frag) (mg : Str → Option Value) (xt : XTab) (X : Cx) (Sp : SpR) : Prop :=
  ∃ (Y : Cx) (a : Addr) (oe : Obj) (pn : List (Addr × Obj)) (cls : Value) (dx : Option Addr), X = Y.suite a ((a, oe) :: pn) ∧ Zc cls dx oe ∧ (∃ vs, oe.data = .fields vs) ∧
    ∀ i F H v c f A, Sp i F H v (excD c f) A → v = .ref a ∧ ExcR K mg xt F c f cls dx
/-- nothing that is special is an exception -/
def NoX (Sp : SpR) : Prop := ∀ i F H v c f A, ¬ Sp i F H v (excD c f) A
section
variable {K : PySem.W.Frag} {mg : Str → Option Value} {xt : XTab} {Sp : SpR} {sp τ : List Nat} {F0 H0 F H : Hp} {σ : L2.St} {ρ : Env} {i : Nat} {a : Addr} {c : Nat} {f : PyData} {cls : Value} {dx : Option Addr}
theorem set_inv {α : Type} {l : List (Option α)} {i j : Nat} {x : Option α} {y : α} (h : (l.set i x)[j]? = some (some y)) : (j = i ∧ x = some y ∧ i < l.length) ∨ (j ≠ i ∧ l[j]? = some (some y)) := by
  by_cases c : i = j
  · subst c
    left
    have lt : i < l.length := by
      have := (List.getElem?_eq_some_iff.mp h).1
      simpa using this
    rw [List.getElem?_set_self lt] at h
    exact ⟨rfl, Option.some.inj h, lt⟩
  · rw [List.getElem?_set_ne c] at h
    exact .inr ⟨fun z => c z.symm, h⟩
/-- a special slot is given what it may hold, which has nothing of its own; the others as before -/
theorem EnvR.spPut {Sp' : SpR} {v : Option V} {d : Option PyData} (h : EnvR K Sp sp τ F0 H0 F H σ ρ) (hi : i ∈ sp) (hd : d.isSome = true → v.isSome = true) (hn : ∀ e u, d = some e → v = some u → Sp' i F H u e []) (m : SpM Sp')
    (ho : ∀ j u e A, j ≠ i → Sp j F H u e A → Sp' j F H u e A) : EnvR K Sp' sp τ F0 H0 F H (σ.set i v) (ρ.set i d) := by
  have lenS : σ.length = ρ.length := h.len
  refine ⟨h.ext, fun j e hj => ?_, fun j l b ds es n hj hl sj sl rj rl uj ul => ?_, by simp [lenS], m⟩
  · rcases set_inv hj with ⟨rfl, q, lt⟩ | ⟨n, q⟩
    · subst q
      obtain ⟨u, rfl⟩ := Option.isSome_iff_exists.mp (hd rfl)
      exact ⟨u, List.getElem?_set_self (by rw [lenS]; exact lt), by rw [if_pos hi]; exact ⟨[], hn _ _ rfl rfl, ⟨fun b hb => (nomatch hb), fun b hb => (nomatch hb)⟩⟩⟩
    · obtain ⟨u, e1, q1⟩ := h.slot j e q
      refine ⟨u, by rw [List.getElem?_set_ne (fun z => n z.symm)]; exact e1, ?_⟩
      by_cases cs : j ∈ sp
      · rw [if_pos cs] at q1 ⊢
        obtain ⟨A, s1, o⟩ := q1
        refine ⟨A, ho _ _ _ _ n s1, o.at_, fun b hb k es hk hs r1 r2 => ?_⟩
        rcases set_inv r1 with ⟨rfl, _, _⟩ | ⟨n1, r1⟩
        · exact hs hi
        · rw [List.getElem?_set_ne (fun z => n1 z.symm)] at r2
          exact o.ap b hb k es hk hs r1 r2
      · rw [if_neg cs] at q1 ⊢; exact q1
  · have nj : j ≠ i := fun z => sj (z ▸ hi)
    have nl : l ≠ i := fun z => sl (z ▸ hi)
    rw [List.getElem?_set_ne (Ne.symm nj)] at rj uj
    rw [List.getElem?_set_ne (Ne.symm nl)] at rl ul
    exact h.apart j l b ds es n hj hl sj sl rj rl uj ul
/-- into a suite -/
theorem spIn0 (h : EnvR K Sp sp τ F0 H0 F H σ ρ) : EnvR K (spSuite K mg xt Sp none a c f cls dx) sp τ F0 H0 F H σ ρ := by
  refine ⟨h.ext, fun j e hj => ?_, h.apart, h.len, spSuite_m h.spm⟩
  obtain ⟨u, e1, q1⟩ := h.slot j e hj
  refine ⟨u, e1, ?_⟩
  by_cases cs : j ∈ sp
  · rw [if_pos cs] at q1 ⊢
    obtain ⟨A, s1, o⟩ := q1
    exact ⟨A, .inr ⟨fun z => (nomatch z), s1⟩, o⟩
  · rw [if_neg cs] at q1 ⊢; exact q1
theorem spIn (h : EnvR K Sp sp τ F0 H0 F H σ ρ) (hi : i ∈ sp) (x : ExcR K mg xt F c f cls dx) : EnvR K (spSuite K mg xt Sp (some i) a c f cls dx) sp τ F0 H0 F H (σ.set i (some (.ref a))) (ρ.set i (some (excD c f))) :=
  h.spPut hi (fun _ => rfl) (fun e u e1 e2 => by cases e1; cases e2; exact .inl ⟨rfl, rfl, rfl, x, rfl⟩) (spSuite_m h.spm) fun j u e A n s => .inr ⟨fun z => n (Option.some.inj z), s⟩
/-- out of it -/
theorem spOut0 (m : SpM Sp) (h : EnvR K (spSuite K mg xt Sp none a c f cls dx) sp τ F0 H0 F H σ ρ) : EnvR K Sp sp τ F0 H0 F H σ ρ := by
  refine ⟨h.ext, fun j e hj => ?_, h.apart, h.len, m⟩
  obtain ⟨u, e1, q1⟩ := h.slot j e hj
  refine ⟨u, e1, ?_⟩
  by_cases cs : j ∈ sp
  · rw [if_pos cs] at q1 ⊢
    obtain ⟨A, s1, o⟩ := q1
    rcases s1 with ⟨z, _⟩ | ⟨_, s1⟩
    · cases z
    · exact ⟨A, s1, o⟩
  · rw [if_neg cs] at q1 ⊢; exact q1
theorem spOut (m : SpM Sp) (hi : i ∈ sp) (h : EnvR K (spSuite K mg xt Sp (some i) a c f cls dx) sp τ F0 H0 F H σ ρ) : EnvR K Sp sp τ F0 H0 F H (σ.set i none) (ρ.set i none) :=
  h.spPut hi (fun z => (nomatch z)) (fun e u e1 => (nomatch e1)) m fun j u e A n s => by
    rcases s with ⟨z, _⟩ | ⟨_, s⟩
    · exact absurd (Option.some.inj z) n
    · exact s
theorem hot_of {Y X : Cx} {oe : Obj} {pn : List (Addr × Obj)} {io : Option Nat} (hX : X = Y.suite a ((a, oe) :: pn)) (hz : Zc cls dx oe) (hv : ∃ vs, oe.data = .fields vs) (nox : NoX Sp) : Hot K mg xt X (spSuite K mg xt Sp io a c f cls dx) := by
  refine ⟨Y, a, oe, pn, cls, dx, hX, hz, hv, fun i F H v c' f' A s => ?_⟩
  rcases s with ⟨_, e1, e2, x, _⟩ | ⟨_, s⟩
  · have e3 : (.int c' : PyData) = .int c ∧ f' = f := by
      have := PyData.dict.inj e2
      simpa using this
    obtain ⟨e4, rfl⟩ := e3
    have : (c' : Int) = c := PyData.int.inj e4
    obtain rfl : c' = c := by omega
    exact ⟨e1, x⟩
  · exact absurd s (nox i F H v c' f' A)
end
end Pyr

namespace Pyr
open PySem PySem.Spec L2 PyProof.Rows
/-! # Own exceptions with an __init__ that keeps one field -/
/-- what an own class above says, whose __init__ is ValueError's -/
structure BaseK (K : PySem.W.Frag) (mg : Str → Option Value) (y : Str) (C0 : Addr) : Prop where
  g : mg y = some (.ref C0)
  s : PySem.W.specialIn K (.ref C0) "__getattribute__" = some (some (.builtin "type.__getattribute__"))
  r : PySem.W.readsIn K C0 (.type "type") = true
  f : PySem.W.findCls K (.ref C0) (.type "type") "__init__" = some (.val (.builtin "ValueError.__init__"))
/-- how a call o.m(..) goes, written on one line -/
theorem meth_form {o : Expr} {nm : Str} {p2 pos : Pos} {args : List Expr} {env : PySem.Env} (hb : attributeBase o nm env (eval o env) = eval o env) (hline : (p2.endLine == pos.line) = true)
    (hfew : methodCallForm (args.length + ([] : List Keyword).length) (backTo pos (starEach args env)) (backToKw pos (keywordEach [] env)) = true) :
    eval (.Call (.Attribute o nm p2) args [] pos) env = (do
      let ov ← eval o env
      standAt p2.atName
      let (f, first) ← holding [ov] (getMethod ov nm (do return (← importBound o env).getD true))
      callWith pos f first (backTo pos (starEach args env)) (backToKw pos (keywordEach [] env))) := by
  have e1 : eval (.Call (.Attribute o nm p2) args [] pos) env = (do
      let ov ← attributeBase o nm env (eval o env)
      standAt p2.atName
      methodCall o nm p2 pos env ov (args.length + ([] : List Keyword).length) (backTo pos (starEach args env)) (backToKw pos (keywordEach [] env))) := rfl
  rw [e1, hb]
  unfold methodCall
  rw [hfew]
  have e2 : methodCallPos true o env p2 pos = pure pos := by
    unfold methodCallPos
    rw [hline]
    rfl
  rw [e2]
  rfl
/-- Y.__init__(self, ..) -/
theorem pe_above {X : Cx} {e : Expr} {es : List Expr} {ta : TA} {y : Str} {C0 : Addr} {p1 p2 pos : Pos} {pl : Sem Bool} (hg : Gl X y) (B : BaseK X.K X.mg y C0) (hd : (y == ("__debug__" : Str)) = false) (ha : PA X (e :: es) ta)
    (hc : eval (.Call (.Attribute (.Name y p1) "__init__" p2) (e :: es) [] pos) X.env = (do
      let ov ← eval (.Name y p1) X.env
      standAt p2.atName
      let (f, first) ← holding [ov] (getMethod ov "__init__" pl)
      callWith pos f first (backTo pos (starEach (e :: es) X.env)) (backToKw pos (keywordEach [] X.env))) := by rfl)
    (he : starEach (e :: es) X.env = (false, eval e X.env) :: starEach es X.env := by rfl) (hpl : (backTo pos (starEach es X.env)).any (·.1) = false := by rfl) :
    PE X (.Call (.Attribute (.Name y p1) "__init__" p2) (e :: es) [] pos) (tVeI X.K ta) := by
  constructor
  intro pins s σ H Q I h
  refine PySem.W.methodCall_KW (ld_glob I hg B.g ?_ hd) hc
  refine PySem.W.method_cls I.kIn B.s (PySem.W.cls_value I.kIn B.r B.f (by decide +kernel) ?_)
  refine PyProof.Rows.callWith_method1 (first := []) (thn (ha.run pos pins _ σ H _ (I.tok _) h) fun us s1 h1 => ?_) he hpl
  obtain ⟨vs, H1, I1, r1, a, C, ws, rfl, hl, T, ea, q⟩ := h1
  cases r1 with
  | @cons _ u0 _ ur ra rr =>
    obtain rfl : u0 = Value.ref a := ra
    refine oinit_ok T I1 ea (by rw [← Paired.length rr, sizeLine_eq]; omega) fun s' J => ⟨.non, H1, J, rfl, q⟩
/-- a class's __init__: def __init__(self, v): Y.__init__(self, text); self.f = v -/
structure IRow where
  name : Str
  fld : Str
  qual : Str
  st : Stmt
  N : List Str
def initB (y : Str) (r : IRow) : Bool := match r.N, defBody r.st with
  | [n0, n1], [.Expr (.Call (.Attribute (.Name y' _) i q2) [.Name s0 _, .Constant (.str _) _ _] [] q5) _, .Assign [.Attribute (.Name s1 _) f _] (.Name v _) _] =>
    decide (y' = y) && decide (i = "__init__") && decide (s0 = n0) && decide (s1 = n0) && decide (v = n1) && decide (f = r.fld) && (q2.endLine == q5.line) && glB (defScope r.st) y && okName y && okName n0 && okName n1 &&
    visB (defScope r.st) n0 && visB (defScope r.st) n1
  | _, _ => false
def spInit (K : PySem.W.Frag) (f : Str) : Sp := fun vs H Q _ => ∃ a C w, vs = [.ref a, w] ∧ OexC K C ∧ PySem.W.findIn K (.ref C) f = some none ∧ H a = some (exo a C none) ∧ ∀ dx, H dx = none → dx ≠ a → Q .non (upd (upd H dx (exd dx [(f, w)])) a (exo a C (some dx)))
theorem init_ok {P : Program} {w : World} {K : PySem.W.Frag} {mg : Str → Option Value} {base : Heap} {y : Str} {C0 fI : Addr} {fd : FuncData} {r : IRow} (Fu : Fun K "__init__" r.qual r.st fI fd) (S : FnScope r.N r.N (defScope r.st)) (B : BaseK K mg y C0) (h : initB y r = true) :
    FnOk P w K mg base (L2.CX P w) 1 fI fd r.N (spInit K r.fld) := by
  unfold initB at h
  split at h
  case h_2 => exact absurd h Bool.false_ne_true
  rename_i n0 n1 y' q1 i q2 s0 q3 m j q4 q5 q6 s1 q7 f q8 v q9 q10 eN eB
  simp only [Bool.and_eq_true, decide_eq_true_eq] at h
  obtain ⟨⟨⟨⟨⟨⟨⟨⟨⟨⟨⟨⟨rfl, rfl⟩, rfl⟩, rfl⟩, rfl⟩, rfl⟩, hl⟩, h1⟩, h2⟩, h3⟩, h4⟩, h5⟩, h6⟩ := h
  rw [eN] at S ⊢
  refine Fu.okX S (fun vs H Q E h => ?_) (fun cdv A outer s H vs Q E hr h => ?_)
  · obtain ⟨a, C, w, rfl, _⟩ := h
    rfl
  · obtain ⟨a, C, w, rfl, T, hno, ea, q⟩ := h
    rw [eB]
    obtain ⟨k1, k2⟩ := okName_ok h3
    obtain ⟨k3, k4⟩ := okName_ok h4
    have v0 : ∀ pos, PE (cxOf (L2.CX P ‹World›) P ‹World› K mg base [s1, v] r.qual (defScope r.st) fI cdv A outer s H E) (.Name s1 pos) (tVar 0) := fun pos => pe_var rfl (visB_ok h5) k1 k2
    have v1 : ∀ pos, PE (cxOf (L2.CX P ‹World›) P ‹World› K mg base [s1, v] r.qual (defScope r.st) fI cdv A outer s H E) (.Name v pos) (tVar 1) := fun pos => pe_var rfl (visB_ok h6) k3 k4
    refine ⟨_, pss_cons (ps_expr (pe_above (glB_ok h1) B (okName_ok h2).1 (pa_cons (v0 _) (pa_cons pe_str pa_nil rfl) rfl) (meth_form rfl hl rfl))) (pss_one (ps_ost (v0 _) (v1 _))), ?_⟩
    refine ⟨.ref a, rfl, a, C, [.str m], rfl, by simp, T, ea, ?_⟩
    refine ⟨w, rfl, .ref a, rfl, a, C, rfl, T, hno, .inl ⟨ea, fun dx n ne => q dx n ne⟩⟩
/-- what raising a class with such an __init__ wants -/
def InitAt (K : PySem.W.Frag) (mg : Str → Option Value) (x f : Str) : Prop := ∃ (C fI C0 : Addr) (fd : FuncData) (r : IRow) (y : Str), mg x = some (.ref C) ∧ OexC K C ∧ PySem.W.findIn K (.ref C) "__init__" = some (some (.ref fI)) ∧
  PySem.W.typeIn K (.ref fI) = some (.type "function") ∧ PySem.W.findIn K (.ref C) f = some none ∧ Fun K "__init__" r.qual r.st fI fd ∧ FnScope r.N r.N (defScope r.st) ∧ BaseK K mg y C0 ∧ initB y r = true ∧ r.fld = f ∧ Binds K fd r.N []
/-- raise x(e) -/
theorem s_raiseX {X : Cx} {z : Z} {W : WX} {fm : Md} {o : Outs} {τ : List Nat} {c : Nat} {x f : Str} {e : Expr} {p p2 pos : Pos} {s1 : Env → R PyData} (hx : ∀ i ∈ o.ex, i ∈ τ) (h : InitAt X.K X.mg x f) (hc : X.calm = true) (tk : Takes X W) (hr : Room 2 X.A) (hxt : z.xt[c]? = some (x, some f))
    (hg : Gl X x) (hdb : (x == ("__debug__" : Str)) = false) (ha : PE X e (tE X.K X.mg z W τ .frz s1)) (hs : NoStar e) :
    PS X (.Raise (some (.Call (.Name x p) [e] [] p2)) none pos) (SS X z W fm τ o fun ρ => (s1 ρ).out ρ fun d => .exc c (.dict [(.str f, d)]) ρ) := by
  obtain ⟨C, fI, C0, fd, r, y, hm, T, iC, tI, hno, Fu, S, B, hb, rfl, bd⟩ := h
  have F1 : FnOk X.prog X.w X.K X.mg X.base (L2.CX X.prog X.w) 1 fI fd r.N (spInit X.K r.fld) := init_ok Fu S B hb
  have mk := pmk_oex (X := X) (pos := p2) (p := p) T iC tI F1 hr bd .nil (passes_call tk fun _ _ _ _ q => q.elim) hg hm (pa_cons ha pa_nil (hs _ _)) hdb (hs _ _) rfl
  refine PS.imp (ps_raise hc tk mk) ?_
  rintro D σ H ⟨F, ρ, env, w⟩
  refine outE hx env w fun d v F1 H1 e1 x1 env1 r1 w1 => ⟨by simp, fun a na => ?_⟩
  refine ⟨a, C, v, rfl, T, hno, upd_same, fun dx nd ne => ⟨rfl, dx, [(r.fld, v)], upd_same, ?_, ?_, ?_⟩⟩
  · rw [upd_ne ne, upd_same]
  · rw [upd_ne ne] at nd; exact nd
  · rw [upd_ne ne] at nd
    have eH : upd (del (upd (upd (upd H1 a (exo a C none)) dx (exd dx [(r.fld, v)])) a (exo a C (some dx))) a) dx (.xd [(r.fld, v)]) = upd H1 dx (.xd [(r.fld, v)]) := by
      funext b
      by_cases h1 : b = dx
      · subst h1; rw [upd_same, upd_same]
      · rw [upd_ne h1, upd_ne h1]
        by_cases h2 : b = a
        · subst h2; rw [del_same]; exact na.symm
        · rw [del_ne h2, upd_ne h2, upd_ne h1, upd_ne h2]
    rw [eH]
    have nF := env1.ext.sub.free nd
    have x2 : Ext F1 H1 (upd F1 dx (.xd [(r.fld, v)])) (upd H1 dx (.xd [(r.fld, v)])) := .alloc env1.ext.sub nd
    obtain ⟨F2, s2, e2⟩ := (env1.more x2).fewer hx
    refine w1 σ F2 _ (.ref C) (some dx) (x2.sF.trans s2) e2 ?_
    exact ⟨x, some r.fld, C, hxt, hm, rfl, dx, v, d, rfl, s2 _ _ upd_same, rfl, Rep.mono r1 (x2.sF.trans s2)⟩
end Pyr

namespace Pyr
open PySem L2 PyProof.Rows
open R (ok exc stuck)

/-- an own class without an __init__ of its own -/
def ExcAt (K : PySem.W.Frag) (mg : Str → Option Value) (x : Str) : Prop := ∃ C : Addr, mg x = some (.ref C) ∧ PySem.W.excIn K C [.type "ValueError", .type "Exception", .type "BaseException", .type "object"] "ValueError.__new__" = true ∧ PySem.W.keepIn K (.ref C) = true ∧
  PySem.W.subIn K (.ref C) (.type "BaseException") = some true ∧ PySem.W.typeIn K (.ref C) = some (.type "type")
/-- which of the caught classes take which -/
def ExmAt (K : PySem.W.Frag) (mg : Str → Option Value) (exs : XTab) (cts : List Nat) : Prop := ∀ c ∈ cts, ∀ (c' : Nat) (p p' : Str × Option Str) (Cl Cl' : Addr), exs[c]? = some p → exs[c']? = some p' → mg p.1 = some (.ref Cl) → mg p'.1 = some (.ref Cl') → PySem.W.exmOne K (.ref Cl') (.ref Cl) = some (takesC c c')
/-- what isinstance, and a field, of a caught exception wants -/
structure ItsAt (K : PySem.W.Frag) (mg : Str → Option Value) (exs : XTab) (its : List Nat) (itv : Bool) (xfs : List Str) : Prop where
  k : its ≠ [] ∨ itv = true → ∀ (c : Nat) (p : Str × Option Str) (Cl : Addr), exs[c]? = some p → mg p.1 = some (.ref Cl) → ExcK K Cl
  i : ∀ c ∈ its, ∀ (c' : Nat) (p p' : Str × Option Str) (Cl Cl' : Addr), exs[c]? = some p → exs[c']? = some p' → mg p.1 = some (.ref Cl) → mg p'.1 = some (.ref Cl') → PySem.W.kitOne K (.ref Cl') (.ref Cl) = some (takesC c c')
  v : itv = true → ∀ (c : Nat) (p : Str × Option Str) (Cl : Addr), exs[c]? = some p → mg p.1 = some (.ref Cl) → PySem.W.kitOne K (.ref Cl) (.type "ValueError") = some true
  f : ∀ x ∈ xfs, ∀ (c : Nat) (p : Str) (Cl : Addr), exs[c]? = some (p, some x) → mg p = some (.ref Cl) → XfC K Cl ∧ PySem.W.findIn K (.ref Cl) x = some none
/-- a context in which the checker's word holds -/
structure Good (g : G) (C : Nat → List D → R D) (xt : XTab) (k : Nat) (X : Cx) (z : Z) (W : WX) : Prop where
  N : X.N = g.N
  nd : g.N.Nodup
  cm : g.cm = true → X.calm = true
  tk : Takes X W
  un : X.A.units + 201 < cLine
  rm' : g.cm = true → Room (k + 1) X.A
  k1 : 1 ≤ k
  fns : ∀ f x fr, g.defs[f]? = some (x, fr) → ∃ ad fd ps, FnAt X xt k x (C f) fr ad fd ps
  gls : ∀ p ∈ g.globs, GlobOk X.K X.mg p.1 p.2
  blt : ∀ x ∈ g.blt, X.mg x = none
  zx : z.xt = xt
  zsp : z.sp = g.sp
  exs : g.exs = xt
  exc : ∀ (c : Nat) (x : Str), g.exs[c]? = some (x, none) → ExcAt X.K X.mg x
  exm : ExmAt X.K X.mg g.exs g.cts
  mgs : ∀ (c : Nat) (p : Str × Option Str), g.exs[c]? = some p → ∃ Cl : Addr, X.mg p.1 = some (.ref Cl)
  its : ItsAt X.K X.mg g.exs g.its g.itv g.xfs
  hot : g.cm = false → Hot X.K X.mg xt X z.Sp
  nox : g.cm = true → NoX z.Sp
  ini : ∀ (c : Nat) (x f : Str), g.exs[c]? = some (x, some f) → InitAt X.K X.mg x f
  spm : SpM z.Sp
section
variable {g : G} {C : Nat → List D → R D} {xt : XTab} {k : Nat} {X : Cx} {z : Z} {W : WX}
theorem Good.rm (h : Good g C xt k X z W) (c : g.cm = true) : Room k X.A := (h.rm' c).mono (Nat.le_succ _)
theorem Good.blk (h : Good g C xt k X z W) (hc : g.cm = true) (s : Shared) (H : Hp) (scope : Scope) (cenv : PySem.Env) (fp : List Addr) : Good g C xt k (X.blk s H scope cenv fp) z W0 :=
  ⟨h.N, h.nd, h.cm, takes0, h.un, h.rm', h.k1, fun f x fr q => let ⟨ad, fd, ps, F⟩ := h.fns f x fr q; ⟨ad, fd, ps, ⟨F.ok, F.mg, F.kp, F.bd⟩⟩, h.gls, h.blt, h.zx, h.zsp, h.exs, h.exc, h.exm, h.mgs, h.its, fun z => absurd (hc.symm.trans z) (by decide), h.nox, h.ini, h.spm⟩
structure SoundE (g : G) (C : Nat → List D → R D) (xt : XTab) (k : Nat) (e : E) : Prop where
  v : ∀ {X : Cx} {z : Z} {W : WX} {τ : List Nat} {m : Md} {e' : Expr}, Good g C xt k X z W → (chk g e).v X.env.scope τ m e' = true → PE X e' (tE X.K X.mg z W τ m fun ρ => evE C e ρ)
  t : ∀ {X : Cx} {z : Z} {W : WX} {τ : List Nat} {e' : Expr}, Good g C xt k X z W → (chk g e).t X.env.scope τ e' = true → PT X e' (tT X.K X.mg z W τ fun ρ => (evE C e ρ).bind truthy)
  i : ∀ {X : Cx} {z : Z} {W : WX} {τ : List Nat} {tg e' : Expr}, Good g C xt k X z W → (chk g e).i X.env.scope τ tg e' = true → PI X tg e' (tI X.K X.mg z W τ fun ρ => (evE C e ρ).bind walkR) ∧ ∀ x, foldedSetIterable e' X.env x = pure x
  a : ∀ {X : Cx} {z : Z} {W : WX} {τ : List Nat} {es : List Expr}, Good g C xt k X z W → (chk g e).a X.env.scope τ es = true → PA X es (tA X.K X.mg z W τ fun ρ => evEs C e ρ) ∧ (∀ e ∈ es, NoStar e) ∧ ∀ ρ ds, evEs C e ρ = ok ds → ds.length = es.length
theorem any_fresh {τ : List Nat} {m : Md} {e : Expr} {s1 : Env → R D} (h : PE X e (tE X.K X.mg z W τ .fresh s1)) : PE X e (tE X.K X.mg z W τ m s1) := by
  cases m with
  | fresh => exact h
  | frz => exact PE.imp h fun _ _ _ q => tE_fresh_frz q
  | peek => exact PE.imp h fun _ _ _ q => tE_fresh_peek q
theorem any_frz {τ : List Nat} {m : Md} {e : Expr} {s1 : Env → R D} (hm : m = .peek ∨ m = .frz) (h : PE X e (tE X.K X.mg z W τ .frz s1)) : PE X e (tE X.K X.mg z W τ m s1) := by
  rcases hm with rfl | rfl
  · exact PE.imp h fun _ _ _ q => tE_frz_peek q
  · exact h
theorem foldOk {e : Expr} {env : PySem.Env} (h : (match e with | .Set .. => false | _ => true) = true) : ∀ x, foldedSetIterable e env x = pure x := by
  intro x
  cases e <;> first | exact absurd h Bool.false_ne_true | rfl
/-- of a form that has nothing of its own as a test, as an iterable, as a list -/
theorem SoundE.of {e : E} {vv : Scope → List Nat → Md → Expr → Bool} (hc : chk g e = .mk1 vv) (h : ∀ {X : Cx} {z : Z} {W : WX} {τ : List Nat} {m : Md} {e' : Expr}, Good g C xt k X z W → vv X.env.scope τ m e' = true → PE X e' (tE X.K X.mg z W τ m fun ρ => evE C e ρ)) : SoundE g C xt k e := by
  refine ⟨fun Gd q => h Gd (by rw [hc] at q; exact q), fun Gd q => ?_, fun Gd q => ?_, fun Gd q => ?_⟩
  · rw [hc] at q
    obtain ⟨q1, q2⟩ := Bool.and_eq_true_iff.mp q
    exact s_test (h Gd q1) (plainTest_ok q2)
  · rw [hc] at q
    obtain ⟨q1, q2⟩ := Bool.and_eq_true_iff.mp q
    exact ⟨i_any (h Gd q1), foldOk q2⟩
  · rw [hc] at q; exact absurd q Bool.false_ne_true
theorem SoundE.ofT {e : E} {vv : Scope → List Nat → Md → Expr → Bool} {tt : Scope → List Nat → Expr → Bool} (hc : chk g e = { Chk.mk1 vv with t := tt }) (h : ∀ {X : Cx} {z : Z} {W : WX} {τ : List Nat} {m : Md} {e' : Expr}, Good g C xt k X z W → vv X.env.scope τ m e' = true → PE X e' (tE X.K X.mg z W τ m fun ρ => evE C e ρ))
    (ht : ∀ {X : Cx} {z : Z} {W : WX} {τ : List Nat} {e' : Expr}, Good g C xt k X z W → tt X.env.scope τ e' = true → PT X e' (tT X.K X.mg z W τ fun ρ => (evE C e ρ).bind truthy)) : SoundE g C xt k e := by
  refine ⟨fun Gd q => h Gd (by rw [hc] at q; exact q), fun Gd q => ht Gd (by rw [hc] at q; exact q), fun Gd q => ?_, fun Gd q => ?_⟩
  · rw [hc] at q
    obtain ⟨q1, q2⟩ := Bool.and_eq_true_iff.mp q
    exact ⟨i_any (h Gd q1), foldOk q2⟩
  · rw [hc] at q; exact absurd q Bool.false_ne_true
theorem SoundE.ofI {e : E} {ii : Scope → List Nat → Expr → Expr → Bool} (hc : chk g e = .it ii) (h : ∀ {X : Cx} {z : Z} {W : WX} {τ : List Nat} {tg e' : Expr}, Good g C xt k X z W → ii X.env.scope τ tg e' = true → PI X tg e' (tI X.K X.mg z W τ fun ρ => (evE C e ρ).bind walkR) ∧ ∀ x, foldedSetIterable e' X.env x = pure x) : SoundE g C xt k e :=
  ⟨fun Gd q => (by rw [hc] at q; exact absurd q Bool.false_ne_true), fun Gd q => (by rw [hc] at q; exact absurd q Bool.false_ne_true), fun Gd q => h Gd (by rw [hc] at q; exact q), fun Gd q => (by rw [hc] at q; exact absurd q Bool.false_ne_true)⟩
theorem SoundE.none {e : E} (hc : chk g e = .no) : SoundE g C xt k e :=
  ⟨fun Gd q => (by rw [hc] at q; exact absurd q Bool.false_ne_true), fun Gd q => (by rw [hc] at q; exact absurd q Bool.false_ne_true), fun Gd q => (by rw [hc] at q; exact absurd q Bool.false_ne_true), fun Gd q => (by rw [hc] at q; exact absurd q Bool.false_ne_true)⟩
theorem PT.congr {τ : List Nat} {e : Expr} {s1 s2 : Env → R Bool} (h : PT X e (tT X.K X.mg z W τ s1)) (q : ∀ ρ, s1 ρ = s2 ρ) : PT X e (tT X.K X.mg z W τ s2) := by
  rw [← funext q]; exact h
theorem PE.congr {τ : List Nat} {m : Md} {e : Expr} {s1 s2 : Env → R D} (h : PE X e (tE X.K X.mg z W τ m s1)) (q : ∀ ρ, s1 ρ = s2 ρ) : PE X e (tE X.K X.mg z W τ m s2) := by
  rw [← funext q]; exact h
theorem R.bind_assoc {α β γ : Type} (r : R α) (f : α → R β) (h : β → R γ) : (r.bind f).bind h = r.bind fun x => (f x).bind h := by cases r <;> rfl
theorem truthy_bool (b : Bool) : truthy (.bool b) = ok b := rfl

/-! ### one by one -/
theorem so_nil : SoundE g C xt k .nil := by
  refine ⟨fun Gd q => absurd q Bool.false_ne_true, fun Gd q => absurd q Bool.false_ne_true, fun Gd q => absurd q Bool.false_ne_true, fun {X z W τ es} Gd q => ?_⟩
  cases es with
  | nil => exact ⟨s_nil, fun _ h => (nomatch h), fun ρ ds e => by cases e; rfl⟩
  | cons _ _ => exact absurd q Bool.false_ne_true
theorem so_cons {h t : E} (hh : SoundE g C xt k h) (ht : SoundE g C xt k t) : SoundE g C xt k (.cons h t) := by
  refine ⟨fun Gd q => absurd q Bool.false_ne_true, fun Gd q => absurd q Bool.false_ne_true, fun Gd q => absurd q Bool.false_ne_true, fun {X z W τ es} Gd q => ?_⟩
  cases es with
  | nil => exact absurd q Bool.false_ne_true
  | cons e es =>
    have q : ((chk g h).v X.env.scope τ .frz e && nostarB e && (chk g t).a X.env.scope τ es) = true := q
    simp only [Bool.and_eq_true] at q
    obtain ⟨⟨q1, q2⟩, q3⟩ := q
    obtain ⟨a1, a2, a3⟩ := ht.a Gd q3
    have ns := nostarB_ok q2
    refine ⟨s_cons (hh.v Gd q1) a1 (ns _ _), fun e' he => ?_, fun ρ ds e2 => ?_⟩
    · rcases List.mem_cons.mp he with rfl | he
      · exact ns
      · exact a2 e' he
    · have e2 : (evE C h ρ).bind (fun d => (evEs C t ρ).bind fun ds => ok (d :: ds)) = ok ds := e2
      cases e3 : evE C h ρ with
      | exc c f => rw [e3] at e2; cases e2
      | stuck => rw [e3] at e2; cases e2
      | ok d =>
        rw [e3] at e2
        simp only [R.bind_ok] at e2
        cases e4 : evEs C t ρ with
        | exc c f => rw [e4] at e2; cases e2
        | stuck => rw [e4] at e2; cases e2
        | ok ds' =>
          rw [e4] at e2
          cases e2
          simp [a3 ρ ds' e4]
theorem so_var {i : Nat} : SoundE g C xt k (.var i) := by
  refine .of rfl fun {X z W τ m e'} Gd q => ?_
  try dsimp only at q
  split at q <;> first | exact absurd q Bool.false_ne_true | skip
  simp only [Bool.and_eq_true, Bool.or_eq_true, decide_eq_true_eq] at q
  obtain ⟨⟨⟨⟨q1, q2⟩, q3⟩, q4⟩, q5⟩ := q
  obtain ⟨n1, n2⟩ := okName_ok q3
  exact s_var (by rw [Gd.N]; exact q1) (visB_ok q2) n1 n2 (by rw [Gd.zsp]; exact q4) q5
theorem so_cst {d : D} : SoundE g C xt k (.cst d) := by
  refine .of rfl fun {X z W τ m e'} Gd q => ?_
  try dsimp only at q
  split at q <;> first | exact absurd q Bool.false_ne_true | skip
  rename_i c _ _
  cases d <;> cases c <;> first | exact absurd q Bool.false_ne_true | skip
  · exact s_none
  · rw [show _ = _ from eq_of_beq q]; exact s_bool
  · rw [show _ = _ from of_decide_eq_true q]; exact s_int
  · simp only [cstB, Bool.and_eq_true, decide_eq_true_eq] at q
    obtain ⟨rfl, q⟩ := q
    exact s_str q
theorem so_glob {x : Str} {d : D} : SoundE g C xt k (.glob x d) := by
  refine .of rfl fun {X z W τ m e'} Gd q => ?_
  try dsimp only at q
  split at q <;> first | exact absurd q Bool.false_ne_true | skip
  simp only [Bool.and_eq_true, Bool.or_eq_true, decide_eq_true_eq, List.any_eq_true] at q
  obtain ⟨⟨⟨⟨rfl, q2⟩, q3⟩, ⟨p, hp, q4, q5⟩⟩, q6⟩ := q
  obtain ⟨n1, n2⟩ := okName_ok q3
  have := Gd.gls p hp
  rw [q4, eqD_eq q5] at this
  exact s_glob (glB_ok q2) this n1 q6
theorem le_line {n : Nat} (h : n ≤ 1000) : n ≤ Line := Nat.le_trans h (by decide)
theorem so_tup {es : E} (h : SoundE g C xt k es) : SoundE g C xt k (.tup es) := by
  refine .of rfl fun {X z W τ m e'} Gd q => ?_
  try dsimp only at q
  split at q <;> first | exact absurd q Bool.false_ne_true | skip
  simp only [Bool.and_eq_true, decide_eq_true_eq] at q
  obtain ⟨a1, a2, a3⟩ := h.a Gd q.1
  exact s_tup a1 fun ρ ds e => by rw [a3 ρ ds e]; exact le_line q.2
theorem so_lst {es : E} (h : SoundE g C xt k es) : SoundE g C xt k (.lst es) := by
  refine .of rfl fun {X z W τ m e'} Gd q => ?_
  try dsimp only at q
  split at q <;> first | exact absurd q Bool.false_ne_true | skip
  simp only [Bool.and_eq_true, decide_eq_true_eq] at q
  obtain ⟨a1, a2, a3⟩ := h.a Gd q.1
  exact any_fresh (s_lst a1 (fun ρ ds e => by rw [a3 ρ ds e]; exact le_line q.2) rfl)
theorem s_call0 {x : Str} {p pos : Pos} {f : List D → R D} {fr : Bool} {ad : Addr} {fd : FuncData} {ps : List Str} {τ : List Nat} {m : Md} (G : FnAt X z.xt k x f fr ad fd ps) (hr : Room k X.A) (tk : Takes X W) (hg : Gl X x) (hdb : (x == ("__debug__" : Str)) = false) (hm : m = if fr then .fresh else .frz) :
    PE X (.Call (.Name x p) [] [] pos) (tE X.K X.mg z W τ m fun ρ => f []) := by
  refine PE.imp (pe_callS0 (E := WE W) G.ok hr hg G.mg G.kp G.bd (fun σ => passAt tk σ) hdb) ?_
  rintro σ H Q ⟨F, ρ, env, w⟩
  exact sp_of hm env .nil w
theorem so_call {f : Nat} {es : E} (h : SoundE g C xt k es) : SoundE g C xt k (.call f es) := by
  refine .of rfl fun {X z W τ m e'} Gd q => ?_
  try dsimp only at q
  split at q <;> first | exact absurd q Bool.false_ne_true | skip
  rename_i x p es' pos
  simp only [Bool.and_eq_true] at q
  obtain ⟨⟨⟨⟨q0, q1⟩, q2⟩, q3⟩, q4⟩ := q
  split at q4 <;> first | exact absurd q4 Bool.false_ne_true | skip
  rename_i y fr hf
  simp only [Bool.and_eq_true, Bool.or_eq_true, decide_eq_true_eq] at q4
  obtain ⟨rfl, q4⟩ := q4
  obtain ⟨ad, fd, ps, FA⟩ := Gd.fns f x fr hf
  rw [← Gd.zx] at FA
  obtain ⟨n1, n2⟩ := okName_ok q2
  obtain ⟨a1, a2, a3⟩ := h.a Gd q3
  have main : ∀ m, (m = if fr then Md.fresh else Md.frz) → PE X (.Call (.Name x p) es' [] pos) (tE X.K X.mg z W τ m fun ρ => (evEs C es ρ).bind fun ds => C f ds) := by
    intro m hm
    cases es' with
    | nil =>
      refine PE.congr (s_call0 FA (Gd.rm q0) Gd.tk (glB_ok q1) n1 hm) fun ρ => ?_
      have : evEs C es ρ = ok [] := by
        cases es with
        | nil => rfl
        | cons a b => exact absurd q3 Bool.false_ne_true
        | _ => exact absurd q3 Bool.false_ne_true
      rw [this]; rfl
    | cons e es' => exact s_call FA (Gd.rm q0) Gd.tk (glB_ok q1) n1 a1 a2 hm
  cases fr with
  | true => exact any_fresh (main _ rfl)
  | false => exact any_frz (by simpa using q4) (main _ rfl)
theorem so_bin {op : Op2} {a b : E} (ha : SoundE g C xt k a) (hb : SoundE g C xt k b) : SoundE g C xt k (.bin op a b) := by
  refine .of rfl fun {X z W τ m e'} Gd q => ?_
  try dsimp only at q
  split at q <;> first | exact absurd q Bool.false_ne_true | skip
  rename_i a' bop b' _
  simp only [Bool.and_eq_true] at q
  obtain ⟨⟨q1, q2⟩, q3⟩ := q
  have va := ha.v Gd q2
  have vb := hb.v Gd q3
  cases op <;> cases bop <;> first | exact absurd q1 Bool.false_ne_true | skip
  · exact any_fresh (s_add va vb rfl)
  · exact s_sub va vb
  · exact s_mul va vb
  · exact s_mod va vb
  · exact s_fdiv va vb
  · exact s_pow va vb
theorem so_rep {a b : E} (ha : SoundE g C xt k a) (hb : SoundE g C xt k b) : SoundE g C xt k (.rep a b) := by
  refine .of rfl fun {X z W τ m e'} Gd q => ?_
  try dsimp only at q
  split at q <;> first | exact absurd q Bool.false_ne_true | skip
  simp only [Bool.and_eq_true] at q
  exact any_fresh (s_rep (ha.v Gd q.1) (hb.v Gd q.2) rfl)
theorem so_neg {a : E} (ha : SoundE g C xt k a) : SoundE g C xt k (.neg a) := by
  refine .of rfl fun {X z W τ m e'} Gd q => ?_
  try dsimp only at q
  split at q <;> first | exact absurd q Bool.false_ne_true | skip
  exact s_neg (ha.v Gd q)
theorem so_not {a : E} (ha : SoundE g C xt k a) : SoundE g C xt k (.not a) := by
  refine .ofT rfl (fun {X z W τ m e'} Gd q => ?_) (fun {X z W τ e'} Gd q => ?_)
  · try dsimp only at q
    split at q <;> first | exact absurd q Bool.false_ne_true | skip
    exact s_not (ha.v Gd q)
  · try dsimp only at q
    split at q <;> first | exact absurd q Bool.false_ne_true | skip
    refine PT.congr (s_notT (ha.t Gd q)) fun ρ => ?_
    show _ = R.bind (R.bind (evE C a ρ) fun x => (truthy x).bind fun k => ok (.bool (!k))) truthy
    cases evE C a ρ <;> simp only [R.bind_ok, R.bind_exc, R.bind_stuck]
    rename_i d
    cases truthy d <;> rfl
theorem cmB_ok {c : Cm} {op : CmpOp} (h : cmB c op = true) (hu : X.A.units + 201 < cLine) : ∃ r, CmpOk X c op r := by
  have hu' : X.A.units + 200 < cLine := by omega
  cases c <;> cases op <;> first | exact absurd h Bool.false_ne_true | skip
  · exact ⟨_, cok_eq hu'⟩
  · exact ⟨_, cok_ne hu'⟩
  · exact ⟨_, cok_lt⟩
  · exact ⟨_, cok_le⟩
  · exact ⟨_, cok_gt⟩
  · exact ⟨_, cok_ge⟩
  · exact ⟨_, cok_is⟩
  · exact ⟨_, cok_isnot⟩
  · exact ⟨_, cok_in hu⟩
  · exact ⟨_, cok_notin hu⟩
theorem so_cmp {c : Cm} {a b : E} (ha : SoundE g C xt k a) (hb : SoundE g C xt k b) : SoundE g C xt k (.cmp c a b) := by
  refine .ofT rfl (fun {X z W τ m e'} Gd q => ?_) (fun {X z W τ e'} Gd q => ?_)
  · try dsimp only at q
    split at q <;> first | exact absurd q Bool.false_ne_true | skip
    simp only [Bool.and_eq_true] at q
    obtain ⟨⟨⟨q1, q2⟩, q3⟩, q4⟩ := q
    obtain ⟨r, cr⟩ := cmB_ok q1 Gd.un
    exact s_cmp cr (ha.v Gd q2) (hb.v Gd q3) (noMark_ok q4 _)
  · try dsimp only at q
    split at q <;> first | exact absurd q Bool.false_ne_true | skip
    simp only [Bool.and_eq_true] at q
    obtain ⟨⟨⟨q1, q2⟩, q3⟩, q4⟩ := q
    obtain ⟨r, cr⟩ := cmB_ok q1 Gd.un
    refine PT.congr (s_cmpT cr (ha.v Gd q2) (hb.v Gd q3) (noMark_ok q4 _)) fun ρ => ?_
    simp only [evE, R.bind_assoc, R.bind_ok, truthy_bool]
    congr 1; funext x; congr 1; funext y
    cases cmpR c x y <;> rfl
theorem so_chain {c1 c2 : Cm} {a b c : E} (ha : SoundE g C xt k a) (hb : SoundE g C xt k b) (hc : SoundE g C xt k c) : SoundE g C xt k (.chain c1 c2 a b c) := by
  refine .ofT rfl (fun {X z W τ m e'} Gd q => ?_) (fun {X z W τ e'} Gd q => ?_)
  · try dsimp only at q
    split at q <;> first | exact absurd q Bool.false_ne_true | skip
    simp only [Bool.and_eq_true] at q
    obtain ⟨⟨⟨⟨⟨q1, q2⟩, q3⟩, q4⟩, q5⟩, q6⟩ := q
    obtain ⟨r, cr⟩ := cmB_ok q1 Gd.un
    obtain ⟨r', cr'⟩ := cmB_ok q2 Gd.un
    exact s_chain cr cr' (ha.v Gd q3) (hb.v Gd q4) (hc.v Gd q5) (noMark_ok q6 _)
  · try dsimp only at q
    split at q <;> first | exact absurd q Bool.false_ne_true | skip
    simp only [Bool.and_eq_true] at q
    obtain ⟨⟨⟨⟨⟨q1, q2⟩, q3⟩, q4⟩, q5⟩, q6⟩ := q
    obtain ⟨r, cr⟩ := cmB_ok q1 Gd.un
    obtain ⟨r', cr'⟩ := cmB_ok q2 Gd.un
    refine PT.congr (s_chainT cr cr' (ha.v Gd q3) (hb.v Gd q4) (hc.v Gd q5) (noMark_ok q6 _)) fun ρ => ?_
    simp only [evE, R.bind_assoc]
    congr 1; funext x; congr 1; funext y
    cases cmpR c1 x y <;> simp only [R.bind_ok, R.bind_exc, R.bind_stuck]
    rename_i kk
    cases kk
    · rfl
    · simp only [if_true, R.bind_assoc]
      congr 1; funext u
      cases cmpR c2 y u <;> rfl
theorem so_chain3 {c1 c2 c3 : Cm} {a b c d : E} (ha : SoundE g C xt k a) (hb : SoundE g C xt k b) (hc : SoundE g C xt k c) (hd : SoundE g C xt k d) : SoundE g C xt k (.chain3 c1 c2 c3 a b c d) := by
  refine .ofT rfl (fun {X z W τ m e'} Gd q => ?_) (fun {X z W τ e'} Gd q => ?_)
  · try dsimp only at q
    split at q <;> first | exact absurd q Bool.false_ne_true | skip
    simp only [Bool.and_eq_true] at q
    obtain ⟨⟨⟨⟨⟨⟨⟨q1, q2⟩, q0⟩, q3⟩, q4⟩, q5⟩, q7⟩, q6⟩ := q
    obtain ⟨r, cr⟩ := cmB_ok q1 Gd.un
    obtain ⟨r', cr'⟩ := cmB_ok q2 Gd.un
    obtain ⟨r'', cr''⟩ := cmB_ok q0 Gd.un
    exact s_chain3 cr cr' cr'' (ha.v Gd q3) (hb.v Gd q4) (hc.v Gd q5) (hd.v Gd q7) (noMark_ok q6 _)
  · try dsimp only at q
    split at q <;> first | exact absurd q Bool.false_ne_true | skip
    simp only [Bool.and_eq_true] at q
    obtain ⟨⟨⟨⟨⟨⟨⟨q1, q2⟩, q0⟩, q3⟩, q4⟩, q5⟩, q7⟩, q6⟩ := q
    obtain ⟨r, cr⟩ := cmB_ok q1 Gd.un
    obtain ⟨r', cr'⟩ := cmB_ok q2 Gd.un
    obtain ⟨r'', cr''⟩ := cmB_ok q0 Gd.un
    refine PT.congr (s_chain3T cr cr' cr'' (ha.v Gd q3) (hb.v Gd q4) (hc.v Gd q5) (hd.v Gd q7) (noMark_ok q6 _)) fun ρ => ?_
    simp only [evE, R.bind_assoc]
    congr 1; funext x; congr 1; funext y
    cases cmpR c1 x y <;> simp only [R.bind_ok, R.bind_exc, R.bind_stuck]
    rename_i kk
    cases kk
    · rfl
    · simp only [if_true, R.bind_assoc]
      congr 1; funext u
      cases cmpR c2 y u <;> simp only [R.bind_ok, R.bind_exc, R.bind_stuck]
      rename_i kk
      cases kk
      · rfl
      · simp only [if_true, R.bind_assoc]
        congr 1; funext u2
        cases cmpR c3 u u2 <;> rfl
theorem rest_pe {op : BoolOp} {rest : List Expr} {b : Expr} {pos : Pos} {t : TE} (h : PE X (restB op rest b pos) t) : PE X (.BoolOp op (b :: rest) pos) t := by
  cases rest with
  | nil => exact ⟨fun pins s σ H Q I q => h.run pins s σ H Q I q⟩
  | cons _ _ => exact h
theorem rest_pw {op : BoolOp} {rest : List Expr} {b : Expr} {pos : Pos} {τ : List Nat} {s1 : Env → R Bool} (h : PT X (restB op rest b pos) (tT X.K X.mg z W τ s1)) : PW X (.BoolOp op (b :: rest) pos) (tT X.K X.mg z W τ s1) := by
  cases rest with
  | nil =>
    cases op with
    | And => exact pw_and1 h
    | Or => exact pw_or1 h
  | cons _ _ => exact ⟨fun w pins s σ H Q I q => h.run pins s σ H Q I q⟩
theorem so_and {a b : E} (ha : SoundE g C xt k a) (hb : SoundE g C xt k b) : SoundE g C xt k (.and a b) := by
  refine .ofT rfl (fun {X z W τ m e'} Gd q => ?_) (fun {X z W τ e'} Gd q => ?_)
  · try dsimp only at q
    split at q <;> first | exact absurd q Bool.false_ne_true | skip
    simp only [Bool.and_eq_true] at q
    exact s_and (ha.v Gd q.1) (rest_pe (hb.v Gd q.2))
  · try dsimp only at q
    split at q <;> first | exact absurd q Bool.false_ne_true | skip
    simp only [Bool.and_eq_true] at q
    refine PT.congr (s_andT (ha.t Gd q.1) (rest_pw (hb.t Gd q.2))).pt fun ρ => ?_
    simp only [evE, R.bind_assoc]
    congr 1; funext x
    cases e : truthy x <;> simp only [R.bind_ok, R.bind_exc, R.bind_stuck]
    rename_i kk
    cases kk
    · simp only [Bool.false_eq_true, if_false, R.bind_ok]; exact e.symm
    · simp only [if_true]
theorem so_or {a b : E} (ha : SoundE g C xt k a) (hb : SoundE g C xt k b) : SoundE g C xt k (.or a b) := by
  refine .ofT rfl (fun {X z W τ m e'} Gd q => ?_) (fun {X z W τ e'} Gd q => ?_)
  · try dsimp only at q
    split at q <;> first | exact absurd q Bool.false_ne_true | skip
    simp only [Bool.and_eq_true] at q
    exact s_or (ha.v Gd q.1) (rest_pe (hb.v Gd q.2))
  · try dsimp only at q
    split at q <;> first | exact absurd q Bool.false_ne_true | skip
    simp only [Bool.and_eq_true] at q
    refine PT.congr (s_orT (ha.t Gd q.1) (rest_pw (hb.t Gd q.2))).pt fun ρ => ?_
    simp only [evE, R.bind_assoc]
    congr 1; funext x
    cases e : truthy x <;> simp only [R.bind_ok, R.bind_exc, R.bind_stuck]
    rename_i kk
    cases kk
    · simp only [Bool.false_eq_true, if_false]
    · simp only [if_true, R.bind_ok]; exact e.symm
theorem so_ife {c a b : E} (hc : SoundE g C xt k c) (ha : SoundE g C xt k a) (hb : SoundE g C xt k b) : SoundE g C xt k (.ife c a b) := by
  refine .ofT rfl (fun {X z W τ m e'} Gd q => ?_) (fun {X z W τ e'} Gd q => ?_)
  · try dsimp only at q
    split at q <;> first | exact absurd q Bool.false_ne_true | skip
    simp only [Bool.and_eq_true] at q
    refine PE.congr (s_ife (hc.t Gd q.1.1) (ha.v Gd q.1.2) (hb.v Gd q.2)) fun ρ => ?_
    simp only [evE, R.bind_assoc]
  · try dsimp only at q
    split at q <;> first | exact absurd q Bool.false_ne_true | skip
    simp only [Bool.and_eq_true] at q
    refine PT.congr (s_ifeT (hc.t Gd q.1.1) (ha.t Gd q.1.2) (hb.t Gd q.2)) fun ρ => ?_
    simp only [evE, R.bind_assoc]
    congr 1; funext x
    cases truthy x <;> simp only [R.bind_ok, R.bind_exc, R.bind_stuck]
    rename_i kk
    cases kk <;> simp
theorem bltB_ok {sc : Str} (Gd : Good g C xt k X z W) (h : bltB g X.env.scope sc = true) : Gl X sc ∧ X.mg sc = none := by
  unfold bltB at h
  obtain ⟨h1, h2⟩ := Bool.and_eq_true_iff.mp h
  exact ⟨glB_ok h1, Gd.blt sc (by simpa using h2)⟩
theorem so_f1 {f : F1} {a : E} (ha : SoundE g C xt k a) : SoundE g C xt k (.f1 f a) := by
  refine .of rfl fun {X z W τ m e'} Gd q => ?_
  try dsimp only at q
  split at q <;> first | exact absurd q Bool.false_ne_true | skip
  simp only [Bool.and_eq_true, decide_eq_true_eq] at q
  obtain ⟨⟨⟨⟨⟨q0, rfl⟩, q1⟩, q2⟩, q3⟩, q4⟩ := q
  obtain ⟨hg, hm⟩ := bltB_ok Gd q1
  have hc := Gd.cm q2
  have va := ha.v Gd q3
  have ns := nostarB_ok q4
  cases f with
  | len => exact s_callB call_len c_len (calm_f1 _) hg hm PySem.boot_len va ns (by decide) (by decide)
  | tuple => exact s_callTy call_tuple_of c_tuple (calm_f1 _) hg hm boot_tuple va ns (by decide) (by decide)
  | list => exact any_fresh (s_callTy call_list_of (c_list rfl) (calm_f1 _) hg hm boot_list va ns (by decide) (by decide))
  | str => exact s_callTy call_str_int c_str (calm_f1 _) hg hm boot_str va ns (by decide) (by decide)
  | int => exact s_callTy call_int1 c_int (calm_f1 _) hg hm boot_int va ns (by decide) (by decide)
  | sum => exact s_callB (cr_sum hc) c_sum (calm_f1 _) hg hm boot_sum va ns (by decide) (by decide)
  | max => exact s_callB (cr_max hc) c_max (calm_f1 _) hg hm boot_max va ns (by decide) (by decide)
  | min => exact s_callB (cr_min hc) c_min (calm_f1 _) hg hm boot_min va ns (by decide) (by decide)
  | sorted => exact any_fresh (s_callB cr_sortedI (c_sorted rfl) (calm_f1 _) hg hm boot_sorted va ns (by decide) (by decide))
  | sortedset => exact absurd rfl q0
theorem excNo_excD (c : Nat) (f : PyData) : excNo (excD c f) = some c := by
  show (if (0 : Int) ≤ (c : Int) then some (c : Int).toNat else none) = _
  rw [if_pos (by omega)]
  rfl
theorem excNo_some {d : PyData} (h : excNo d ≠ none) : ∃ c f, d = excD c f := by
  unfold excNo at h
  split at h
  · rename_i c f
    split at h
    · exact ⟨c.toNat, f, by unfold excD; rw [Int.toNat_of_nonneg (by assumption)]⟩
    · exact absurd rfl h
  · exact absurd rfl h
theorem isi_calm (t : Ty) (d : PyData) (c : Nat) (f : PyData) : isiR t d ≠ exc c f := by
  intro h
  cases t <;> simp only [isiR] at h <;> split at h <;> cases h
/-- isinstance(e, y), e the exception that the suite holds -/
theorem so_isx {t : Ty} {i : Nat} {τ : List Nat} {m : Md} {x v y : Str} {p p1 p2 pos : Pos} (Gd : Good g C xt k X z W) (q : isxB g t (.var i) X.env.scope x (.Name v p1) y = true) :
    PE X (.Call (.Name x p) [.Name v p1, .Name y p2] [] pos) (tE X.K X.mg z W τ m fun ρ => evE C (.isi t (.var i)) ρ) := by
  unfold isxB at q
  simp only [Bool.and_eq_true, Bool.not_eq_true', decide_eq_true_eq] at q
  obtain ⟨⟨⟨⟨rfl, q1⟩, q2⟩, ⟨⟨q3, q4⟩, q5⟩, q6⟩, q7⟩ := q
  obtain ⟨hg, hm⟩ := bltB_ok Gd q1
  obtain ⟨n1, n2⟩ := okName_ok q5
  obtain ⟨Y, a, oe, pn, cls, dx, hX, hz, hv, hs⟩ := Gd.hot q2
  -- the class that is asked: its value, the answer
  have main : ∀ (cv : Value) (vv : V) (te : PE X (.Name y p2) (tC vv)) (one : ∀ u, RelV vv u → u = cv) (ans : ∀ (F : Hp) (c : Nat) (f : PyData), ExcR X.K X.mg xt F c f cls dx → ∃ b, isiR t (excD c f) = ok b ∧ ∃ D, cls = .ref D ∧ ExcK X.K D ∧ PySem.W.kitOne X.K (.ref D) cv = some b) (no : ∀ d b, isiR t d = ok b → ∃ c f, d = excD c f),
      PE X (.Call (.Name "isinstance" p) [.Name v p1, .Name y p2] [] pos) (tE X.K X.mg z W τ m fun ρ => evE C (.isi t (.var i)) ρ) := by
    intro cv vv te one ans no
    have hvar := pe_var (X := X) (pos := p1) (by rw [Gd.N]; exact q3) (visB_ok q4) n1 n2
    by_cases hD : ∃ D, cls = .ref D ∧ ExcK X.K D
    case neg =>
      constructor
      rintro pins s σ H Q I ⟨F, ρ, env, w⟩
      exfalso
      have w : PostE X.K X.mg z W m F H σ Q ((getS ρ i).bind fun x => (isiR t x).bind fun k => ok (.bool k)) := w
      cases e : getS ρ i with
      | stuck => rw [e] at w; exact w
      | exc c f => unfold getS at e; split at e <;> cases e
      | ok d =>
        rw [e] at w
        have e3 : ρ[i]? = some (some d) := by
          unfold getS at e
          split at e
          · rename_i d' h; cases e; exact h
          · cases e
        cases e4 : isiR t d with
        | stuck => simp only [R.bind_ok, e4, R.bind_stuck] at w; exact w
        | exc c f => exact absurd e4 (isi_calm t d c f)
        | ok b =>
          obtain ⟨c, f, rfl⟩ := no d b e4
          obtain ⟨u, _, q⟩ := env.slot i _ e3
          rw [if_pos (by rw [Gd.zsp]; exact q6)] at q
          obtain ⟨A, sA, _⟩ := q
          obtain ⟨_, x⟩ := hs _ _ _ _ _ _ _ sA
          obtain ⟨_, _, D, e5, e6, _⟩ := ans _ _ _ x
          exact hD ⟨D, e5, e6⟩
    obtain ⟨D, rfl, eD⟩ := hD
    subst hX
    refine PE.imp (pe_callB (call_isX (dx := dx) eD hz hv) hg hm (by decide +kernel) (pa_cons hvar (pa_cons te pa_nil rfl) rfl) (by decide) (by decide) rfl rfl) ?_
    rintro σ H Q ⟨F, ρ, env, w⟩
    have w : PostE _ _ z W m F H σ Q ((getS ρ i).bind fun x => (isiR t x).bind fun k => ok (.bool k)) := w
    cases e : getS ρ i with
    | stuck => rw [e] at w; exact w.elim
    | exc c f => unfold getS at e; split at e <;> cases e
    | ok d =>
      rw [e] at w
      have e3 : ρ[i]? = some (some d) := by
        unfold getS at e
        split at e
        · rename_i d' h; cases e; exact h
        · cases e
      cases e4 : isiR t d with
      | stuck => simp only [R.bind_ok, e4, R.bind_stuck] at w; exact w.elim
      | exc c f => exact absurd e4 (isi_calm t d c f)
      | ok b =>
        obtain ⟨c, f, rfl⟩ := no d b e4
        obtain ⟨u, e5, q⟩ := env.slot i _ e3
        rw [if_pos (by rw [Gd.zsp]; exact q6)] at q
        obtain ⟨A, sA, _⟩ := q
        obtain ⟨rfl, x⟩ := hs _ _ _ _ _ _ _ sA
        obtain ⟨b', e6, D', e7, _, e8⟩ := ans _ _ _ x
        rw [e4] at e6
        cases e6
        cases e7
        simp only [R.bind_ok, e4] at w
        exact ⟨_, e5, vv, cv, b, rfl, one, e8, excR_fld x env.ext.sub, endFlat env w (.bl b) (fun _ h => nomatch h)⟩
  cases t with
  | exc c =>
    simp only [Bool.and_eq_true, decide_eq_true_eq] at q7
    obtain ⟨⟨⟨q8, q9⟩, q10⟩, q11⟩ := q7
    cases ep : g.exs[c]? with
    | none => rw [ep] at q8; exact nomatch q8
    | some p0 =>
    rw [ep] at q8
    have h2 : p0.1 = y := Option.some.inj q8
    subst h2
    obtain ⟨Cl, gC⟩ := Gd.mgs c p0 ep
    refine main (.ref Cl) (.ref Cl) (pe_glob (glB_ok q10) gC rfl (okName_ok q11).1) (fun u h => h) (fun F c' f x => ?_) (fun d b h => ?_)
    · obtain ⟨nm, fld, C', r1, r2, r3, r4⟩ := x
      rw [← Gd.exs] at r1
      exact ⟨takesC c c', by show (match excNo (excD c' f) with | some c' => ok (takesC c c') | none => stuck) = _; rw [excNo_excD], C', r3, Gd.its.k (.inl fun z => by rw [z] at q9; cases q9) c' _ C' r1 r2, Gd.its.i c q9 c' p0 (nm, fld) Cl C' ep r1 gC r2⟩
    · refine excNo_some (d := d) fun z => ?_
      have h : (match excNo d with | some c' => ok (takesC c c') | none => stuck) = ok b := h
      rw [z] at h; cases h
  | valueError =>
    simp only [Bool.and_eq_true, decide_eq_true_eq] at q7
    obtain ⟨⟨rfl, q8⟩, q9⟩ := q7
    obtain ⟨hg2, hm2⟩ := bltB_ok Gd q8
    refine main (.type "ValueError") (.ty "ValueError") (pe_bltn hg2 hm2 PyProof.Rows.Boot.«ValueError» rfl) (fun u h => h) (fun F c' f x => ?_) (fun d b h => ?_)
    · obtain ⟨nm, fld, C', r1, r2, r3, r4⟩ := x
      rw [← Gd.exs] at r1
      exact ⟨true, by show (match excNo (excD c' f) with | some _ => ok true | none => stuck) = _; rw [excNo_excD], C', r3, Gd.its.k (.inr q9) c' _ C' r1 r2, Gd.its.v q9 c' _ C' r1 r2⟩
    · refine excNo_some (d := d) fun z => ?_
      have h : (match excNo d with | some _ => ok true | none => stuck) = ok b := h
      rw [z] at h; cases h
  | tuple => exact absurd q7 Bool.false_ne_true
  | int => exact absurd q7 Bool.false_ne_true
  | bool => exact absurd q7 Bool.false_ne_true
  | str => exact absurd q7 Bool.false_ne_true
  | list => exact absurd q7 Bool.false_ne_true
theorem so_isi {t : Ty} {a : E} (ha : SoundE g C xt k a) : SoundE g C xt k (.isi t a) := by
  refine .of rfl fun {X z W τ m e'} Gd q => ?_
  try dsimp only at q
  split at q <;> first | exact absurd q Bool.false_ne_true | skip
  rcases Bool.or_eq_true_iff.mp q with q | q
  · rename_i p0 a1 y0 p1 p2 p3
    have q0 := q
    unfold isxB at q0
    simp only [Bool.and_eq_true] at q0
    obtain ⟨⟨_, q1⟩, _⟩ := q0
    cases a <;> first | exact absurd q1 Bool.false_ne_true | skip
    cases a1 <;> first | exact absurd q1 Bool.false_ne_true | skip
    exact so_isx Gd q
  simp only [Bool.and_eq_true, decide_eq_true_eq] at q
  obtain ⟨⟨⟨⟨⟨⟨q0, rfl⟩, q1⟩, rfl⟩, q2⟩, q3⟩, q4⟩ := q
  obtain ⟨hg, hm⟩ := bltB_ok Gd q1
  obtain ⟨hg2, hm2⟩ := bltB_ok Gd q2
  exact s_isi q0 hg hm hg2 hm2 (ha.v Gd q3) (nostarB_ok q4)
theorem exf_ok {n : Str} {d w : PyData} (h : exfR n d = ok w) : ∃ c, d = excD c (.dict [(.str n, w)]) := by
  unfold exfR at h
  split at h
  · rename_i j y f
    split at h
    · rename_i e
      obtain ⟨hj, rfl⟩ := e
      cases h
      exact ⟨j.toNat, by unfold excD; rw [Int.toNat_of_nonneg hj]⟩
    · cases h
  · cases h
theorem exf_calm (n : Str) (d : PyData) (c : Nat) (f : PyData) : exfR n d ≠ exc c f := by
  intro h
  unfold exfR at h
  split at h
  · split at h <;> cases h
  · cases h
/-- e.f, e the exception that the suite holds -/
theorem so_exf {n : Str} {a : E} : SoundE g C xt k (.exf n a) := by
  refine .of rfl fun {X z W τ m e'} Gd q => ?_
  try dsimp only at q
  split at q <;> first | exact absurd q Bool.false_ne_true | skip
  rename_i v p1 x p2
  simp only [Bool.and_eq_true, Bool.not_eq_true', decide_eq_true_eq] at q
  obtain ⟨⟨⟨⟨rfl, q2⟩, q3⟩, q4⟩, q7⟩ := q
  cases a <;> first | exact absurd q4 Bool.false_ne_true | skip
  rename_i i
  simp only [Bool.and_eq_true, decide_eq_true_eq] at q4
  obtain ⟨⟨⟨q4, q5⟩, q6⟩, q8⟩ := q4
  have q3 : x ∈ g.xfs := by simpa using q3
  obtain ⟨n1, n2⟩ := okName_ok q6
  obtain ⟨Y, a, oe, pn, cls, dx, hX, hz, hv, hs⟩ := Gd.hot q2
  refine any_frz (by simpa using q7) ?_
  -- what comes, and how it lies
  have main : ∀ {F H : Hp} {σ : L2.St} {Q : VK} {ρ : Env}, Ev X.K z τ F H σ ρ → PostE X.K X.mg z W .frz F H σ Q ((getS ρ i).bind fun d => exfR x d) →
      ∃ D dd u, σ[i]? = some (some (.ref a)) ∧ cls = .ref D ∧ (XfC X.K D ∧ PySem.W.findIn X.K (.ref D) x = some none) ∧ dx = some dd ∧ H dd = some (.xd [(x, u)]) ∧ Q u H := by
    intro F H σ Q ρ env w
    cases e : getS ρ i with
    | stuck => rw [e] at w; exact w.elim
    | exc c f => unfold getS at e; split at e <;> cases e
    | ok d =>
      rw [e] at w
      have e3 : ρ[i]? = some (some d) := by
        unfold getS at e
        split at e
        · rename_i d' h; cases e; exact h
        · cases e
      cases e4 : exfR x d with
      | stuck => simp only [R.bind_ok, e4] at w; exact w.elim
      | exc c f => exact absurd e4 (exf_calm x d c f)
      | ok b =>
        simp only [R.bind_ok, e4] at w
        obtain ⟨u, e5, q⟩ := env.slot i _ e3
        rw [if_pos (by rw [Gd.zsp]; exact q8)] at q
        obtain ⟨A, sA, _⟩ := q
        obtain ⟨c, rfl⟩ := exf_ok e4
        obtain ⟨rfl, nm, fld, C', r1, r2, r3, r4⟩ := hs _ _ _ _ _ _ _ sA
        rw [← Gd.exs] at r1
        cases fld with
        | none =>
          have := r4.2
          cases this
        | some y =>
          obtain ⟨dd, u, w', r5, r6, r7, r8⟩ := r4
          have r9 : (PyData.str x, b) = (PyData.str y, w') := by
            have := PyData.dict.inj r7
            simpa using this
          obtain ⟨r10, rfl⟩ := Prod.mk.inj r9
          have r10 : x = y := PyData.str.inj r10
          subst r10
          exact ⟨C', dd, u, e5, r3, Gd.its.f x q3 c nm C' r1 r2, r5, env.ext.sub _ _ r6, w u F H (.refl env.ext.sub) r8⟩
  by_cases hD : ∃ D, cls = .ref D ∧ XfC X.K D ∧ PySem.W.findIn X.K (.ref D) x = some none
  · obtain ⟨D, rfl, T1, T2⟩ := hD
    subst hX
    have hvar := pe_var (X := Y.suite a ((a, oe) :: pn)) (pos := p1) (by rw [Gd.N]; exact q4) (visB_ok q5) n1 n2
    refine PE.imp (pe_xf T1 T2 hz hv hvar) ?_
    rintro σ H Q ⟨F, ρ, env, w⟩
    obtain ⟨D', dd, u, e1, e2, _, e3, e4, e5⟩ := main env w
    exact ⟨_, e1, rfl, rfl, dd, _, u, e3, e4, by simp [List.lookup], e5⟩
  · constructor
    rintro pins s σ H Q I ⟨F, ρ, env, w⟩
    obtain ⟨D', dd, u, e1, e2, e3, _⟩ := main env w
    exact absurd ⟨D', e2, e3⟩ hD
theorem so_idx {a b : E} (ha : SoundE g C xt k a) (hb : SoundE g C xt k b) : SoundE g C xt k (.idx a b) := by
  refine .of rfl fun {X z W τ m e'} Gd q => ?_
  try dsimp only at q
  split at q <;> first | exact absurd q Bool.false_ne_true | skip
  simp only [Bool.and_eq_true, Bool.or_eq_true, decide_eq_true_eq] at q
  obtain ⟨⟨⟨q1, q2⟩, q3⟩, q4⟩ := q
  exact any_frz q4 (s_idx (ha.v Gd q1) (hb.v Gd q2) (plainIxB_ok q3) (.inl rfl))
theorem so_slf {a b : E} (ha : SoundE g C xt k a) (hb : SoundE g C xt k b) : SoundE g C xt k (.slf a b) := by
  refine .of rfl fun {X z W τ m e'} Gd q => ?_
  try dsimp only at q
  split at q <;> first | exact absurd q Bool.false_ne_true | skip
  simp only [Bool.and_eq_true] at q
  exact any_fresh (s_slf (ha.v Gd q.1) (hb.v Gd q.2) rfl)
theorem so_slt {a b : E} (ha : SoundE g C xt k a) (hb : SoundE g C xt k b) : SoundE g C xt k (.slt a b) := by
  refine .of rfl fun {X z W τ m e'} Gd q => ?_
  try dsimp only at q
  split at q <;> first | exact absurd q Bool.false_ne_true | skip
  simp only [Bool.and_eq_true] at q
  exact any_fresh (s_slt (ha.v Gd q.1) (hb.v Gd q.2) rfl)
theorem so_slb {a b c : E} (ha : SoundE g C xt k a) (hb : SoundE g C xt k b) (hc : SoundE g C xt k c) : SoundE g C xt k (.slb a b c) := by
  refine .of rfl fun {X z W τ m e'} Gd q => ?_
  try dsimp only at q
  split at q <;> first | exact absurd q Bool.false_ne_true | skip
  simp only [Bool.and_eq_true] at q
  exact any_fresh (s_slb (ha.v Gd q.1.1) (hb.v Gd q.1.2) (hc.v Gd q.2) rfl)
theorem so_rev {a : E} (ha : SoundE g C xt k a) : SoundE g C xt k (.rev a) := by
  refine .of rfl fun {X z W τ m e'} Gd q => ?_
  try dsimp only at q
  split at q <;> first | exact absurd q Bool.false_ne_true | skip
  simp only [Bool.and_eq_true, decide_eq_true_eq] at q
  obtain ⟨rfl, q⟩ := q
  exact any_fresh (s_rev (ha.v Gd q) rfl)
theorem so_max2 {a b : E} (ha : SoundE g C xt k a) (hb : SoundE g C xt k b) : SoundE g C xt k (.max2 a b) := by
  refine .of rfl fun {X z W τ m e'} Gd q => ?_
  try dsimp only at q
  split at q <;> first | exact absurd q Bool.false_ne_true | skip
  simp only [Bool.and_eq_true, decide_eq_true_eq] at q
  obtain ⟨⟨⟨⟨⟨⟨rfl, q1⟩, q2⟩, q3⟩, q4⟩, q5⟩, q6⟩ := q
  obtain ⟨hg, hm⟩ := bltB_ok Gd q1
  have ns := nostarB_ok q5
  have ns2 := nostarB_ok q6
  refine PE.imp (pe_callB (call_max2 (Gd.cm q2)) hg hm boot_max (pa_cons (ha.v Gd q3) (pa_cons (hb.v Gd q4) pa_nil (ns2 _ _)) (ns _ _)) (by decide) (by decide) (ns _ _) (by rw [ns2]; rfl)) ?_
  rintro σ H Q ⟨F, ρ, env, w⟩
  refine stepE (likeE ..) env w fun d v F1 H1 e x env1 r w1 => ?_
  refine stepE (likeE ..) env1 w1 fun d2 v2 F2 H2 e2 x2 env2 r2 w2 => ?_
  cases d <;> cases d2 <;> first | exact w2.elim | skip
  exact ⟨_, _, by rw [Rep.int_inv r, Rep.int_inv r2], endFlat env2 w2 (.int _) (fun _ h => nomatch h)⟩
theorem so_divmod {a b : E} (ha : SoundE g C xt k a) (hb : SoundE g C xt k b) : SoundE g C xt k (.divmod a b) := by
  refine .of rfl fun {X z W τ m e'} Gd q => ?_
  try dsimp only at q
  split at q <;> first | exact absurd q Bool.false_ne_true | skip
  simp only [Bool.and_eq_true, decide_eq_true_eq] at q
  obtain ⟨⟨⟨⟨⟨rfl, q1⟩, q3⟩, q4⟩, q5⟩, q6⟩ := q
  obtain ⟨hg, hm⟩ := bltB_ok Gd q1
  have ns := nostarB_ok q5
  have ns2 := nostarB_ok q6
  refine PE.imp (pe_callB call_divmod hg hm (by decide +kernel) (pa_cons (ha.v Gd q3) (pa_cons (hb.v Gd q4) pa_nil (ns2 _ _)) (ns _ _)) (by decide) (by decide) (ns _ _) (by rw [ns2]; rfl)) ?_
  rintro σ H Q ⟨F, ρ, env, w⟩
  refine stepE (likeE ..) env w fun d v F1 H1 e x env1 r w1 => ?_
  refine stepE (likeE ..) env1 w1 fun d2 v2 F2 H2 e2 x2 env2 r2 w2 => ?_
  cases d <;> cases d2 <;> first | exact w2.elim | skip
  dsimp only at w2
  split at w2
  · rename_i c
    refine ⟨_, _, by rw [Rep.int_inv r, Rep.int_inv r2], c, fun p hp => ?_⟩
    exact w2 _ _ _ (.alloc env2.ext.sub hp) (.flat (.ofTuple (.of upd_same) (.cons (.int _) (.cons (.int _) .nil))) (fun _ h => nomatch h) m)
  · exact w2.elim
theorem so_comp {tg : Tg} {it cond elt : E} (hi : SoundE g C xt k it) (hc : SoundE g C xt k cond) (he : SoundE g C xt k elt) : SoundE g C xt k (.comp tg it cond elt) := by
  refine .of rfl fun {X z W τ m e'} Gd q => ?_
  try dsimp only at q
  split at q <;> first | exact absurd q Bool.false_ne_true | skip
  rename_i elt' tg' iter' ifs' scope pos
  simp only [Bool.and_eq_true] at q
  obtain ⟨⟨⟨⟨⟨⟨q1, q2⟩, q3⟩, q4⟩, q5⟩, q6⟩, q7⟩ := q
  obtain ⟨pi, fo⟩ := hi.i Gd q5
  have hsp : ∀ i ∈ tg.slots, i ∉ z.sp := fun i h => by
    rw [Gd.zsp]
    exact of_decide_eq_true (List.all_eq_true.mp q4 i h)
  have tgs : ∀ (s : Shared) (H : Hp) (C : Addr) (cl : List (Str × Addr)) (fp : List Addr), PG (X.blk s H scope (compEnvC scope cl C X.env) fp) tg' (gTg X.K tg) := fun s H C cl fp => by
    refine pg_of (X := X.blk s H scope (compEnvC scope cl C X.env) fp) (by show X.N.Nodup; rw [Gd.N]; exact Gd.nd) (Gd.cm q1) ?_
    refine tgB_ok (chkN := locB scope) (fun x hx => ?_) (by show tgB X.N (locB scope) tg tg' = true; rw [Gd.N]; exact q3)
    show Loc (relS scope X.env.scope) x ∧ ((scope.names.lookup x == some .cell) = true ∨ (relS scope X.env.scope).names.lookup x = some .local)
    rcases locB_ok hx with h | h
    · have := lookup_relS_keep (sc := X.env.scope) (k := .local) (by intro z; cases z) h
      exact ⟨.inl this, .inr this⟩
    · have := lookup_relS_keep (sc := X.env.scope) (k := .cell) (by intro z; cases z) h
      exact ⟨.inr this, .inl (by rw [h]; rfl)⟩
  have els : ∀ (s : Shared) (H : Hp) (C' : Addr) (cl : List (Str × Addr)) (fp : List Addr), PE (X.blk s H scope (compEnvC scope cl C' X.env) fp) elt' (tE X.K X.mg z W0 (minus τ tg.slots) .frz fun ρ => evE C elt ρ) := fun s H C' cl fp =>
    he.v (X := X.blk s H scope (compEnvC scope cl C' X.env) fp) (Gd.blk q1 s H scope _ fp) q7
  refine any_fresh ?_
  cases ifs' with
  | nil =>
    have en : cond = .nil := by cases cond <;> first | rfl | exact absurd q6 Bool.false_ne_true
    subst en
    exact s_comp (tt := tYes) (Gd.cm q1) (by rw [Gd.N]; exact Gd.nd) pi (by rw [Gd.N]; exact blkOk_by q2) (ownOf_slots q3) hsp tgs (fun _ _ _ _ _ => pts_nil) (fun σ H Q h => by
      obtain ⟨F, ρ, env, w⟩ := h
      exact w F H (.refl env.ext.sub)) els fo
  | cons c' r =>
    cases r with
    | nil =>
      exact s_comp (Gd.cm q1) (by rw [Gd.N]; exact Gd.nd) pi (by rw [Gd.N]; exact blkOk_by q2) (ownOf_slots q3) hsp tgs
        (fun s H C' cl fp => pts_one (hc.t (X := X.blk s H scope (compEnvC scope cl C' X.env) fp) (Gd.blk q1 s H scope _ fp) q6)) (fun _ _ _ h => h) els fo
    | cons _ _ => exact absurd q6 Bool.false_ne_true
theorem so_rng1 {a : E} (ha : SoundE g C xt k a) : SoundE g C xt k (.rng1 a) := by
  refine .ofI rfl fun {X z W τ tg e'} Gd q => ?_
  try dsimp only at q
  split at q <;> first | exact absurd q Bool.false_ne_true | skip
  simp only [Bool.and_eq_true, decide_eq_true_eq] at q
  obtain ⟨⟨⟨rfl, q1⟩, q2⟩, q3⟩ := q
  obtain ⟨hg, hm⟩ := bltB_ok Gd q1
  exact ⟨i_rng1 hg hm (ha.v Gd q2) (nostarB_ok q3), fun _ => rfl⟩
theorem so_rng2 {a b : E} (ha : SoundE g C xt k a) (hb : SoundE g C xt k b) : SoundE g C xt k (.rng2 a b) := by
  refine .ofI rfl fun {X z W τ tg e'} Gd q => ?_
  try dsimp only at q
  split at q <;> first | exact absurd q Bool.false_ne_true | skip
  simp only [Bool.and_eq_true, decide_eq_true_eq] at q
  obtain ⟨⟨⟨⟨⟨rfl, q1⟩, q2⟩, q3⟩, q4⟩, q5⟩ := q
  obtain ⟨hg, hm⟩ := bltB_ok Gd q1
  exact ⟨i_rng2 hg hm (ha.v Gd q2) (hb.v Gd q3) (nostarB_ok q4) (nostarB_ok q5), fun _ => rfl⟩
theorem so_rng3 {a b c : E} (ha : SoundE g C xt k a) (hb : SoundE g C xt k b) (hc : SoundE g C xt k c) : SoundE g C xt k (.rng3 a b c) := by
  refine .ofI rfl fun {X z W τ tg e'} Gd q => ?_
  try dsimp only at q
  split at q <;> first | exact absurd q Bool.false_ne_true | skip
  simp only [Bool.and_eq_true, decide_eq_true_eq] at q
  obtain ⟨⟨⟨⟨⟨⟨⟨rfl, q1⟩, q2⟩, q3⟩, q4⟩, q5⟩, q6⟩, q7⟩ := q
  obtain ⟨hg, hm⟩ := bltB_ok Gd q1
  exact ⟨i_rng3 hg hm (ha.v Gd q2) (hb.v Gd q3) (hc.v Gd q4) (nostarB_ok q5) (nostarB_ok q6) (nostarB_ok q7), fun _ => rfl⟩
theorem so_enum {a : E} (ha : SoundE g C xt k a) : SoundE g C xt k (.enum a) := by
  refine .ofI rfl fun {X z W τ tg e'} Gd q => ?_
  try dsimp only at q
  split at q <;> first | exact absurd q Bool.false_ne_true | skip
  simp only [Bool.and_eq_true, decide_eq_true_eq] at q
  obtain ⟨⟨⟨rfl, q1⟩, q2⟩, q3⟩ := q
  obtain ⟨hg, hm⟩ := bltB_ok Gd q1
  exact ⟨i_enum hg hm (ha.v Gd q2) (nostarB_ok q3), fun _ => rfl⟩
theorem so_revd {a : E} (ha : SoundE g C xt k a) : SoundE g C xt k (.revd a) := by
  refine .ofI rfl fun {X z W τ tg e'} Gd q => ?_
  try dsimp only at q
  split at q <;> first | exact absurd q Bool.false_ne_true | skip
  simp only [Bool.and_eq_true, decide_eq_true_eq] at q
  obtain ⟨⟨⟨rfl, q1⟩, q2⟩, q3⟩ := q
  obtain ⟨hg, hm⟩ := bltB_ok Gd q1
  exact ⟨i_revd hg hm (ha.v Gd q2) ((nostarB_ok q3) _ _), fun _ => rfl⟩
/-- the checker's word on expressions -/
theorem sound : ∀ e : E, SoundE g C xt k e
  | .nil => so_nil
  | .cons h t => so_cons (sound h) (sound t)
  | .var _ => so_var
  | .cst _ => so_cst
  | .glob _ _ => so_glob
  | .tup es => so_tup (sound es)
  | .lst es => so_lst (sound es)
  | .call _ es => so_call (sound es)
  | .callv _ _ => .none rfl
  | .bin _ a b => so_bin (sound a) (sound b)
  | .rep a b => so_rep (sound a) (sound b)
  | .neg a => so_neg (sound a)
  | .not a => so_not (sound a)
  | .cmp _ a b => so_cmp (sound a) (sound b)
  | .chain _ _ a b c => so_chain (sound a) (sound b) (sound c)
  | .chain3 _ _ _ a b c d => so_chain3 (sound a) (sound b) (sound c) (sound d)
  | .and a b => so_and (sound a) (sound b)
  | .or a b => so_or (sound a) (sound b)
  | .ife c a b => so_ife (sound c) (sound a) (sound b)
  | .f1 _ a => so_f1 (sound a)
  | .isi _ a => so_isi (sound a)
  | .max2 a b => so_max2 (sound a) (sound b)
  | .maxd _ _ => .none rfl
  | .divmod a b => so_divmod (sound a) (sound b)
  | .idx a b => so_idx (sound a) (sound b)
  | .slf a b => so_slf (sound a) (sound b)
  | .slt a b => so_slt (sound a) (sound b)
  | .slb a b c => so_slb (sound a) (sound b) (sound c)
  | .rev a => so_rev (sound a)
  | .comp _ it cond elt => so_comp (sound it) (sound cond) (sound elt)
  | .rng1 a => so_rng1 (sound a)
  | .rng2 a b => so_rng2 (sound a) (sound b)
  | .rng3 a b c => so_rng3 (sound a) (sound b) (sound c)
  | .enum a => so_enum (sound a)
  | .zip3 _ _ _ => .none rfl
  | .revd a => so_revd (sound a)
  | .lrng _ => .none rfl
  | .join _ _ => .none rfl
  | .index _ _ => .none rfl
  | .count _ _ => .none rfl
  | .inD _ _ _ _ => .none rfl
  | .getD _ _ _ => .none rfl
  | .sortD _ _ => .none rfl
  | .exf _ _ => so_exf
end
end Pyr

namespace Pyr
open PySem L2 PyProof.Rows
open R (ok exc stuck)

/-! # The checker of statements: it also tells which slots hold a list of their own behind the statement -/
def inter (a b : List Nat) : List Nat := a.filter fun i => b.contains i
theorem mem_inter {a b : List Nat} {i : Nat} : i ∈ inter a b ↔ i ∈ a ∧ i ∈ b := by
  unfold inter; simp
def subB (a b : List Nat) : Bool := a.all fun i => b.contains i
theorem subB_ok {a b : List Nat} (h : subB a b = true) : ∀ i ∈ a, i ∈ b := fun i hi => by
  have := List.all_eq_true.mp h i hi
  simpa using this
/-- the slots that an expression names -/
def varsE : E → List Nat
  | .var i => [i]
  | .cons h t => varsE h ++ varsE t
  | .tup es => varsE es
  | .lst es => varsE es
  | .call _ es => varsE es
  | .callv _ es => varsE es
  | .bin _ a b => varsE a ++ varsE b
  | .rep a b => varsE a ++ varsE b
  | .neg a => varsE a
  | .not a => varsE a
  | .cmp _ a b => varsE a ++ varsE b
  | .chain _ _ a b c => varsE a ++ varsE b ++ varsE c
  | .chain3 _ _ _ a b c d => varsE a ++ varsE b ++ varsE c ++ varsE d
  | .and a b => varsE a ++ varsE b
  | .or a b => varsE a ++ varsE b
  | .ife a b c => varsE a ++ varsE b ++ varsE c
  | .f1 _ a => varsE a
  | .isi _ a => varsE a
  | .max2 a b => varsE a ++ varsE b
  | .maxd a b => varsE a ++ varsE b
  | .divmod a b => varsE a ++ varsE b
  | .idx a b => varsE a ++ varsE b
  | .slf a b => varsE a ++ varsE b
  | .slt a b => varsE a ++ varsE b
  | .slb a b c => varsE a ++ varsE b ++ varsE c
  | .rev a => varsE a
  | .comp _ a b c => varsE a ++ varsE b ++ varsE c
  | .rng1 a => varsE a
  | .rng2 a b => varsE a ++ varsE b
  | .rng3 a b c => varsE a ++ varsE b ++ varsE c
  | .enum a => varsE a
  | .zip3 a b c => varsE a ++ varsE b ++ varsE c
  | .revd a => varsE a
  | .lrng a => varsE a
  | .join a b => varsE a ++ varsE b
  | .index a b => varsE a ++ varsE b
  | .count a b => varsE a ++ varsE b
  | .inD _ _ _ a => varsE a
  | .getD _ _ a => varsE a
  | .exf _ a => varsE a
  | _ => []
/-- the slots whose lists a statement changes; that it gives a value -/
def mutsS : S → List Nat
  | .cons s t => mutsS s ++ mutsS t
  | .setidx i _ _ => [i]
  | .app i _ => [i]
  | .ext i _ => [i]
  | .ins i _ _ => [i]
  | .ite _ a b => mutsS a ++ mutsS b
  | .while _ b => mutsS b
  | .for _ _ b => mutsS b
  | .try b h => mutsS b ++ mutsS h
  | .hcons _ _ a b => mutsS a ++ mutsS b
  | _ => []
def setsS : S → List Nat
  | .cons s t => setsS s ++ setsS t
  | .set i _ => [i]
  | .setfn i _ _ _ => [i]
  | .unpack is _ => is
  | .par is _ => is
  | .ite _ a b => setsS a ++ setsS b
  | .while _ b => setsS b
  | .for t _ b => t.slots ++ setsS b
  | .try b h => setsS b ++ setsS h
  | .hcons _ _ a b => setsS a ++ setsS b
  | _ => []
/-- the first that will do -/
def firstOf {α : Type} (p : α → Bool) : List α → Option α
  | [] => none
  | a :: as => if p a then some a else firstOf p as
theorem firstOf_ok {α : Type} {p : α → Bool} : ∀ {l : List α} {a : α}, firstOf p l = some a → p a = true ∧ a ∈ l
  | x :: xs, a, h => by
    unfold firstOf at h
    split at h
    · cases h; exact ⟨by assumption, List.mem_cons_self⟩
    · obtain ⟨h1, h2⟩ := firstOf_ok h
      exact ⟨h1, List.mem_cons_of_mem _ h2⟩
abbrev Ans := Option (Option (List Nat))
structure ChkS where
  s : Scope → List Nat → List Nat → Stmt → Ans
  b : Scope → List Nat → List Nat → List Stmt → Ans
def ChkS.st (s : Scope → List Nat → List Nat → Stmt → Ans) : ChkS := ⟨s, fun _ _ _ _ => none⟩
def join2 : Option (List Nat) → Option (List Nat) → Option (List Nat)
  | none, b => b
  | a, none => a
  | some a, some b => some (inter a b)
/-- which owned slots may an expression be checked with -/
def pick (τ vars : List Nat) (p : List Nat → Bool) : Option (List Nat) := firstOf p [τ, minus τ vars]
def setB (g : G) (ex : List Nat) (ck : Chk) (vars : List Nat) (sc : Scope) (τ : List Nat) (e : Expr) : Option (List Nat × Md) :=
  firstOf (fun p => ck.v sc p.1 p.2 e && subB ex p.1) [(τ, .fresh), (τ, .frz), (minus τ vars, .fresh), (minus τ vars, .frz)]
def tupB : Expr → Bool
  | .Tuple .. => true
  | _ => false
/-- a, b = x, y is stored from the right -/
def sw2B (sc : Scope) : List Expr → List Expr → Bool
  | [.Name x px, .Name y py], [a, b] => decide (sc.names.lookup x = some .local) && decide (sc.names.lookup y = some .local) && (py.line == px.line) && decide (x ≠ y) && nostarB a && nostarB b && !(foldedForSure 8 a && foldedForSure 8 b) && !(constantsAlone 8 a && constantsAlone 8 b)
  | _, _ => false
def sw3B (sc : Scope) : List Expr → List Expr → Bool
  | [.Name x px, .Name y py, .Name u pu], [a, b, c] => decide (sc.names.lookup x = some .local) && decide (sc.names.lookup y = some .local) && decide (sc.names.lookup u = some .local) && (py.line == px.line) && (pu.line == px.line) && decide (x ≠ y) && decide (x ≠ u) && decide (y ≠ u) &&
      nostarB a && nostarB b && nostarB c && !(foldedForSure 8 a && foldedForSure 8 b && foldedForSure 8 c) && !(constantsAlone 8 a && constantsAlone 8 b && constantsAlone 8 c)
  | _, _ => false
/-- .. is stored from the left -/
def swNoB : List Expr → List Expr → Bool
  | ts, vs => vs.all (foldedForSure 8) && vs.all nostarB

def retB (fm : Md) (i : Nat) (τ : List Nat) : Bool := match fm with
  | .fresh => decide (i ∈ τ)
  | .frz => true
  | .peek => false
def augB (op : Op2) (bop : Operator) : Bool := match op, bop with
  | .add, .Add => true
  | .sub, .Sub => true
  | _, _ => false

/-- a clause's name and its slot -/
def clB (g : G) (sc : Scope) : Option Nat → Option Str → Bool
  | none, none => true
  | some i, some n => decide (i ∈ g.sp) && decide (g.N[i]? = some n) && decide (sc.names.lookup n = some .local)
  | _, _ => false
mutual
def chkS (g : G) (fm : Md) (ex : List Nat) : S → ChkS
  | .nil => ⟨fun _ _ _ _ => none, fun _ _ τ sts => if sts.isEmpty then some (some τ) else none⟩
  | .cons s t => ⟨fun _ _ _ _ => none, fun sc L τ sts => match sts with
    | [] => none
    | st :: sts => match (chkS g fm ex s).s sc L τ st with
      | none => none
      | some none => some none
      | some (some τ1) => (chkS g fm ex t).b sc L τ1 sts⟩
  | .doc => .st fun _ _ τ st => match st with
    | .Expr (.Constant (.str _) _ _) _ => some (some τ)
    | _ => none
  | .pass => .st fun _ _ τ st => match st with
    | .Pass _ => some (some τ)
    | _ => none
  | .brk => .st fun _ L τ st => match st with
    | .Break _ => if subB L τ then some none else none
    | _ => none
  | .cont => .st fun _ L τ st => match st with
    | .Continue _ => if subB L τ then some none else none
    | _ => none
  | .set i e => .st fun sc _ τ st => match st with
    | .Assign [.Name x py] (.ListComp elt [⟨tg, it, ifs, 0⟩] scope p) pos =>
      if decide (g.N[i]? = some x) && locB sc x && decide (i ∉ g.sp) then
        if decide (sc.names.lookup x = some .local) && (py.line == p.line) then
          (if (scope.names.any fun (n, k) => n == x && (k == .local || k == .cell)) then none else
            match firstOf (fun τ1 => (chk g e).v sc τ1 .fresh (.ListComp elt [⟨tg, it, ifs, 0⟩] scope p) && subB ex τ1) [τ, minus τ (varsE e)] with
            | some τ1 => some (some (i :: minus τ1 [i]))
            | none => none)
        else if decide (sc.names.lookup x = some .cell) then
          (match firstOf (fun τ1 => (chk g e).v sc τ1 .fresh (.ListComp elt [⟨tg, it, ifs, 0⟩] scope p) && subB ex τ1) [τ, minus τ (varsE e)] with
          | some τ1 => some (some (i :: minus τ1 [i]))
          | none => none)
        else none
      else none
    | .Assign [.Name x _] e' _ =>
      if decide (g.N[i]? = some x) && locB sc x && decide (i ∉ g.sp) && notComp e' then
        (match setB g ex (chk g e) (varsE e) sc τ e' with
        | some (τ1, .fresh) => some (some (i :: minus τ1 [i]))
        | some (τ1, .frz) => some (some (minus τ1 [i]))
        | _ => none)
      else none
    | _ => none
  | .unpack is e => .st fun sc _ τ st => match st with
    | .Assign [.Tuple es k p] e' _ =>
      if g.cm && tgB g.N (locB sc) (.many is) (.Tuple es k p) && (is.all fun i => decide (i ∉ g.sp)) && notComp e' && !(tupB e') then
        (match pick τ (varsE e) fun τ1 => (chk g e).v sc τ1 .frz e' && subB ex τ1 with
        | some τ1 => some (some (minus τ1 is))
        | none => none)
      else none
    | _ => none
  | .par is es => .st fun sc _ τ st => match st with
    | .Assign [.Tuple ts k p] (.Tuple vs _ _) _ =>
      if g.cm && tgB g.N (locB sc) (.many is) (.Tuple ts k p) && (is.all fun i => decide (i ∉ g.sp)) && (sw2B sc ts vs || sw3B sc ts vs || (swNoB ts vs && decide (vs.length ≤ 1000))) then
        (match pick τ (varsE es) fun τ1 => (chk g es).a sc τ1 vs && subB ex τ1 with
        | some τ1 => some (some (minus τ1 is))
        | none => none)
      else none
    | _ => none
  | .setidx i k e => .st fun sc _ τ st => match st with
    | .Assign [.Subscript (.Name x _) k' _] e' _ =>
      if decide (g.N[i]? = some x) && visB sc x && okName x && decide (i ∉ g.sp) && notComp e' && plainIxB k' then
        (match pick τ (varsE e) fun τ1 => decide (i ∈ τ1) && (chk g e).v sc τ1 .frz e' && (chk g k).v sc τ1 .peek k' && subB ex τ1 with
        | some τ1 => some (some τ1)
        | none => none)
      else none
    | _ => none
  | .aug op i e => .st fun sc _ τ st => match st with
    | .AugAssign (.Name x _) bop e' _ =>
      if decide (g.N[i]? = some x) && locB sc x && decide (i ∉ g.sp) && augB op bop then
        (match pick τ (varsE e) fun τ1 => (chk g e).v sc τ1 .frz e' && subB ex τ1 with
        | some τ1 => some (some τ1)
        | none => none)
      else none
    | _ => none
  | .app i e => .st fun sc _ τ st => match st with
    | .Expr (.Call (.Attribute (.Name x _) f p2) [e'] [] p3) _ =>
      if decide (f = "append") && decide (g.N[i]? = some x) && visB sc x && okName x && decide (i ∉ g.sp) && nostarB e' && (p2.endLine == p3.line) then
        (match pick τ (varsE e) fun τ1 => decide (i ∈ τ1) && (chk g e).v sc τ1 .frz e' && subB ex τ1 with
        | some τ1 => some (some τ1)
        | none => none)
      else none
    | _ => none
  | .ext i e => .st fun sc _ τ st => match st with
    | .Expr (.Call (.Attribute (.Name x _) f p2) [e'] [] p3) _ =>
      if decide (f = "extend") && decide (g.N[i]? = some x) && visB sc x && okName x && decide (i ∉ g.sp) && nostarB e' && (p2.endLine == p3.line) then
        (match pick τ (varsE e) fun τ1 => decide (i ∈ τ1) && (chk g e).v sc τ1 .fresh e' && subB ex τ1 with
        | some τ1 => some (some τ1)
        | none => none)
      else none
    | _ => none
  | .ins i k e => .st fun sc _ τ st => match st with
    | .Expr (.Call (.Attribute (.Name x _) f p2) [k', e'] [] p3) _ =>
      if decide (f = "insert") && decide (g.N[i]? = some x) && visB sc x && okName x && decide (i ∉ g.sp) && nostarB k' && nostarB e' && (p2.endLine == p3.line) then
        (match pick τ (varsE e ++ varsE k) fun τ1 => decide (i ∈ τ1) && (chk g k).v sc τ1 .frz k' && (chk g e).v sc τ1 .frz e' && subB ex τ1 with
        | some τ1 => some (some τ1)
        | none => none)
      else none
    | _ => none
  | .expr e => .st fun sc _ τ st => match st with
    | .Expr e' _ => if notComp e' then
        (match pick τ (varsE e) fun τ1 => (chk g e).v sc τ1 .peek e' && subB ex τ1 with
        | some τ1 => some (some τ1)
        | none => none)
      else none
    | _ => none
  | .ite c a b => .st fun sc L τ st => match st with
    | .If c' a' b' _ => match pick τ (varsE c) fun τ1 => (chk g c).t sc τ1 c' && subB ex τ1 with
      | none => none
      | some τ1 => match (chkS g fm ex a).b sc L τ1 a', (chkS g fm ex b).b sc L τ1 b' with
        | some ra, some rb => some (join2 ra rb)
        | _, _ => none
    | _ => none
  | .while c b => .st fun sc _ τ st => match st with
    | .While c' b' [] _ => match firstOf (fun τ1 => (chk g c).t sc τ1 c' && subB ex τ1 && (match (chkS g fm ex b).b sc τ1 τ1 b' with
        | some none => true
        | some (some τ2) => subB τ1 τ2
        | none => false)) [τ, minus τ (varsE c), minus (inter τ (mutsS b)) (setsS b), []] with
      | some τ1 => some (some τ1)
      | none => none
    | _ => none
  | .for t it b => .st fun sc _ τ st => match st with
    | .For tg' it' b' [] _ =>
      if g.cm && tgB g.N (locB sc) t tg' && (t.slots.all fun i => decide (i ∉ g.sp)) then
        (match firstOf (fun τ1 => (chk g it).i sc τ1 tg' it' && subB ex τ1 && (t.slots.all fun i => decide (i ∉ τ1)) && (match (chkS g fm ex b).b sc τ1 τ1 b' with
          | some none => true
          | some (some τ2) => subB τ1 τ2
          | none => false)) [minus τ t.slots, minus (minus τ (varsE it)) t.slots, minus (minus (inter τ (mutsS b)) (setsS b)) t.slots, []] with
        | some τ1 => some (some τ1)
        | none => none)
      else none
    | _ => none
  | .ret e => .st fun sc _ τ st => match st with
    | .Return (some (.Name x p)) _ => (match e with
      | .var i => if decide (g.N[i]? = some x) && visB sc x && okName x && decide (i ∉ g.sp) && retB fm i τ then some none else none
      | e => match pick τ (varsE e) fun τ1 => (chk g e).v sc τ1 fm (.Name x p) && subB ex τ1 with
        | some _ => some none
        | none => none)
    | .Return (some e') _ => match pick τ (varsE e) fun τ1 => (chk g e).v sc τ1 fm e' && subB ex τ1 with
      | some _ => some none
      | none => none
    | .Return none _ => (match e with
      | .cst .none => some none
      | _ => none)
    | _ => none
  | .never => .st fun _ _ _ _ => some none
  | .try b hs => .st fun sc L τ st => match st with
    | .Try b' (h0 :: hds) [] [] _ =>
      if g.cm then
        (match (chkS g fm ex b).b sc L τ b', chkH g fm ex hs sc L (h0 :: hds) with
        | some r1, some r2 => some (join2 r1 r2)
        | _, _ => none)
      else none
    | _ => none
  | .raise c .nil => .st fun sc _ τ st => match st with
    | .Raise (some (.Call (.Name x _) [.Constant (.str _) _ _] [] _)) none _ => if g.cm && decide (g.exs[c]? = some (x, none)) && glB sc x && okName x && subB ex τ then some none else none
    | _ => none
  | .raiseX c f e => .st fun sc _ τ st => match st with
    | .Raise (some (.Call (.Name x _) [e'] [] _)) none _ => if g.cm && decide (g.exs[c]? = some (x, some f)) && glB sc x && okName x && nostarB e' then
        (match pick τ (varsE e) fun τ1 => (chk g e).v sc τ1 .frz e' && subB ex τ1 with
        | some _ => some none
        | none => none)
      else none
    | _ => none
  | _ => ⟨fun _ _ _ _ => none, fun _ _ _ _ => none⟩
/-- the clauses of a try -/
def chkH (g : G) (fm : Md) (ex : List Nat) : S → Scope → List Nat → List ExceptHandler → Ans
  | .nil => fun _ _ hds => if hds.isEmpty then some none else none
  | .hcons c i su more => fun sc L hds => match hds with
    | .ExceptHandler (some (.Name x _)) n (s0 :: su') _ :: hds' =>
      if decide ((g.exs[c]?).map Prod.fst = some x) && decide (c ∈ g.cts) && glB sc x && okName x && clB g sc i n then
        (match (chkS { g with cm := false } fm [] su).b sc L ex (s0 :: su'), chkH g fm ex more sc L hds' with
        | some r1, some r2 => some (join2 r1 r2)
        | _, _ => none)
      else none
    | _ => none
  | _ => fun _ _ _ => none
end
end Pyr

namespace Pyr
open PySem L2 PyProof.Rows
open R (ok exc stuck)

/-- what statements want of a context besides -/
structure GoodS (X : Cx) : Prop where
  fn : ∀ x, X.fn x = true
  pass : PassesOwn (model X.prog X.w) X.A X.env X.xe
  kind : X.env.scope.kind = .function
  stk : X.stack = X.env :: X.outer
  frm : X.env.frame = some X.env.locals
section
variable {g : G} {C : Nat → List D → R D} {xt : XTab} {k : Nat} {fm : Md} {ex : List Nat}
/-- the answer r is right -/
def Right (X : Cx) (z : Z) (W : WX) (fm : Md) (τ L ex : List Nat) (r : Option (List Nat)) (sem : Env → Out) (P : TS → Prop) : Prop :=
  (∀ nx, (∀ τ', r = some τ' → ∀ i ∈ nx, i ∈ τ') → P (SS X z W fm τ ⟨nx, L, L, ex⟩ sem)) ∧ (r = none → ∀ ρ, noNx (sem ρ))
structure SoundS (g : G) (C : Nat → List D → R D) (xt : XTab) (k : Nat) (fm : Md) (ex : List Nat) (w : S) : Prop where
  s : ∀ {X : Cx} {z : Z} {W : WX} {L τ : List Nat} {st : Stmt} {r : Option (List Nat)}, Good g C xt k X z W → GoodS X → (chkS g fm ex w).s X.env.scope L τ st = some r → Right X z W fm τ L ex r (exS C w) (PS X st)
  b : ∀ {X : Cx} {z : Z} {W : WX} {L τ : List Nat} {sts : List Stmt} {r : Option (List Nat)}, Good g C xt k X z W → GoodS X → (chkS g fm ex w).b X.env.scope L τ sts = some r → Right X z W fm τ L ex r (exS C w) (PSs X sts)
theorem SoundS.of {s : S} {f : Scope → List Nat → List Nat → Stmt → Ans} (hc : chkS g fm ex s = .st f) (h : ∀ {X : Cx} {z : Z} {W : WX} {L τ : List Nat} {st : Stmt} {r : Option (List Nat)}, Good g C xt k X z W → GoodS X → f X.env.scope L τ st = some r → Right X z W fm τ L ex r (exS C s) (PS X st)) : SoundS g C xt k fm ex s :=
  ⟨fun Gd Gs q => h Gd Gs (by rw [hc] at q; exact q), fun Gd Gs q => (by rw [hc] at q; exact absurd q (by intro z; cases z))⟩
theorem SoundS.none {s : S} (hc : chkS g fm ex s = ⟨fun _ _ _ _ => none, fun _ _ _ _ => none⟩) : SoundS g C xt k fm ex s :=
  ⟨fun Gd Gs q => (by rw [hc] at q; exact absurd q (by intro z; cases z)), fun Gd Gs q => (by rw [hc] at q; exact absurd q (by intro z; cases z))⟩
section
variable {X : Cx} {z : Z} {W : WX} {τ τ1 τ' L : List Nat} {st : Stmt} {sem : Env → Out}
/-- it falls through with τ' -/
theorem right_some (ht : ∀ i ∈ τ1, i ∈ τ) (h : PS X st (SS X z W fm τ1 ⟨τ', L, L, ex⟩ sem)) : Right X z W fm τ L ex (some τ') sem (PS X st) :=
  ⟨fun nx hn => s_weak h ht ⟨hn τ' rfl, fun _ h => h, fun _ h => h, fun _ h => h⟩, fun e => nomatch e⟩
/-- it doesn't fall through -/
theorem right_none (ht : ∀ i ∈ τ1, i ∈ τ) (h : ∀ nx, PS X st (SS X z W fm τ1 ⟨nx, L, L, ex⟩ sem)) (hn : ∀ ρ, noNx (sem ρ)) : Right X z W fm τ L ex none sem (PS X st) :=
  ⟨fun nx _ => s_weak (h nx) ht ⟨fun _ h => h, fun _ h => h, fun _ h => h, fun _ h => h⟩, fun _ => hn⟩
end
theorem minus_sub {τ is : List Nat} : ∀ i ∈ minus τ is, i ∈ τ := fun i h => (mem_minus.mp h).1
theorem pick_ok {τ vars : List Nat} {p : List Nat → Bool} {a : List Nat} (h : pick τ vars p = some a) : p a = true ∧ ∀ i ∈ a, i ∈ τ := by
  obtain ⟨h1, h2⟩ := firstOf_ok h
  refine ⟨h1, ?_⟩
  rcases List.mem_cons.mp h2 with rfl | h2
  · exact fun _ h => h
  · rcases List.mem_cons.mp h2 with rfl | h2
    · exact minus_sub
    · cases h2
theorem noNx_out {α : Type} {r : R α} {ρ : Env} {f : α → Out} (h : ∀ a, noNx (f a)) : noNx (r.out ρ f) := by
  cases r
  · exact h _
  · trivial
  · trivial

theorem ss_nilB : SoundS g C xt k fm ex .nil := by
  refine ⟨fun Gd Gs q => (nomatch q), fun {X z W L τ sts r} Gd Gs q => ?_⟩
  cases sts with
  | cons _ _ => exact nomatch q
  | nil =>
    cases q
    exact ⟨fun nx hn => ss_weak (τ' := τ) (o := ⟨τ, L, L, ex⟩) (ss_nil rfl) (fun _ h => h) ⟨hn τ rfl, fun _ h => h, fun _ h => h, fun _ h => h⟩, fun e => nomatch e⟩
theorem ss_consB {s t : S} (hs : SoundS g C xt k fm ex s) (ht : SoundS g C xt k fm ex t) : SoundS g C xt k fm ex (.cons s t) := by
  refine ⟨fun Gd Gs q => (nomatch q), fun {X z W L τ sts r} Gd Gs q => ?_⟩
  cases sts with
  | nil => exact nomatch q
  | cons st sts =>
    have q : (match (chkS g fm ex s).s X.env.scope L τ st with
      | .none => .none
      | some .none => some .none
      | some (some τ1) => (chkS g fm ex t).b X.env.scope L τ1 sts) = some r := q
    split at q
    · cases q
    · rename_i e
      cases q
      obtain ⟨h1, h2⟩ := hs.s Gd Gs e
      refine ⟨fun nx _ => ss_cons0 (h1 nx fun τ' z => nomatch z) (h2 rfl), fun _ ρ => ?_⟩
      show noNx ((exS C s ρ).seq _)
      have := h2 rfl ρ
      cases e2 : exS C s ρ <;> first | (rw [e2] at this; exact this.elim) | trivial
    · rename_i τ1 e
      obtain ⟨h1, h2⟩ := hs.s Gd Gs e
      obtain ⟨h3, h4⟩ := ht.b Gd Gs q
      refine ⟨fun nx hn => ss_cons (h1 τ1 fun τ' z i hi => by cases z; exact hi) (h3 nx hn), fun e ρ => ?_⟩
      show noNx ((exS C s ρ).seq fun ρ' => exS C t ρ')
      cases e2 : exS C s ρ <;> first | exact h4 e _ | trivial
theorem ss_doc : SoundS g C xt k fm ex .doc := by
  refine .of rfl fun {X z W L τ st r} Gd Gs q => ?_
  try dsimp only at q
  split at q <;> first | (cases q; done) | skip
  cases q
  exact right_some (fun _ h => h) (s_next ps_doc rfl)
theorem ss_pass : SoundS g C xt k fm ex .pass := by
  refine .of rfl fun {X z W L τ st r} Gd Gs q => ?_
  try dsimp only at q
  split at q <;> first | (cases q; done) | skip
  cases q
  exact right_some (fun _ h => h) (s_next ps_pass rfl)
theorem ss_brk : SoundS g C xt k fm ex .brk := by
  refine .of rfl fun {X z W L τ st r} Gd Gs q => ?_
  try dsimp only at q
  split at q <;> first | (cases q; done) | skip
  split at q <;> first | (cases q; done) | skip
  rename_i h
  cases q
  exact right_none (τ1 := L) (subB_ok h) (fun nx => s_brk rfl) fun ρ => trivial
theorem ss_cont : SoundS g C xt k fm ex .cont := by
  refine .of rfl fun {X z W L τ st r} Gd Gs q => ?_
  try dsimp only at q
  split at q <;> first | (cases q; done) | skip
  split at q <;> first | (cases q; done) | skip
  rename_i h
  cases q
  exact right_none (τ1 := L) (subB_ok h) (fun nx => s_cont rfl) fun ρ => trivial
theorem comp_inv {t : Tg} {it cond elt : E} {sc scope : Scope} {τ : List Nat} {m : Md} {elt' tg' it' : Expr} {ifs : List Expr} {p : Pos} (h : (chk g (.comp t it cond elt)).v sc τ m (.ListComp elt' [⟨tg', it', ifs, 0⟩] scope p) = true) :
    g.cm = true ∧ blkC g.N sc scope (ownOf t tg') = true ∧ tgB g.N (locB scope) t tg' = true ∧ (t.slots.all fun i => decide (i ∉ g.sp)) = true ∧ (chk g it).i sc τ tg' it' = true ∧
      ((ifs = [] ∧ cond = .nil) ∨ ∃ c', ifs = [c'] ∧ (chk g cond).t (relS scope sc) (minus τ t.slots) c' = true) ∧ (chk g elt).v (relS scope sc) (minus τ t.slots) .frz elt' = true := by
  cases ifs with
  | nil =>
    have h : (g.cm && blkC g.N sc scope (ownOf t tg') && tgB g.N (locB scope) t tg' && (t.slots.all fun i => decide (i ∉ g.sp)) && (chk g it).i sc τ tg' it' && nilB cond && (chk g elt).v (relS scope sc) (minus τ t.slots) .frz elt') = true := h
    simp only [Bool.and_eq_true] at h
    obtain ⟨⟨⟨⟨⟨⟨q1, q2⟩, q3⟩, q4⟩, q5⟩, q6⟩, q7⟩ := h
    refine ⟨q1, q2, q3, q4, q5, .inl ⟨rfl, ?_⟩, q7⟩
    cases cond <;> first | rfl | exact absurd q6 Bool.false_ne_true
  | cons c' r =>
    cases r with
    | nil =>
      have h : (g.cm && blkC g.N sc scope (ownOf t tg') && tgB g.N (locB scope) t tg' && (t.slots.all fun i => decide (i ∉ g.sp)) && (chk g it).i sc τ tg' it' && (chk g cond).t (relS scope sc) (minus τ t.slots) c' && (chk g elt).v (relS scope sc) (minus τ t.slots) .frz elt') = true := h
      simp only [Bool.and_eq_true] at h
      obtain ⟨⟨⟨⟨⟨⟨q1, q2⟩, q3⟩, q4⟩, q5⟩, q6⟩, q7⟩ := h
      exact ⟨q1, q2, q3, q4, q5, .inr ⟨c', rfl, q6⟩, q7⟩
    | cons _ _ =>
      have h : (g.cm && blkC g.N sc scope (ownOf t tg') && tgB g.N (locB scope) t tg' && (t.slots.all fun i => decide (i ∉ g.sp)) && (chk g it).i sc τ tg' it' && false && (chk g elt).v (relS scope sc) (minus τ t.slots) .frz elt') = true := h
      rw [Bool.and_false, Bool.false_and] at h
      exact absurd h Bool.false_ne_true
theorem setB_ok {ck : Chk} {vars τ : List Nat} {sc : Scope} {e : Expr} {p : List Nat × Md} (h : setB g ex ck vars sc τ e = some p) : ck.v sc p.1 p.2 e = true ∧ (∀ i ∈ ex, i ∈ p.1) ∧ ∀ i ∈ p.1, i ∈ τ := by
  obtain ⟨h1, h2⟩ := firstOf_ok h
  obtain ⟨h3, h4⟩ := Bool.and_eq_true_iff.mp h1
  refine ⟨h3, subB_ok h4, ?_⟩
  simp only [List.mem_cons, List.not_mem_nil, or_false] at h2
  rcases h2 with rfl | rfl | rfl | rfl
  · exact fun _ h => h
  · exact fun _ h => h
  · exact minus_sub
  · exact minus_sub
theorem sw_cell {elt : Expr} {gs : List Comprehension} {scope : Scope} {pos py : Pos} {y : Str} {l : Nat} {env : PySem.Env} (hy : env.scope.names.lookup y = some .cell) : swapsWith (.ListComp elt gs scope pos) (some (.Name y py)) l env = pure false := by
  have ky : env.kindOf y = some .cell := hy
  unfold swapsWith
  simp only [ky]
  have : (some NameKind.cell == some NameKind.local) = false := by decide
  rw [this, Bool.and_false, Bool.false_and, Bool.false_and]
theorem ss_set {i : Nat} {e : E} : SoundS g C xt k fm ex (.set i e) := by
  refine .of rfl fun {X z W L τ st r} Gd Gs q => ?_
  try dsimp only at q
  have so := sound (g := g) (C := C) (xt := xt) (k := k) e
  have nd : X.N.Nodup := by rw [Gd.N]; exact Gd.nd
  split at q
  · rename_i x py elt tg it ifs scope p pos
    split at q <;> first | (cases q; done) | skip
    rename_i c
    simp only [Bool.and_eq_true, decide_eq_true_eq] at c
    obtain ⟨⟨c1, c2⟩, c3⟩ := c
    have hN : X.N[i]? = some x := by rw [Gd.N]; exact c1
    have hsp : i ∉ z.sp := by rw [Gd.zsp]; exact c3
    split at q
    · rename_i d
      simp only [Bool.and_eq_true, decide_eq_true_eq] at d
      split at q <;> first | (cases q; done) | skip
      rename_i ha
      have ha : (scope.names.any fun (n, k) => n == x && (k == .local || k == .cell)) = false := by
        cases h : (scope.names.any fun (n, k) => n == x && (k == .local || k == .cell)) with
        | true => exact absurd h ha
        | false => rfl
      split at q <;> first | (cases q; done) | skip
      rename_i τ1 hτ
      cases q
      obtain ⟨h1, h2⟩ := firstOf_ok hτ
      obtain ⟨h3, h4⟩ := Bool.and_eq_true_iff.mp h1
      have hsub : ∀ i ∈ τ1, i ∈ τ := by
        rcases List.mem_cons.mp h2 with rfl | h2
        · exact fun _ h => h
        · rcases List.mem_cons.mp h2 with rfl | h2
          · exact minus_sub
          · cases h2
      refine right_some hsub ?_
      -- the comprehension: as the checker sees it
      cases e <;> first | exact absurd h3 Bool.false_ne_true | skip
      rename_i t it' cond elt'
      obtain ⟨q1, q2, q3, q4, q5, q6, q7⟩ := comp_inv h3
      obtain ⟨pi, fo⟩ := (sound (g := g) (C := C) (xt := xt) (k := k) it').i Gd q5
      have hsp2 : ∀ i ∈ t.slots, i ∉ z.sp := fun i h => by
        rw [Gd.zsp]
        exact of_decide_eq_true (List.all_eq_true.mp q4 i h)
      have tgs : ∀ (s : Shared) (H : Hp) (C : Addr) (cl : List (Str × Addr)) (fp : List Addr), PG (X.blk s H scope (compEnvC scope cl C X.env) fp) tg (gTg X.K t) := fun s H C cl fp => by
        refine pg_of (X := X.blk s H scope (compEnvC scope cl C X.env) fp) nd (Gd.cm q1) ?_
        refine tgB_ok (chkN := locB scope) (fun x hx => ?_) (by show tgB X.N (locB scope) t tg = true; rw [Gd.N]; exact q3)
        show Loc (relS scope X.env.scope) x ∧ ((scope.names.lookup x == some .cell) = true ∨ (relS scope X.env.scope).names.lookup x = some .local)
        rcases locB_ok hx with h | h
        · have := lookup_relS_keep (sc := X.env.scope) (k := .local) (by intro z; cases z) h
          exact ⟨.inl this, .inr this⟩
        · have := lookup_relS_keep (sc := X.env.scope) (k := .cell) (by intro z; cases z) h
          exact ⟨.inr this, .inl (by rw [h]; rfl)⟩
      have els : ∀ (s : Shared) (H : Hp) (C' : Addr) (cl : List (Str × Addr)) (fp : List Addr), PE (X.blk s H scope (compEnvC scope cl C' X.env) fp) elt (tE X.K X.mg z W0 (minus τ1 t.slots) .frz fun ρ => evE C elt' ρ) := fun s H C' cl fp =>
        (sound elt').v (X := X.blk s H scope (compEnvC scope cl C' X.env) fp) (Gd.blk q1 s H scope _ fp) q7
      have swap : swapsWith (.ListComp elt [⟨tg, it, ifs, 0⟩] scope p) (some (.Name x py)) pos.line X.env = pure true := by
        exact sw_true Gs.kind d.1 d.2 ha
      rcases q6 with ⟨rfl, rfl⟩ | ⟨c', rfl, q6⟩
      · exact s_setLc (tt := tYes) (subB_ok h4) (Gd.cm q1) nd hN d.1 swap pi (by rw [Gd.N]; exact blkOk_by q2) (ownOf_slots q3) hsp2 tgs (fun _ _ _ _ _ => pts_nil) (fun σ H Q h => by
          obtain ⟨F, ρ, env, w⟩ := h
          exact w F H (.refl env.ext.sub)) els fo hsp rfl
      · exact s_setLc (subB_ok h4) (Gd.cm q1) nd hN d.1 swap pi (by rw [Gd.N]; exact blkOk_by q2) (ownOf_slots q3) hsp2 tgs
          (fun s H C' cl fp => pts_one ((sound cond).t (X := X.blk s H scope (compEnvC scope cl C' X.env) fp) (Gd.blk q1 s H scope _ fp) q6)) (fun _ _ _ h => h) els fo hsp rfl
    · split at q <;> first | (cases q; done) | skip
      rename_i d
      simp only [decide_eq_true_eq] at d
      split at q <;> first | (cases q; done) | skip
      rename_i τ1 hτ
      cases q
      obtain ⟨h1, h2⟩ := firstOf_ok hτ
      obtain ⟨h3, h4⟩ := Bool.and_eq_true_iff.mp h1
      have hsub : ∀ i ∈ τ1, i ∈ τ := by
        rcases List.mem_cons.mp h2 with rfl | h2
        · exact fun _ h => h
        · rcases List.mem_cons.mp h2 with rfl | h2
          · exact minus_sub
          · cases h2
      exact right_some hsub (s_set (subB_ok h4) nd hN (locB_ok c2) (.inl (Gs.fn x)) (so.v Gd h3) (sw_cell d) hsp (.inr ⟨rfl, rfl⟩))
  · rename_i x py e' pos hne
    split at q <;> first | (cases q; done) | skip
    rename_i c
    simp only [Bool.and_eq_true, decide_eq_true_eq] at c
    obtain ⟨⟨⟨c1, c2⟩, c3⟩, c4⟩ := c
    have hN : X.N[i]? = some x := by rw [Gd.N]; exact c1
    have hsp : i ∉ z.sp := by rw [Gd.zsp]; exact c3
    split at q <;> first | (cases q; done) | skip
    · rename_i τ1 hτ
      cases q
      obtain ⟨h1, h2, h3⟩ := setB_ok hτ
      exact right_some h3 (s_set h2 nd hN (locB_ok c2) (.inl (Gs.fn x)) (so.v Gd h1) (notComp_ok c4 _ _ _) hsp (.inr ⟨rfl, rfl⟩))
    · rename_i τ1 hτ
      cases q
      obtain ⟨h1, h2, h3⟩ := setB_ok hτ
      exact right_some h3 (s_set h2 nd hN (locB_ok c2) (.inl (Gs.fn x)) (so.v Gd h1) (notComp_ok c4 _ _ _) hsp (.inl ⟨rfl, rfl⟩))
  · exact nomatch q
theorem notTup_sw {ts : List Expr} {e : Expr} {k : Nat} {p : Pos} {env : PySem.Env} (h : (!(tupB e)) = true) : swappedStores [.Tuple ts k p] e env = pure none := by
  cases e <;> first | exact absurd h Bool.false_ne_true | rfl
theorem sole_ok {e t : Expr} {l : Nat} {env : PySem.Env} (h : notComp e = true) : swapsWithSole [t] e l env = pure false := by
  unfold swapsWithSole
  exact notComp_ok h _ _ _
theorem ss_unpack {is : List Nat} {e : E} : SoundS g C xt k fm ex (.unpack is e) := by
  refine .of rfl fun {X z W L τ st r} Gd Gs q => ?_
  try dsimp only at q
  split at q <;> first | (cases q; done) | skip
  rename_i es k p e' pos
  split at q <;> first | (cases q; done) | skip
  rename_i c
  simp only [Bool.and_eq_true] at c
  obtain ⟨⟨⟨⟨c1, c2⟩, c3⟩, c4⟩, c5⟩ := c
  split at q <;> first | (cases q; done) | skip
  rename_i τ1 hτ
  cases q
  obtain ⟨h1, h2⟩ := pick_ok hτ
  obtain ⟨h3, h4⟩ := Bool.and_eq_true_iff.mp h1
  have nd : X.N.Nodup := by rw [Gd.N]; exact Gd.nd
  have hg : PG X (.Tuple es k p) (gTg X.K (.many is)) := pg_of nd (Gd.cm c1) (tgB_ok (chkN := locB X.env.scope) (fun x hx => ⟨locB_ok hx, .inl (Gs.fn x)⟩) (by rw [Gd.N]; exact c2))
  refine right_some h2 (s_unpack (t := .many is) (subB_ok h4) ((sound e).v Gd h3) hg (sole_ok c4) (notTup_sw c5) rfl (fun i hi => ?_) rfl)
  rw [Gd.zsp]
  exact of_decide_eq_true (List.all_eq_true.mp c3 i hi)
theorem kind_blk {env : PySem.Env} (h : env.scope.kind = .function) : env.blockKind = .function := by unfold Env.blockKind; rw [h]; rfl
theorem sw2_ok {env : PySem.Env} (hk : env.scope.kind = .function) {x y : Str} {px py pt pt2 : Pos} {a b : Expr} {kt k2 : Nat} (h : sw2B env.scope [.Name x px, .Name y py] [a, b] = true) :
    swappedStores [.Tuple [.Name x px, .Name y py] kt pt] (.Tuple [a, b] k2 pt2) env = pure (some [x, y]) ∧ env.scope.names.lookup x = some .local ∧ env.scope.names.lookup y = some .local ∧ x ≠ y := by
  have h : (decide (env.scope.names.lookup x = some .local) && decide (env.scope.names.lookup y = some .local) && (py.line == px.line) && decide (x ≠ y) && nostarB a && nostarB b && !(foldedForSure 8 a && foldedForSure 8 b) && !(constantsAlone 8 a && constantsAlone 8 b)) = true := h
  simp only [Bool.and_eq_true, decide_eq_true_eq] at h
  obtain ⟨⟨⟨⟨⟨⟨⟨h1, h2⟩, h3⟩, h4⟩, h5⟩, h6⟩, h7⟩, h8⟩ := h
  refine ⟨?_, h1, h2, h4⟩
  have k1 : env.kindOf x = some .local := h1
  have k2 : env.kindOf y = some .local := h2
  have st : ([a, b].any fun | .Starred .. => true | _ => false) = false := by
    cases a <;> first | exact absurd h5 Bool.false_ne_true | (cases b <;> first | exact absurd h6 Bool.false_ne_true | rfl)
  have f7 : [a, b].all (foldedForSure 8) = false := by
    simp only [List.all_cons, List.all_nil, Bool.and_true]
    cases hq : (foldedForSure 8 a && foldedForSure 8 b) with
    | true => rw [hq] at h7; exact absurd h7 (by decide)
    | false => rfl
  have f8 : [a, b].all (constantsAlone 8) = false := by
    simp only [List.all_cons, List.all_nil, Bool.and_true]
    cases hq : (constantsAlone 8 a && constantsAlone 8 b) with
    | true => rw [hq] at h8; exact absurd h8 (by decide)
    | false => rfl
  have hline : (py.line == px.line) = true := h3
  have nxy : (y == x) = false := by
    cases hq : (y == x) with
    | true => exact absurd (eq_of_beq hq).symm h4
    | false => rfl
  have nxy2 : (x == y) = false := by
    cases hq : (x == y) with
    | true => exact absurd (eq_of_beq hq) h4
    | false => rfl
  have nl : ([Expr.Name x px, Expr.Name y py].filterMap fun
    | .Name id pos => if env.kindOf id == some .local && pos.line == px.line then some id else none
    | _ => none) = [x, y] := by
    have e1 : (env.kindOf x == some NameKind.local && px.line == px.line) = true := by rw [k1]; simp
    have e2 : (env.kindOf y == some NameKind.local && py.line == px.line) = true := by rw [k2, hline]; rfl
    simp only [List.filterMap_cons, List.filterMap_nil, e1, e2, if_true]
  have ed : [x, y].eraseDups = [x, y] := by
    simp [List.eraseDups, List.eraseDupsBy, List.eraseDupsBy.loop, nxy, nxy2]
  have c3 : ((([Expr.Name x px, Expr.Name y py].filterMap fun
    | .Name id pos => if env.kindOf id == some .local && pos.line == px.line then some id else none
    | _ => none)).length != [Expr.Name x px, Expr.Name y py].length || (([Expr.Name x px, Expr.Name y py].filterMap fun
    | .Name id pos => if env.kindOf id == some .local && pos.line == px.line then some id else none
    | _ => none)).eraseDups.length != (([Expr.Name x px, Expr.Name y py].filterMap fun
    | .Name id pos => if env.kindOf id == some .local && pos.line == px.line then some id else none
    | _ => none)).length) = false := by
    rw [nl, ed]; rfl
  unfold swappedStores
  simp only [List.head?_cons, Option.map_some, Option.getD_some, Expr.pos, f7, f8, kind_blk hk]
  refine (if_neg fun h => Bool.false_ne_true h).trans ((if_neg fun h => Bool.false_ne_true (st.symm.trans h)).trans ((if_neg fun h => Bool.false_ne_true (c3.symm.trans h)).trans ((if_neg Bool.false_ne_true).trans ((if_neg Bool.false_ne_true).trans ?_))))
  exact congrArg (fun l => pure (some l)) nl
end
end Pyr

namespace Pyr
open PySem L2 PyProof.Rows
open R (ok exc stuck)
section
variable {g : G} {C : Nat → List D → R D} {xt : XTab} {k : Nat} {fm : Md} {ex : List Nat}
theorem any_noStar : ∀ {l : List Expr}, l.all nostarB = true → (l.any fun | .Starred .. => true | _ => false) = false
  | [], _ => rfl
  | e :: l, h => by
    obtain ⟨h1, h2⟩ := Bool.and_eq_true_iff.mp (show (nostarB e && l.all nostarB) = true from h)
    rw [List.any_cons, any_noStar h2, Bool.or_false]
    cases e <;> first | exact absurd h1 Bool.false_ne_true | rfl
theorem sw3_ok {env : PySem.Env} (hk : env.scope.kind = .function) {x y u : Str} {px py pu pt pt2 : Pos} {a b c : Expr} {kt k2 : Nat} (h : sw3B env.scope [.Name x px, .Name y py, .Name u pu] [a, b, c] = true) :
    swappedStores [.Tuple [.Name x px, .Name y py, .Name u pu] kt pt] (.Tuple [a, b, c] k2 pt2) env = pure (some [x, y, u]) ∧ env.scope.names.lookup x = some .local ∧ env.scope.names.lookup y = some .local ∧ env.scope.names.lookup u = some .local ∧ x ≠ y ∧ x ≠ u ∧ y ≠ u := by
  have h : (decide (env.scope.names.lookup x = some .local) && decide (env.scope.names.lookup y = some .local) && decide (env.scope.names.lookup u = some .local) && (py.line == px.line) && (pu.line == px.line) && decide (x ≠ y) && decide (x ≠ u) && decide (y ≠ u) &&
      nostarB a && nostarB b && nostarB c && !(foldedForSure 8 a && foldedForSure 8 b && foldedForSure 8 c) && !(constantsAlone 8 a && constantsAlone 8 b && constantsAlone 8 c)) = true := h
  simp only [Bool.and_eq_true, decide_eq_true_eq] at h
  obtain ⟨⟨⟨⟨⟨⟨⟨⟨⟨⟨⟨⟨h1, h2⟩, h0⟩, h3⟩, h3'⟩, h4⟩, h4'⟩, h4''⟩, h5⟩, h6⟩, h6'⟩, h7⟩, h8⟩ := h
  refine ⟨?_, h1, h2, h0, h4, h4', h4''⟩
  have k1 : env.kindOf x = some .local := h1
  have k2 : env.kindOf y = some .local := h2
  have k3 : env.kindOf u = some .local := h0
  have st : ([a, b, c].any fun | .Starred .. => true | _ => false) = false := by
    exact any_noStar (by show (nostarB a && (nostarB b && (nostarB c && true))) = true; rw [h5, h6, h6']; rfl)
  have f7 : [a, b, c].all (foldedForSure 8) = false := by
    simp only [List.all_cons, List.all_nil, Bool.and_true, ← Bool.and_assoc]
    cases hq : (foldedForSure 8 a && foldedForSure 8 b && foldedForSure 8 c) with
    | true => rw [hq] at h7; exact absurd h7 (by decide)
    | false => rfl
  have f8 : [a, b, c].all (constantsAlone 8) = false := by
    simp only [List.all_cons, List.all_nil, Bool.and_true, ← Bool.and_assoc]
    cases hq : (constantsAlone 8 a && constantsAlone 8 b && constantsAlone 8 c) with
    | true => rw [hq] at h8; exact absurd h8 (by decide)
    | false => rfl
  have ne : ∀ {p q : Str}, p ≠ q → (p == q) = false := fun {p q} n => by
    cases hq : (p == q) with
    | true => exact absurd (eq_of_beq hq) n
    | false => rfl
  have n1 := ne h4; have n2 := ne h4'; have n3 := ne h4''
  have n1' := ne h4.symm; have n2' := ne h4'.symm; have n3' := ne h4''.symm
  have nl : ([Expr.Name x px, Expr.Name y py, Expr.Name u pu].filterMap fun
    | .Name id pos => if env.kindOf id == some .local && pos.line == px.line then some id else none
    | _ => none) = [x, y, u] := by
    have e1 : (env.kindOf x == some NameKind.local && px.line == px.line) = true := by rw [k1]; simp
    have e2 : (env.kindOf y == some NameKind.local && py.line == px.line) = true := by rw [k2, h3]; rfl
    have e3 : (env.kindOf u == some NameKind.local && pu.line == px.line) = true := by rw [k3, h3']; rfl
    simp only [List.filterMap_cons, List.filterMap_nil, e1, e2, e3, if_true]
  have ed : [x, y, u].eraseDups = [x, y, u] := by
    simp [List.eraseDups, List.eraseDupsBy, List.eraseDupsBy.loop, n1, n2, n3, n1', n2', n3']
  have c3 : ((([Expr.Name x px, Expr.Name y py, Expr.Name u pu].filterMap fun
    | .Name id pos => if env.kindOf id == some .local && pos.line == px.line then some id else none
    | _ => none)).length != [Expr.Name x px, Expr.Name y py, Expr.Name u pu].length || (([Expr.Name x px, Expr.Name y py, Expr.Name u pu].filterMap fun
    | .Name id pos => if env.kindOf id == some .local && pos.line == px.line then some id else none
    | _ => none)).eraseDups.length != (([Expr.Name x px, Expr.Name y py, Expr.Name u pu].filterMap fun
    | .Name id pos => if env.kindOf id == some .local && pos.line == px.line then some id else none
    | _ => none)).length) = false := by
    rw [nl, ed]; rfl
  unfold swappedStores
  simp only [List.head?_cons, Option.map_some, Option.getD_some, Expr.pos, f7, f8, kind_blk hk]
  refine (if_neg fun h => Bool.false_ne_true h).trans ((if_neg fun h => Bool.false_ne_true (st.symm.trans h)).trans ((if_neg fun h => Bool.false_ne_true (c3.symm.trans h)).trans ((if_neg Bool.false_ne_true).trans ((if_neg Bool.false_ne_true).trans ?_))))
  exact congrArg (fun l => pure (some l)) nl
theorem swNo_ok {env : PySem.Env} {ts vs : List Expr} {kt k2 : Nat} {pt pt2 : Pos} (h : vs.all (foldedForSure 8) = true) : swappedStores [.Tuple ts kt pt] (.Tuple vs k2 pt2) env = pure none := by
  unfold swappedStores
  simp only [h]
  split
  · rfl
  · split
    · rfl
    · split
      · rfl
      · rfl
theorem ss_par {is : List Nat} {es : E} : SoundS g C xt k fm ex (.par is es) := by
  refine .of rfl fun {X z W L τ st r} Gd Gs q => ?_
  try dsimp only at q
  split at q <;> first | (cases q; done) | skip
  rename_i ts kk p vs k2 p2 pos
  split at q <;> first | (cases q; done) | skip
  rename_i c
  simp only [Bool.and_eq_true] at c
  obtain ⟨⟨⟨c1, c2⟩, c3⟩, c4⟩ := c
  split at q <;> first | (cases q; done) | skip
  rename_i τ1 hτ
  cases q
  obtain ⟨h1, h2⟩ := pick_ok hτ
  obtain ⟨h3, h4⟩ := Bool.and_eq_true_iff.mp h1
  have nd : X.N.Nodup := by rw [Gd.N]; exact Gd.nd
  have hsp : ∀ i ∈ is, i ∉ z.sp := fun i hi => by
    rw [Gd.zsp]
    exact of_decide_eq_true (List.all_eq_true.mp c3 i hi)
  obtain ⟨a1, a2, a3⟩ := (sound (g := g) (C := C) (xt := xt) (k := k) es).a Gd h3
  have hN : namesB X.N (locB X.env.scope) is ts = true := by rw [Gd.N]; exact c2
  rcases Bool.or_eq_true_iff.mp c4 with c4 | c4
  · rcases Bool.or_eq_true_iff.mp c4 with c4 | c4
    · -- two
      unfold sw2B at c4
      split at c4 <;> first | exact absurd c4 Bool.false_ne_true | skip
      rename_i x px y py a b _ _
      obtain ⟨w1, w2, w3, w4⟩ := sw2_ok (kt := kk) (pt := p) (k2 := k2) (pt2 := p2) Gs.kind (show sw2B X.env.scope [.Name x px, .Name y py] [a, b] = true from c4)
      match is, hN, hsp, a1 with
      | [i, j], hN, hsp, a1 =>
        obtain ⟨q1, q2⟩ := Bool.and_eq_true_iff.mp hN
        obtain ⟨q1, _⟩ := Bool.and_eq_true_iff.mp q1
        obtain ⟨q2, _⟩ := Bool.and_eq_true_iff.mp q2
        obtain ⟨q2, _⟩ := Bool.and_eq_true_iff.mp q2
        have e1 : X.N[i]? = some x := of_decide_eq_true q1
        have e2 : X.N[j]? = some y := of_decide_eq_true q2
        have hij : i ≠ j := fun z => by subst z; rw [e1] at e2; cases e2; exact w4 rfl
        exact right_some h2 (s_par2 (subB_ok h4) (Gd.cm c1) nd e1 e2 hij w2 w3 a1 w1 hsp rfl)
      | [], hN, _, _ => exact absurd hN Bool.false_ne_true
      | [_], hN, _, _ => exact absurd hN (by simp [namesB])
      | _ :: _ :: _ :: _, hN, _, _ => exact absurd hN (by simp [namesB])
    · unfold sw3B at c4
      split at c4 <;> first | exact absurd c4 Bool.false_ne_true | skip
      rename_i x px y py u pu a b d _ _
      obtain ⟨w1, w2, w3, w4, w5, w6, w7⟩ := sw3_ok (kt := kk) (pt := p) (k2 := k2) (pt2 := p2) Gs.kind (show sw3B X.env.scope [.Name x px, .Name y py, .Name u pu] [a, b, d] = true from c4)
      match is, hN, hsp, a1 with
      | [i, j, l], hN, hsp, a1 =>
        obtain ⟨q1, q2⟩ := Bool.and_eq_true_iff.mp hN
        obtain ⟨q1, _⟩ := Bool.and_eq_true_iff.mp q1
        obtain ⟨q2, q3⟩ := Bool.and_eq_true_iff.mp q2
        obtain ⟨q2, _⟩ := Bool.and_eq_true_iff.mp q2
        obtain ⟨q3, _⟩ := Bool.and_eq_true_iff.mp q3
        obtain ⟨q3, _⟩ := Bool.and_eq_true_iff.mp q3
        have e1 : X.N[i]? = some x := of_decide_eq_true q1
        have e2 : X.N[j]? = some y := of_decide_eq_true q2
        have e3 : X.N[l]? = some u := of_decide_eq_true q3
        have hij : i ≠ j := fun z => by subst z; rw [e1] at e2; cases e2; exact w5 rfl
        have hil : i ≠ l := fun z => by subst z; rw [e1] at e3; cases e3; exact w6 rfl
        have hjl : j ≠ l := fun z => by subst z; rw [e2] at e3; cases e3; exact w7 rfl
        exact right_some h2 (s_par3 (subB_ok h4) (Gd.cm c1) nd e1 e2 e3 hij hil hjl w2 w3 w4 a1 w1 hsp rfl)
      | [], hN, _, _ => exact absurd hN Bool.false_ne_true
      | [_], hN, _, _ => exact absurd hN (by simp [namesB])
      | [_, _], hN, _, _ => exact absurd hN (by simp [namesB])
      | _ :: _ :: _ :: _ :: _, hN, _, _ => exact absurd hN (by simp [namesB])
  · -- constants
    obtain ⟨c4, c5⟩ := Bool.and_eq_true_iff.mp c4
    unfold swNoB at c4
    obtain ⟨c4, c6⟩ := Bool.and_eq_true_iff.mp c4
    have hg : PG X (.Tuple ts kk p) (gTg X.K (.many is)) := pg_of nd (Gd.cm c1) (tgB_ok (chkN := locB X.env.scope) (fun x hx => ⟨locB_ok hx, .inl (Gs.fn x)⟩) (by rw [Gd.N]; exact c2))
    have ht : PE X (.Tuple vs k2 p2) (tE X.K X.mg z W τ1 .frz fun ρ => (evEs C es ρ).bind fun ds => ok (.tuple ds)) := s_tup a1 fun ρ ds e => by rw [a3 ρ ds e]; exact le_line (of_decide_eq_true c5)
    have main := s_unpack (fm := fm) (o := ⟨minus τ1 is, L, L, ex⟩) (pos := pos) (t := .many is) (subB_ok h4) ht hg (by unfold swapsWithSole; rfl) (swNo_ok c4) rfl hsp rfl
    refine right_some h2 (PS.imp main fun D σ H w => ?_)
    obtain ⟨F, ρ, env, w⟩ := w
    refine ⟨F, ρ, env, ?_⟩
    have w : PostS X.K X.mg z W fm _ D F ((evEs C es ρ).out ρ fun ds => setO (setAll is ds ρ)) := w
    show PostS X.K X.mg z W fm _ D F (((evEs C es ρ).bind fun ds => ok (.tuple ds)).out ρ fun d => setO (setTg (.many is) d ρ))
    cases e : evEs C es ρ <;> rw [e] at w <;> exact w
theorem ss_setidx {i : Nat} {kk e : E} : SoundS g C xt k fm ex (.setidx i kk e) := by
  refine .of rfl fun {X z W L τ st r} Gd Gs q => ?_
  try dsimp only at q
  split at q <;> first | (cases q; done) | skip
  rename_i x px k' p e' pos
  split at q <;> first | (cases q; done) | skip
  rename_i c
  simp only [Bool.and_eq_true, decide_eq_true_eq] at c
  obtain ⟨⟨⟨⟨⟨c1, c2⟩, c3⟩, c4⟩, c5⟩, c6⟩ := c
  split at q <;> first | (cases q; done) | skip
  rename_i τ1 hτ
  cases q
  obtain ⟨h1, h2⟩ := pick_ok hτ
  simp only [Bool.and_eq_true, decide_eq_true_eq] at h1
  obtain ⟨⟨⟨h3, h4⟩, h5⟩, h6⟩ := h1
  obtain ⟨n1, n2⟩ := okName_ok c3
  refine right_some h2 (s_setidx (subB_ok h6) (by rw [Gd.N]; exact c1) (visB_ok c2) n1 n2 (by rw [Gd.zsp]; exact c4) h3 ((sound e).v Gd h4) ((sound kk).v Gd h5) rfl (fun v => ?_) (sole_ok c5) (by cases e' <;> rfl))
  cases k' <;> first | exact absurd c6 Bool.false_ne_true | rfl
theorem ss_aug {op : Op2} {i : Nat} {e : E} : SoundS g C xt k fm ex (.aug op i e) := by
  refine .of rfl fun {X z W L τ st r} Gd Gs q => ?_
  try dsimp only at q
  split at q <;> first | (cases q; done) | skip
  rename_i x px bop e' pos
  split at q <;> first | (cases q; done) | skip
  rename_i c
  simp only [Bool.and_eq_true, decide_eq_true_eq] at c
  obtain ⟨⟨⟨c1, c2⟩, c3⟩, c4⟩ := c
  split at q <;> first | (cases q; done) | skip
  rename_i τ1 hτ
  cases q
  obtain ⟨h1, h2⟩ := pick_ok hτ
  simp only [Bool.and_eq_true, decide_eq_true_eq] at h1
  have hop : (op = .add ∧ bop = .Add) ∨ (op = .sub ∧ bop = .Sub) := by
    cases op <;> cases bop <;> first | exact absurd c4 Bool.false_ne_true | exact .inl ⟨rfl, rfl⟩ | exact .inr ⟨rfl, rfl⟩
  exact right_some h2 (s_aug hop (subB_ok h1.2) (by rw [Gd.N]; exact Gd.nd) (by rw [Gd.N]; exact c1) (locB_ok c2) (.inl (Gs.fn x)) ((sound e).v Gd h1.1) (by rw [Gd.zsp]; exact c3) rfl)
theorem ss_app {i : Nat} {e : E} : SoundS g C xt k fm ex (.app i e) := by
  refine .of rfl fun {X z W L τ st r} Gd Gs q => ?_
  try dsimp only at q
  split at q <;> first | (cases q; done) | skip
  split at q <;> first | (cases q; done) | skip
  rename_i c
  simp only [Bool.and_eq_true, decide_eq_true_eq] at c
  obtain ⟨⟨⟨⟨⟨⟨rfl, c1⟩, c2⟩, c3⟩, c4⟩, c5⟩, c6⟩ := c
  split at q <;> first | (cases q; done) | skip
  rename_i τ1 hτ
  cases q
  obtain ⟨h1, h2⟩ := pick_ok hτ
  simp only [Bool.and_eq_true, decide_eq_true_eq] at h1
  obtain ⟨n1, n2⟩ := okName_ok c3
  exact right_some h2 (s_app (subB_ok h1.2) (by rw [Gd.N]; exact c1) (visB_ok c2) n1 n2 (by rw [Gd.zsp]; exact c4) h1.1.1 ((sound e).v Gd h1.1.2) (nostarB_ok c5) c6 rfl)
theorem ss_ext {i : Nat} {e : E} : SoundS g C xt k fm ex (.ext i e) := by
  refine .of rfl fun {X z W L τ st r} Gd Gs q => ?_
  try dsimp only at q
  split at q <;> first | (cases q; done) | skip
  split at q <;> first | (cases q; done) | skip
  rename_i c
  simp only [Bool.and_eq_true, decide_eq_true_eq] at c
  obtain ⟨⟨⟨⟨⟨⟨rfl, c1⟩, c2⟩, c3⟩, c4⟩, c5⟩, c6⟩ := c
  split at q <;> first | (cases q; done) | skip
  rename_i τ1 hτ
  cases q
  obtain ⟨h1, h2⟩ := pick_ok hτ
  simp only [Bool.and_eq_true, decide_eq_true_eq] at h1
  obtain ⟨n1, n2⟩ := okName_ok c3
  exact right_some h2 (s_ext (subB_ok h1.2) (by rw [Gd.N]; exact c1) (visB_ok c2) n1 n2 (by rw [Gd.zsp]; exact c4) h1.1.1 ((sound e).v Gd h1.1.2) (nostarB_ok c5) c6 rfl)
theorem ss_ins {i : Nat} {kk e : E} : SoundS g C xt k fm ex (.ins i kk e) := by
  refine .of rfl fun {X z W L τ st r} Gd Gs q => ?_
  try dsimp only at q
  split at q <;> first | (cases q; done) | skip
  split at q <;> first | (cases q; done) | skip
  rename_i c
  simp only [Bool.and_eq_true, decide_eq_true_eq] at c
  obtain ⟨⟨⟨⟨⟨⟨⟨rfl, c1⟩, c2⟩, c3⟩, c4⟩, c5⟩, c7⟩, c6⟩ := c
  split at q <;> first | (cases q; done) | skip
  rename_i τ1 hτ
  cases q
  obtain ⟨h1, h2⟩ := pick_ok hτ
  simp only [Bool.and_eq_true, decide_eq_true_eq] at h1
  obtain ⟨n1, n2⟩ := okName_ok c3
  exact right_some h2 (s_ins (subB_ok h1.2) (by rw [Gd.N]; exact c1) (visB_ok c2) n1 n2 (by rw [Gd.zsp]; exact c4) h1.1.1.1 ((sound kk).v Gd h1.1.1.2) ((sound e).v Gd h1.1.2) (nostarB_ok c5) (nostarB_ok c7) c6 rfl)
theorem ss_expr {e : E} : SoundS g C xt k fm ex (.expr e) := by
  refine .of rfl fun {X z W L τ st r} Gd Gs q => ?_
  try dsimp only at q
  split at q <;> first | (cases q; done) | skip
  split at q <;> first | (cases q; done) | skip
  rename_i c
  split at q <;> first | (cases q; done) | skip
  rename_i τ1 hτ
  cases q
  obtain ⟨h1, h2⟩ := pick_ok hτ
  obtain ⟨h3, h4⟩ := Bool.and_eq_true_iff.mp h1
  exact right_some h2 (s_expr (subB_ok h4) ((sound e).v Gd h3) (notComp_ok c _ _ _) rfl)
theorem join2_some {a b : Option (List Nat)} {nx : List Nat} (h : ∀ τ', join2 a b = some τ' → ∀ i ∈ nx, i ∈ τ') : (∀ τ', a = some τ' → ∀ i ∈ nx, i ∈ τ') ∧ ∀ τ', b = some τ' → ∀ i ∈ nx, i ∈ τ' := by
  cases a with
  | none => exact ⟨fun _ z => (nomatch z), h⟩
  | some a =>
    cases b with
    | none => exact ⟨h, fun _ z => (nomatch z)⟩
    | some b =>
      refine ⟨fun τ' e i hi => ?_, fun τ' e i hi => ?_⟩
      · cases e; exact (mem_inter.mp (h _ rfl i hi)).1
      · cases e; exact (mem_inter.mp (h _ rfl i hi)).2
theorem ss_ite {c : E} {a b : S} (ha : SoundS g C xt k fm ex a) (hb : SoundS g C xt k fm ex b) : SoundS g C xt k fm ex (.ite c a b) := by
  refine .of rfl fun {X z W L τ st r} Gd Gs q => ?_
  try dsimp only at q
  split at q <;> first | (cases q; done) | skip
  split at q <;> first | (cases q; done) | skip
  rename_i τ1 hτ
  split at q <;> first | (cases q; done) | skip
  rename_i ra rb ea eb
  cases q
  obtain ⟨h1, h2⟩ := pick_ok hτ
  obtain ⟨h3, h4⟩ := Bool.and_eq_true_iff.mp h1
  obtain ⟨a1, a2⟩ := ha.b Gd Gs ea
  obtain ⟨b1, b2⟩ := hb.b Gd Gs eb
  refine ⟨fun nx hn => ?_, fun e ρ => ?_⟩
  · obtain ⟨n1, n2⟩ := join2_some hn
    exact s_weak (o := ⟨nx, L, L, ex⟩) (s_if (subB_ok h4) ((sound c).t Gd h3) (a1 nx n1) (b1 nx n2)) h2 ⟨fun _ h => h, fun _ h => h, fun _ h => h, fun _ h => h⟩
  · have e1 : ra = none := by cases ra <;> cases rb <;> first | rfl | cases e
    have e2 : rb = none := by cases ra <;> cases rb <;> first | rfl | cases e
    refine noNx_out fun kk => ?_
    cases kk with
    | true => exact a2 e1 ρ
    | false => exact b2 e2 ρ
theorem ss_while {c : E} {b : S} (hb : SoundS g C xt k fm ex b) : SoundS g C xt k fm ex (.while c b) := by
  refine .of rfl fun {X z W L τ st r} Gd Gs q => ?_
  try dsimp only at q
  split at q <;> first | (cases q; done) | skip
  split at q <;> first | (cases q; done) | skip
  rename_i τ1 hτ
  cases q
  obtain ⟨h1, h2⟩ := firstOf_ok hτ
  simp only [Bool.and_eq_true] at h1
  obtain ⟨⟨h3, h4⟩, h5⟩ := h1
  have hsub : ∀ i ∈ τ1, i ∈ τ := by
    simp only [List.mem_cons, List.not_mem_nil, or_false] at h2
    rcases h2 with rfl | rfl | rfl | rfl
    · exact fun _ h => h
    · exact minus_sub
    · exact fun i h => (mem_inter.mp (mem_minus.mp h).1).1
    · exact fun i h => nomatch h
  cases er : (chkS g fm ex b).b X.env.scope τ1 τ1 (by assumption) with
  | none => rw [er] at h5; exact absurd h5 Bool.false_ne_true
  | some r =>
    rw [er] at h5
    obtain ⟨b1, b2⟩ := hb.b Gd Gs er
    refine right_some hsub (s_while Gs.pass ((sound c).t Gd h3) (b1 τ1 fun τ' e i hi => ?_) (subB_ok h4) rfl)
    cases e
    exact subB_ok h5 i hi
theorem ss_for {t : Tg} {it : E} {b : S} (hb : SoundS g C xt k fm ex b) : SoundS g C xt k fm ex (.for t it b) := by
  refine .of rfl fun {X z W L τ st r} Gd Gs q => ?_
  try dsimp only at q
  split at q <;> first | (cases q; done) | skip
  rename_i tg' it' b' pos
  split at q <;> first | (cases q; done) | skip
  rename_i c
  simp only [Bool.and_eq_true] at c
  obtain ⟨⟨c1, c2⟩, c3⟩ := c
  split at q <;> first | (cases q; done) | skip
  rename_i τ1 hτ
  cases q
  obtain ⟨h1, h2⟩ := firstOf_ok hτ
  simp only [Bool.and_eq_true] at h1
  obtain ⟨⟨⟨h3, h4⟩, h6⟩, h5⟩ := h1
  have hsub : ∀ i ∈ τ1, i ∈ τ := by
    simp only [List.mem_cons, List.not_mem_nil, or_false] at h2
    rcases h2 with rfl | rfl | rfl | rfl
    · exact minus_sub
    · exact fun i h => minus_sub i (minus_sub i h)
    · exact fun i h => (mem_inter.mp (minus_sub i (minus_sub i h))).1
    · exact fun i h => nomatch h
  have hdis : minus τ1 t.slots = τ1 := minus_of_not fun i hi => of_decide_eq_true (List.all_eq_true.mp h6 i hi)
  have nd : X.N.Nodup := by rw [Gd.N]; exact Gd.nd
  have hsp : ∀ i ∈ t.slots, i ∉ z.sp := fun i hi => by
    rw [Gd.zsp]
    exact of_decide_eq_true (List.all_eq_true.mp c3 i hi)
  have hg : PG X tg' (gTg X.K t) := pg_of nd (Gd.cm c1) (tgB_ok (chkN := locB X.env.scope) (fun x hx => ⟨locB_ok hx, .inl (Gs.fn x)⟩) (by rw [Gd.N]; exact c2))
  obtain ⟨pi, fo⟩ := (sound (g := g) (C := C) (xt := xt) (k := k) it).i Gd h3
  cases er : (chkS g fm ex b).b X.env.scope τ1 τ1 b' with
  | none => rw [er] at h5; exact absurd h5 Bool.false_ne_true
  | some r =>
    rw [er] at h5
    obtain ⟨b1, b2⟩ := hb.b Gd Gs er
    refine right_some hsub (s_for (τB := τ1) Gs.pass (Gd.cm c1) pi hg (b1 τ1 fun τ' e i hi => ?_) fo (subB_ok h4) hsp rfl hdis.symm rfl)
    cases e
    exact subB_ok h5 i hi
theorem ss_ret {e : E} : SoundS g C xt k fm ex (.ret e) := by
  have noRt : ∀ ρ, noNx (exS C (.ret e) ρ) := fun ρ => noNx_out fun _ => trivial
  have main : ∀ {X : Cx} {z : Z} {W : WX} {L τ τ1 : List Nat} {e' : Expr} {pos : Pos}, Good g C xt k X z W → (chk g e).v X.env.scope τ1 fm e' = true → subB ex τ1 = true → (∀ i ∈ τ1, i ∈ τ) → Right X z W fm τ L ex none (exS C (.ret e)) (PS X (.Return (some e') pos)) := by
    intro X z W L τ τ1 e' pos Gd h3 h4 h2
    exact right_none h2 (fun nx => s_ret (subB_ok h4) ((sound e).v Gd h3)) noRt
  refine .of rfl fun {X z W L τ st r} Gd Gs q => ?_
  try dsimp only at q
  split at q <;> first | (cases q; done) | skip
  · rename_i x p pos
    split at q
    · rename_i i
      split at q <;> first | (cases q; done) | skip
      rename_i c
      cases q
      simp only [Bool.and_eq_true, decide_eq_true_eq] at c
      obtain ⟨⟨⟨⟨c1, c2⟩, c3⟩, c4⟩, c5⟩ := c
      obtain ⟨n1, n2⟩ := okName_ok c3
      have hN : X.N[i]? = some x := by rw [Gd.N]; exact c1
      have hsp : i ∉ z.sp := by rw [Gd.zsp]; exact c4
      unfold retB at c5
      split at c5
      · exact right_none (τ1 := τ) (fun _ h => h) (fun nx => s_retV hN (visB_ok c2) n1 n2 hsp (of_decide_eq_true c5) rfl) noRt
      · by_cases he : subB ex (minus τ [i]) = true
        · exact right_none (τ1 := minus τ [i]) minus_sub (fun nx => s_ret (subB_ok he) (s_var hN (visB_ok c2) n1 n2 hsp (.inr ⟨rfl, fun h => (mem_minus.mp h).2 (by simp)⟩))) noRt
        · -- a slot that is read raises nothing
          refine ⟨fun nx _ => ?_, fun _ => noRt⟩
          refine PS.imp (ps_ret (s_var (z := z) (W := W) (τ := minus τ [i]) (m := .frz) hN (visB_ok c2) n1 n2 hsp (.inr ⟨rfl, fun h => (mem_minus.mp h).2 (by simp)⟩))) ?_
          rintro D σ H ⟨F, ρ, env, w⟩
          obtain ⟨F2, s2, env2⟩ := env.fewer (τ' := minus τ [i]) minus_sub
          have w : PostS X.K X.mg z W .frz _ D F ((getS ρ i).out ρ .rt) := w
          refine ⟨F2, ρ, env2, ?_⟩
          show PostE X.K X.mg z W .frz F2 H σ D.rt (getS ρ i)
          rcases getS_cases ρ i with ⟨d, ed⟩ | ed
          · rw [ed] at w
            rw [ed]
            exact fun v F' H' x r => w v F' H' (s2.trans x.sF) (env2.ext.trans x) r
          · rw [ed] at w; exact w.elim
      · exact absurd c5 Bool.false_ne_true
    · split at q <;> first | (cases q; done) | skip
      rename_i τ1 hτ
      cases q
      obtain ⟨h1, h2⟩ := pick_ok hτ
      obtain ⟨h3, h4⟩ := Bool.and_eq_true_iff.mp h1
      exact main Gd h3 h4 h2
  · split at q <;> first | (cases q; done) | skip
    rename_i τ1 hτ
    cases q
    obtain ⟨h1, h2⟩ := pick_ok hτ
    obtain ⟨h3, h4⟩ := Bool.and_eq_true_iff.mp h1
    exact main Gd h3 h4 h2
  · split at q <;> first | (cases q; done) | skip
    cases q
    exact right_none (τ1 := τ) (fun _ h => h) (fun nx => s_retN) noRt
theorem ss_never : SoundS g C xt k fm ex .never := by
  refine .of rfl fun {X z W L τ st r} Gd Gs q => ?_
  cases q
  refine right_none (τ1 := τ) (fun _ h => h) (fun nx => PS.imp ps_never ?_) fun _ => trivial
  rintro D σ H ⟨F, ρ, env, w⟩
  exact w
theorem ss_raise {c : Nat} : SoundS g C xt k fm ex (.raise c .nil) := by
  refine .of rfl fun {X z W L τ st r} Gd Gs q => ?_
  split at q <;> first | (cases q; done) | skip
  split at q <;> first | (cases q; done) | skip
  rename_i x p m j p2 pos pos' hc
  cases q
  simp only [Bool.and_eq_true, decide_eq_true_eq] at hc
  obtain ⟨⟨⟨⟨h1, h2⟩, h3⟩, h4⟩, h5⟩ := hc
  obtain ⟨Cl, gC, xP, kP, bP, tP⟩ := Gd.exc c x h2
  refine right_none (τ1 := τ) (fun _ h => h) (fun nx => PS.imp (ps_raise (Gd.cm h1) Gd.tk (pmk_own PySem.F.excBase_ValueError xP gC kP (raises_own bP tP) (glB_ok h3) (okName_ok h4).1)) ?_) fun _ => trivial
  rintro D σ H ⟨F, ρ, env, w⟩
  obtain ⟨F2, s2, e2⟩ := EnvR.fewer env (subB_ok h5)
  refine w σ F2 H (.ref Cl) none s2 e2 ?_
  refine ⟨x, none, Cl, ?_, gC, rfl, rfl, rfl⟩
  rw [Gd.zx, ← Gd.exs]; exact h2
theorem ss_raiseX {c : Nat} {f : Str} {e : E} : SoundS g C xt k fm ex (.raiseX c f e) := by
  refine .of rfl fun {X z W L τ st r} Gd Gs q => ?_
  split at q <;> first | (cases q; done) | skip
  split at q <;> first | (cases q; done) | skip
  rename_i x p e' pos pos' hc
  split at q <;> first | (cases q; done) | skip
  rename_i τ1 hτ
  cases q
  obtain ⟨h1, h2⟩ := pick_ok hτ
  obtain ⟨h3, h4⟩ := Bool.and_eq_true_iff.mp h1
  simp only [Bool.and_eq_true, decide_eq_true_eq] at hc
  obtain ⟨⟨⟨⟨g1, g2⟩, g3⟩, g4⟩, g5⟩ := hc
  refine right_none (τ1 := τ1) h2 (fun nx => s_raiseX (subB_ok h4) (Gd.ini c x f g2) (Gd.cm g1) Gd.tk ((Gd.rm' g1).mono (by have := Gd.k1; omega)) (by rw [Gd.zx, ← Gd.exs]; exact g2) (glB_ok g3) (okName_ok g4).1 ((sound e).v Gd h3) (nostarB_ok g5)) fun ρ => ?_
  exact noNx_out fun _ => trivial
/-- the clauses are right -/
structure SoundH (g : G) (C : Nat → List D → R D) (xt : XTab) (k : Nat) (fm : Md) (ex : List Nat) (w : S) : Prop where
  h : ∀ {X : Cx} {z : Z} {W : WX} {L : List Nat} {hds : List ExceptHandler} {r : Option (List Nat)}, Good g C xt k X z W → GoodS X → g.cm = true → chkH g fm ex w X.env.scope L hds = some r →
    (∀ nx, (∀ τ', r = some τ' → ∀ i ∈ nx, i ∈ τ') → ∃ l, HdsMix X hds l ∧ ∀ (D : Ends) (F : Hp) (c' : Nat) (f : PyData) (ρ' : Env), PostS X.K X.mg z W fm ⟨nx, L, L, ex⟩ D F (exH C w c' f ρ') →
      ∀ (σ1 : L2.St) (F1 H1 : Hp) (cls : Value) (dx : Option Addr), Same F F1 → Ev X.K z ex F1 H1 σ1 ρ' → ExcR X.K X.mg z.xt F1 c' f cls dx → wMix X.K W D l cls dx σ1 H1) ∧ (r = none → ∀ c' f ρ', noNx (exH C w c' f ρ'))
theorem sh_nil : SoundH g C xt k fm ex .nil := by
  refine ⟨fun {X z W L hds r} Gd Gs _ q => ?_⟩
  have q : (if hds.isEmpty then some none else none) = some r := q
  split at q <;> first | (cases q; done) | skip
  cases q
  rename_i hE
  have : hds = [] := by cases hds with
    | nil => rfl
    | cons _ _ => exact nomatch hE
  subst this
  exact ⟨fun nx _ => ⟨[], .nil, fun D F c' f ρ' w σ1 F1 H1 cls dx s1 e1 x1 => w σ1 F1 H1 cls dx s1 e1 x1⟩, fun _ _ _ _ => trivial⟩
theorem sh_none {w : S} (hc : chkH g fm ex w = fun _ _ _ => none) : SoundH g C xt k fm ex w := ⟨fun Gd Gs _ q => (by rw [hc] at q; exact absurd q (by intro z; cases z))⟩
/-- what comes of a suite -/
def suiteO : Option Nat → Out → Out
  | none, o => o.calm
  | some i, o => match o.calm with
    | .nx ρ' => .nx (ρ'.set i none)
    | .bk ρ' => .bk (ρ'.set i none)
    | .ct ρ' => .ct (ρ'.set i none)
    | o => o
def suiteI (ρ : Env) (c : Nat) (f : PyData) : Option Nat → Env
  | none => ρ
  | some i => ρ.set i (some (excD c f))
theorem exH_cons {c : Nat} {i : Option Nat} {su more : S} {c' : Nat} {f : PyData} {ρ : Env} : exH C (.hcons c i su more) c' f ρ = if takesC c c' then suiteO i (exS C su (suiteI ρ c' f i)) else exH C more c' f ρ := by
  cases i <;> rfl
theorem sh_cons {c : Nat} {i : Option Nat} {su more : S} (hu : SoundS { g with cm := false } C xt k fm [] su) (hm : SoundH g C xt k fm ex more) : SoundH g C xt k fm ex (.hcons c i su more) := by
  refine ⟨fun {X z W L hds r} Gd Gs hcm q => ?_⟩
  have spm : SpM z.Sp := Gd.spm
  simp only [chkH] at q
  split at q <;> first | (cases q; done) | skip
  rename_i x np n s0 su' hpos hds'
  split at q <;> first | (cases q; done) | skip
  rename_i hc
  split at q <;> first | (cases q; done) | skip
  rename_i r1 r2 ea eb
  cases q
  simp only [Bool.and_eq_true, decide_eq_true_eq] at hc
  obtain ⟨⟨⟨⟨h2, h3⟩, h4⟩, h5⟩, h6⟩ := hc
  cases ep : g.exs[c]? with
  | none => rw [ep] at h2; exact nomatch h2
  | some p =>
  rw [ep] at h2
  have h2 : p.1 = x := Option.some.inj h2
  subst h2
  obtain ⟨Cl, gC⟩ := Gd.mgs c p ep
  have nox := Gd.nox hcm
  -- the slot
  have hno : NameOk X n i := by
    cases i <;> cases n <;> first | trivial | exact absurd h6 Bool.false_ne_true | skip
    simp only [clB, Bool.and_eq_true, decide_eq_true_eq] at h6
    exact ⟨by rw [Gd.N]; exact h6.1.2, h6.2⟩
  have hsp : ∀ j, i = some j → j ∈ z.sp := by
    intro j e
    subst e
    cases n with
    | none => exact absurd h6 Bool.false_ne_true
    | some n =>
      simp only [clB, Bool.and_eq_true, decide_eq_true_eq] at h6
      rw [Gd.zsp]; exact h6.1.1
  have Gu : ∀ (a : Addr) (oe : Obj) (pn : List (Addr × Obj)) (cls : Value) (dx : Option Addr) (c' : Nat) (f : PyData), Zc cls dx oe → (∃ vs, oe.data = .fields vs) →
      Good { g with cm := false } C xt k (X.suite a ((a, oe) :: pn)) { z with Sp := spSuite X.K X.mg xt z.Sp i a c' f cls dx } W0 := fun a oe pn cls dx c' f hz hv =>
    ⟨Gd.N, Gd.nd, fun z => (nomatch z), takes0, Gd.un, fun z => (nomatch z), Gd.k1, fun f x fr q => let ⟨ad, fd, ps, F⟩ := Gd.fns f x fr q; ⟨ad, fd, ps, ⟨F.ok, F.mg, F.kp, F.bd⟩⟩, Gd.gls, Gd.blt, Gd.zx, Gd.zsp, Gd.exs, Gd.exc, Gd.exm, Gd.mgs, Gd.its,
      fun _ => hot_of rfl hz hv nox, fun z => (nomatch z), Gd.ini, spSuite_m Gd.spm⟩
  have u : ∀ (a : Addr) (oe : Obj) (pn : List (Addr × Obj)) (cls : Value) (dx : Option Addr) (c' : Nat) (f : PyData), Zc cls dx oe → (∃ vs, oe.data = .fields vs) →
      Right (X.suite a ((a, oe) :: pn)) { z with Sp := spSuite X.K X.mg xt z.Sp i a c' f cls dx } W0 fm ex L [] r1 (exS C su) (PSs (X.suite a ((a, oe) :: pn)) (s0 :: su')) := fun a oe pn cls dx c' f hz hv =>
    hu.b (Gu a oe pn cls dx c' f hz hv) ⟨Gs.fn, .never, Gs.kind, Gs.stk, Gs.frm⟩ ea
  obtain ⟨m1, m2⟩ := hm.h Gd Gs hcm eb
  refine ⟨fun nx hn => ?_, fun e c' f ρ' => ?_⟩
  · obtain ⟨n1, n2⟩ := join2_some hn
    obtain ⟨l, ol, hl⟩ := m1 nx n2
    refine ⟨(.ref Cl, i, fun a cls dx D σ H => ∃ p : Hp × Nat × PyData, ExcR X.K X.mg z.xt p.1 p.2.1 p.2.2 cls dx ∧ tS X.K X.mg { z with Sp := spSuite X.K X.mg xt z.Sp i a p.2.1 p.2.2 cls dx } W0 fm ex ⟨nx, L, L, []⟩ (exS C su) D σ H) :: l,
      .cons ⟨glB_ok h4, (okName_ok h5).1, .inl gC⟩ hno (fun a oe cls d pn hz hv => ?_) ol, ?_⟩
    · constructor
      rintro pins s σ H D I ⟨p, hp, q⟩
      exact ((u a oe pn cls d p.2.1 p.2.2 hz hv).1 nx n1).run pins s σ H D I q
    intro D F c' f ρ' w σ1 F1 H1 cls dx s1 e1 x1
    have w := PostS.more s1 w
    rw [exH_cons] at w
    have x2 : ExcR X.K X.mg xt F1 c' f cls dx := by rw [← Gd.zx]; exact x1
    obtain ⟨nm, fld, C', q1, q2, q3, q4⟩ := id x2
    rw [← Gd.exs] at q1
    refine ⟨takesC c c', ?_, fun hb a ha => ?_, fun hb => ?_⟩
    · rw [q3]; exact Gd.exm c h3 c' p (nm, fld) Cl C' ep q1 gC q2
    · rw [if_pos hb] at w
      refine ⟨(F1, c', f), x1, F1, suiteI ρ' c' f i, ?_, ?_⟩
      · cases i with
        | none => exact spIn0 e1
        | some j => exact spIn e1 (hsp j rfl) x2
      · cases i with
        | none =>
          have back : ∀ {τ : List Nat} {F' H' : Hp} {σ' : L2.St} {ρ2 : Env}, Ev X.K { z with Sp := spSuite X.K X.mg xt z.Sp none a c' f cls dx } τ F' H' σ' ρ2 → Ev X.K z τ F' H' σ' ρ2 := fun q => spOut0 spm q
          cases e2 : exS C su ρ' with
          | exc c2 f2 ρ2 => rw [show suiteI ρ' c' f none = ρ' from rfl, e2] at w; exact w.elim
          | nx ρ2 => rw [show suiteI ρ' c' f none = ρ' from rfl, e2] at w; rw [show suiteI ρ' c' f none = ρ' from rfl, e2]; exact fun σ2 F2 H2 s2 q => w _ F2 H2 s2 (back q)
          | bk ρ2 => rw [show suiteI ρ' c' f none = ρ' from rfl, e2] at w; rw [show suiteI ρ' c' f none = ρ' from rfl, e2]; exact fun σ2 F2 H2 s2 q => w _ F2 H2 s2 (back q)
          | ct ρ2 => rw [show suiteI ρ' c' f none = ρ' from rfl, e2] at w; rw [show suiteI ρ' c' f none = ρ' from rfl, e2]; exact fun σ2 F2 H2 s2 q => w _ F2 H2 s2 (back q)
          | rt d => rw [show suiteI ρ' c' f none = ρ' from rfl, e2] at w; rw [show suiteI ρ' c' f none = ρ' from rfl, e2]; exact w
          | stuck => rw [show suiteI ρ' c' f none = ρ' from rfl, e2] at w; exact w.elim
        | some j =>
          have back : ∀ {τ : List Nat} {F' H' : Hp} {σ' : L2.St} {ρ2 : Env}, Ev X.K { z with Sp := spSuite X.K X.mg xt z.Sp (some j) a c' f cls dx } τ F' H' σ' ρ2 → Ev X.K z τ F' H' (σ'.set j none) (ρ2.set j none) := fun q => spOut spm (hsp j rfl) q
          cases e2 : exS C su (suiteI ρ' c' f (some j)) with
          | exc c2 f2 ρ2 => rw [e2] at w; exact w.elim
          | nx ρ2 => rw [e2] at w; exact fun σ2 F2 H2 s2 q => w _ F2 H2 s2 (back q)
          | bk ρ2 => rw [e2] at w; exact fun σ2 F2 H2 s2 q => w _ F2 H2 s2 (back q)
          | ct ρ2 => rw [e2] at w; exact fun σ2 F2 H2 s2 q => w _ F2 H2 s2 (back q)
          | rt d => rw [e2] at w; exact w
          | stuck => rw [e2] at w; exact w.elim
    · rw [if_neg (by simp [hb])] at w
      exact hl D F1 c' f ρ' w σ1 F1 H1 cls dx (.refl _) e1 x1
  · have e1 : r1 = none := by cases r1 <;> cases r2 <;> first | rfl | cases e
    have e2 : r2 = none := by cases r1 <;> cases r2 <;> first | rfl | cases e
    rw [exH_cons]
    split
    · have h2 := (u 0 ⟨.none, none, .fields #[], #[]⟩ [] .none none 0 .none ⟨rfl, rfl⟩ ⟨_, rfl⟩).2 e1 (suiteI ρ' c' f i)
      cases i with
      | none =>
        cases e4 : exS C su (suiteI ρ' c' f none) with
        | nx ρ2 => rw [e4] at h2; exact h2
        | _ => trivial
      | some j =>
        cases e4 : exS C su (suiteI ρ' c' f (some j)) with
        | nx ρ2 => rw [e4] at h2; exact h2
        | _ => trivial
    · exact m2 e2 c' f ρ'
theorem ss_try {b hs : S} (hb : SoundS g C xt k fm ex b) (hh : SoundH g C xt k fm ex hs) : SoundS g C xt k fm ex (.try b hs) := by
  refine .of rfl fun {X z W L τ st r} Gd Gs q => ?_
  try dsimp only at q
  split at q <;> first | (cases q; done) | skip
  rename_i b' h0 hds pos
  split at q <;> first | (cases q; done) | skip
  rename_i hc
  split at q <;> first | (cases q; done) | skip
  rename_i r1 r2 ea eb
  cases q
  have Gt : ∀ (W : WX) (pn : List (Addr × Obj)) (xe : Value → Shared → Prop), Takes (X.tr pn xe) W → Good g C xt k (X.tr pn xe) z W := fun W pn xe tk => ⟨Gd.N, Gd.nd, Gd.cm, tk, Gd.un, Gd.rm', Gd.k1, fun f x fr q => let ⟨ad, fd, ps, F⟩ := Gd.fns f x fr q; ⟨ad, fd, ps, ⟨F.ok, F.mg, F.kp, F.bd⟩⟩, Gd.gls, Gd.blt, Gd.zx, Gd.zsp, Gd.exs, Gd.exc, Gd.exm, Gd.mgs, Gd.its, fun z => absurd (hc.symm.trans z) (by decide), Gd.nox, Gd.ini, Gd.spm⟩
  have a : ∀ (W : WX) (pn : List (Addr × Obj)) (xe : Value → Shared → Prop), Takes (X.tr pn xe) W → PassesOwn (model X.prog X.w) X.A X.env xe → Right (X.tr pn xe) z W fm τ L ex r1 (exS C b) (PSs (X.tr pn xe) b') := fun W pn xe tk ps => hb.b (Gt W pn xe tk) ⟨Gs.fn, ps, Gs.kind, Gs.stk, Gs.frm⟩ ea
  obtain ⟨m1, m2⟩ := hh.h Gd Gs hc eb
  refine ⟨fun nx hn => ?_, fun e ρ => ?_⟩
  · obtain ⟨n1, n2⟩ := join2_some hn
    obtain ⟨l, ol, hl⟩ := m1 nx n2
    refine PS.imp (ps_try_mix (tb := fun W => tS X.K X.mg z W fm τ ⟨nx, L, L, ex⟩ (exS C b)) Gs.stk Gs.frm (by rw [Gd.N]; exact Gd.nd) Gd.tk (fun W pn xe tk ps => (a W pn xe tk ps).1 nx n1) ol) ?_
    rintro D σ H ⟨F, ρ, env, w⟩
    refine ⟨F, ρ, env, ?_⟩
    have w : PostS X.K X.mg z W fm ⟨nx, L, L, ex⟩ D F (match exS C b ρ with
      | .exc c' f ρ' => exH C hs c' f ρ'
      | o => o) := w
    cases e : exS C b ρ with
    | exc c' f ρ' =>
      rw [e] at w
      exact hl D F c' f ρ' w
    | _ => rw [e] at w; exact w
  · have e1 : r1 = none := by cases r1 <;> cases r2 <;> first | rfl | cases e
    have e2 : r2 = none := by cases r1 <;> cases r2 <;> first | rfl | cases e
    show noNx (match exS C b ρ with
      | .exc c' f ρ' => exH C hs c' f ρ'
      | o => o)
    have h1 := (a W0 [] (fun _ _ => False) takes0 .never).2 e1 ρ
    cases e3 : exS C b ρ with
    | exc c' f ρ' => exact m2 e2 c' f ρ'
    | nx ρ2 => rw [e3] at h1; exact h1
    | _ => trivial
mutual
theorem soundS_all : ∀ (s : S) (g : G) (ex : List Nat), SoundS g C xt k fm ex s
  | .nil, g, ex => ss_nilB
  | .cons s t, g, ex => ss_consB (soundS_all s g ex) (soundS_all t g ex)
  | .doc, g, ex => ss_doc
  | .pass, g, ex => ss_pass
  | .brk, g, ex => ss_brk
  | .cont, g, ex => ss_cont
  | .set _ _, g, ex => ss_set
  | .setfn _ _ _ _, g, ex => .none rfl
  | .unpack _ _, g, ex => ss_unpack
  | .par _ _, g, ex => ss_par
  | .setidx _ _ _, g, ex => ss_setidx
  | .aug _ _ _, g, ex => ss_aug
  | .app _ _, g, ex => ss_app
  | .ext _ _, g, ex => ss_ext
  | .ins _ _ _, g, ex => ss_ins
  | .expr _, g, ex => ss_expr
  | .ite _ a b, g, ex => ss_ite (soundS_all a g ex) (soundS_all b g ex)
  | .while _ b, g, ex => ss_while (soundS_all b g ex)
  | .for _ _ b, g, ex => ss_for (soundS_all b g ex)
  | .ret _, g, ex => ss_ret
  | .raise _ .nil, g, ex => ss_raise
  | .raise _ (.cons _ _), g, ex => .none rfl
  | .raise _ (.var _), g, ex => .none rfl
  | .raise _ (.cst _), g, ex => .none rfl
  | .raise _ (.glob _ _), g, ex => .none rfl
  | .raise _ (.tup _), g, ex => .none rfl
  | .raise _ (.lst _), g, ex => .none rfl
  | .raise _ (.call _ _), g, ex => .none rfl
  | .raise _ (.callv _ _), g, ex => .none rfl
  | .raise _ (.bin _ _ _), g, ex => .none rfl
  | .raise _ (.rep _ _), g, ex => .none rfl
  | .raise _ (.neg _), g, ex => .none rfl
  | .raise _ (.not _), g, ex => .none rfl
  | .raise _ (.cmp _ _ _), g, ex => .none rfl
  | .raise _ (.chain _ _ _ _ _), g, ex => .none rfl
  | .raise _ (.chain3 _ _ _ _ _ _ _), g, ex => .none rfl
  | .raise _ (.and _ _), g, ex => .none rfl
  | .raise _ (.or _ _), g, ex => .none rfl
  | .raise _ (.ife _ _ _), g, ex => .none rfl
  | .raise _ (.f1 _ _), g, ex => .none rfl
  | .raise _ (.isi _ _), g, ex => .none rfl
  | .raise _ (.max2 _ _), g, ex => .none rfl
  | .raise _ (.maxd _ _), g, ex => .none rfl
  | .raise _ (.divmod _ _), g, ex => .none rfl
  | .raise _ (.idx _ _), g, ex => .none rfl
  | .raise _ (.slf _ _), g, ex => .none rfl
  | .raise _ (.slt _ _), g, ex => .none rfl
  | .raise _ (.slb _ _ _), g, ex => .none rfl
  | .raise _ (.rev _), g, ex => .none rfl
  | .raise _ (.comp _ _ _ _), g, ex => .none rfl
  | .raise _ (.rng1 _), g, ex => .none rfl
  | .raise _ (.rng2 _ _), g, ex => .none rfl
  | .raise _ (.rng3 _ _ _), g, ex => .none rfl
  | .raise _ (.enum _), g, ex => .none rfl
  | .raise _ (.zip3 _ _ _), g, ex => .none rfl
  | .raise _ (.revd _), g, ex => .none rfl
  | .raise _ (.lrng _), g, ex => .none rfl
  | .raise _ (.join _ _), g, ex => .none rfl
  | .raise _ (.index _ _), g, ex => .none rfl
  | .raise _ (.count _ _), g, ex => .none rfl
  | .raise _ (.inD _ _ _ _), g, ex => .none rfl
  | .raise _ (.getD _ _ _), g, ex => .none rfl
  | .raise _ (.sortD _ _), g, ex => .none rfl
  | .raise _ (.exf _ _), g, ex => .none rfl
  | .raiseX _ _ _, g, ex => ss_raiseX
  | .raiseFrom _, g, ex => .none rfl
  | .try b hs, g, ex => ss_try (soundS_all b g ex) (soundH_all hs g ex)
  | .hcons _ _ _ _, g, ex => .none rfl
  | .never, g, ex => ss_never
theorem soundH_all : ∀ (s : S) (g : G) (ex : List Nat), SoundH g C xt k fm ex s
  | .nil, g, ex => sh_nil
  | .hcons _ _ su more, g, ex => sh_cons (soundS_all su { g with cm := false } []) (soundH_all more g ex)
  | .raiseX _ _ _, g, ex => sh_none rfl
  | .cons _ _, g, ex => sh_none rfl
  | .doc, g, ex => sh_none rfl
  | .brk, g, ex => sh_none rfl
  | .cont, g, ex => sh_none rfl
  | .set _ _, g, ex => sh_none rfl
  | .setfn _ _ _ _, g, ex => sh_none rfl
  | .unpack _ _, g, ex => sh_none rfl
  | .par _ _, g, ex => sh_none rfl
  | .setidx _ _ _, g, ex => sh_none rfl
  | .aug _ _ _, g, ex => sh_none rfl
  | .app _ _, g, ex => sh_none rfl
  | .ext _ _, g, ex => sh_none rfl
  | .ins _ _ _, g, ex => sh_none rfl
  | .expr _, g, ex => sh_none rfl
  | .ite _ _ _, g, ex => sh_none rfl
  | .ret _, g, ex => sh_none rfl
  | .raiseFrom _, g, ex => sh_none rfl
  | .never, g, ex => sh_none rfl
  | .pass, g, ex => sh_none rfl
  | .while _ _, g, ex => sh_none rfl
  | .for _ _ _, g, ex => sh_none rfl
  | .raise _ _, g, ex => sh_none rfl
  | .try _ _, g, ex => sh_none rfl
end
theorem soundS (s : S) : SoundS g C xt k fm ex s := soundS_all s g ex
end
end Pyr

namespace Pyr
open PySem L2 PyProof.Rows
open R (ok exc stuck)

/-! # Whole texts -/
/-- a def of the text, beside its Def of the small language -/
structure Row where
  name : Str
  st : Stmt
  N : List Str
  np : Nat
  fr : Bool
  sp : List Nat := []
def Row.fm (r : Row) : Md := if r.fr then .fresh else .frz
def Row.ps (r : Row) : List Str := r.N.take r.np
structure Tab where
  rows : List Row
  defs : List Def
  globs : List (Str × D)
  blt : List Str
  exs : XTab
  cts : List Nat
  its : List Nat := []
  itv : Bool := false
  xfs : List Str := []
def Tab.g (T : Tab) (r : Row) : G := { defs := T.rows.map fun r => (r.name, r.fr), globs := T.globs, blt := T.blt, N := r.N, sp := r.sp, cm := true, exs := T.exs, cts := T.cts, its := T.its, itv := T.itv, xfs := T.xfs }
def ndB (N : List Str) : Bool := decide N.Nodup
def scopeB (N ps : List Str) (sc : Scope) : Bool :=
  (match sc.kind with | .function => true | _ => false) && !sc.isCoroutine && !sc.isGenerator && ndB N && decide (N.take ps.length = ps) && (ps.all fun x => locB sc x) && (sc.names.all fun y => decide (y.2 ≠ .free))
theorem scopeB_ok {N ps : List Str} {sc : Scope} (h : scopeB N ps sc = true) : FnScope N ps sc := by
  unfold scopeB at h
  simp only [Bool.and_eq_true, Bool.not_eq_true', decide_eq_true_eq, List.all_eq_true] at h
  obtain ⟨⟨⟨⟨⟨⟨h1, h2⟩, h3⟩, h4⟩, h5⟩, h6⟩, h7⟩ := h
  refine ⟨?_, h2, h3, of_decide_eq_true h4, h5, fun x hx => locB_ok (h6 x hx), h7⟩
  split at h1
  · assumption
  · exact absurd h1 Bool.false_ne_true
def rowB (T : Tab) (r : Row) (d : Def) : Bool :=
  scopeB r.N r.ps (defScope r.st) && decide (r.N.length = d.ns) && decide (r.np = d.np) && decide (d.np ≤ d.ns) && (r.sp.all fun i => decide (d.np ≤ i)) && ((chkS (T.g r) r.fm [] d.body).b (defScope r.st) [] [] (defBody r.st)).isSome
/-- what stands behind the top -/
def RowAt (K : PySem.W.Frag) (mg : Str → Option Value) (r : Row) (ad : Addr) (fd : FuncData) : Prop := Fun K r.name r.name r.st ad fd ∧ mg r.name = some (.ref ad) ∧ Binds K fd r.ps []
structure World' (T : Tab) (K : PySem.W.Frag) (mg : Str → Option Value) (ads : Nat → Addr) (fds : Nat → FuncData) : Prop where
  rows : ∀ (f : Nat) (r : Row), T.rows[f]? = some r → RowAt K mg r (ads f) (fds f)
  chk : ∀ (f : Nat) (r : Row) (d : Def), T.rows[f]? = some r → T.defs[f]? = some d → rowB T r d = true
  len : T.rows.length = T.defs.length
  gls : ∀ p ∈ T.globs, GlobOk K mg p.1 p.2
  blt : ∀ x ∈ T.blt, mg x = none
  exc : ∀ (c : Nat) (x : Str), T.exs[c]? = some (x, none) → ExcAt K mg x
  exm : ExmAt K mg T.exs T.cts
  mgs : ∀ (c : Nat) (p : Str × Option Str), T.exs[c]? = some p → ∃ Cl : Addr, mg p.1 = some (.ref Cl)
  its : ItsAt K mg T.exs T.its T.itv T.xfs
  ini : ∀ (c : Nat) (x f : Str), T.exs[c]? = some (x, some f) → InitAt K mg x f
section
variable {T : Tab} {P : Program} {w : World} {K : PySem.W.Frag} {mg : Str → Option Value} {base : Heap} {ads : Nat → Addr} {fds : Nat → FuncData} {xt : XTab}
theorem stuck_sp {f : List D → R D} {fr : Bool} {vs : List V} {H : Hp} {Q : VK} {E : XK} (h : ∀ ds, f ds = stuck) : ¬ spF K mg xt f fr vs H Q E := by
  rintro ⟨F, ds, _, _, p⟩
  rw [h ds] at p
  exact p
theorem fn_ok (Wd : World' T K mg ads fds) (hxt : T.exs = xt) : ∀ (n : Nat) (f : Nat) (r : Row), T.rows[f]? = some r → FnOk P w K mg base (L2.CX P w) (2 * n + 3) (ads f) (fds f) r.ps (spF K mg xt (callF T.defs n f) r.fr)
  | 0, f, r, hr => ⟨fun vs H Q E h => absurd h (stuck_sp fun _ => rfl), fun A outer s H args us vs Q E _ _ _ _ h => absurd h (stuck_sp fun _ => rfl)⟩
  | n + 1, f, r, hr => by
    obtain ⟨Fu, hmg, hb⟩ := Wd.rows f r hr
    obtain ⟨d, hd⟩ : ∃ d, T.defs[f]? = some d := by
      have : f < T.defs.length := by rw [← Wd.len]; exact (List.getElem?_eq_some_iff.mp hr).1
      exact ⟨_, List.getElem?_eq_getElem this⟩
    have hc := Wd.chk f r d hr hd
    unfold rowB at hc
    simp only [Bool.and_eq_true, decide_eq_true_eq] at hc
    obtain ⟨⟨⟨⟨⟨h1, h2⟩, h3⟩, h4⟩, h6⟩, h5⟩ := hc
    have S := scopeB_ok h1
    have pl : r.ps.length = d.np := by
      unfold Row.ps
      rw [List.length_take, h3, h2]
      omega
    have call : ∀ ds, callF T.defs (n + 1) f ds = runD (callF T.defs n) d ds := fun ds => by simp only [callF, hd]
    show FnOk P w K mg base (L2.CX P w) ((2 * n + 4) + 1) (ads f) (fds f) r.ps _
    refine Fu.okX S (fun vs H Q E h => ?_) (fun cdv A outer s H vs Q E hr' h => ?_)
    · obtain ⟨F, ds, _, rp, p⟩ := h
      rw [call] at p
      unfold runD at p
      by_cases hl : ds.length = d.np
      · rw [rp.length, hl, pl]
      · rw [if_neg hl] at p; exact p.elim
    · obtain ⟨F, ds, sF, rp, p⟩ := h
      rw [call] at p
      unfold runD at p
      by_cases hl : ds.length = d.np
      case neg => rw [if_neg hl] at p; exact p.elim
      rw [if_pos hl] at p
      obtain ⟨res, hres⟩ := Option.isSome_iff_exists.mp h5
      -- the context of the body
      generalize hX : cxOf (L2.CX P w) P w K mg base r.N r.name (defScope r.st) (ads f) cdv A outer s H E = X
      have rm : Room (2 * n + 4) X.A := by rw [← hX]; exact hr'
      have Gd : Good (T.g r) (callF T.defs n) xt (2 * n + 3) X ⟨xt, fun _ _ _ _ _ _ => False, r.sp, F, H⟩ (fun cls dx _ H' => E cls dx H') := by
        refine ⟨by rw [← hX]; rfl, S.nd, fun _ => by rw [← hX]; rfl, ?_, ?_, fun _ => rm, by omega, fun f' x fr q => ?_, ?_, ?_, rfl, rfl, hxt, ?_, ?_, ?_, ?_, fun z => (nomatch z), fun _ _ _ _ _ _ _ _ h => h, ?_, fun h _ _ => h⟩
        · rw [← hX]
          exact takes_of rfl rfl rfl rfl
        · have := rm.un; omega
        · have q : (T.rows.map fun r => (r.name, r.fr))[f']? = some (x, fr) := q
          rw [List.getElem?_map, Option.map_eq_some_iff] at q
          obtain ⟨r', hr1, hr2⟩ := q
          cases hr2
          obtain ⟨Fu', hmg', hb'⟩ := Wd.rows f' r' hr1
          refine ⟨ads f', fds f', r'.ps, ?_⟩
          rw [← hX]
          exact ⟨fn_ok Wd hxt n f' r' hr1, hmg', Fu'.kp, hb'⟩
        · rw [← hX]; exact Wd.gls
        · rw [← hX]; exact Wd.blt
        · rw [← hX]; exact Wd.exc
        · rw [← hX]; exact Wd.exm
        · rw [← hX]; exact Wd.mgs
        · rw [← hX]; exact Wd.its
        · rw [← hX]; exact Wd.ini
      have Gs : GoodS X := by
        rw [← hX]
        exact ⟨fun _ => rfl, passes_of rfl, S.kind, rfl, rfl⟩
      have hres' : (chkS (T.g r) r.fm [] d.body).b X.env.scope [] [] (defBody r.st) = some res := by rw [← hX]; exact hres
      obtain ⟨b1, b2⟩ := (soundS (g := T.g r) (C := callF T.defs n) (xt := xt) (k := 2 * n + 3) (fm := r.fm) (ex := []) d.body).b Gd Gs hres'
      have b := b1 [] fun _ _ i hi => nomatch hi
      refine ⟨_, b, F, ds.map some ++ List.replicate (d.ns - d.np) none, ⟨.refl sF, fun i e hi => ?_, fun i j a xs ys _ hi => (nomatch hi), ?_, fun h _ _ => h⟩, ?_⟩
      · have hlt : i < ds.length := by
          rcases Nat.lt_or_ge i ds.length with l | l
          · exact l
          · rw [List.getElem?_append_right (by simpa using l), List.getElem?_replicate] at hi
            split at hi <;> cases hi
        rw [List.getElem?_append_left (by simpa using hlt), List.getElem?_map, Option.map_eq_some_iff] at hi
        obtain ⟨e', he, hee⟩ := hi
        cases hee
        obtain ⟨v, hv, rv⟩ := rp.get he
        refine ⟨v, ?_, ?_⟩
        · unfold L2.start
          rw [List.getElem?_append_left (by simpa [rp.length] using hlt), List.getElem?_map, hv]
          rfl
        · have hns : i ∉ r.sp := fun z => by
            have := of_decide_eq_true (List.all_eq_true.mp h6 i z)
            omega
          rw [if_neg hns, if_neg (by simp)]
          have : X.K = K := by rw [← hX]; rfl
          rw [this]; exact rv
      · unfold L2.start
        simp only [List.length_append, List.length_map, List.length_replicate, rp.length, hl, h2]
      · have eK : X.K = K := by rw [← hX]; rfl
        have eM : X.mg = mg := by rw [← hX]; rfl
        rw [eK, eM]
        have efm : r.fm = if r.fr then .fresh else .frz := rfl
        cases e : exS (callF T.defs n) d.body (ds.map some ++ List.replicate (d.ns - d.np) none) with
        | nx ρ' =>
          rw [e] at p
          exact fun σ F' H' s' env => p .non F' H' env.ext (.flat .non (fun _ h => nomatch h) _)
        | rt v =>
          rw [e] at p
          exact fun u F' H' s' x q => p u F' H' x q
        | exc c f ρ' =>
          rw [e] at p
          exact fun σ F' H' cls dx s' env q => p F' H' cls dx env.ext q
        | bk ρ' => rw [e] at p; exact p.elim
        | ct ρ' => rw [e] at p; exact p.elim
        | stuck => rw [e] at p; exact p.elim
end

/-! ### the facts, one def at a time -/
theorem row_mk {K : PySem.W.Frag} {h : Heap} {mg : Str → Option Value} (X : K.In h) (G : h.Ns mainGlobals mg) (r : Row) {f : Addr} {od an : Option Addr} {sl : Array (Option Value)} {oc kV dc pm cd ct : Value}
    (a : PySem.W.nsIn K mainGlobals r.name = some (some (.ref f))) (l : K.lookup f = some ⟨oc, od, .func (PySem.W.fnOf r.name r.name (defArgs r.st) (defBody r.st) (defScope r.st) .none kV dc pm an cd ct), sl⟩) (c : PySem.W.codeIn K cd r.name = true) (k : PySem.W.keepIn K (.ref f) = true)
    (hb : ∀ (kV doc pm : Value) (an : Option Addr) (cdv ct : Value) (us : List Value), us.length = r.ps.length → bindArgs (PySem.W.fnOf r.name r.name (defArgs r.st) (defBody r.st) (defScope r.st) .none kV doc pm an cdv ct) ⟨us, []⟩ = pure (r.ps.zip us)) :
    ∃ ad fd, RowAt K mg r ad fd := by
  have F := fun_mk (st := r.st) l c k
  exact ⟨_, _, F, PySem.W.mg_of X G a, F.binds hb⟩
theorem glob_int {K : PySem.W.Frag} {h : Heap} {mg : Str → Option Value} (X : K.In h) (G : h.Ns mainGlobals mg) {x : Str} {i : Int} {t : Tok} (a : PySem.W.nsIn K mainGlobals x = some (some (.int i t))) : GlobOk K mg x (.int i) :=
  ⟨_, .int i, PySem.W.mg_of X G a, ⟨t, rfl⟩, .int i⟩
theorem exc_at {K : PySem.W.Frag} {h : Heap} {mg : Str → Option Value} (X : K.In h) (G : h.Ns mainGlobals mg) {x : Str} {C : Addr} (a : PySem.W.nsIn K mainGlobals x = some (some (.ref C))) (b : PySem.W.excIn K C [.type "ValueError", .type "Exception", .type "BaseException", .type "object"] "ValueError.__new__" = true)
    (c : PySem.W.keepIn K (.ref C) = true) (d : PySem.W.subIn K (.ref C) (.type "BaseException") = some true) (e : PySem.W.typeIn K (.ref C) = some (.type "type")) : ExcAt K mg x :=
  ⟨C, PySem.W.mg_of X G a, b, c, d, e⟩
theorem mgs_at {K : PySem.W.Frag} {h : Heap} {mg : Str → Option Value} (X : K.In h) (G : h.Ns mainGlobals mg) {x : Str} {C : Addr} (a : PySem.W.nsIn K mainGlobals x = some (some (.ref C))) : ∃ Cl : Addr, mg x = some (.ref Cl) := ⟨C, PySem.W.mg_of X G a⟩
theorem exm_at {K : PySem.W.Frag} {h : Heap} {mg : Str → Option Value} (X : K.In h) (G : h.Ns mainGlobals mg) {x y : Str} {C C' : Addr} {b : Bool} (a : PySem.W.nsIn K mainGlobals x = some (some (.ref C))) (a' : PySem.W.nsIn K mainGlobals y = some (some (.ref C')))
    (s : PySem.W.subIn K (.ref C) (.type "BaseException") = some true) (d : PySem.W.hasDictIn K C = true) (t : PySem.W.typeIn K (.ref C) = some (.type "type")) (e : PySem.W.subIn K (.ref C') (.ref C) = some b) :
    ∀ Cl Cl' : Addr, mg x = some (.ref Cl) → mg y = some (.ref Cl') → PySem.W.exmOne K (.ref Cl') (.ref Cl) = some b := fun Cl Cl' q q' => by
  rw [PySem.W.mg_of X G a] at q
  rw [PySem.W.mg_of X G a'] at q'
  cases q; cases q'
  exact PySem.W.exm_ref s d t e
/-- the facts about the own classes, as lists that the lines of a law's end fill -/
def XcAll (K : PySem.W.Frag) (mg : Str → Option Value) (exs : XTab) : Prop := ∀ p ∈ exs, (∃ Cl : Addr, mg p.1 = some (.ref Cl)) ∧ (p.2 = none → ExcAt K mg p.1)
def XmAll (K : PySem.W.Frag) (mg : Str → Option Value) (exs : XTab) (cts : List Nat) : Prop := ∀ c ∈ cts, ∀ p, exs[c]? = some p → ∀ q ∈ exs.zipIdx, ∀ Cl Cl' : Addr, mg p.1 = some (.ref Cl) → mg q.1.1 = some (.ref Cl') → PySem.W.exmOne K (.ref Cl') (.ref Cl) = some (takesC c q.2)
theorem xm_ok {K : PySem.W.Frag} {mg : Str → Option Value} {exs : XTab} {cts : List Nat} (h : XmAll K mg exs cts) : ExmAt K mg exs cts := fun c hc c' p p' Cl Cl' e e' q q' =>
  h c hc p e (p', c') (List.mem_zipIdx_iff_getElem?.mpr e') Cl Cl' q q'
/-- the facts of a class whose __init__ keeps a field -/
theorem ini_at {K : PySem.W.Frag} {h : Heap} {mg : Str → Option Value} (X : K.In h) (G : h.Ns mainGlobals mg) (r : IRow) (y : Str) {C fI C0 : Addr} {nm q : Str} {N : Addr} {bs bm : List Value} {sn : List Str} {sub : List Value} {ab : Bool} {col : Option Bool} {dd : Option Addr} {m0 m1 m2 m3 m5 : Option Value}
    {od an : Option Addr} {sl : Array (Option Value)} {oc kV dc pm cd ct : Value}
    (aC : PySem.W.nsIn K mainGlobals r.name = some (some (.ref C))) (xL : K.lookup C = some (excClassObj nm q C N bs bm true sn sub ab col dd m0 m1 m2 m3 m5 "ValueError.__new__")) (hbm : PySem.HandSPX.refsVE bm = true)
    (sa : PySem.W.findIn K (.ref C) "__setattr__" = some (some (.builtin "object.__setattr__"))) (kC : PySem.W.keepIn K (.ref C) = true) (eC : PySem.W.subIn K (.ref C) (.type "BaseException") = some true) (tC : PySem.W.typeIn K (.ref C) = some (.type "type"))
    (iC : PySem.W.findIn K (.ref C) "__init__" = some (some (.ref fI))) (tI : PySem.W.typeIn K (.ref fI) = some (.type "function")) (hno : PySem.W.findIn K (.ref C) r.fld = some none)
    (l : K.lookup fI = some ⟨oc, od, .func (PySem.W.fnOf "__init__" r.qual (defArgs r.st) (defBody r.st) (defScope r.st) .none kV dc pm an cd ct), sl⟩) (c : PySem.W.codeIn K cd r.qual = true) (k : PySem.W.keepIn K (.ref fI) = true)
    (aY : PySem.W.nsIn K mainGlobals y = some (some (.ref C0))) (sY : PySem.W.specialIn K (.ref C0) "__getattribute__" = some (some (.builtin "type.__getattribute__"))) (rY : PySem.W.readsIn K C0 (.type "type") = true) (fY : PySem.W.findCls K (.ref C0) (.type "type") "__init__" = some (.val (.builtin "ValueError.__init__")))
    (S : scopeB r.N r.N (defScope r.st) = true) (hb : initB y r = true)
    (bd : ∀ (kV doc pm : Value) (an : Option Addr) (cdv ct : Value) (us : List Value), us.length = r.N.length → bindArgs (PySem.W.fnOf "__init__" r.qual (defArgs r.st) (defBody r.st) (defScope r.st) .none kV doc pm an cdv ct) ⟨us, []⟩ = pure (r.N.zip us)) : InitAt K mg r.name r.fld := by
  have F := fun_mk (st := r.st) l c k
  exact ⟨C, fI, C0, _, r, y, PySem.W.mg_of X G aC, ⟨⟨nm, q, N, bs, bm, sn, sub, ab, col, dd, m0, m1, m2, m3, m5, xL, hbm⟩, sa, eC, tC, kC⟩, iC, tI, hno, F, scopeB_ok S, ⟨PySem.W.mg_of X G aY, sY, rY, fY⟩, hb, rfl, F.binds bd⟩
def IniAll (K : PySem.W.Frag) (mg : Str → Option Value) (exs : XTab) : Prop := ∀ p ∈ exs, ∀ f, p.2 = some f → InitAt K mg p.1 f
theorem ini_ok {K : PySem.W.Frag} {mg : Str → Option Value} {exs : XTab} (h : IniAll K mg exs) : ∀ (c : Nat) (x f : Str), exs[c]? = some (x, some f) → InitAt K mg x f := fun c x f e => h (x, some f) (List.mem_of_getElem? e) f rfl
theorem exk_at {K : PySem.W.Frag} {h : Heap} {mg : Str → Option Value} (X : K.In h) (G : h.Ns mainGlobals mg) {x : Str} {D : Addr} (a0 : PySem.W.nsIn K mainGlobals x = some (some (.ref D))) (g : PySem.W.findIn K (.ref D) "__getattribute__" = some (some (.builtin "BaseException.__getattribute__")))
    (k : PySem.W.findIn K (.ref D) "__getattr__" = some none) (s : PySem.W.subIn K (.ref D) (.type "BaseException") = some true) (a : PySem.W.findIn K (.ref D) "__class__" = some (some (.builtin "object.__class__")))
    (n : PySem.W.specialIn K (.builtin "object.__class__") "__get__" = some (some (.builtin "getset_descriptor.__get__"))) (t : PySem.W.takesIn K (.builtin "object.__class__") = some true) (m : PySem.W.mroIn K D (.type "object") = some true) (d : PySem.W.hasDictIn K D = true) : ∀ Cl : Addr, mg x = some (.ref Cl) → ExcK K Cl := fun Cl q => by
  rw [PySem.W.mg_of X G a0] at q
  cases q
  have c : (PySem.W.clsIn K D).isSome = true := by
    obtain ⟨cd, hc, _⟩ := PySem.W.any_some d
    rw [hc]; rfl
  exact ⟨c, g, k, s, a, n, t, m, d⟩
theorem kit_at {K : PySem.W.Frag} {h : Heap} {mg : Str → Option Value} (X : K.In h) (G : h.Ns mainGlobals mg) {x y : Str} {C C' : Addr} {b : Bool} (a : PySem.W.nsIn K mainGlobals x = some (some (.ref C))) (a' : PySem.W.nsIn K mainGlobals y = some (some (.ref C')))
    (d : PySem.W.hasDictIn K C = true) (t : PySem.W.typeIn K (.ref C) = some (.type "type")) (e : PySem.W.subIn K (.ref C') (.ref C) = some b) (n : (C' == C) = true → b = true) :
    ∀ Cl Cl' : Addr, mg x = some (.ref Cl) → mg y = some (.ref Cl') → PySem.W.kitOne K (.ref Cl') (.ref Cl) = some b := fun Cl Cl' q q' => by
  rw [PySem.W.mg_of X G a] at q
  rw [PySem.W.mg_of X G a'] at q'
  cases q; cases q'
  obtain ⟨cd, hc, _⟩ := PySem.W.any_some d
  unfold PySem.W.kitOne
  split
  · rename_i h2
    have : C' = C := Value.ref.inj (beq_iff_eq.mp h2)
    rw [n (by simp [this])]
  · show (if ((PySem.W.clsIn K C).isSome && PySem.W.typeIn K (.ref C) == some (.type "type")) = true then PySem.W.subIn K (.ref C') (.ref C) else none) = some b
    rw [if_pos (by rw [hc, t]; rfl)]
    exact e
theorem kiv_at {K : PySem.W.Frag} {h : Heap} {mg : Str → Option Value} (X : K.In h) (G : h.Ns mainGlobals mg) {x : Str} {C : Addr} (a : PySem.W.nsIn K mainGlobals x = some (some (.ref C))) (e : PySem.W.subIn K (.ref C) (.type "ValueError") = some true) :
    ∀ Cl : Addr, mg x = some (.ref Cl) → PySem.W.kitOne K (.ref Cl) (.type "ValueError") = some true := fun Cl q => by
  rw [PySem.W.mg_of X G a] at q
  cases q
  unfold PySem.W.kitOne
  rw [if_neg (by intro z; cases beq_iff_eq.mp z)]
  show (if PySem.W.kitMeta "ValueError" = true then PySem.W.subIn K (.ref C) (.type "ValueError") else none) = some true
  rw [if_pos (by decide +kernel)]
  exact e
theorem xf_at {K : PySem.W.Frag} {h : Heap} {mg : Str → Option Value} (X : K.In h) (G : h.Ns mainGlobals mg) {x f : Str} {C : Addr} (a : PySem.W.nsIn K mainGlobals x = some (some (.ref C))) (e : xfB K C = true) (n : PySem.W.findIn K (.ref C) f = some none) :
    ∀ Cl : Addr, mg x = some (.ref Cl) → XfC K Cl ∧ PySem.W.findIn K (.ref Cl) f = some none := fun Cl q => by
  rw [PySem.W.mg_of X G a] at q
  cases q
  exact ⟨xfB_ok e, n⟩
/-- the facts about isinstance and fields, as lists -/
structure ItAll (K : PySem.W.Frag) (mg : Str → Option Value) (exs : XTab) (its : List Nat) (itv : Bool) (xfs : List Str) : Prop where
  k : its ≠ [] ∨ itv = true → ∀ p ∈ exs, ∀ Cl : Addr, mg p.1 = some (.ref Cl) → ExcK K Cl
  i : ∀ c ∈ its, ∀ p, exs[c]? = some p → ∀ q ∈ exs.zipIdx, ∀ Cl Cl' : Addr, mg p.1 = some (.ref Cl) → mg q.1.1 = some (.ref Cl') → PySem.W.kitOne K (.ref Cl') (.ref Cl) = some (takesC c q.2)
  v : itv = true → ∀ p ∈ exs, ∀ Cl : Addr, mg p.1 = some (.ref Cl) → PySem.W.kitOne K (.ref Cl) (.type "ValueError") = some true
  f : ∀ x ∈ xfs, ∀ p ∈ exs, p.2 = some x → ∀ Cl : Addr, mg p.1 = some (.ref Cl) → XfC K Cl ∧ PySem.W.findIn K (.ref Cl) x = some none
theorem it_ok {K : PySem.W.Frag} {mg : Str → Option Value} {exs : XTab} {its : List Nat} {itv : Bool} {xfs : List Str} (h : ItAll K mg exs its itv xfs) : ItsAt K mg exs its itv xfs :=
  ⟨fun n c p Cl e q => h.k n p (List.mem_of_getElem? e) Cl q, fun c hc c' p p' Cl Cl' e e' q q' => h.i c hc p e (p', c') (List.mem_zipIdx_iff_getElem?.mpr e') Cl Cl' q q', fun n c p Cl e q => h.v n p (List.mem_of_getElem? e) Cl q,
    fun x hx c p Cl e q => h.f x hx _ (List.mem_of_getElem? e) rfl Cl q⟩
/-- a def's own text within a class -/
def inCls (s : Stmt) (j : Nat) : Stmt := match s with
  | .ClassDef (body := b) .. => b.getD j (.Pass ⟨0, 0, 0, 0⟩)
  | _ => .Pass ⟨0, 0, 0, 0⟩
/-- lists of rows with their addresses -/
def AllAt (K : PySem.W.Frag) (mg : Str → Option Value) (rs : List Row) : Prop := ∀ r ∈ rs, ∃ ad fd, RowAt K mg r ad fd
theorem all_nil {K : PySem.W.Frag} {mg : Str → Option Value} : AllAt K mg [] := fun _ h => nomatch h
theorem all_cons {K : PySem.W.Frag} {mg : Str → Option Value} {r : Row} {rs : List Row} (h : ∃ ad fd, RowAt K mg r ad fd) (t : AllAt K mg rs) : AllAt K mg (r :: rs) := fun q hq => by
  rcases List.mem_cons.mp hq with rfl | hq
  · exact h
  · exact t q hq
theorem all_split {K : PySem.W.Frag} {mg : Str → Option Value} {rs : List Row} (h : AllAt K mg rs) : ∃ (ads : Nat → Addr) (fds : Nat → FuncData), ∀ (f : Nat) (r : Row), rs[f]? = some r → RowAt K mg r (ads f) (fds f) := by
  classical
  have h' : ∀ f : Nat, ∃ p : Addr × FuncData, ∀ r, rs[f]? = some r → RowAt K mg r p.1 p.2 := fun f => by
    cases e : rs[f]? with
    | none => exact ⟨(0, default), fun r q => nomatch q⟩
    | some r =>
      obtain ⟨ad, fd, q⟩ := h r (List.mem_of_getElem? e)
      exact ⟨(ad, fd), fun r' q' => by cases q'; exact q⟩
  exact ⟨fun f => (Classical.choose (h' f)).1, fun f => (Classical.choose (h' f)).2, fun f r q => Classical.choose_spec (h' f) r q⟩
def tabB (T : Tab) : List Row → List Def → Bool
  | [], [] => true
  | r :: rs, d :: ds => rowB T r d && tabB T rs ds
  | _, _ => false
theorem tabB_ok {T : Tab} : ∀ {rs : List Row} {ds : List Def}, tabB T rs ds = true → rs.length = ds.length ∧ ∀ (f : Nat) (r : Row) (d : Def), rs[f]? = some r → ds[f]? = some d → rowB T r d = true
  | [], [], _ => ⟨rfl, fun f r d h => by simp at h⟩
  | [], _ :: _, h => absurd h Bool.false_ne_true
  | _ :: _, [], h => absurd h Bool.false_ne_true
  | r :: rs, d :: ds, h => by
    obtain ⟨h1, h2⟩ := Bool.and_eq_true_iff.mp (show (rowB T r d && tabB T rs ds) = true from h)
    obtain ⟨l, q⟩ := tabB_ok h2
    refine ⟨by simp [l], fun f r' d' a b => ?_⟩
    cases f with
    | zero => simp at a b; subst a b; exact h1
    | succ f => exact q f r' d' (by simpa using a) (by simpa using b)
theorem law_ok {P : Program} {w : World} {K : PySem.W.Frag} {mg : Str → Option Value} {base : Heap} {xt : XTab} {k : Nat} {ad : Addr} {fd : FuncData} {ps : List Str} {f : List D → R D} {fr : Bool} (F : FnOk P w K mg base (L2.CX P w) k ad fd ps (spF K mg xt f fr)) :
    FnOk P w K mg base (L2.CX P w) k ad fd ps (fun vs H Q E => ∃ (a : Addr) (ns : List Int), vs = [V.ref a] ∧ SqL K H a (ns.map V.int) ∧ f [.list (ns.map .int)] = ok (.bool true) ∧ ∀ H', Q (.bl true) H') := by
  refine F.imp fun vs H Q E h => ?_
  obtain ⟨a, ns, rfl, hs, hf, q⟩ := h
  refine ⟨H, [.list (ns.map .int)], .refl H, .cons (.ofList hs (repInts ns)) .nil, ?_⟩
  rw [hf]
  intro v F' H' x r
  have : v = .bl true := by
    cases fr with
    | true => exact Rep.bl_inv (show Rep K F' v (.bool true) from r)
    | false => exact Rep.bl_inv r
  subst this
  exact q H'
end Pyr

namespace Pyr
open PySem
open R (ok exc stuck)

/-! # Reckoning with the small language -/
section
variable (i j k : Int) (a b c d e : D) (xs ys : List D) (x y : Str) (p q : Bool)
@[simp] theorem eqv_ii : PyData.eqv (.int i) (.int j) = decide (i = j) := by simp [PyData.eqv, BEq.beq]
@[simp] theorem eqv_ss : PyData.eqv (.str x) (.str y) = decide (x = y) := by simp only [PyData.eqv]; by_cases h : x = y <;> simp [h]
@[simp] theorem eqv_tt : PyData.eqv (.tuple xs) (.tuple ys) = PyData.eqvAll xs ys := by simp only [PyData.eqv]
@[simp] theorem eqv_ll : PyData.eqv (.list xs) (.list ys) = PyData.eqvAll xs ys := by simp only [PyData.eqv]
@[simp] theorem eqv_bb : PyData.eqv (.bool p) (.bool q) = (p == q) := by simp only [PyData.eqv]
@[simp] theorem eqv_it : PyData.eqv (.int i) (.tuple ys) = false := by simp only [PyData.eqv]
@[simp] theorem eqv_ti : PyData.eqv (.tuple xs) (.int i) = false := by simp only [PyData.eqv]
@[simp] theorem eqv_is : PyData.eqv (.int i) (.str x) = false := by simp only [PyData.eqv]
@[simp] theorem eqv_si : PyData.eqv (.str x) (.int i) = false := by simp only [PyData.eqv]
@[simp] theorem eqv_ts : PyData.eqv (.tuple xs) (.str x) = false := by simp only [PyData.eqv]
@[simp] theorem eqv_st : PyData.eqv (.str x) (.tuple xs) = false := by simp only [PyData.eqv]
@[simp] theorem eqv_tn : PyData.eqv (.tuple xs) .none = false := by simp only [PyData.eqv]
@[simp] theorem eqv_nt : PyData.eqv .none (.tuple xs) = false := by simp only [PyData.eqv]
@[simp] theorem eqv_tl : PyData.eqv (.tuple xs) (.list ys) = false := by simp only [PyData.eqv]
@[simp] theorem eqv_lt : PyData.eqv (.list xs) (.tuple ys) = false := by simp only [PyData.eqv]
@[simp] theorem eqvAll_nn : PyData.eqvAll [] [] = true := by simp only [PyData.eqvAll]
@[simp] theorem eqvAll_cc : PyData.eqvAll (a :: xs) (b :: ys) = (PyData.eqv a b && PyData.eqvAll xs ys) := by simp only [PyData.eqvAll]
@[simp] theorem eqvAll_nc : PyData.eqvAll [] (b :: ys) = false := by simp only [PyData.eqvAll]
@[simp] theorem eqvAll_cn : PyData.eqvAll (a :: xs) [] = false := by simp only [PyData.eqvAll]
@[simp] theorem eqR_ii : eqR (.int i) (.int j) = ok (decide (i = j)) := by simp [eqR, PyData.depth]
@[simp] theorem eqR_ss : eqR (.str x) (.str y) = ok (decide (x = y)) := by simp [eqR, PyData.depth]
@[simp] theorem eqR_bb : eqR (.bool p) (.bool q) = ok (p == q) := by simp [eqR, PyData.depth]
theorem eqR_d (h : a.depth ≤ 150 ∨ b.depth ≤ 150) : eqR a b = ok (PyData.eqv a b) := by simp only [eqR, if_pos h]
@[simp] theorem nth0 : L2.atI (a :: xs) 0 = some a := by simp [L2.atI, L2.ixN]
@[simp] theorem nth1 : L2.atI (a :: b :: xs) 1 = some b := by
  have : (1 : Int) < (xs.length : Int) + 1 + 1 := by omega
  simp [L2.atI, L2.ixN, this]
@[simp] theorem nth2 : L2.atI (a :: b :: c :: xs) 2 = some c := by
  have : (2 : Int) < (xs.length : Int) + 1 + 1 + 1 := by omega
  simp [L2.atI, L2.ixN, this]
@[simp] theorem nth3 : L2.atI (a :: b :: c :: d :: xs) 3 = some d := by
  have : (3 : Int) < (xs.length : Int) + 1 + 1 + 1 + 1 := by omega
  simp [L2.atI, L2.ixN, this]
theorem nthN {α : Type} (xs : List α) (n : Nat) (h : n < xs.length) : L2.atI xs (n : Int) = some xs[n] := by
  have : (n : Int) < (xs.length : Int) := by omega
  simp [L2.atI, L2.ixN, this, h]
@[simp] theorem truthy_b : Pyr.truthy (.bool p) = ok p := (rfl)
@[simp] theorem truthy_t : Pyr.truthy (.tuple xs) = ok (!xs.isEmpty) := (rfl)
@[simp] theorem truthy_l : Pyr.truthy (.list xs) = ok (!xs.isEmpty) := (rfl)
@[simp] theorem truthy_n : Pyr.truthy .none = ok false := (rfl)
@[simp] theorem truthy_i : Pyr.truthy (.int i) = ok (i != 0) := (rfl)
@[simp] theorem cmp_eq : cmpR .eq a b = eqR a b := (rfl)
@[simp] theorem cmp_ne : cmpR .ne a b = (eqR a b).map fun k => !k := (rfl)
@[simp] theorem cmp_lt : cmpR .lt (.int i) (.int j) = ok (decide (i < j)) := (rfl)
@[simp] theorem cmp_le : cmpR .le (.int i) (.int j) = ok (decide (i ≤ j)) := (rfl)
@[simp] theorem cmp_gt : cmpR .gt (.int i) (.int j) = ok (decide (j < i)) := (rfl)
@[simp] theorem cmp_ge : cmpR .ge (.int i) (.int j) = ok (decide (j ≤ i)) := (rfl)
@[simp] theorem cmp_is_nn : cmpR .is .none .none = ok true := (rfl)
@[simp] theorem cmp_is_tn : cmpR .is (.tuple xs) .none = ok false := (rfl)
@[simp] theorem cmp_is_ln : cmpR .is (.list xs) .none = ok false := (rfl)
@[simp] theorem cmp_is_in : cmpR .is (.int i) .none = ok false := (rfl)
@[simp] theorem cmp_is_sn : cmpR .is (.str x) .none = ok false := (rfl)
@[simp] theorem cmp_isnot_nn : cmpR .isnot .none .none = ok false := (rfl)
@[simp] theorem cmp_isnot_tn : cmpR .isnot (.tuple xs) .none = ok true := (rfl)
@[simp] theorem cmp_isnot_ln : cmpR .isnot (.list xs) .none = ok true := (rfl)
@[simp] theorem cmp_isnot_in : cmpR .isnot (.int i) .none = ok true := (rfl)
@[simp] theorem cmp_isnot_sn : cmpR .isnot (.str x) .none = ok true := (rfl)
@[simp] theorem isi_tt : isiR .tuple (.tuple xs) = ok true := (rfl)
@[simp] theorem isi_tl : isiR .tuple (.list xs) = ok false := (rfl)
@[simp] theorem isi_ti : isiR .tuple (.int i) = ok false := (rfl)
@[simp] theorem isi_tb : isiR .tuple (.bool p) = ok false := (rfl)
@[simp] theorem isi_ts : isiR .tuple (.str x) = ok false := (rfl)
@[simp] theorem isi_tn : isiR .tuple .none = ok false := (rfl)
@[simp] theorem isi_ii : isiR .int (.int i) = ok true := (rfl)
@[simp] theorem isi_ib : isiR .int (.bool p) = ok true := (rfl)
@[simp] theorem isi_it : isiR .int (.tuple xs) = ok false := (rfl)
@[simp] theorem isi_il : isiR .int (.list xs) = ok false := (rfl)
@[simp] theorem isi_is : isiR .int (.str x) = ok false := (rfl)
@[simp] theorem isi_in : isiR .int .none = ok false := (rfl)
@[simp] theorem isi_bb : isiR .bool (.bool p) = ok true := (rfl)
@[simp] theorem isi_bi : isiR .bool (.int i) = ok false := (rfl)
@[simp] theorem isi_ss : isiR .str (.str x) = ok true := (rfl)
@[simp] theorem isi_st : isiR .str (.tuple xs) = ok false := (rfl)
@[simp] theorem isi_si : isiR .str (.int i) = ok false := (rfl)
@[simp] theorem isi_ll : isiR .list (.list xs) = ok true := (rfl)
@[simp] theorem isi_lt : isiR .list (.tuple xs) = ok false := (rfl)
@[simp] theorem len_t : f1R .len (.tuple xs) = ok (.int xs.length) := (rfl)
@[simp] theorem len_l : f1R .len (.list xs) = ok (.int xs.length) := (rfl)
@[simp] theorem tup_l : f1R .tuple (.list xs) = ok (.tuple xs) := (rfl)
@[simp] theorem tup_t : f1R .tuple (.tuple xs) = ok (.tuple xs) := (rfl)
@[simp] theorem list_l : f1R .list (.list xs) = ok (.list xs) := (rfl)
@[simp] theorem list_t : f1R .list (.tuple xs) = ok (.list xs) := (rfl)
@[simp] theorem sub_ii : binD .sub (.int i) (.int j) = ok (.int (i - j)) := (rfl)
@[simp] theorem add_ii : binD .add (.int i) (.int j) = ok (.int (i + j)) := (rfl)
theorem add_ll (h : xs.length + ys.length ≤ Line) : binD .add (.list xs) (.list ys) = ok (.list (xs ++ ys)) := by simp only [binD, addD, if_pos h]
theorem add_tt (h : xs.length + ys.length ≤ Line) : binD .add (.tuple xs) (.tuple ys) = ok (.tuple (xs ++ ys)) := by simp only [binD, addD, if_pos h]
theorem mul_ii (h : small64 i = true ∨ small64 j = true) : binD .mul (.int i) (.int j) = ok (.int (i * j)) := by
  have : (small64 i || small64 j) = true := by simpa using h
  simp only [binD, mulD, this, if_true]
theorem mod_ii (h : 0 < j) : binD .mod (.int i) (.int j) = ok (.int (i % j)) := by simp only [binD, if_pos h]
theorem fdiv_ii (h : 0 < j ∧ j < 1073741824) : binD .fdiv (.int i) (.int j) = ok (.int (i / j)) := by simp only [binD, if_pos h]
@[simp] theorem idx_t : idxR (.tuple xs) (.int k) = (match L2.atI xs k with | some d => ok d | none => stuck) := (rfl)
@[simp] theorem idx_l : idxR (.list xs) (.int k) = (match L2.atI xs k with | some d => ok d | none => stuck) := (rfl)
@[simp] theorem walk_t : walkR (.tuple xs) = ok xs := (rfl)
@[simp] theorem walk_l : walkR (.list xs) = ok xs := (rfl)
end
/-- a call, by the def's body -/
theorem callF_at {ds : List Def} {f : Nat} {d : Def} (h : ds[f]? = some d) (n : Nat) (args : List D) : callF ds (n + 1) f args = runD (callF ds n) d args := by simp only [callF, h]
theorem map_ok' {α β : Type} (g : α → β) (a : α) : (R.ok a).map g = R.ok (g a) := (rfl)

/-! ### the evaluator, step by step (what comes later stays folded) -/
def iteF (f g : Env → Out) (ρ : Env) : Bool → Out
  | true => f ρ
  | false => g ρ
@[simp] theorem iteF_t (f g : Env → Out) (ρ : Env) : iteF f g ρ true = f ρ := (rfl)
@[simp] theorem iteF_f (f g : Env → Out) (ρ : Env) : iteF f g ρ false = g ρ := (rfl)
def andK (g : Env → R D) (ρ : Env) (x : D) : Bool → R D
  | true => g ρ
  | false => ok x
@[simp] theorem andK_t (g : Env → R D) (ρ : Env) (x : D) : andK g ρ x true = g ρ := (rfl)
@[simp] theorem andK_f (g : Env → R D) (ρ : Env) (x : D) : andK g ρ x false = ok x := (rfl)
def orK (g : Env → R D) (ρ : Env) (x : D) : Bool → R D
  | true => ok x
  | false => g ρ
@[simp] theorem orK_t (g : Env → R D) (ρ : Env) (x : D) : orK g ρ x true = ok x := (rfl)
@[simp] theorem orK_f (g : Env → R D) (ρ : Env) (x : D) : orK g ρ x false = g ρ := (rfl)
def ifeK (f g : Env → R D) (ρ : Env) : Bool → R D
  | true => f ρ
  | false => g ρ
@[simp] theorem ifeK_t (f g : Env → R D) (ρ : Env) : ifeK f g ρ true = f ρ := (rfl)
@[simp] theorem ifeK_f (f g : Env → R D) (ρ : Env) : ifeK f g ρ false = g ρ := (rfl)
def chK (g : Env → R D) (c : Cm) (ρ : Env) (y : D) : Bool → R D
  | true => (g ρ).bind fun z => (cmpR c y z).bind fun k => ok (.bool k)
  | false => ok (.bool false)
@[simp] theorem chK_t (g : Env → R D) (c : Cm) (ρ : Env) (y : D) : chK g c ρ y true = (g ρ).bind fun z => (cmpR c y z).bind fun k => ok (.bool k) := (rfl)
@[simp] theorem chK_f (g : Env → R D) (c : Cm) (ρ : Env) (y : D) : chK g c ρ y false = ok (.bool false) := (rfl)
def compK (C : Nat → List D → R D) (tg : Tg) (c e : E) (ρ : Env) (ds : List D) : R D := (compL (compF tg (fun ρ' => (evE C c ρ').bind Pyr.truthy) (fun ρ' => evE C e ρ') ρ) ds).bind fun ys => ok (.list ys)
section
variable (C : Nat → List D → R D) (ρ : Env) (a b c d e h t : E) (i f : Nat) (x : Str) (v : D) (op : Op2) (c1 c2 c3 : Cm) (g : F1) (ty : Ty) (tg : Tg)
theorem e_nil : evE C .nil ρ = ok (.bool true) := (rfl)
theorem e_var : evE C (.var i) ρ = getS ρ i := (rfl)
theorem e_cst : evE C (.cst v) ρ = ok v := (rfl)
theorem e_glob : evE C (.glob x v) ρ = ok v := (rfl)
theorem e_tup : evE C (.tup e) ρ = (evEs C e ρ).bind fun ds => ok (.tuple ds) := (rfl)
theorem e_lst : evE C (.lst e) ρ = (evEs C e ρ).bind fun ds => ok (.list ds) := (rfl)
theorem e_call : evE C (.call f e) ρ = (evEs C e ρ).bind (C f) := (rfl)
theorem e_bin : evE C (.bin op a b) ρ = (evE C a ρ).bind fun x => (evE C b ρ).bind (binD op x) := (rfl)
theorem e_rep : evE C (.rep a b) ρ = (evE C a ρ).bind fun x => (evE C b ρ).bind (repD x) := (rfl)
theorem e_neg (j : Int) : evE C (.neg (.cst (.int j))) ρ = ok (.int (-j)) := (rfl)
theorem e_not : evE C (.not a) ρ = (evE C a ρ).bind fun x => (Pyr.truthy x).bind fun k => ok (.bool (!k)) := (rfl)
theorem e_cmp : evE C (.cmp c1 a b) ρ = (evE C a ρ).bind fun x => (evE C b ρ).bind fun y => (cmpR c1 x y).bind fun k => ok (.bool k) := (rfl)
theorem e_chain : evE C (.chain c1 c2 a b c) ρ = (evE C a ρ).bind fun x => (evE C b ρ).bind fun y => (cmpR c1 x y).bind (chK (evE C c) c2 ρ y) := by
  simp only [evE]
  congr 1; funext x; congr 1; funext y; congr 1; funext k
  cases k <;> rfl
theorem e_and : evE C (.and a b) ρ = (evE C a ρ).bind fun x => (Pyr.truthy x).bind (andK (evE C b) ρ x) := by
  simp only [evE]
  congr 1; funext x; congr 1; funext k
  cases k <;> rfl
theorem e_or : evE C (.or a b) ρ = (evE C a ρ).bind fun x => (Pyr.truthy x).bind (orK (evE C b) ρ x) := by
  simp only [evE]
  congr 1; funext x; congr 1; funext k
  cases k <;> rfl
theorem e_ife : evE C (.ife c a b) ρ = (evE C c ρ).bind fun x => (Pyr.truthy x).bind (ifeK (evE C a) (evE C b) ρ) := by
  simp only [evE]
  congr 1; funext x; congr 1; funext k
  cases k <;> rfl
theorem e_f1 : evE C (.f1 g a) ρ = (evE C a ρ).bind (f1R g) := (rfl)
theorem e_isi : evE C (.isi ty a) ρ = (evE C a ρ).bind fun x => (isiR ty x).bind fun k => ok (.bool k) := (rfl)
theorem e_idx : evE C (.idx a b) ρ = (evE C a ρ).bind fun x => (evE C b ρ).bind (idxR x) := (rfl)
theorem e_comp : evE C (.comp tg a c e) ρ = ((evE C a ρ).bind walkR).bind (compK C tg c e ρ) := (rfl)
theorem e_rng1 : evE C (.rng1 a) ρ = (evE C a ρ).bind rng1R := (rfl)
theorem e_rng2 : evE C (.rng2 a b) ρ = (evE C a ρ).bind fun x => (evE C b ρ).bind (rng2R x) := (rfl)
theorem e_enum : evE C (.enum a) ρ = (evE C a ρ).bind enumR := (rfl)
theorem es_nil : evEs C .nil ρ = ok [] := (rfl)
theorem es_cons : evEs C (.cons h t) ρ = (evE C h ρ).bind fun d => (evEs C t ρ).bind fun ds => ok (d :: ds) := (rfl)
variable (s u : S) (is : List Nat)
theorem x_nil : exS C .nil ρ = .nx ρ := (rfl)
theorem x_cons : exS C (.cons s u) ρ = (exS C s ρ).seq (exS C u) := (rfl)
theorem x_doc : exS C .doc ρ = .nx ρ := (rfl)
theorem x_pass : exS C .pass ρ = .nx ρ := (rfl)
theorem x_brk : exS C .brk ρ = .bk ρ := (rfl)
theorem x_cont : exS C .cont ρ = .ct ρ := (rfl)
theorem x_set : exS C (.set i e) ρ = (evE C e ρ).out ρ fun d => .nx (ρ.set i (some d)) := (rfl)
theorem x_unpack : exS C (.unpack is e) ρ = (evE C e ρ).out ρ fun d => setO (setTg (.many is) d ρ) := (rfl)
theorem x_par : exS C (.par is e) ρ = (evEs C e ρ).out ρ fun ds => setO (setAll is ds ρ) := (rfl)
theorem x_app : exS C (.app i e) ρ = (getL ρ i).out ρ fun xs => (evE C e ρ).out ρ fun d => appF i xs d ρ := (rfl)
theorem x_ext : exS C (.ext i e) ρ = (getL ρ i).out ρ fun xs => (evE C e ρ).out ρ fun d => extF i xs d ρ := (rfl)
theorem x_aug : exS C (.aug op i e) ρ = (getS ρ i).out ρ fun x => (evE C e ρ).out ρ fun y => augF op x y i ρ := (rfl)
theorem x_expr : exS C (.expr e) ρ = (evE C e ρ).out ρ fun _ => .nx ρ := (rfl)
theorem x_ite : exS C (.ite c s u) ρ = ((evE C c ρ).bind Pyr.truthy).out ρ (iteF (exS C s) (exS C u) ρ) := by
  simp only [exS]
  congr 1; funext k
  cases k <;> rfl
theorem x_while : exS C (.while c s) ρ = whileL (fun ρ => (evE C c ρ).bind Pyr.truthy) (fun ρ => exS C s ρ) wfuel ρ := (rfl)
theorem x_for : exS C (.for tg a s) ρ = ((evE C a ρ).bind walkR).out ρ fun ds => forL (stepF tg fun ρ => exS C s ρ) ds ρ := (rfl)
theorem x_ret : exS C (.ret e) ρ = (evE C e ρ).out ρ .rt := (rfl)
end
def tryK (f : Nat → D → Env → Out) : Out → Out
  | .exc c d ρ => f c d ρ
  | o => o
@[simp] theorem tryK_exc (f : Nat → D → Env → Out) (c : Nat) (d : D) (ρ : Env) : tryK f (.exc c d ρ) = f c d ρ := (rfl)
@[simp] theorem tryK_rt (f : Nat → D → Env → Out) (d : D) : tryK f (.rt d) = .rt d := (rfl)
@[simp] theorem tryK_nx (f : Nat → D → Env → Out) (ρ : Env) : tryK f (.nx ρ) = .nx ρ := (rfl)
@[simp] theorem tryK_ct (f : Nat → D → Env → Out) (ρ : Env) : tryK f (.ct ρ) = .ct ρ := (rfl)
@[simp] theorem tryK_bk (f : Nat → D → Env → Out) (ρ : Env) : tryK f (.bk ρ) = .bk ρ := (rfl)
def clK (f : Env → Out) (g : Env → Out) (ρ : Env) : Bool → Out
  | true => f ρ
  | false => g ρ
@[simp] theorem clK_t (f g : Env → Out) (ρ : Env) : clK f g ρ true = f ρ := (rfl)
@[simp] theorem clK_f (f g : Env → Out) (ρ : Env) : clK f g ρ false = g ρ := (rfl)
/-- what comes of a suite with a name -/
def leaveS (i : Nat) : Out → Out
  | .nx ρ' => .nx (ρ'.set i none)
  | .bk ρ' => .bk (ρ'.set i none)
  | .ct ρ' => .ct (ρ'.set i none)
  | o => o
@[simp] theorem leaveS_rt (i : Nat) (d : D) : leaveS i (.rt d) = .rt d := (rfl)
@[simp] theorem leaveS_nx (i : Nat) (ρ : Env) : leaveS i (.nx ρ) = .nx (ρ.set i none) := (rfl)
section
variable (C : Nat → List D → R D) (ρ : Env) (a b e : E) (c c' i : Nat) (x : Str) (s h su more : S) (f : D)
theorem x_raise : exS C (.raise c .nil) ρ = .exc c (.dict []) ρ := (rfl)
theorem x_raiseX : exS C (.raiseX c x e) ρ = (evE C e ρ).out ρ fun d => .exc c (.dict [(.str x, d)]) ρ := (rfl)
theorem x_setidx : exS C (.setidx i a e) ρ = (evE C e ρ).out ρ fun d => (getL ρ i).out ρ fun xs => (evE C a ρ).out ρ fun n => setF i xs d n ρ := (rfl)
theorem x_try : exS C (.try s h) ρ = tryK (exH C h) (exS C s ρ) := by
  simp only [exS]
  cases exS C s ρ <;> rfl
theorem h_none : exH C (.hcons c none su more) c' f ρ = clK (fun ρ => (exS C su ρ).calm) (exH C more c' f) ρ (takesC c c') := by
  simp only [exH]
  cases takesC c c' <;> rfl
theorem h_some : exH C (.hcons c (some i) su more) c' f ρ = clK (fun ρ => leaveS i (exS C su (ρ.set i (some (excD c' f)))).calm) (exH C more c' f) ρ (takesC c c') := by
  simp only [exH]
  cases takesC c c'
  · rfl
  · show (match (exS C su (ρ.set i (some (excD c' f)))).calm with
        | .nx ρ' => .nx (ρ'.set i none)
        | .bk ρ' => .bk (ρ'.set i none)
        | .ct ρ' => .ct (ρ'.set i none)
        | o => o) = leaveS i _
    cases (exS C su (ρ.set i (some (excD c' f)))).calm <;> rfl
theorem h_nil : exH C .nil c' f ρ = .exc c' f ρ := (rfl)
theorem e_slf : evE C (.slf a b) ρ = (evE C a ρ).bind fun x => (evE C b ρ).bind fun l => (partR l).bind fun i => cutR x (some i) none := (rfl)
theorem e_slt : evE C (.slt a b) ρ = (evE C a ρ).bind fun x => (evE C b ρ).bind fun l => (partR l).bind fun i => cutR x none (some i) := (rfl)
theorem e_slb : evE C (.slb a b e) ρ = (evE C a ρ).bind fun x => (evE C b ρ).bind fun l => (partR l).bind fun i => (evE C e ρ).bind fun h => (partR h).bind fun j => cutR x (some i) (some j) := (rfl)
theorem e_exf : evE C (.exf x a) ρ = (evE C a ρ).bind (exfR x) := (rfl)
end
@[simp] theorem part_i (i : Int) : partR (.int i) = ok i := (rfl)
theorem excNo_x (c : Nat) (f : D) : excNo (excD c f) = some c := by
  show (if (0 : Int) ≤ (c : Int) then some (c : Int).toNat else none) = _
  rw [if_pos (by omega)]; rfl
@[simp] theorem isi_x (c c' : Nat) (f : D) : isiR (.exc c) (excD c' f) = ok (takesC c c') := by simp only [isiR, excNo_x]
@[simp] theorem isi_v (c' : Nat) (f : D) : isiR .valueError (excD c' f) = ok true := by simp only [isiR, excNo_x]
theorem cut_from {α : Type} (xs : List α) (k : Nat) : cutL xs (some (k : Int)) none = xs.drop k := by
  unfold cutL
  rw [HT.sIx_nat, HT.sIx_none]
  by_cases h : k ≤ xs.length
  · rw [Nat.min_eq_left h]
    exact List.take_of_length_le (by simp)
  · rw [Nat.min_eq_right (by omega), List.drop_length, List.drop_eq_nil_of_le (by omega)]
    simp
theorem cut_to {α : Type} (xs : List α) (k : Nat) : cutL xs none (some (k : Int)) = xs.take k := by
  unfold cutL
  rw [HT.sIx_nat, HT.sIx_none]
  simp only [List.drop_zero, Nat.sub_zero]
  by_cases h : k ≤ xs.length
  · rw [Nat.min_eq_left h]
  · rw [Nat.min_eq_right (by omega), List.take_length, List.take_of_length_le (by omega)]
theorem cut1 {α : Type} (xs : List α) : cutL xs (some 1) none = xs.drop 1 := cut_from xs 1
@[simp] theorem cutR_l (xs : List D) (lo hi : Option Int) : cutR (.list xs) lo hi = ok (.list (cutL xs lo hi)) := (rfl)
@[simp] theorem cutR_t (xs : List D) (lo hi : Option Int) : cutR (.tuple xs) lo hi = ok (.tuple (cutL xs lo hi)) := (rfl)
@[simp] theorem setO_some (ρ : Env) : setO (some ρ) = .nx ρ := (rfl)
@[simp] theorem getS_0 (o : Option D) (ρ : Env) : getS (o :: ρ) 0 = (match o with | some d => ok d | none => stuck) := by cases o <;> rfl
@[simp] theorem getS_s (o : Option D) (ρ : Env) (n : Nat) : getS (o :: ρ) (n + 1) = getS ρ n := (rfl)
theorem x_cons_nx {C : Nat → List D → R D} {s u : S} {ρ ρ' : Env} (h : exS C s ρ = .nx ρ') : exS C (.cons s u) ρ = exS C u ρ' := by rw [x_cons, h]; rfl
theorem x_cons_rt {C : Nat → List D → R D} {s u : S} {ρ : Env} {d : D} (h : exS C s ρ = .rt d) : exS C (.cons s u) ρ = .rt d := by rw [x_cons, h]; rfl
theorem x_ite_t {C : Nat → List D → R D} {c : E} {s u : S} {ρ : Env} (h : (evE C c ρ).bind Pyr.truthy = ok true) : exS C (.ite c s u) ρ = exS C s ρ := by rw [x_ite, h]; rfl
theorem x_ite_f {C : Nat → List D → R D} {c : E} {s u : S} {ρ : Env} (h : (evE C c ρ).bind Pyr.truthy = ok false) : exS C (.ite c s u) ρ = exS C u ρ := by rw [x_ite, h]; rfl
/-- what a body gives to a call -/
def ofOut : Out → R D
  | .rt v => ok v
  | .nx _ => ok .none
  | .exc c f _ => exc c f
  | _ => stuck
theorem run_at {ds : List Def} {f np ns : Nat} {b : S} (h : ds[f]? = some ⟨np, ns, b⟩) (n : Nat) (args : List D) (hl : args.length = np) : callF ds (n + 1) f args = ofOut (exS (callF ds n) b (args.map some ++ List.replicate (ns - np) none)) := by
  rw [callF_at h]
  simp only [runD, hl, if_true]
  cases exS (callF ds n) b (args.map some ++ List.replicate (ns - np) none) <;> rfl
@[simp] theorem ofOut_rt (v : D) : ofOut (.rt v) = ok v := (rfl)
@[simp] theorem ofOut_nx (ρ : Env) : ofOut (.nx ρ) = ok .none := (rfl)
@[simp] theorem ofOut_exc (c : Nat) (f : D) (ρ : Env) : ofOut (.exc c f ρ) = exc c f := (rfl)
@[simp] theorem out_rt_seq (r : R D) (ρ : Env) (f : Env → Out) : (r.out ρ Out.rt).seq f = r.out ρ Out.rt := by cases r <;> rfl
@[simp] theorem ofOut_out_rt (r : R D) (ρ : Env) : ofOut (r.out ρ Out.rt) = r := by cases r <;> rfl
end Pyr

namespace B
open PySem Pyr
def w_round : Str := "round"
def w_put : Str := "put"
def w_77_79_83_84_95_80_76_65_67_69_83 : Str := "MOST_PLACES"
def w_place : Str := "place"
def w_next : Str := "next"
def w_nought : Str := "nought"
def w_77_79_83_84_95_80_65_82_84_83 : Str := "MOST_PARTS"
def places_put_L0 (f_places_of : Nat) : S := (.cons (.set 5 (.call f_places_of (.cons (.var 4) (.cons (.var 1) .nil)))) (.cons (.ite (.or (.cmp .is (.var 5) (.cst .none)) (.and (.cmp .isnot (.var 3) (.cst .none)) (.cmp .ne (.idx (.var 5) (.cst (.int 0))) (.var 3)))) (.cons (.ret (.cst .none)) .nil) .nil) (.cons (.unpack [3, 1] (.var 5)) .nil)))
def is_within : Def := ⟨3, 3, (.cons (.ret (.and (.isi .int (.var 0)) (.and (.not (.isi .bool (.var 0))) (.chain .le .le (.var 1) (.var 0) (.var 2))))) .nil)⟩
def places_of (f_is_within : Nat) (f_places_put : Nat) (f_places_round : Nat) : Def := ⟨2, 2, (.cons (.ite (.or (.cmp .eq (.var 1) (.cst (.int 0))) (.or (.not (.isi .tuple (.var 0))) (.or (.not (.var 0)) (.not (.isi .str (.idx (.var 0) (.cst (.int 0)))))))) (.cons (.ret (.cst .none)) .nil) .nil) (.cons (.ite (.and (.cmp .eq (.idx (.var 0) (.cst (.int 0))) (.cst (.str w_nought))) (.and (.cmp .eq (.f1 .len (.var 0)) (.cst (.int 2))) (.call f_is_within (.cons (.idx (.var 0) (.cst (.int 1))) (.cons (.cst (.int 0)) (.cons (.glob w_77_79_83_84_95_80_76_65_67_69_83 (.int 4)) .nil)))))) (.cons (.ret (.tup (.cons (.idx (.var 0) (.cst (.int 1))) (.cons (.bin .sub (.var 1) (.cst (.int 1))) .nil)))) .nil) .nil) (.cons (.ite (.cmp .eq (.var 0) (.tup (.cons (.cst (.str w_next)) .nil))) (.cons (.ret (.tup (.cons (.cst (.int 1)) (.cons (.bin .sub (.var 1) (.cst (.int 1))) .nil)))) .nil) .nil) (.cons (.ite (.and (.cmp .eq (.idx (.var 0) (.cst (.int 0))) (.cst (.str w_place))) (.and (.cmp .eq (.f1 .len (.var 0)) (.cst (.int 3))) (.call f_is_within (.cons (.idx (.var 0) (.cst (.int 1))) (.cons (.cst (.int 1)) (.cons (.glob w_77_79_83_84_95_80_76_65_67_69_83 (.int 4)) .nil)))))) (.cons (.ret (.ife (.call f_is_within (.cons (.idx (.var 0) (.cst (.int 2))) (.cons (.cst (.int 0)) (.cons (.bin .sub (.idx (.var 0) (.cst (.int 1))) (.cst (.int 1))) .nil)))) (.tup (.cons (.idx (.var 0) (.cst (.int 1))) (.cons (.bin .sub (.var 1) (.cst (.int 1))) .nil))) (.cst .none))) .nil) .nil) (.cons (.ite (.and (.cmp .eq (.idx (.var 0) (.cst (.int 0))) (.cst (.str w_put))) (.and (.cmp .eq (.f1 .len (.var 0)) (.cst (.int 3))) (.isi .tuple (.idx (.var 0) (.cst (.int 2)))))) (.cons (.ret (.call f_places_put (.cons (.var 0) (.cons (.bin .sub (.var 1) (.cst (.int 1))) .nil)))) .nil) .nil) (.cons (.ite (.and (.cmp .eq (.idx (.var 0) (.cst (.int 0))) (.cst (.str w_round))) (.cmp .eq (.f1 .len (.var 0)) (.cst (.int 3)))) (.cons (.ret (.call f_places_round (.cons (.var 0) (.cons (.bin .sub (.var 1) (.cst (.int 1))) .nil)))) .nil) .nil) (.cons (.ret (.cst .none)) .nil)))))))⟩
def places_put (f_places_of : Nat) : Def := ⟨2, 6, (.cons (.set 2 (.call f_places_of (.cons (.idx (.var 0) (.cst (.int 1))) (.cons (.var 1) .nil)))) (.cons (.ite (.or (.cmp .is (.var 2) (.cst .none)) (.or (.cmp .eq (.idx (.var 2) (.cst (.int 0))) (.cst (.int 0))) (.cmp .ne (.idx (.var 2) (.cst (.int 0))) (.f1 .len (.idx (.var 0) (.cst (.int 2))))))) (.cons (.ret (.cst .none)) .nil) .nil) (.cons (.set 1 (.idx (.var 2) (.cst (.int 1)))) (.cons (.set 3 (.cst .none)) (.cons (.for (.one 4) (.idx (.var 0) (.cst (.int 2))) (places_put_L0 f_places_of)) (.cons (.ret (.tup (.cons (.var 3) (.cons (.var 1) .nil)))) .nil))))))⟩
def places_round (f_places_of : Nat) : Def := ⟨2, 4, (.cons (.set 2 (.call f_places_of (.cons (.idx (.var 0) (.cst (.int 1))) (.cons (.var 1) .nil)))) (.cons (.ite (.or (.cmp .is (.var 2) (.cst .none)) (.cmp .ge (.idx (.var 2) (.cst (.int 0))) (.glob w_77_79_83_84_95_80_76_65_67_69_83 (.int 4)))) (.cons (.ret (.cst .none)) .nil) .nil) (.cons (.set 3 (.call f_places_of (.cons (.idx (.var 0) (.cst (.int 2))) (.cons (.idx (.var 2) (.cst (.int 1))) .nil)))) (.cons (.ite (.or (.cmp .is (.var 3) (.cst .none)) (.cmp .ne (.idx (.var 3) (.cst (.int 0))) (.bin .add (.idx (.var 2) (.cst (.int 0))) (.cst (.int 2))))) (.cons (.ret (.cst .none)) .nil) .nil) (.cons (.ret (.tup (.cons (.bin .add (.idx (.var 2) (.cst (.int 0))) (.cst (.int 1))) (.cons (.idx (.var 3) (.cst (.int 1))) .nil)))) .nil)))))⟩
def is_term (f_places_of : Nat) : Def := ⟨1, 1, (.cons (.ret (.cmp .isnot (.call f_places_of (.cons (.var 0) (.cons (.glob w_77_79_83_84_95_80_65_82_84_83 (.int 60)) .nil))) (.cst .none))) .nil)⟩
def checked (f_is_term : Nat) (rs : S) : Def := ⟨1, 1, (.cons (.ite (.not (.call f_is_term (.cons (.var 0) .nil))) (.cons rs .nil) .nil) (.cons (.ret (.var 0)) .nil))⟩
def arity (f_places_of : Nat) (f_checked : Nat) : Def := ⟨1, 1, (.cons (.ret (.idx (.call f_places_of (.cons (.call f_checked (.cons (.var 0) .nil)) (.cons (.glob w_77_79_83_84_95_80_65_82_84_83 (.int 60)) .nil))) (.cst (.int 0)))) .nil)⟩
def size (f_places_of : Nat) (f_checked : Nat) : Def := ⟨1, 1, (.cons (.ret (.bin .sub (.glob w_77_79_83_84_95_80_65_82_84_83 (.int 60)) (.idx (.call f_places_of (.cons (.call f_checked (.cons (.var 0) .nil)) (.cons (.glob w_77_79_83_84_95_80_65_82_84_83 (.int 60)) .nil))) (.cst (.int 1))))) .nil)⟩
end B
namespace Pyr
open PySem B
open R (ok exc stuck)
/-! # Functions as data -/
inductive Tm where
  | next
  | nought (n : Nat)
  | place (n k : Nat)
  | put (o : Tm) (is : List Tm)
  | round (a b : Tm)
mutual
def Tm.d : Tm → D
  | .next => .tuple [.str w_next]
  | .nought n => .tuple [.str w_nought, .int n]
  | .place n k => .tuple [.str w_place, .int n, .int k]
  | .put o is => .tuple [.str w_put, o.d, .tuple (Tm.ds is)]
  | .round a b => .tuple [.str w_round, a.d, b.d]
def Tm.ds : List Tm → List D
  | [] => []
  | t :: ts => t.d :: Tm.ds ts
end
mutual
def Tm.sz : Tm → Nat
  | .put o is => 1 + o.sz + Tm.szs is
  | .round a b => 1 + a.sz + b.sz
  | _ => 1
def Tm.szs : List Tm → Nat
  | [] => 0
  | t :: ts => t.sz + Tm.szs ts
end
mutual
/-- how deep -/
def Tm.dp : Tm → Nat
  | .put o is => 1 + max o.dp (Tm.dps is)
  | .round a b => 1 + max a.dp b.dp
  | _ => 0
def Tm.dps : List Tm → Nat
  | [] => 0
  | t :: ts => max t.dp (Tm.dps ts)
end
def Tm.ar : Tm → Nat
  | .next => 1
  | .nought n => n
  | .place n _ => n
  | .put _ [] => 0
  | .put _ (t :: _) => t.ar
  | .round a _ => a.ar + 1
mutual
def Tm.wf : Tm → Prop
  | .next => True
  | .nought n => n ≤ 4
  | .place n k => n ≤ 4 ∧ k < n
  | .put o is => o.wf ∧ is ≠ [] ∧ o.ar = is.length ∧ Tm.wfs is ∧ ∀ t ∈ is, t.ar = (Tm.put o is).ar
  | .round a b => a.wf ∧ b.wf ∧ a.ar ≤ 3 ∧ b.ar = a.ar + 2
def Tm.wfs : List Tm → Prop
  | [] => True
  | t :: ts => t.wf ∧ Tm.wfs ts
end
theorem Tm.ds_len : ∀ ts : List Tm, (Tm.ds ts).length = ts.length
  | [] => by simp only [Tm.ds, List.length_nil]
  | _ :: ts => by simp only [Tm.ds, List.length_cons, Tm.ds_len ts]
theorem Tm.sz_pos : ∀ t : Tm, 1 ≤ t.sz
  | .next => by simp [Tm.sz]
  | .nought n => by simp [Tm.sz]
  | .place n k => by simp [Tm.sz]
  | .put o is => by simp only [Tm.sz]; omega
  | .round a b => by simp only [Tm.sz]; omega
theorem Tm.tup (t : Tm) : ∃ w r, t.d = .tuple (.str w :: r) := by
  cases t <;> simp only [Tm.d] <;> exact ⟨_, _, rfl⟩
theorem w1 : (w_next = w_nought) = False := by simp only [eq_iff_iff, iff_false]; decide
theorem w2 : (w_next = w_place) = False := by simp only [eq_iff_iff, iff_false]; decide
theorem w3 : (w_next = w_put) = False := by simp only [eq_iff_iff, iff_false]; decide
theorem w4 : (w_next = w_round) = False := by simp only [eq_iff_iff, iff_false]; decide
theorem w5 : (w_nought = w_next) = False := by simp only [eq_iff_iff, iff_false]; decide
theorem w6 : (w_nought = w_place) = False := by simp only [eq_iff_iff, iff_false]; decide
theorem w7 : (w_nought = w_put) = False := by simp only [eq_iff_iff, iff_false]; decide
theorem w8 : (w_nought = w_round) = False := by simp only [eq_iff_iff, iff_false]; decide
theorem w9 : (w_place = w_next) = False := by simp only [eq_iff_iff, iff_false]; decide
theorem w10 : (w_place = w_nought) = False := by simp only [eq_iff_iff, iff_false]; decide
theorem w11 : (w_place = w_put) = False := by simp only [eq_iff_iff, iff_false]; decide
theorem w12 : (w_place = w_round) = False := by simp only [eq_iff_iff, iff_false]; decide
theorem w13 : (w_put = w_next) = False := by simp only [eq_iff_iff, iff_false]; decide
theorem w14 : (w_put = w_nought) = False := by simp only [eq_iff_iff, iff_false]; decide
theorem w15 : (w_put = w_place) = False := by simp only [eq_iff_iff, iff_false]; decide
theorem w16 : (w_put = w_round) = False := by simp only [eq_iff_iff, iff_false]; decide
theorem w17 : (w_round = w_next) = False := by simp only [eq_iff_iff, iff_false]; decide
theorem w18 : (w_round = w_nought) = False := by simp only [eq_iff_iff, iff_false]; decide
theorem w19 : (w_round = w_place) = False := by simp only [eq_iff_iff, iff_false]; decide
theorem w20 : (w_round = w_put) = False := by simp only [eq_iff_iff, iff_false]; decide
section
variable {ds : List Def} {iw po pp pr : Nat} (hiw : ds[iw]? = some is_within) (hpo : ds[po]? = some (places_of iw pp pr)) (hpp : ds[pp]? = some (places_put po)) (hpr : ds[pr]? = some (places_round po))
include hiw in
theorem is_within_ok (n : Nat) (i lo hi : Int) : callF ds (n + 1) iw [.int i, .int lo, .int hi] = ok (.bool (decide (lo ≤ i) && decide (i ≤ hi))) := by
  rw [run_at hiw n _ rfl]
  simp [x_raise, x_raiseX, x_try, h_none, h_some, h_nil, e_slf, e_slt, e_slb, e_exf, x_nil, x_cons, x_doc, x_pass, x_brk, x_cont, x_set, x_unpack, x_par, x_app, x_ext, x_aug, x_expr, x_ite, x_ret, e_nil, e_var, e_cst, e_glob, e_tup, e_lst, e_call, e_bin, e_neg, e_not, e_cmp, e_chain, e_and, e_or, e_ife, e_f1, e_isi, e_idx, es_nil, es_cons]
  by_cases h : lo ≤ i <;> simp [h, e_var]
/-- what places_of tells of a function, with so many parts left -/
def found (t : Tm) (left : Nat) : D := if t.sz ≤ left then .tuple [.int t.ar, .int ((left - t.sz : Nat) : Int)] else .none
include hpo in
theorem places_zero (n : Nat) (t : Tm) : callF ds (n + 1) po [t.d, .int 0] = ok (found t 0) := by
  rw [run_at hpo _ _ rfl]
  have := t.sz_pos
  have h : ¬ t.sz ≤ 0 := by omega
  simp [x_raise, x_raiseX, x_try, h_none, h_some, h_nil, e_slf, e_slt, e_slb, e_exf, x_nil, x_cons, x_doc, x_pass, x_brk, x_cont, x_set, x_unpack, x_par, x_app, x_ext, x_aug, x_expr, x_ite, x_ret, e_nil, e_var, e_cst, e_glob, e_tup, e_lst, e_call, e_bin, e_neg, e_not, e_cmp, e_chain, e_and, e_or, e_ife, e_f1, e_isi, e_idx, es_nil, es_cons, found, h]
include hpo in
theorem places_next (n left : Nat) (h : left ≠ 0) : callF ds (n + 1) po [Tm.next.d, .int left] = ok (found .next left) := by
  rw [run_at hpo _ _ rfl]
  have h1 : 1 ≤ left := by omega
  have h2 : (left : Int) - 1 = ((left - 1 : Nat) : Int) := by omega
  simp [x_raise, x_raiseX, x_try, h_none, h_some, h_nil, e_slf, e_slt, e_slb, e_exf, x_nil, x_cons, x_doc, x_pass, x_brk, x_cont, x_set, x_unpack, x_par, x_app, x_ext, x_aug, x_expr, x_ite, x_ret, e_nil, e_var, e_cst, e_glob, e_tup, e_lst, e_call, e_bin, e_neg, e_not, e_cmp, e_chain, e_and, e_or, e_ife, e_f1, e_isi, e_idx, es_nil, es_cons, Tm.d, h, h1, h2, w1, w2, w3, w4, w5, w6, w7, w8, w9, w10, w11, w12, w13, w14, w15, w16, w17, w18, w19, w20, found, Tm.sz, Tm.ar, eqR_d, PyData.depth, PyData.depthAll]
include hiw hpo in
theorem places_nought (n left m : Nat) (h : left ≠ 0) (hm : m ≤ 4) : callF ds (n + 2) po [(Tm.nought m).d, .int left] = ok (found (.nought m) left) := by
  rw [run_at hpo _ _ rfl]
  have h1 : 1 ≤ left := by omega
  have h2 : (left : Int) - 1 = ((left - 1 : Nat) : Int) := by omega
  have h3 : (m : Int) ≤ 4 := by omega
  simp [x_raise, x_raiseX, x_try, h_none, h_some, h_nil, e_slf, e_slt, e_slb, e_exf, x_nil, x_cons, x_doc, x_pass, x_brk, x_cont, x_set, x_unpack, x_par, x_app, x_ext, x_aug, x_expr, x_ite, x_ret, e_nil, e_var, e_cst, e_glob, e_tup, e_lst, e_call, e_bin, e_neg, e_not, e_cmp, e_chain, e_and, e_or, e_ife, e_f1, e_isi, e_idx, es_nil, es_cons, Tm.d, h, h1, h2, h3, w1, w2, w3, w4, w5, w6, w7, w8, w9, w10, w11, w12, w13, w14, w15, w16, w17, w18, w19, w20, found, Tm.sz, Tm.ar, is_within_ok hiw]
include hiw hpo in
theorem places_place (n left m k : Nat) (h : left ≠ 0) (hm : m ≤ 4) (hk : k < m) : callF ds (n + 2) po [(Tm.place m k).d, .int left] = ok (found (.place m k) left) := by
  rw [run_at hpo _ _ rfl]
  have h1 : 1 ≤ left := by omega
  have h2 : (left : Int) - 1 = ((left - 1 : Nat) : Int) := by omega
  have h3 : (m : Int) ≤ 4 := by omega
  have h4 : (1 : Int) ≤ m := by omega
  have h5 : (k : Int) ≤ (m : Int) - 1 := by omega
  simp [x_raise, x_raiseX, x_try, h_none, h_some, h_nil, e_slf, e_slt, e_slb, e_exf, x_nil, x_cons, x_doc, x_pass, x_brk, x_cont, x_set, x_unpack, x_par, x_app, x_ext, x_aug, x_expr, x_ite, x_ret, e_nil, e_var, e_cst, e_glob, e_tup, e_lst, e_call, e_bin, e_neg, e_not, e_cmp, e_chain, e_and, e_or, e_ife, e_f1, e_isi, e_idx, es_nil, es_cons, Tm.d, h, h1, h2, h3, h4, h5, w1, w2, w3, w4, w5, w6, w7, w8, w9, w10, w11, w12, w13, w14, w15, w16, w17, w18, w19, w20, found, Tm.sz, Tm.ar, is_within_ok hiw, eqR_d, PyData.depth, PyData.depthAll]
include hpo in
theorem places_put_call (n left : Nat) (o : Tm) (is : List Tm) (h : left ≠ 0) : callF ds (n + 1) po [(Tm.put o is).d, .int left] = callF ds n pp [(Tm.put o is).d, .int ((left - 1 : Nat) : Int)] := by
  rw [run_at hpo _ _ rfl]
  have h2 : (left : Int) - 1 = ((left - 1 : Nat) : Int) := by omega
  simp [x_raise, x_raiseX, x_try, h_none, h_some, h_nil, e_slf, e_slt, e_slb, e_exf, x_nil, x_cons, x_doc, x_pass, x_brk, x_cont, x_set, x_unpack, x_par, x_app, x_ext, x_aug, x_expr, x_ite, x_ret, e_nil, e_var, e_cst, e_glob, e_tup, e_lst, e_call, e_bin, e_neg, e_not, e_cmp, e_chain, e_and, e_or, e_ife, e_f1, e_isi, e_idx, es_nil, es_cons, Tm.d, h, h2, w1, w2, w3, w4, w5, w6, w7, w8, w9, w10, w11, w12, w13, w14, w15, w16, w17, w18, w19, w20, eqR_d, PyData.depth, PyData.depthAll]
include hpo in
theorem places_round_call (n left : Nat) (a b : Tm) (h : left ≠ 0) : callF ds (n + 1) po [(Tm.round a b).d, .int left] = callF ds n pr [(Tm.round a b).d, .int ((left - 1 : Nat) : Int)] := by
  rw [run_at hpo _ _ rfl]
  have h2 : (left : Int) - 1 = ((left - 1 : Nat) : Int) := by omega
  simp [x_raise, x_raiseX, x_try, h_none, h_some, h_nil, e_slf, e_slt, e_slb, e_exf, x_nil, x_cons, x_doc, x_pass, x_brk, x_cont, x_set, x_unpack, x_par, x_app, x_ext, x_aug, x_expr, x_ite, x_ret, e_nil, e_var, e_cst, e_glob, e_tup, e_lst, e_call, e_bin, e_neg, e_not, e_cmp, e_chain, e_and, e_or, e_ife, e_f1, e_isi, e_idx, es_nil, es_cons, Tm.d, h, h2, w1, w2, w3, w4, w5, w6, w7, w8, w9, w10, w11, w12, w13, w14, w15, w16, w17, w18, w19, w20, eqR_d, PyData.depth, PyData.depthAll]
/-- the loop over what is put in -/
theorem loop_put (f : Env → Out) (th o : D) (m : Nat) : ∀ (is : List Tm) (l : Nat) (many : D) (x4 x5 : Option D), (many = .none ∨ many = .int m) →
    (∀ t ∈ is, ∀ (l : Nat) (many : D) (x5 : Option D), (many = .none ∨ many = .int m) → f [some th, some (.int l), some o, some many, some t.d, x5] = if t.sz ≤ l then .nx [some th, some (.int ((l - t.sz : Nat) : Int)), some o, some (.int m), some t.d, some (found t l)] else .rt .none) →
    ∃ y4 y5, forL (stepF (.one 4) f) (Tm.ds is) [some th, some (.int l), some o, some many, x4, x5] = if Tm.szs is ≤ l then .nx [some th, some (.int ((l - Tm.szs is : Nat) : Int)), some o, some (if is.isEmpty then many else .int m), y4, y5] else .rt .none
  | [], l, many, x4, x5, hm, hf => ⟨x4, x5, by simp [Tm.ds, Tm.szs, forL]⟩
  | t :: is, l, many, x4, x5, hm, hf => by
    have e1 := hf t List.mem_cons_self l many x5 hm
    simp only [Tm.ds, forL, stepF, setTg, List.set]
    rw [e1]
    by_cases h : t.sz ≤ l
    · rw [if_pos h]
      obtain ⟨y4, y5, e2⟩ := loop_put f th o m is (l - t.sz) (.int m) (some t.d) (some (found t l)) (.inr rfl) fun t' ht => hf t' (List.mem_cons_of_mem _ ht)
      refine ⟨y4, y5, ?_⟩
      dsimp only
      rw [e2]
      have hs : Tm.szs (t :: is) = t.sz + Tm.szs is := by simp only [Tm.szs]
      by_cases h2 : Tm.szs (t :: is) ≤ l
      · have h3 : Tm.szs is ≤ l - t.sz := by omega
        have h4 : l - t.sz - Tm.szs is = l - Tm.szs (t :: is) := by omega
        rw [if_pos h3, if_pos h2, h4]
        cases is <;> simp
      · have h3 : ¬ Tm.szs is ≤ l - t.sz := by omega
        rw [if_neg h3, if_neg h2]
    · rw [if_neg h]
      have h2 : ¬ Tm.szs (t :: is) ≤ l := by simp only [Tm.szs]; omega
      refine ⟨none, none, ?_⟩
      rw [if_neg h2]
theorem found_cases (t : Tm) (l : Nat) : (t.sz ≤ l ∧ found t l = .tuple [.int t.ar, .int ((l - t.sz : Nat) : Int)]) ∨ (¬ t.sz ≤ l ∧ found t l = .none) := by
  by_cases h : t.sz ≤ l
  · exact .inl ⟨h, if_pos h⟩
  · exact .inr ⟨h, if_neg h⟩
include hpp in
theorem places_put_ok (n left : Nat) (o : Tm) (is : List Tm) (m : Nat) (ho : callF ds n po [o.d, .int left] = ok (found o left)) (hf : ∀ t ∈ is, ∀ l : Nat, callF ds n po [t.d, .int l] = ok (found t l)) (h1 : o.ar = is.length) (h2 : is ≠ []) (h3 : ∀ t ∈ is, t.ar = m) :
    callF ds (n + 1) pp [(Tm.put o is).d, .int left] = ok (if o.sz + Tm.szs is ≤ left then .tuple [.int m, .int ((left - (o.sz + Tm.szs is) : Nat) : Int)] else .none) := by
  rw [run_at hpp _ _ rfl]
  have hl : (Tm.ds is).length = is.length := Tm.ds_len is
  have h0 : ¬ o.ar = 0 := by
    rw [h1]
    intro z
    exact h2 (List.length_eq_zero_iff.mp z)
  rcases found_cases o left with ⟨c, e⟩ | ⟨c, e⟩
  · rw [e] at ho
    have h1' : (Tm.ds is).length = o.ar := by rw [hl, h1]
    simp [x_raise, x_raiseX, x_try, h_none, h_some, h_nil, e_slf, e_slt, e_slb, e_exf, x_nil, x_cons, x_doc, x_pass, x_brk, x_cont, x_set, x_unpack, x_par, x_app, x_ext, x_aug, x_expr, x_ite, x_ret, e_nil, e_var, e_cst, e_glob, e_tup, e_lst, e_call, e_bin, e_neg, e_not, e_cmp, e_chain, e_and, e_or, e_ife, e_f1, e_isi, e_idx, es_nil, es_cons, Tm.d, ho, h0, h1', x_for, w1, w2, w3, w4, w5, w6, w7, w8, w9, w10, w11, w12, w13, w14, w15, w16, w17, w18, w19, w20]
    obtain ⟨y4, y5, e2⟩ := loop_put (fun ρ => exS (callF ds n) (places_put_L0 po) ρ) (.tuple [.str w_put, o.d, .tuple (Tm.ds is)]) (.tuple [.int o.ar, .int ((left - o.sz : Nat) : Int)]) m is (left - o.sz) .none none none (.inl rfl) (fun t ht l many x5 hm => by
      have hc := hf t ht l
      have ha := h3 t ht
      rcases found_cases t l with ⟨c2, e2⟩ | ⟨c2, e2⟩
      · rw [e2] at hc
        rcases hm with rfl | rfl <;> simp [x_raise, x_raiseX, x_try, h_none, h_some, h_nil, e_slf, e_slt, e_slb, e_exf, x_nil, x_cons, x_doc, x_pass, x_brk, x_cont, x_set, x_unpack, x_par, x_app, x_ext, x_aug, x_expr, x_ite, x_ret, e_nil, e_var, e_cst, e_glob, e_tup, e_lst, e_call, e_bin, e_neg, e_not, e_cmp, e_chain, e_and, e_or, e_ife, e_f1, e_isi, e_idx, es_nil, es_cons, places_put_L0, hc, c2, ha, setTg, setAll, e2]
      · rw [e2] at hc
        simp [x_raise, x_raiseX, x_try, h_none, h_some, h_nil, e_slf, e_slt, e_slb, e_exf, x_nil, x_cons, x_doc, x_pass, x_brk, x_cont, x_set, x_unpack, x_par, x_app, x_ext, x_aug, x_expr, x_ite, x_ret, e_nil, e_var, e_cst, e_glob, e_tup, e_lst, e_call, e_bin, e_neg, e_not, e_cmp, e_chain, e_and, e_or, e_ife, e_f1, e_isi, e_idx, es_nil, es_cons, places_put_L0, hc, c2])
    rw [e2]
    have hs : (left - o.sz) - Tm.szs is = left - (o.sz + Tm.szs is) := by omega
    by_cases c3 : o.sz + Tm.szs is ≤ left
    · have c4 : Tm.szs is ≤ left - o.sz := by omega
      have c5 : is.isEmpty = false := by cases is <;> first | rfl | exact absurd rfl h2
      simp [x_raise, x_raiseX, x_try, h_none, h_some, h_nil, e_slf, e_slt, e_slb, e_exf, x_nil, x_cons, x_doc, x_pass, x_brk, x_cont, x_set, x_unpack, x_par, x_app, x_ext, x_aug, x_expr, x_ite, x_ret, e_nil, e_var, e_cst, e_glob, e_tup, e_lst, e_call, e_bin, e_neg, e_not, e_cmp, e_chain, e_and, e_or, e_ife, e_f1, e_isi, e_idx, es_nil, es_cons, c3, c4, c5, hs]
    · have c4 : ¬ Tm.szs is ≤ left - o.sz := by omega
      simp [x_raise, x_raiseX, x_try, h_none, h_some, h_nil, e_slf, e_slt, e_slb, e_exf, x_nil, x_cons, x_doc, x_pass, x_brk, x_cont, x_set, x_unpack, x_par, x_app, x_ext, x_aug, x_expr, x_ite, x_ret, e_nil, e_var, e_cst, e_glob, e_tup, e_lst, e_call, e_bin, e_neg, e_not, e_cmp, e_chain, e_and, e_or, e_ife, e_f1, e_isi, e_idx, es_nil, es_cons, c3, c4]
  · have h4 : ¬ o.sz + Tm.szs is ≤ left := by omega
    rw [e] at ho
    simp [x_raise, x_raiseX, x_try, h_none, h_some, h_nil, e_slf, e_slt, e_slb, e_exf, x_nil, x_cons, x_doc, x_pass, x_brk, x_cont, x_set, x_unpack, x_par, x_app, x_ext, x_aug, x_expr, x_ite, x_ret, e_nil, e_var, e_cst, e_glob, e_tup, e_lst, e_call, e_bin, e_neg, e_not, e_cmp, e_chain, e_and, e_or, e_ife, e_f1, e_isi, e_idx, es_nil, es_cons, Tm.d, ho, h4]
include hpr in
theorem places_round_ok (n left : Nat) (a b : Tm) (ha : callF ds n po [a.d, .int left] = ok (found a left)) (hb : ∀ l : Nat, callF ds n po [b.d, .int l] = ok (found b l)) (h1 : a.ar ≤ 3) (h2 : b.ar = a.ar + 2) :
    callF ds (n + 1) pr [(Tm.round a b).d, .int left] = ok (if a.sz + b.sz ≤ left then .tuple [.int (a.ar + 1 : Nat), .int ((left - (a.sz + b.sz) : Nat) : Int)] else .none) := by
  rw [run_at hpr _ _ rfl]
  have h3 : ¬ (4 : Int) ≤ a.ar := by omega
  have h4 : ((b.ar : Nat) : Int) = (a.ar : Int) + 2 := by omega
  rcases found_cases a left with ⟨c, e⟩ | ⟨c, e⟩
  · rw [e] at ha
    have hb := hb (left - a.sz)
    rcases found_cases b (left - a.sz) with ⟨c2, e2⟩ | ⟨c2, e2⟩
    · rw [e2] at hb
      have c3 : a.sz + b.sz ≤ left := by omega
      have hs : (left - a.sz) - b.sz = left - (a.sz + b.sz) := by omega
      simp [x_raise, x_raiseX, x_try, h_none, h_some, h_nil, e_slf, e_slt, e_slb, e_exf, x_nil, x_cons, x_doc, x_pass, x_brk, x_cont, x_set, x_unpack, x_par, x_app, x_ext, x_aug, x_expr, x_ite, x_ret, e_nil, e_var, e_cst, e_glob, e_tup, e_lst, e_call, e_bin, e_neg, e_not, e_cmp, e_chain, e_and, e_or, e_ife, e_f1, e_isi, e_idx, es_nil, es_cons, Tm.d, ha, hb, h3, h4, c3, hs, w1, w2, w3, w4, w5, w6, w7, w8, w9, w10, w11, w12, w13, w14, w15, w16, w17, w18, w19, w20]
    · rw [e2] at hb
      have c3 : ¬ a.sz + b.sz ≤ left := by omega
      simp [x_raise, x_raiseX, x_try, h_none, h_some, h_nil, e_slf, e_slt, e_slb, e_exf, x_nil, x_cons, x_doc, x_pass, x_brk, x_cont, x_set, x_unpack, x_par, x_app, x_ext, x_aug, x_expr, x_ite, x_ret, e_nil, e_var, e_cst, e_glob, e_tup, e_lst, e_call, e_bin, e_neg, e_not, e_cmp, e_chain, e_and, e_or, e_ife, e_f1, e_isi, e_idx, es_nil, es_cons, Tm.d, ha, hb, h3, h4, c3, w1, w2, w3, w4, w5, w6, w7, w8, w9, w10, w11, w12, w13, w14, w15, w16, w17, w18, w19, w20]
  · rw [e] at ha
    have c3 : ¬ a.sz + b.sz ≤ left := by omega
    simp [x_raise, x_raiseX, x_try, h_none, h_some, h_nil, e_slf, e_slt, e_slb, e_exf, x_nil, x_cons, x_doc, x_pass, x_brk, x_cont, x_set, x_unpack, x_par, x_app, x_ext, x_aug, x_expr, x_ite, x_ret, e_nil, e_var, e_cst, e_glob, e_tup, e_lst, e_call, e_bin, e_neg, e_not, e_cmp, e_chain, e_and, e_or, e_ife, e_f1, e_isi, e_idx, es_nil, es_cons, Tm.d, ha, c3]
theorem Tm.dp_of {is : List Tm} {t : Tm} (h : t ∈ is) : t.dp ≤ Tm.dps is := by
  induction is with
  | nil => cases h
  | cons a is ih =>
    have : Tm.dps (a :: is) = max a.dp (Tm.dps is) := by simp only [Tm.dps]
    rw [this]
    rcases List.mem_cons.mp h with rfl | h
    · exact Nat.le_max_left _ _
    · exact Nat.le_trans (ih h) (Nat.le_max_right _ _)
theorem Tm.wf_of {is : List Tm} (h : Tm.wfs is) : ∀ t ∈ is, t.wf := by
  induction is with
  | nil => exact fun _ h => nomatch h
  | cons a is ih =>
    simp only [Tm.wfs] at h
    intro t ht
    rcases List.mem_cons.mp ht with rfl | ht
    · exact h.1
    · exact ih h.2 t ht
mutual
theorem places_ok (hiw : ds[iw]? = some is_within) (hpo : ds[po]? = some (places_of iw pp pr)) (hpp : ds[pp]? = some (places_put po)) (hpr : ds[pr]? = some (places_round po)) : ∀ (t : Tm), t.wf → ∀ n left : Nat, 2 * t.dp + 2 ≤ n → callF ds n po [t.d, .int left] = ok (found t left)
  | .next, _, n + 1, left, hn => by
    by_cases h : left = 0
    · subst h; exact places_zero hpo n .next
    · exact places_next hpo n left h
  | .nought m, hw, n + 2, left, hn => by
    by_cases h : left = 0
    · subst h; exact places_zero hpo (n + 1) _
    · simp only [Tm.wf] at hw
      exact places_nought hiw hpo n left m h hw
  | .place m k, hw, n + 2, left, hn => by
    by_cases h : left = 0
    · subst h; exact places_zero hpo (n + 1) _
    · simp only [Tm.wf] at hw
      exact places_place hiw hpo n left m k h hw.1 hw.2
  | .put o is, hw, n + 2, left, hn => by
    by_cases h : left = 0
    · subst h; exact places_zero hpo (n + 1) _
    · simp only [Tm.wf] at hw
      have hd : (Tm.put o is).dp = 1 + max o.dp (Tm.dps is) := by simp only [Tm.dp]
      have hs : (Tm.put o is).sz = 1 + o.sz + Tm.szs is := by simp only [Tm.sz]
      have hm1 := Nat.le_max_left o.dp (Tm.dps is)
      have hm2 := Nat.le_max_right o.dp (Tm.dps is)
      rw [places_put_call hpo (n + 1) left o is h, places_put_ok hpp n (left - 1) o is _ (places_ok hiw hpo hpp hpr o hw.1 n (left - 1) (by omega))
        (places_all hiw hpo hpp hpr is (Tm.wf_of hw.2.2.2.1) n (by omega)) hw.2.2.1 hw.2.1 hw.2.2.2.2]
      unfold found
      by_cases c : o.sz + Tm.szs is ≤ left - 1
      · have c2 : (Tm.put o is).sz ≤ left := by omega
        have e : left - 1 - (o.sz + Tm.szs is) = left - (Tm.put o is).sz := by omega
        rw [if_pos c, if_pos c2, e]
      · have c2 : ¬ (Tm.put o is).sz ≤ left := by omega
        rw [if_neg c, if_neg c2]
  | .round a b, hw, n + 2, left, hn => by
    by_cases h : left = 0
    · subst h; exact places_zero hpo (n + 1) _
    · simp only [Tm.wf] at hw
      have hd : (Tm.round a b).dp = 1 + max a.dp b.dp := by simp only [Tm.dp]
      have hs : (Tm.round a b).sz = 1 + a.sz + b.sz := by simp only [Tm.sz]
      have hm1 := Nat.le_max_left a.dp b.dp
      have hm2 := Nat.le_max_right a.dp b.dp
      rw [places_round_call hpo (n + 1) left a b h, places_round_ok hpr n (left - 1) a b (places_ok hiw hpo hpp hpr a hw.1 n (left - 1) (by omega)) (fun l => places_ok hiw hpo hpp hpr b hw.2.1 n l (by omega)) hw.2.2.1 hw.2.2.2]
      unfold found
      have ea : (Tm.round a b).ar = a.ar + 1 := by simp only [Tm.ar]
      by_cases c : a.sz + b.sz ≤ left - 1
      · have c2 : (Tm.round a b).sz ≤ left := by omega
        have e : left - 1 - (a.sz + b.sz) = left - (Tm.round a b).sz := by omega
        rw [if_pos c, if_pos c2, e, ea]
      · have c2 : ¬ (Tm.round a b).sz ≤ left := by omega
        rw [if_neg c, if_neg c2]
  | .next, _, 0, _, hn => by omega
  | .nought _, _, 0, _, hn => by omega
  | .nought _, _, 1, _, hn => by omega
  | .place _ _, _, 0, _, hn => by omega
  | .place _ _, _, 1, _, hn => by omega
  | .put _ _, _, 0, _, hn => by omega
  | .put _ _, _, 1, _, hn => by omega
  | .round _ _, _, 0, _, hn => by omega
  | .round _ _, _, 1, _, hn => by omega
theorem places_all (hiw : ds[iw]? = some is_within) (hpo : ds[po]? = some (places_of iw pp pr)) (hpp : ds[pp]? = some (places_put po)) (hpr : ds[pr]? = some (places_round po)) : ∀ (is : List Tm), (∀ t ∈ is, t.wf) → ∀ n : Nat, 2 * Tm.dps is + 2 ≤ n → ∀ t ∈ is, ∀ l : Nat, callF ds n po [t.d, .int l] = ok (found t l)
  | [], _, _, _, _, ht => nomatch ht
  | a :: is, hw, n, hn, t, ht => fun l => by
    have hd : Tm.dps (a :: is) = max a.dp (Tm.dps is) := by simp only [Tm.dps]
    have hm1 := Nat.le_max_left a.dp (Tm.dps is)
    have hm2 := Nat.le_max_right a.dp (Tm.dps is)
    rcases List.mem_cons.mp ht with h | h
    · rw [h]; exact places_ok hiw hpo hpp hpr a (hw a List.mem_cons_self) n l (by omega)
    · exact places_all hiw hpo hpp hpr is (fun t ht => hw t (List.mem_cons_of_mem _ ht)) n (by omega) t h l
end
section
variable {te ck ar si : Nat} {rs : S} (hiw : ds[iw]? = some is_within) (hpo : ds[po]? = some (places_of iw pp pr)) (hpp : ds[pp]? = some (places_put po)) (hpr : ds[pr]? = some (places_round po))
  (hte : ds[te]? = some (is_term po)) (hck : ds[ck]? = some (checked te rs)) (har : ds[ar]? = some (arity po ck)) (hsi : ds[si]? = some (size po ck))
include hiw hpo hpp hpr hte in
theorem is_term_ok (t : Tm) (h : t.wf) (hs : t.sz ≤ 60) (n : Nat) (hn : 2 * t.dp + 3 ≤ n) : callF ds n te [t.d] = ok (.bool true) := by
  obtain ⟨n, rfl⟩ : ∃ k, n = k + 1 := ⟨n - 1, by omega⟩
  rw [run_at hte _ _ rfl]
  have e := places_ok hiw hpo hpp hpr t h n 60 (by omega)
  have e' : callF ds n po [t.d, .int 60] = ok (found t 60) := e
  simp [x_raise, x_raiseX, x_try, h_none, h_some, h_nil, e_slf, e_slt, e_slb, e_exf, x_nil, x_cons, x_doc, x_pass, x_brk, x_cont, x_set, x_unpack, x_par, x_app, x_ext, x_aug, x_expr, x_ite, x_ret, e_nil, e_var, e_cst, e_glob, e_tup, e_lst, e_call, e_bin, e_neg, e_not, e_cmp, e_chain, e_and, e_or, e_ife, e_f1, e_isi, e_idx, es_nil, es_cons, e', found, hs]
include hiw hpo hpp hpr hte hck in
theorem checked_ok (t : Tm) (h : t.wf) (hs : t.sz ≤ 60) (n : Nat) (hn : 2 * t.dp + 4 ≤ n) : callF ds n ck [t.d] = ok t.d := by
  obtain ⟨n, rfl⟩ : ∃ k, n = k + 1 := ⟨n - 1, by omega⟩
  rw [run_at hck _ _ rfl]
  have e := is_term_ok hiw hpo hpp hpr hte t h hs n (by omega)
  simp [x_raise, x_raiseX, x_try, h_none, h_some, h_nil, e_slf, e_slt, e_slb, e_exf, x_nil, x_cons, x_doc, x_pass, x_brk, x_cont, x_set, x_unpack, x_par, x_app, x_ext, x_aug, x_expr, x_ite, x_ret, e_nil, e_var, e_cst, e_glob, e_tup, e_lst, e_call, e_bin, e_neg, e_not, e_cmp, e_chain, e_and, e_or, e_ife, e_f1, e_isi, e_idx, es_nil, es_cons, e]
include hiw hpo hpp hpr hte hck har in
theorem arity_ok (t : Tm) (h : t.wf) (hs : t.sz ≤ 60) (n : Nat) (hn : 2 * t.dp + 5 ≤ n) : callF ds n ar [t.d] = ok (.int t.ar) := by
  obtain ⟨n, rfl⟩ : ∃ k, n = k + 1 := ⟨n - 1, by omega⟩
  rw [run_at har _ _ rfl]
  have e1 := checked_ok hiw hpo hpp hpr hte hck t h hs n (by omega)
  have e' : callF ds n po [t.d, .int 60] = ok (found t 60) := places_ok hiw hpo hpp hpr t h n 60 (by omega)
  simp [x_raise, x_raiseX, x_try, h_none, h_some, h_nil, e_slf, e_slt, e_slb, e_exf, x_nil, x_cons, x_doc, x_pass, x_brk, x_cont, x_set, x_unpack, x_par, x_app, x_ext, x_aug, x_expr, x_ite, x_ret, e_nil, e_var, e_cst, e_glob, e_tup, e_lst, e_call, e_bin, e_neg, e_not, e_cmp, e_chain, e_and, e_or, e_ife, e_f1, e_isi, e_idx, es_nil, es_cons, e1, e', found, hs]
include hiw hpo hpp hpr hte hck hsi in
theorem size_ok (t : Tm) (h : t.wf) (hs : t.sz ≤ 60) (n : Nat) (hn : 2 * t.dp + 5 ≤ n) : callF ds n si [t.d] = ok (.int t.sz) := by
  obtain ⟨n, rfl⟩ : ∃ k, n = k + 1 := ⟨n - 1, by omega⟩
  rw [run_at hsi _ _ rfl]
  have e1 := checked_ok hiw hpo hpp hpr hte hck t h hs n (by omega)
  have e' : callF ds n po [t.d, .int 60] = ok (found t 60) := places_ok hiw hpo hpp hpr t h n 60 (by omega)
  have e2 : (60 : Int) - ((60 - t.sz : Nat) : Int) = (t.sz : Int) := by omega
  simp [x_raise, x_raiseX, x_try, h_none, h_some, h_nil, e_slf, e_slt, e_slb, e_exf, x_nil, x_cons, x_doc, x_pass, x_brk, x_cont, x_set, x_unpack, x_par, x_app, x_ext, x_aug, x_expr, x_ite, x_ret, e_nil, e_var, e_cst, e_glob, e_tup, e_lst, e_call, e_bin, e_neg, e_not, e_cmp, e_chain, e_and, e_or, e_ife, e_f1, e_isi, e_idx, es_nil, es_cons, e1, e', found, hs, e2]
end
end
/-! ### equality -/
mutual
def Tm.eq : Tm → Tm → Bool
  | .next, .next => true
  | .nought n, .nought m => decide (n = m)
  | .place n k, .place m l => decide (n = m) && decide (k = l)
  | .put o is, .put p js => o.eq p && Tm.eqs is js
  | .round a b, .round c d => a.eq c && b.eq d
  | _, _ => false
def Tm.eqs : List Tm → List Tm → Bool
  | [], [] => true
  | t :: ts, u :: us => t.eq u && Tm.eqs ts us
  | _, _ => false
end
theorem cast_eq' (a b : Nat) : ((a : Int) = (b : Int)) = (a = b) := propext (by omega)
mutual
theorem Tm.eqv : ∀ (t u : Tm), PyData.eqv t.d u.d = t.eq u
  | .next, u => by cases u <;> simp [Tm.d, Tm.eq, w1, w2, w3, w4, w5, w6, w7, w8, w9, w10, w11, w12, w13, w14, w15, w16, w17, w18, w19, w20]
  | .nought n, u => by cases u <;> simp [Tm.d, Tm.eq, w1, w2, w3, w4, w5, w6, w7, w8, w9, w10, w11, w12, w13, w14, w15, w16, w17, w18, w19, w20, cast_eq']
  | .place n k, u => by cases u <;> simp [Tm.d, Tm.eq, w1, w2, w3, w4, w5, w6, w7, w8, w9, w10, w11, w12, w13, w14, w15, w16, w17, w18, w19, w20, cast_eq']
  | .put o is, u => by cases u <;> simp [Tm.d, Tm.eq, w1, w2, w3, w4, w5, w6, w7, w8, w9, w10, w11, w12, w13, w14, w15, w16, w17, w18, w19, w20, Tm.eqv o, Tm.eqvs is]
  | .round a b, u => by cases u <;> simp [Tm.d, Tm.eq, w1, w2, w3, w4, w5, w6, w7, w8, w9, w10, w11, w12, w13, w14, w15, w16, w17, w18, w19, w20, Tm.eqv a, Tm.eqv b]
theorem Tm.eqvs : ∀ (ts us : List Tm), PyData.eqvAll (Tm.ds ts) (Tm.ds us) = Tm.eqs ts us
  | [], us => by cases us <;> simp [Tm.ds, Tm.eqs]
  | t :: ts, us => by cases us <;> simp [Tm.ds, Tm.eqs, Tm.eqv t, Tm.eqvs ts]
end
mutual
theorem Tm.eq_iff : ∀ (t u : Tm), t.eq u = true ↔ t = u
  | .next, u => by cases u <;> simp [Tm.eq]
  | .nought n, u => by cases u <;> simp [Tm.eq]
  | .place n k, u => by cases u <;> simp [Tm.eq]
  | .put o is, u => by cases u <;> simp [Tm.eq, Tm.eq_iff o, Tm.eqs_iff is]
  | .round a b, u => by cases u <;> simp [Tm.eq, Tm.eq_iff a, Tm.eq_iff b]
theorem Tm.eqs_iff : ∀ (ts us : List Tm), Tm.eqs ts us = true ↔ ts = us
  | [], us => by cases us <;> simp [Tm.eqs]
  | t :: ts, us => by cases us <;> simp [Tm.eqs, Tm.eq_iff t, Tm.eqs_iff ts]
end
theorem Tm.eq_refl (t : Tm) : t.eq t = true := (Tm.eq_iff t t).mpr rfl
mutual
theorem Tm.depth_le : ∀ t : Tm, t.d.depth ≤ 2 * t.dp + 1
  | .next => by simp [Tm.d, PyData.depth, PyData.depthAll, Tm.dp]
  | .nought n => by simp [Tm.d, PyData.depth, PyData.depthAll, Tm.dp]
  | .place n k => by simp [Tm.d, PyData.depth, PyData.depthAll, Tm.dp]
  | .put o is => by
    have h1 := Tm.depth_le o
    have h2 := Tm.depths_le is
    simp only [Tm.d, PyData.depth, PyData.depthAll, Tm.dp]
    omega
  | .round a b => by
    have h1 := Tm.depth_le a
    have h2 := Tm.depth_le b
    simp only [Tm.d, PyData.depth, PyData.depthAll, Tm.dp]
    omega
theorem Tm.depths_le : ∀ ts : List Tm, PyData.depthAll (Tm.ds ts) ≤ 2 * Tm.dps ts + 1
  | [] => by simp [Tm.ds, PyData.depthAll]
  | t :: ts => by
    have h1 := Tm.depth_le t
    have h2 := Tm.depths_le ts
    simp only [Tm.ds, PyData.depthAll, Tm.dps]
    omega
end
theorem Tm.ds_map : ∀ ts : List Tm, Tm.ds ts = ts.map Tm.d
  | [] => by simp [Tm.ds]
  | t :: ts => by simp [Tm.ds, Tm.ds_map ts]
mutual
theorem Tm.ar_le : ∀ t : Tm, t.wf → t.ar ≤ 4
  | .next, _ => by simp [Tm.ar]
  | .nought n, h => by simpa [Tm.ar, Tm.wf] using h
  | .place n k, h => by
    simp only [Tm.wf] at h
    simp only [Tm.ar]
    exact h.1
  | .put o is, h => by
    simp only [Tm.wf] at h
    cases is with
    | nil => exact absurd rfl h.2.1
    | cons t is =>
      simp only [Tm.ar]
      exact Tm.ars_le (t :: is) h.2.2.2.1 t List.mem_cons_self
  | .round a b, h => by
    simp only [Tm.wf] at h
    simp only [Tm.ar]
    omega
theorem Tm.ars_le : ∀ ts : List Tm, Tm.wfs ts → ∀ t ∈ ts, t.ar ≤ 4
  | [], _, t, ht => nomatch ht
  | u :: ts, h, t, ht => by
    simp only [Tm.wfs] at h
    rcases List.mem_cons.mp ht with e | ht
    · rw [e]; exact Tm.ar_le u h.1
    · exact Tm.ars_le ts h.2 t ht
end
/-- a comprehension, item by item -/
theorem comp_each {α : Type} {f : D → R (Option D)} {enc out : α → D} : ∀ (ts : List α), (∀ t ∈ ts, f (enc t) = ok (some (out t))) → compL f (ts.map enc) = ok (ts.map out)
  | [], _ => rfl
  | t :: ts, h => by
    simp only [List.map_cons, compL]
    rw [h t List.mem_cons_self, comp_each ts fun u hu => h u (List.mem_cons_of_mem _ hu)]
    rfl
end Pyr

namespace B
open PySem Pyr
def _law_row_L0 (f__law_cell : Nat) : S := (.cons (.ite (.cmp .lt (.call f__law_cell (.cons (.var 0) (.cons (.var 1) .nil))) (.bin .pow (.cst (.int 10)) (.cst (.int 18)))) (.cons (.set 2 (.bin .mod (.bin .add (.bin .add (.bin .add (.bin .mul (.var 2) (.cst (.int 48271))) (.bin .mul (.cst (.int 131)) (.var 4))) (.cst (.int 7))) (.call f__law_cell (.cons (.var 0) (.cons (.bin .mod (.bin .add (.bin .add (.var 1) (.cst (.int 1))) (.var 4)) (.cst (.int 20))) .nil)))) (.cst (.int 2147483647)))) (.cons (.app 3 (.bin .mod (.bin .fdiv (.var 2) (.cst (.int 11))) (.cst (.int 1000)))) .nil)) (.cons (.app 3 (.bin .mod (.var 2) (.cst (.int 1000)))) (.cons (.set 2 (.bin .fdiv (.var 2) (.cst (.int 1000)))) .nil))) .nil)
def _law_grown_L0 (f__law_grown : Nat) : S := (.cons (.set 14 (.call f__law_grown (.cons (.var 0) (.cons (.var 10) (.cons (.var 2) (.cons (.bin .sub (.var 3) (.cst (.int 1))) .nil)))))) (.cons (.app 9 (.idx (.var 14) (.cst (.int 0)))) (.cons (.set 10 (.idx (.var 14) (.cst (.int 1)))) .nil)))
def _law_grown_T8 (f__law_grown : Nat) : S := (.cons (.set 9 (.lst .nil)) (.cons (.set 10 (.idx (.var 8) (.cst (.int 1)))) (.cons (.for (.one 11) (.rng1 (.var 7)) (_law_grown_L0 f__law_grown)) (.cons (.ret (.tup (.cons (.tup (.cons (.cst (.str w_put)) (.cons (.idx (.var 8) (.cst (.int 0))) (.cons (.f1 .tuple (.var 9)) .nil)))) (.cons (.var 10) .nil)))) .nil))))
def _law_grown_T7 (f__law_grown : Nat) : S := (.cons (.ite (.or (.cmp .gt (.var 7) (.cst (.int 1))) (.cmp .eq (.bin .mod (.bin .fdiv (.var 6) (.cst (.int 7))) (.cst (.int 2))) (.cst (.int 0)))) (.cons (.set 8 (.call f__law_grown (.cons (.var 0) (.cons (.bin .add (.var 1) (.cst (.int 1))) (.cons (.var 7) (.cons (.bin .sub (.var 3) (.cst (.int 1))) .nil)))))) .nil) .nil) (_law_grown_T8 f__law_grown))
def _law_grown_T5 (f__law_grown : Nat) : S := (.cons (.set 7 (.bin .add (.cst (.int 1)) (.bin .mod (.bin .mod (.var 6) (.cst (.int 7))) (.cst (.int 3))))) (.cons (.set 8 (.tup (.cons (.tup (.cons (.cst (.str w_next)) .nil)) (.cons (.bin .add (.var 1) (.cst (.int 1))) .nil)))) (_law_grown_T7 f__law_grown)))
def _law_grown_T4 (f__law_grown : Nat) : S := (.cons (.ite (.and (.cmp .lt (.var 5) (.cst (.int 6))) (.chain .le .le (.cst (.int 1)) (.var 2) (.cst (.int 3)))) (.cons (.set 12 (.call f__law_grown (.cons (.var 0) (.cons (.bin .add (.var 1) (.cst (.int 1))) (.cons (.bin .sub (.var 2) (.cst (.int 1))) (.cons (.bin .sub (.var 3) (.cst (.int 1))) .nil)))))) (.cons (.set 13 (.call f__law_grown (.cons (.var 0) (.cons (.idx (.var 12) (.cst (.int 1))) (.cons (.bin .add (.var 2) (.cst (.int 1))) (.cons (.bin .sub (.var 3) (.cst (.int 1))) .nil)))))) (.cons (.ret (.tup (.cons (.tup (.cons (.cst (.str w_round)) (.cons (.idx (.var 12) (.cst (.int 0))) (.cons (.idx (.var 13) (.cst (.int 0))) .nil)))) (.cons (.idx (.var 13) (.cst (.int 1))) .nil)))) .nil))) .nil) (_law_grown_T5 f__law_grown))
def _law_grown_T3 (f__law_leaf : Nat) (f__law_grown : Nat) : S := (.cons (.ite (.or (.cmp .eq (.var 3) (.cst (.int 0))) (.or (.cmp .lt (.var 5) (.cst (.int 2))) (.cmp .ge (.var 1) (.cst (.int 28))))) (.cons (.ret (.tup (.cons (.call f__law_leaf (.cons (.var 6) (.cons (.var 2) .nil))) (.cons (.bin .add (.var 1) (.cst (.int 1))) .nil)))) .nil) .nil) (_law_grown_T4 f__law_grown))
def _law_cell : Def := ⟨2, 2, (.cons (.ite (.cmp .lt (.var 1) (.f1 .len (.var 0))) (.cons (.ret (.idx (.var 0) (.var 1))) .nil) .nil) (.cons (.ret (.cst (.int 0))) .nil))⟩
def _law_row (f__law_cell : Nat) : Def := ⟨2, 5, (.cons (.set 2 (.call f__law_cell (.cons (.var 0) (.cons (.var 1) .nil)))) (.cons (.set 3 (.lst .nil)) (.cons (.for (.one 4) (.rng1 (.cst (.int 60))) (_law_row_L0 f__law_cell)) (.cons (.ret (.var 3)) .nil))))⟩
def _law_leaf : Def := ⟨2, 3, (.cons (.ite (.and (.cmp .eq (.var 1) (.cst (.int 1))) (.cmp .eq (.bin .mod (.var 0) (.cst (.int 3))) (.cst (.int 2)))) (.cons (.ret (.tup (.cons (.cst (.str w_next)) .nil))) .nil) .nil) (.cons (.set 2 (.bin .mod (.bin .fdiv (.var 0) (.cst (.int 3))) (.bin .add (.var 1) (.cst (.int 1))))) (.cons (.ite (.cmp .eq (.var 2) (.var 1)) (.cons (.ret (.tup (.cons (.cst (.str w_nought)) (.cons (.var 1) .nil)))) .nil) .nil) (.cons (.ret (.tup (.cons (.cst (.str w_place)) (.cons (.var 1) (.cons (.var 2) .nil))))) .nil))))⟩
def _law_grown (f__law_leaf : Nat) (f__law_grown : Nat) : Def := ⟨4, 15, (.cons (.set 4 (.ife (.cmp .lt (.var 1) (.f1 .len (.var 0))) (.idx (.var 0) (.var 1)) (.cst (.int 0)))) (.cons (.set 5 (.bin .mod (.var 4) (.cst (.int 10)))) (.cons (.set 6 (.bin .fdiv (.var 4) (.cst (.int 10)))) (_law_grown_T3 f__law_leaf f__law_grown))))⟩
end B
namespace Pyr
open PySem B
open R (ok exc stuck)
/-! # A law's own drawing: numbers from the script, functions from the numbers -/
def intsD (ss : List Int) : D := .list (ss.map PyData.int)
theorem pow18 : binD .pow (.int 10) (.int 18) = ok (.int 1000000000000000000) := by
  show (if (0 : Int) ≤ 18 ∧ (18 : Int) ≤ 1000000 ∧ Int.natAbs 10 < 2 ^ 64 then ok (PyData.int ((10 : Int) ^ (18 : Int).toNat)) else stuck) = _
  rw [if_pos (by decide)]
  rfl
theorem len_ints (ss : List Int) : f1R .len (intsD ss) = ok (PyData.int ss.length) := by simp [intsD]
def cellV (ss : List Int) (k : Nat) : Int := ss.getD k 0
section
variable {ds : List Def} {ce ro le gr : Nat} (hce : ds[ce]? = some _law_cell) (hro : ds[ro]? = some (_law_row ce)) (hle : ds[le]? = some _law_leaf) (hgr : ds[gr]? = some (_law_grown le gr))
include hce in
theorem cell_ok (n k : Nat) (ss : List Int) : callF ds (n + 1) ce [intsD ss, .int k] = ok (.int (cellV ss k)) := by
  rw [run_at hce _ _ rfl]
  by_cases h : k < ss.length
  · have h1 : (k : Int) < ss.length := by omega
    have h2 : L2.atI (ss.map PyData.int) (k : Int) = some (.int ss[k]) := by
      rw [nthN _ _ (by simpa using h)]; simp
    simp [x_raise, x_raiseX, x_try, h_none, h_some, h_nil, e_slf, e_slt, e_slb, e_exf, x_nil, x_cons, x_doc, x_pass, x_brk, x_cont, x_set, x_unpack, x_par, x_app, x_ext, x_aug, x_expr, x_ite, x_ret, e_nil, e_var, e_cst, e_glob, e_tup, e_lst, e_call, e_bin, e_neg, e_not, e_cmp, e_chain, e_and, e_or, e_ife, e_f1, e_isi, e_idx, es_nil, es_cons, len_ints, h, h2, intsD, cellV, List.getD, List.getElem?_eq_getElem h]
  · have h1 : ¬ (k : Int) < ss.length := by omega
    have h3 : ss[k]? = none := List.getElem?_eq_none (by omega)
    simp [x_raise, x_raiseX, x_try, h_none, h_some, h_nil, e_slf, e_slt, e_slb, e_exf, x_nil, x_cons, x_doc, x_pass, x_brk, x_cont, x_set, x_unpack, x_par, x_app, x_ext, x_aug, x_expr, x_ite, x_ret, e_nil, e_var, e_cst, e_glob, e_tup, e_lst, e_call, e_bin, e_neg, e_not, e_cmp, e_chain, e_and, e_or, e_ife, e_f1, e_isi, e_idx, es_nil, es_cons, len_ints, h, cellV, List.getD, h3]
/-- numbers from 0 to 999 -/
def natsD (ns : List Nat) : D := .list (ns.map fun (n : Nat) => PyData.int n)
theorem small_c (i : Int) (k : Int) (h : small64 k = true) : binD .mul (.int i) (.int k) = ok (.int (i * k)) := mul_ii _ _ (.inr h)
theorem small_l (i : Int) (k : Int) (h : small64 i = true) : binD .mul (.int i) (.int k) = ok (.int (i * k)) := mul_ii _ _ (.inl h)
theorem loop_row (f : Env → Out) (sc at_ : D) (hf : ∀ (c : Int) (ns : List Nat) (t : Nat) (x4 : Option D), ns.length < 100 → t < 60 → ∃ (c' : Int) (x : Nat), x < 1000 ∧ f [some sc, some at_, some (.int c), some (natsD ns), some (.int t)] = .nx [some sc, some at_, some (.int c'), some (natsD (ns ++ [x])), some (.int t)]) :
    ∀ (ts : List Nat) (c : Int) (ns : List Nat) (x4 : Option D), (∀ t ∈ ts, t < 60) → ns.length + ts.length ≤ 60 → (∀ x ∈ ns, x < 1000) → ∃ (c' : Int) (ns' : List Nat) (y4 : Option D), ns'.length = ns.length + ts.length ∧ (∀ x ∈ ns', x < 1000) ∧
      forL (stepF (.one 4) f) (ts.map fun (k : Nat) => .int (0 + (k : Int))) [some sc, some at_, some (.int c), some (natsD ns), x4] = .nx [some sc, some at_, some (.int c'), some (natsD ns'), y4]
  | [], c, ns, x4, _, _, hx => ⟨c, ns, x4, by simp, hx, rfl⟩
  | t :: ts, c, ns, x4, ht, hl, hx => by
    simp only [List.length_cons] at hl
    obtain ⟨c1, x, h1, h2⟩ := hf c ns t x4 (by omega) (ht t List.mem_cons_self)
    obtain ⟨c2, ns2, y4, h3, h4, h5⟩ := loop_row f sc at_ hf ts c1 (ns ++ [x]) (some (.int t)) (fun t' h => ht t' (List.mem_cons_of_mem _ h)) (by simp; omega) (by
      intro y hy
      rcases List.mem_append.mp hy with hy | hy
      · exact hx y hy
      · have : y = x := by simpa using hy
        omega)
    refine ⟨c2, ns2, y4, by simp at h3 ⊢; omega, h4, ?_⟩
    simp only [List.map_cons, forL, stepF, setTg, List.set]
    rw [show (0 : Int) + (t : Int) = (t : Int) by omega, h2]
    exact h5
include hce hro in
theorem row_ok (n k : Nat) (ss : List Int) : ∃ ns : List Nat, ns.length = 60 ∧ (∀ x ∈ ns, x < 1000) ∧ callF ds (n + 2) ro [intsD ss, .int k] = ok (natsD ns) := by
  obtain ⟨c', ns, y4, h1, h2, h3⟩ := loop_row (fun ρ => exS (callF ds (n + 1)) (_law_row_L0 ce) ρ) (intsD ss) (.int k) (fun c ns t x4 hl ht => by
    have hc := cell_ok hce n k ss
    have hL : ns.length < Line := Nat.lt_trans hl (by decide)
    by_cases h : cellV ss k < 1000000000000000000
    · have hm : ((k : Int) + 1 + t) % 20 = (((k + 1 + t) % 20 : Nat) : Int) := by omega
      have hc2 := cell_ok hce n ((k + 1 + t) % 20) ss
      have hp : 0 ≤ (((c * 48271 + 131 * t + 7 + cellV ss ((k + 1 + t) % 20)) % 2147483647) / 11) % 1000 := by omega
      obtain ⟨x, hx⟩ := Int.eq_ofNat_of_zero_le hp
      refine ⟨(c * 48271 + 131 * t + 7 + cellV ss ((k + 1 + t) % 20)) % 2147483647, x, by omega, ?_⟩
      simp only [x_raise, x_raiseX, x_try, h_none, h_some, h_nil, e_slf, e_slt, e_slb, e_exf, x_nil, x_cons, x_doc, x_pass, x_brk, x_cont, x_set, x_unpack, x_par, x_app, x_ext, x_aug, x_expr, x_ite, x_ret, e_nil, e_var, e_cst, e_glob, e_tup, e_lst, e_call, e_bin, e_neg, e_not, e_cmp, e_chain, e_and, e_or, e_ife, e_f1, e_isi, e_idx, es_nil, es_cons, tryK_exc, tryK_rt, tryK_nx, clK_t, clK_f, leaveS_rt, leaveS_nx, Out.calm_rt, Out.calm_nx, part_i, isi_x, isi_v, cut1, cutR_l, cutR_t, List.drop, out_rt_seq, ofOut_out_rt, R.bind_ok, R.bind_exc, R.bind_stuck, R.calm_ok, R.calm_exc, R.calm_stuck, R.map_ok, R.map_exc, R.map_stuck, R.out_ok, R.out_exc, R.out_stuck, Out.seq_nx, Out.seq_rt, Out.seq_bk, Out.seq_ct, Out.seq_exc, Out.seq_stuck, eqv_ii, eqv_ss, eqv_tt, eqv_ll, eqv_bb, eqv_it, eqv_ti, eqv_is, eqv_si, eqv_ts, eqv_st, eqv_tn, eqv_nt, eqv_tl, eqv_lt, eqvAll_nn, eqvAll_cc, eqvAll_nc, eqvAll_cn, eqR_ii, eqR_ss, eqR_bb, nth0, nth1, nth2, nth3, truthy_b, truthy_t, truthy_l, truthy_n, truthy_i, cmp_eq, cmp_ne, cmp_lt, cmp_le, cmp_gt, cmp_ge, cmp_is_nn, cmp_is_tn, cmp_is_ln, cmp_is_in, cmp_is_sn, cmp_isnot_nn, cmp_isnot_tn, cmp_isnot_ln, cmp_isnot_in, cmp_isnot_sn, isi_tt, isi_tl, isi_ti, isi_tb, isi_ts, isi_tn, isi_ii, isi_ib, isi_it, isi_il, isi_is, isi_in, isi_bb, isi_bi, isi_ss, isi_st, isi_si, isi_ll, isi_lt, len_t, len_l, tup_l, tup_t, list_l, list_t, sub_ii, add_ii, idx_t, idx_l, walk_t, walk_l, iteF_t, iteF_f, andK_t, andK_f, orK_t, orK_f, ifeK_t, ifeK_f, chK_t, chK_f, setO_some, getS_0, getS_s, ofOut_rt, ofOut_nx, ofOut_exc, List.set, List.map_cons, List.map_nil, List.cons_append, List.nil_append, List.replicate, decide_true, decide_false, Nat.reduceSub, Nat.reduceAdd, List.length_cons, List.length_nil, Bool.not_true, Bool.not_false, Bool.and_true, Bool.and_false, Bool.true_and, Bool.false_and, List.isEmpty_cons, List.isEmpty_nil, reduceIte, Bool.false_eq_true, if_false, if_true, true_and, and_true, _law_row_L0, hc, pow18, h, small_c _ _ (show small64 48271 = true by decide), small_l _ _ (show small64 131 = true by decide), hm, hc2, mod_ii _ _ (show (0 : Int) < 20 by decide), mod_ii _ _ (show (0 : Int) < 2147483647 by decide), mod_ii _ _ (show (0 : Int) < 1000 by decide), fdiv_ii _ _ (show (0 : Int) < 11 ∧ (11 : Int) < 1073741824 by decide), getL, appF, hL, natsD, hx, List.length_map, List.getElem?_cons_zero, List.getElem?_cons_succ, List.map_append]
    · have hp : 0 ≤ c % 1000 := by omega
      obtain ⟨x, hx⟩ := Int.eq_ofNat_of_zero_le hp
      refine ⟨c / 1000, x, by omega, ?_⟩
      simp [x_raise, x_raiseX, x_try, h_none, h_some, h_nil, e_slf, e_slt, e_slb, e_exf, x_nil, x_cons, x_doc, x_pass, x_brk, x_cont, x_set, x_unpack, x_par, x_app, x_ext, x_aug, x_expr, x_ite, x_ret, e_nil, e_var, e_cst, e_glob, e_tup, e_lst, e_call, e_bin, e_neg, e_not, e_cmp, e_chain, e_and, e_or, e_ife, e_f1, e_isi, e_idx, es_nil, es_cons, _law_row_L0, hc, pow18, h, mod_ii, fdiv_ii, getL, appF, hL, natsD, hx]) (List.range 60) (cellV ss k) [] none (fun t h => by simpa using h) (by simp) (by simp)
  refine ⟨ns, by simpa using h1, h2, ?_⟩
  rw [run_at hro _ _ rfl]
  have hr : rng1R (.int 60) = ok (.list ((List.range 60).map fun (k : Nat) => .int (0 + (k : Int)))) := rfl
  have h3' : forL (stepF (.one 4) fun ρ => exS (callF ds (n + 1)) (_law_row_L0 ce) ρ) ((List.range 60).map fun (k : Nat) => .int (0 + (k : Int))) [some (intsD ss), some (.int k), some (.int (cellV ss k)), some (.list []), none] = _ := h3
  simp only [x_raise, x_raiseX, x_try, h_none, h_some, h_nil, e_slf, e_slt, e_slb, e_exf, x_nil, x_cons, x_doc, x_pass, x_brk, x_cont, x_set, x_unpack, x_par, x_app, x_ext, x_aug, x_expr, x_ite, x_ret, e_nil, e_var, e_cst, e_glob, e_tup, e_lst, e_call, e_bin, e_neg, e_not, e_cmp, e_chain, e_and, e_or, e_ife, e_f1, e_isi, e_idx, es_nil, es_cons, cell_ok hce, x_for, e_rng1, hr, List.map_cons, List.map_nil, getS_0, getS_s, R.bind_ok, R.out_ok, List.set, List.replicate, List.cons_append, List.nil_append, Out.seq_nx, walk_l, h3', Out.seq_rt, ofOut_rt]
/-- the leaf -/
def leafT (x m : Nat) : Tm := if m = 1 ∧ x % 3 = 2 then .next else if x / 3 % (m + 1) = m then .nought m else .place m (x / 3 % (m + 1))
theorem leaf_facts (x m : Nat) (hm : m ≤ 4) : (leafT x m).wf ∧ (leafT x m).ar = m ∧ (leafT x m).sz = 1 ∧ (leafT x m).dp = 0 := by
  unfold leafT
  have := Nat.mod_lt (x / 3) (show 0 < m + 1 by omega)
  split
  · rename_i h
    simp [Tm.wf, Tm.ar, Tm.sz, Tm.dp, h.1]
  · split
    · simp [Tm.wf, Tm.ar, Tm.sz, Tm.dp, hm]
    · refine ⟨?_, rfl, by simp [Tm.sz], by simp [Tm.dp]⟩
      simp only [Tm.wf]
      omega
include hle in
theorem leaf_ok (n x m : Nat) (hm : m ≤ 4) : callF ds (n + 1) le [.int x, .int m] = ok (leafT x m).d := by
  rw [run_at hle _ _ rfl]
  have e1 : (x : Int) % 3 = ((x % 3 : Nat) : Int) := by omega
  have e2 : (x : Int) / 3 = ((x / 3 : Nat) : Int) := by omega
  have e3 : ((x / 3 : Nat) : Int) % ((m : Int) + 1) = ((x / 3 % (m + 1) : Nat) : Int) := by rw [Int.natCast_emod, Int.natCast_add]; rfl
  have p1 : (0 : Int) < (m : Int) + 1 := by omega
  have q3 : (((x / 3 % (m + 1) : Nat) : Int) = (m : Int)) = (x / 3 % (m + 1) = m) := propext Int.natCast_inj
  have q1 : ((m : Int) = 1) = (m = 1) := propext (by omega)
  have q2 : (((x % 3 : Nat) : Int) = 2) = (x % 3 = 2) := propext (by omega)
  unfold leafT
  by_cases h1 : m = 1
  · by_cases h2 : x % 3 = 2
    · rw [if_pos ⟨h1, h2⟩]
      have h1t : (m = 1) = True := eq_true h1
      have h2t : (x % 3 = 2) = True := eq_true h2
      simp only [x_raise, x_raiseX, x_try, h_none, h_some, h_nil, e_slf, e_slt, e_slb, e_exf, x_nil, x_cons, x_doc, x_pass, x_brk, x_cont, x_set, x_unpack, x_par, x_app, x_ext, x_aug, x_expr, x_ite, x_ret, e_nil, e_var, e_cst, e_glob, e_tup, e_lst, e_call, e_bin, e_neg, e_not, e_cmp, e_chain, e_and, e_or, e_ife, e_f1, e_isi, e_idx, es_nil, es_cons, tryK_exc, tryK_rt, tryK_nx, clK_t, clK_f, leaveS_rt, leaveS_nx, Out.calm_rt, Out.calm_nx, part_i, isi_x, isi_v, cut1, cutR_l, cutR_t, List.drop, out_rt_seq, ofOut_out_rt, R.bind_ok, R.bind_exc, R.bind_stuck, R.calm_ok, R.calm_exc, R.calm_stuck, R.map_ok, R.map_exc, R.map_stuck, R.out_ok, R.out_exc, R.out_stuck, Out.seq_nx, Out.seq_rt, Out.seq_bk, Out.seq_ct, Out.seq_exc, Out.seq_stuck, eqv_ii, eqv_ss, eqv_tt, eqv_ll, eqv_bb, eqv_it, eqv_ti, eqv_is, eqv_si, eqv_ts, eqv_st, eqv_tn, eqv_nt, eqv_tl, eqv_lt, eqvAll_nn, eqvAll_cc, eqvAll_nc, eqvAll_cn, eqR_ii, eqR_ss, eqR_bb, nth0, nth1, nth2, nth3, truthy_b, truthy_t, truthy_l, truthy_n, truthy_i, cmp_eq, cmp_ne, cmp_lt, cmp_le, cmp_gt, cmp_ge, cmp_is_nn, cmp_is_tn, cmp_is_ln, cmp_is_in, cmp_is_sn, cmp_isnot_nn, cmp_isnot_tn, cmp_isnot_ln, cmp_isnot_in, cmp_isnot_sn, isi_tt, isi_tl, isi_ti, isi_tb, isi_ts, isi_tn, isi_ii, isi_ib, isi_it, isi_il, isi_is, isi_in, isi_bb, isi_bi, isi_ss, isi_st, isi_si, isi_ll, isi_lt, len_t, len_l, tup_l, tup_t, list_l, list_t, sub_ii, add_ii, idx_t, idx_l, walk_t, walk_l, iteF_t, iteF_f, andK_t, andK_f, orK_t, orK_f, ifeK_t, ifeK_f, chK_t, chK_f, setO_some, getS_0, getS_s, ofOut_rt, ofOut_nx, ofOut_exc, List.set, List.map_cons, List.map_nil, List.cons_append, List.nil_append, List.replicate, decide_true, decide_false, Nat.reduceSub, Nat.reduceAdd, List.length_cons, List.length_nil, Bool.not_true, Bool.not_false, Bool.and_true, Bool.and_false, Bool.true_and, Bool.false_and, List.isEmpty_cons, List.isEmpty_nil, reduceIte, Bool.false_eq_true, if_false, if_true, true_and, and_true, mod_ii _ _ (show (0 : Int) < 3 by decide), e1, q1, h1t, q2, h2t, Tm.d]
    · rw [if_neg (fun z => h2 z.2)]
      have h1t : (m = 1) = True := eq_true h1
      by_cases h3 : x / 3 % (m + 1) = m
      · rw [if_pos h3]
        have h3t : (x / 3 % (m + 1) = m) = True := eq_true h3
        simp only [x_raise, x_raiseX, x_try, h_none, h_some, h_nil, e_slf, e_slt, e_slb, e_exf, x_nil, x_cons, x_doc, x_pass, x_brk, x_cont, x_set, x_unpack, x_par, x_app, x_ext, x_aug, x_expr, x_ite, x_ret, e_nil, e_var, e_cst, e_glob, e_tup, e_lst, e_call, e_bin, e_neg, e_not, e_cmp, e_chain, e_and, e_or, e_ife, e_f1, e_isi, e_idx, es_nil, es_cons, tryK_exc, tryK_rt, tryK_nx, clK_t, clK_f, leaveS_rt, leaveS_nx, Out.calm_rt, Out.calm_nx, part_i, isi_x, isi_v, cut1, cutR_l, cutR_t, List.drop, out_rt_seq, ofOut_out_rt, R.bind_ok, R.bind_exc, R.bind_stuck, R.calm_ok, R.calm_exc, R.calm_stuck, R.map_ok, R.map_exc, R.map_stuck, R.out_ok, R.out_exc, R.out_stuck, Out.seq_nx, Out.seq_rt, Out.seq_bk, Out.seq_ct, Out.seq_exc, Out.seq_stuck, eqv_ii, eqv_ss, eqv_tt, eqv_ll, eqv_bb, eqv_it, eqv_ti, eqv_is, eqv_si, eqv_ts, eqv_st, eqv_tn, eqv_nt, eqv_tl, eqv_lt, eqvAll_nn, eqvAll_cc, eqvAll_nc, eqvAll_cn, eqR_ii, eqR_ss, eqR_bb, nth0, nth1, nth2, nth3, truthy_b, truthy_t, truthy_l, truthy_n, truthy_i, cmp_eq, cmp_ne, cmp_lt, cmp_le, cmp_gt, cmp_ge, cmp_is_nn, cmp_is_tn, cmp_is_ln, cmp_is_in, cmp_is_sn, cmp_isnot_nn, cmp_isnot_tn, cmp_isnot_ln, cmp_isnot_in, cmp_isnot_sn, isi_tt, isi_tl, isi_ti, isi_tb, isi_ts, isi_tn, isi_ii, isi_ib, isi_it, isi_il, isi_is, isi_in, isi_bb, isi_bi, isi_ss, isi_st, isi_si, isi_ll, isi_lt, len_t, len_l, tup_l, tup_t, list_l, list_t, sub_ii, add_ii, idx_t, idx_l, walk_t, walk_l, iteF_t, iteF_f, andK_t, andK_f, orK_t, orK_f, ifeK_t, ifeK_f, chK_t, chK_f, setO_some, getS_0, getS_s, ofOut_rt, ofOut_nx, ofOut_exc, List.set, List.map_cons, List.map_nil, List.cons_append, List.nil_append, List.replicate, decide_true, decide_false, Nat.reduceSub, Nat.reduceAdd, List.length_cons, List.length_nil, Bool.not_true, Bool.not_false, Bool.and_true, Bool.and_false, Bool.true_and, Bool.false_and, List.isEmpty_cons, List.isEmpty_nil, reduceIte, Bool.false_eq_true, if_false, if_true, true_and, and_true, mod_ii _ _ (show (0 : Int) < 3 by decide), fdiv_ii _ _ (show (0 : Int) < 3 ∧ (3 : Int) < 1073741824 by decide), mod_ii _ _ p1, e1, e2, e3, q1, h1t, q2, h2, q3, h3t, Tm.d]
      · rw [if_neg h3]
        simp only [x_raise, x_raiseX, x_try, h_none, h_some, h_nil, e_slf, e_slt, e_slb, e_exf, x_nil, x_cons, x_doc, x_pass, x_brk, x_cont, x_set, x_unpack, x_par, x_app, x_ext, x_aug, x_expr, x_ite, x_ret, e_nil, e_var, e_cst, e_glob, e_tup, e_lst, e_call, e_bin, e_neg, e_not, e_cmp, e_chain, e_and, e_or, e_ife, e_f1, e_isi, e_idx, es_nil, es_cons, tryK_exc, tryK_rt, tryK_nx, clK_t, clK_f, leaveS_rt, leaveS_nx, Out.calm_rt, Out.calm_nx, part_i, isi_x, isi_v, cut1, cutR_l, cutR_t, List.drop, out_rt_seq, ofOut_out_rt, R.bind_ok, R.bind_exc, R.bind_stuck, R.calm_ok, R.calm_exc, R.calm_stuck, R.map_ok, R.map_exc, R.map_stuck, R.out_ok, R.out_exc, R.out_stuck, Out.seq_nx, Out.seq_rt, Out.seq_bk, Out.seq_ct, Out.seq_exc, Out.seq_stuck, eqv_ii, eqv_ss, eqv_tt, eqv_ll, eqv_bb, eqv_it, eqv_ti, eqv_is, eqv_si, eqv_ts, eqv_st, eqv_tn, eqv_nt, eqv_tl, eqv_lt, eqvAll_nn, eqvAll_cc, eqvAll_nc, eqvAll_cn, eqR_ii, eqR_ss, eqR_bb, nth0, nth1, nth2, nth3, truthy_b, truthy_t, truthy_l, truthy_n, truthy_i, cmp_eq, cmp_ne, cmp_lt, cmp_le, cmp_gt, cmp_ge, cmp_is_nn, cmp_is_tn, cmp_is_ln, cmp_is_in, cmp_is_sn, cmp_isnot_nn, cmp_isnot_tn, cmp_isnot_ln, cmp_isnot_in, cmp_isnot_sn, isi_tt, isi_tl, isi_ti, isi_tb, isi_ts, isi_tn, isi_ii, isi_ib, isi_it, isi_il, isi_is, isi_in, isi_bb, isi_bi, isi_ss, isi_st, isi_si, isi_ll, isi_lt, len_t, len_l, tup_l, tup_t, list_l, list_t, sub_ii, add_ii, idx_t, idx_l, walk_t, walk_l, iteF_t, iteF_f, andK_t, andK_f, orK_t, orK_f, ifeK_t, ifeK_f, chK_t, chK_f, setO_some, getS_0, getS_s, ofOut_rt, ofOut_nx, ofOut_exc, List.set, List.map_cons, List.map_nil, List.cons_append, List.nil_append, List.replicate, decide_true, decide_false, Nat.reduceSub, Nat.reduceAdd, List.length_cons, List.length_nil, Bool.not_true, Bool.not_false, Bool.and_true, Bool.and_false, Bool.true_and, Bool.false_and, List.isEmpty_cons, List.isEmpty_nil, reduceIte, Bool.false_eq_true, if_false, if_true, true_and, and_true, mod_ii _ _ (show (0 : Int) < 3 by decide), fdiv_ii _ _ (show (0 : Int) < 3 ∧ (3 : Int) < 1073741824 by decide), mod_ii _ _ p1, e1, e2, e3, q1, h1t, q2, h2, q3, h3, Tm.d]
  · rw [if_neg (fun z => h1 z.1)]
    by_cases h3 : x / 3 % (m + 1) = m
    · rw [if_pos h3]
      have h3t : (x / 3 % (m + 1) = m) = True := eq_true h3
      simp only [x_raise, x_raiseX, x_try, h_none, h_some, h_nil, e_slf, e_slt, e_slb, e_exf, x_nil, x_cons, x_doc, x_pass, x_brk, x_cont, x_set, x_unpack, x_par, x_app, x_ext, x_aug, x_expr, x_ite, x_ret, e_nil, e_var, e_cst, e_glob, e_tup, e_lst, e_call, e_bin, e_neg, e_not, e_cmp, e_chain, e_and, e_or, e_ife, e_f1, e_isi, e_idx, es_nil, es_cons, tryK_exc, tryK_rt, tryK_nx, clK_t, clK_f, leaveS_rt, leaveS_nx, Out.calm_rt, Out.calm_nx, part_i, isi_x, isi_v, cut1, cutR_l, cutR_t, List.drop, out_rt_seq, ofOut_out_rt, R.bind_ok, R.bind_exc, R.bind_stuck, R.calm_ok, R.calm_exc, R.calm_stuck, R.map_ok, R.map_exc, R.map_stuck, R.out_ok, R.out_exc, R.out_stuck, Out.seq_nx, Out.seq_rt, Out.seq_bk, Out.seq_ct, Out.seq_exc, Out.seq_stuck, eqv_ii, eqv_ss, eqv_tt, eqv_ll, eqv_bb, eqv_it, eqv_ti, eqv_is, eqv_si, eqv_ts, eqv_st, eqv_tn, eqv_nt, eqv_tl, eqv_lt, eqvAll_nn, eqvAll_cc, eqvAll_nc, eqvAll_cn, eqR_ii, eqR_ss, eqR_bb, nth0, nth1, nth2, nth3, truthy_b, truthy_t, truthy_l, truthy_n, truthy_i, cmp_eq, cmp_ne, cmp_lt, cmp_le, cmp_gt, cmp_ge, cmp_is_nn, cmp_is_tn, cmp_is_ln, cmp_is_in, cmp_is_sn, cmp_isnot_nn, cmp_isnot_tn, cmp_isnot_ln, cmp_isnot_in, cmp_isnot_sn, isi_tt, isi_tl, isi_ti, isi_tb, isi_ts, isi_tn, isi_ii, isi_ib, isi_it, isi_il, isi_is, isi_in, isi_bb, isi_bi, isi_ss, isi_st, isi_si, isi_ll, isi_lt, len_t, len_l, tup_l, tup_t, list_l, list_t, sub_ii, add_ii, idx_t, idx_l, walk_t, walk_l, iteF_t, iteF_f, andK_t, andK_f, orK_t, orK_f, ifeK_t, ifeK_f, chK_t, chK_f, setO_some, getS_0, getS_s, ofOut_rt, ofOut_nx, ofOut_exc, List.set, List.map_cons, List.map_nil, List.cons_append, List.nil_append, List.replicate, decide_true, decide_false, Nat.reduceSub, Nat.reduceAdd, List.length_cons, List.length_nil, Bool.not_true, Bool.not_false, Bool.and_true, Bool.and_false, Bool.true_and, Bool.false_and, List.isEmpty_cons, List.isEmpty_nil, reduceIte, Bool.false_eq_true, if_false, if_true, true_and, and_true, fdiv_ii _ _ (show (0 : Int) < 3 ∧ (3 : Int) < 1073741824 by decide), mod_ii _ _ p1, e1, e2, e3, q1, h1, q3, h3t, Tm.d]
    · rw [if_neg h3]
      simp only [x_raise, x_raiseX, x_try, h_none, h_some, h_nil, e_slf, e_slt, e_slb, e_exf, x_nil, x_cons, x_doc, x_pass, x_brk, x_cont, x_set, x_unpack, x_par, x_app, x_ext, x_aug, x_expr, x_ite, x_ret, e_nil, e_var, e_cst, e_glob, e_tup, e_lst, e_call, e_bin, e_neg, e_not, e_cmp, e_chain, e_and, e_or, e_ife, e_f1, e_isi, e_idx, es_nil, es_cons, tryK_exc, tryK_rt, tryK_nx, clK_t, clK_f, leaveS_rt, leaveS_nx, Out.calm_rt, Out.calm_nx, part_i, isi_x, isi_v, cut1, cutR_l, cutR_t, List.drop, out_rt_seq, ofOut_out_rt, R.bind_ok, R.bind_exc, R.bind_stuck, R.calm_ok, R.calm_exc, R.calm_stuck, R.map_ok, R.map_exc, R.map_stuck, R.out_ok, R.out_exc, R.out_stuck, Out.seq_nx, Out.seq_rt, Out.seq_bk, Out.seq_ct, Out.seq_exc, Out.seq_stuck, eqv_ii, eqv_ss, eqv_tt, eqv_ll, eqv_bb, eqv_it, eqv_ti, eqv_is, eqv_si, eqv_ts, eqv_st, eqv_tn, eqv_nt, eqv_tl, eqv_lt, eqvAll_nn, eqvAll_cc, eqvAll_nc, eqvAll_cn, eqR_ii, eqR_ss, eqR_bb, nth0, nth1, nth2, nth3, truthy_b, truthy_t, truthy_l, truthy_n, truthy_i, cmp_eq, cmp_ne, cmp_lt, cmp_le, cmp_gt, cmp_ge, cmp_is_nn, cmp_is_tn, cmp_is_ln, cmp_is_in, cmp_is_sn, cmp_isnot_nn, cmp_isnot_tn, cmp_isnot_ln, cmp_isnot_in, cmp_isnot_sn, isi_tt, isi_tl, isi_ti, isi_tb, isi_ts, isi_tn, isi_ii, isi_ib, isi_it, isi_il, isi_is, isi_in, isi_bb, isi_bi, isi_ss, isi_st, isi_si, isi_ll, isi_lt, len_t, len_l, tup_l, tup_t, list_l, list_t, sub_ii, add_ii, idx_t, idx_l, walk_t, walk_l, iteF_t, iteF_f, andK_t, andK_f, orK_t, orK_f, ifeK_t, ifeK_f, chK_t, chK_f, setO_some, getS_0, getS_s, ofOut_rt, ofOut_nx, ofOut_exc, List.set, List.map_cons, List.map_nil, List.cons_append, List.nil_append, List.replicate, decide_true, decide_false, Nat.reduceSub, Nat.reduceAdd, List.length_cons, List.length_nil, Bool.not_true, Bool.not_false, Bool.and_true, Bool.and_false, Bool.true_and, Bool.false_and, List.isEmpty_cons, List.isEmpty_nil, reduceIte, Bool.false_eq_true, if_false, if_true, true_and, and_true, fdiv_ii _ _ (show (0 : Int) < 3 ∧ (3 : Int) < 1073741824 by decide), mod_ii _ _ p1, e1, e2, e3, q1, h1, q3, h3, Tm.d]
def off : Nat → Nat
  | 0 => 4
  | 1 => 3
  | 2 => 2
  | _ => 0
/-- what grows from the place s, so deep, ends at e -/
structure Grown (t : Tm) (s e many deep : Nat) : Prop where
  wf : t.wf
  ar : t.ar = many
  lo : s + 1 ≤ e
  hi : e ≤ 28 + 4 * deep ∨ e ≤ s + 1
  sz : 2 * t.sz + off deep ≤ 3 * (e - s) + 3
  dp : t.dp ≤ deep
theorem Grown.leaf (x m s deep : Nat) (hm : m ≤ 4) : Grown (leafT x m) s (s + 1) m deep := by
  obtain ⟨h1, h2, h3, h4⟩ := leaf_facts x m hm
  refine ⟨h1, h2, by omega, .inr (by omega), ?_, by omega⟩
  rw [h3]
  have : off deep ≤ 4 := by unfold off; split <;> omega
  omega
theorem loop_grown (f : Env → Out) (many deep : Nat) (a0 a1 a2 a3 a4 a5 a6 a7 a8 : Option D) (hf : ∀ (is : List Tm) (s : Nat) (x11 x12 x13 x14 : Option D), is.length < 10 → ∃ t e y14, Grown t s e many deep ∧
      f [a0, a1, a2, a3, a4, a5, a6, a7, a8, some (.list (Tm.ds is)), some (.int s), x11, x12, x13, x14] = .nx [a0, a1, a2, a3, a4, a5, a6, a7, a8, some (.list (Tm.ds (is ++ [t]))), some (.int e), x11, x12, x13, y14]) :
    ∀ (xs : List D) (is : List Tm) (s : Nat) (x11 x12 x13 x14 : Option D), is.length + xs.length < 10 → ∃ (js : List Tm) (e : Nat) (y11 y14 : Option D), js.length = xs.length ∧ Tm.wfs js ∧ (∀ t ∈ js, t.ar = many) ∧ s + xs.length ≤ e ∧ (e ≤ 28 + 4 * deep + xs.length ∨ e ≤ s + xs.length) ∧
      2 * Tm.szs js + xs.length * off deep ≤ 3 * (e - s) + 3 * xs.length ∧ Tm.dps js ≤ deep ∧
      forL (stepF (.one 11) f) xs [a0, a1, a2, a3, a4, a5, a6, a7, a8, some (.list (Tm.ds is)), some (.int s), x11, x12, x13, x14] = .nx [a0, a1, a2, a3, a4, a5, a6, a7, a8, some (.list (Tm.ds (is ++ js))), some (.int e), y11, x12, x13, y14]
  | [], is, s, x11, x12, x13, x14, _ => ⟨[], s, x11, x14, rfl, by simp only [Tm.wfs], by simp, by simp, by simp, by simp [Tm.szs], by simp [Tm.dps], by simp [forL]⟩
  | x :: xs, is, s, x11, x12, x13, x14, hl => by
    simp only [List.length_cons] at hl
    obtain ⟨t, e, y14, G, h1⟩ := hf is s (some x) x12 x13 x14 (by omega)
    obtain ⟨js, e2, y11, y14', h2, h3, h4, h5, h6, h7, h8, h9⟩ := loop_grown f many deep a0 a1 a2 a3 a4 a5 a6 a7 a8 hf xs (is ++ [t]) e (some x) x12 x13 y14 (by simp; omega)
    refine ⟨t :: js, e2, y11, y14', by simp [h2], ?_, ?_, ?_, ?_, ?_, ?_, ?_⟩
    · simp only [Tm.wfs]; exact ⟨G.wf, h3⟩
    · intro t' ht
      rcases List.mem_cons.mp ht with rfl | ht
      · exact G.ar
      · exact h4 t' ht
    · have := G.lo; simp only [List.length_cons]; omega
    · have := G.hi; simp only [List.length_cons]; omega
    · have := G.sz
      have := G.lo
      have e1 : Tm.szs (t :: js) = t.sz + Tm.szs js := by simp only [Tm.szs]
      rw [e1]
      have e2 : (x :: xs).length * off deep = xs.length * off deep + off deep := by rw [List.length_cons, Nat.add_mul, Nat.one_mul]
      rw [e2]
      simp only [List.length_cons]
      omega
    · have e1 : Tm.dps (t :: js) = max t.dp (Tm.dps js) := by simp only [Tm.dps]
      rw [e1]
      have := G.dp
      exact Nat.max_le.mpr ⟨this, h8⟩
    · simp only [forL, stepF, setTg, List.set]
      rw [h1]
      dsimp only
      rw [h9, List.append_assoc]
      rfl
theorem Tm.ds_append : ∀ (is js : List Tm), Tm.ds (is ++ js) = Tm.ds is ++ Tm.ds js
  | [], js => by simp [Tm.ds]
  | t :: is, js => by simp [Tm.ds, Tm.ds_append is js]
theorem Grown.put {o : Tm} {is : List Tm} {s e0 e many deep : Nat} (ho : o.wf) (h1 : o.ar = is.length) (h2 : is ≠ []) (h3 : Tm.wfs is) (h4 : ∀ t ∈ is, t.ar = many) (hl : is.length ≤ 3) (hd : deep ≤ 2) (hs : s < 28)
    (hd1 : o.dp ≤ deep) (hd2 : Tm.dps is ≤ deep) (h5 : e0 + is.length ≤ e) (h6 : e ≤ 28 + 4 * deep + is.length ∨ e ≤ e0 + is.length) (h7 : 2 * Tm.szs is + is.length * off deep ≤ 3 * (e - e0) + 3 * is.length)
    (h8 : (e0 = s + 1 ∧ o.sz = 1 ∧ is.length = 1) ∨ Grown o (s + 1) e0 is.length deep) : Grown (.put o is) s e many (deep + 1) := by
  have es : (Tm.put o is).sz = 1 + o.sz + Tm.szs is := by simp only [Tm.sz]
  have ed : (Tm.put o is).dp = 1 + max o.dp (Tm.dps is) := by simp only [Tm.dp]
  have ea : (Tm.put o is).ar = many := by
    cases is with
    | nil => exact absurd rfl h2
    | cons t is => simp only [Tm.ar]; exact h4 t List.mem_cons_self
  have hlen : is.length ≠ 0 := fun z => h2 (List.length_eq_zero_iff.mp z)
  refine ⟨?_, ea, ?_, ?_, ?_, ?_⟩
  · simp only [Tm.wf]
    exact ⟨ho, h2, h1, h3, fun t ht => (h4 t ht).trans ea.symm⟩
  · rcases h8 with h8 | h8
    · omega
    · have := h8.lo; omega
  · rcases h8 with h8 | h8
    · omega
    · have := h8.hi; omega
  · rw [es]
    have hd3 : deep = 0 ∨ deep = 1 ∨ deep = 2 := by omega
    have hl3 : is.length = 1 ∨ is.length = 2 ∨ is.length = 3 := by omega
    rcases h8 with h8 | h8
    · obtain ⟨q1, q2, q3⟩ := h8
      rw [q3] at h7 h5
      rcases hd3 with rfl | rfl | rfl <;> simp only [off] at h7 ⊢ <;> omega
    · have q1 := h8.sz
      have q2 := h8.lo
      rcases hd3 with rfl | rfl | rfl <;> rcases hl3 with q | q | q <;> rw [q] at h7 h5 <;> simp only [off] at h7 q1 ⊢ <;> omega
  · rw [ed]
    have := Nat.max_le.mpr ⟨hd1, hd2⟩
    omega
theorem Grown.round {a b : Tm} {s e1 e2 many deep : Nat} (ha : Grown a (s + 1) e1 (many - 1) deep) (hb : Grown b e1 e2 (many + 1) deep) (hm : 1 ≤ many ∧ many ≤ 3) (hd : deep ≤ 2) (hs : s < 28) : Grown (.round a b) s e2 many (deep + 1) := by
  have es : (Tm.round a b).sz = 1 + a.sz + b.sz := by simp only [Tm.sz]
  have ed : (Tm.round a b).dp = 1 + max a.dp b.dp := by simp only [Tm.dp]
  have a1 := ha.ar
  have b1 := hb.ar
  have a2 := ha.lo
  have b2 := hb.lo
  have a3 := ha.hi
  have b3 := hb.hi
  have a4 := ha.sz
  have b4 := hb.sz
  refine ⟨?_, ?_, by omega, by omega, ?_, ?_⟩
  · simp only [Tm.wf]
    exact ⟨ha.wf, hb.wf, by omega, by omega⟩
  · simp only [Tm.ar]; omega
  · rw [es]
    have hd3 : deep = 0 ∨ deep = 1 ∨ deep = 2 := by omega
    rcases hd3 with rfl | rfl | rfl <;> simp only [off] at a4 b4 ⊢ <;> omega
  · rw [ed]
    have := Nat.max_le.mpr ⟨ha.dp, hb.dp⟩
    omega
end
end Pyr

namespace Pyr
open PySem B
open R (ok exc stuck)
section
variable {ds : List Def} {ce ro le gr : Nat} (hce : ds[ce]? = some _law_cell) (hro : ds[ro]? = some (_law_row ce)) (hle : ds[le]? = some _law_leaf) (hgr : ds[gr]? = some (_law_grown le gr))
theorem line10 {n : Nat} (h : n < 10) : n < Line := Nat.lt_trans h (by decide)
def GrownSpec (ds : List Def) (gr deep : Nat) : Prop := ∀ (n : Nat) (ns : List Nat) (s many : Nat), deep + 2 ≤ n → many ≤ 4 → ∃ t e, Grown t s e many deep ∧ callF ds n gr [natsD ns, .int s, .int many, .int deep] = ok (.tuple [t.d, .int e])
include hgr in
theorem grown_0 (n : Nat) (ns : List Nat) (s many deep : Nat) : ∃ x : Nat, callF ds (n + 1) gr [natsD ns, .int s, .int many, .int deep] = ofOut (exS (callF ds n) (_law_grown_T3 le gr) [some (natsD ns), some (.int s), some (.int many), some (.int deep), some (.int x), some (.int ((x % 10 : Nat) : Int)), some (.int ((x / 10 : Nat) : Int)), none, none, none, none, none, none, none, none]) := by
  have e1 : ∀ x : Nat, (x : Int) % 10 = ((x % 10 : Nat) : Int) := fun x => by omega
  have e2 : ∀ x : Nat, (x : Int) / 10 = ((x / 10 : Nat) : Int) := fun x => by omega
  by_cases h : s < ns.length
  · refine ⟨ns[s], ?_⟩
    rw [run_at hgr _ _ rfl]
    have h1 : ((s : Int) < ((ns.map fun (n : Nat) => PyData.int n).length : Nat)) = True := eq_true (by rw [List.length_map]; omega)
    have h2 : L2.atI (ns.map fun (n : Nat) => PyData.int n) (s : Int) = some (.int ns[s]) := by
      rw [nthN _ _ (by rw [List.length_map]; exact h)]; simp
    simp only [x_cons, x_set, e_ife, e_cmp, e_var, e_f1, e_idx, e_cst, e_bin, tryK_exc, tryK_rt, tryK_nx, clK_t, clK_f, leaveS_rt, leaveS_nx, Out.calm_rt, Out.calm_nx, part_i, isi_x, isi_v, cut1, cutR_l, cutR_t, List.drop, out_rt_seq, ofOut_out_rt, R.bind_ok, R.bind_exc, R.bind_stuck, R.calm_ok, R.calm_exc, R.calm_stuck, R.map_ok, R.map_exc, R.map_stuck, R.out_ok, R.out_exc, R.out_stuck, Out.seq_nx, Out.seq_rt, Out.seq_bk, Out.seq_ct, Out.seq_exc, Out.seq_stuck, eqv_ii, eqv_ss, eqv_tt, eqv_ll, eqv_bb, eqv_it, eqv_ti, eqv_is, eqv_si, eqv_ts, eqv_st, eqv_tn, eqv_nt, eqv_tl, eqv_lt, eqvAll_nn, eqvAll_cc, eqvAll_nc, eqvAll_cn, eqR_ii, eqR_ss, eqR_bb, nth0, nth1, nth2, nth3, truthy_b, truthy_t, truthy_l, truthy_n, truthy_i, cmp_eq, cmp_ne, cmp_lt, cmp_le, cmp_gt, cmp_ge, cmp_is_nn, cmp_is_tn, cmp_is_ln, cmp_is_in, cmp_is_sn, cmp_isnot_nn, cmp_isnot_tn, cmp_isnot_ln, cmp_isnot_in, cmp_isnot_sn, isi_tt, isi_tl, isi_ti, isi_tb, isi_ts, isi_tn, isi_ii, isi_ib, isi_it, isi_il, isi_is, isi_in, isi_bb, isi_bi, isi_ss, isi_st, isi_si, isi_ll, isi_lt, len_t, len_l, tup_l, tup_t, list_l, list_t, sub_ii, add_ii, idx_t, idx_l, walk_t, walk_l, iteF_t, iteF_f, andK_t, andK_f, orK_t, orK_f, ifeK_t, ifeK_f, chK_t, chK_f, setO_some, getS_0, getS_s, ofOut_rt, ofOut_nx, ofOut_exc, List.set, List.map_cons, List.map_nil, List.cons_append, List.nil_append, List.replicate, decide_true, decide_false, Nat.reduceSub, Nat.reduceAdd, List.length_cons, List.length_nil, Bool.not_true, Bool.not_false, Bool.and_true, Bool.and_false, Bool.true_and, Bool.false_and, List.isEmpty_cons, List.isEmpty_nil, reduceIte, Bool.false_eq_true, if_false, if_true, true_and, and_true, natsD, h1, h2, mod_ii _ _ (show (0 : Int) < 10 by decide), fdiv_ii _ _ (show (0 : Int) < 10 ∧ (10 : Int) < 1073741824 by decide), e1, e2]
  · refine ⟨0, ?_⟩
    rw [run_at hgr _ _ rfl]
    have h1 : ((s : Int) < ((ns.map fun (n : Nat) => PyData.int n).length : Nat)) = False := eq_false (by rw [List.length_map]; omega)
    simp only [x_cons, x_set, e_ife, e_cmp, e_var, e_f1, e_idx, e_cst, e_bin, tryK_exc, tryK_rt, tryK_nx, clK_t, clK_f, leaveS_rt, leaveS_nx, Out.calm_rt, Out.calm_nx, part_i, isi_x, isi_v, cut1, cutR_l, cutR_t, List.drop, out_rt_seq, ofOut_out_rt, R.bind_ok, R.bind_exc, R.bind_stuck, R.calm_ok, R.calm_exc, R.calm_stuck, R.map_ok, R.map_exc, R.map_stuck, R.out_ok, R.out_exc, R.out_stuck, Out.seq_nx, Out.seq_rt, Out.seq_bk, Out.seq_ct, Out.seq_exc, Out.seq_stuck, eqv_ii, eqv_ss, eqv_tt, eqv_ll, eqv_bb, eqv_it, eqv_ti, eqv_is, eqv_si, eqv_ts, eqv_st, eqv_tn, eqv_nt, eqv_tl, eqv_lt, eqvAll_nn, eqvAll_cc, eqvAll_nc, eqvAll_cn, eqR_ii, eqR_ss, eqR_bb, nth0, nth1, nth2, nth3, truthy_b, truthy_t, truthy_l, truthy_n, truthy_i, cmp_eq, cmp_ne, cmp_lt, cmp_le, cmp_gt, cmp_ge, cmp_is_nn, cmp_is_tn, cmp_is_ln, cmp_is_in, cmp_is_sn, cmp_isnot_nn, cmp_isnot_tn, cmp_isnot_ln, cmp_isnot_in, cmp_isnot_sn, isi_tt, isi_tl, isi_ti, isi_tb, isi_ts, isi_tn, isi_ii, isi_ib, isi_it, isi_il, isi_is, isi_in, isi_bb, isi_bi, isi_ss, isi_st, isi_si, isi_ll, isi_lt, len_t, len_l, tup_l, tup_t, list_l, list_t, sub_ii, add_ii, idx_t, idx_l, walk_t, walk_l, iteF_t, iteF_f, andK_t, andK_f, orK_t, orK_f, ifeK_t, ifeK_f, chK_t, chK_f, setO_some, getS_0, getS_s, ofOut_rt, ofOut_nx, ofOut_exc, List.set, List.map_cons, List.map_nil, List.cons_append, List.nil_append, List.replicate, decide_true, decide_false, Nat.reduceSub, Nat.reduceAdd, List.length_cons, List.length_nil, Bool.not_true, Bool.not_false, Bool.and_true, Bool.and_false, Bool.true_and, Bool.false_and, List.isEmpty_cons, List.isEmpty_nil, reduceIte, Bool.false_eq_true, if_false, if_true, true_and, and_true, natsD, h1, mod_ii _ _ (show (0 : Int) < 10 by decide), fdiv_ii _ _ (show (0 : Int) < 10 ∧ (10 : Int) < 1073741824 by decide)]
    rfl
include hle in
theorem grown_leaf (n : Nat) (ns : List Nat) (s many deep x : Nat) (hm : many ≤ 4) (hl : deep = 0 ∨ x % 10 < 2 ∨ 28 ≤ s) : exS (callF ds (n + 1)) (_law_grown_T3 le gr) [some (natsD ns), some (.int s), some (.int many), some (.int deep), some (.int x), some (.int ((x % 10 : Nat) : Int)), some (.int ((x / 10 : Nat) : Int)), none, none, none, none, none, none, none, none] = .rt (.tuple [(leafT (x / 10) many).d, .int ((s + 1 : Nat) : Int)]) := by
  have hc := leaf_ok hle n (x / 10) many hm
  have e3 : (s : Int) + 1 = ((s + 1 : Nat) : Int) := by omega
  by_cases h1 : deep = 0
  · have h1t : ((deep : Int) = 0) = True := eq_true (by omega)
    simp only [_law_grown_T3, x_raise, x_raiseX, x_try, h_none, h_some, h_nil, e_slf, e_slt, e_slb, e_exf, x_nil, x_cons, x_doc, x_pass, x_brk, x_cont, x_set, x_unpack, x_par, x_app, x_ext, x_aug, x_expr, x_ite, x_ret, e_nil, e_var, e_cst, e_glob, e_tup, e_lst, e_call, e_bin, e_neg, e_not, e_cmp, e_chain, e_and, e_or, e_ife, e_f1, e_isi, e_idx, es_nil, es_cons, tryK_exc, tryK_rt, tryK_nx, clK_t, clK_f, leaveS_rt, leaveS_nx, Out.calm_rt, Out.calm_nx, part_i, isi_x, isi_v, cut1, cutR_l, cutR_t, List.drop, out_rt_seq, ofOut_out_rt, R.bind_ok, R.bind_exc, R.bind_stuck, R.calm_ok, R.calm_exc, R.calm_stuck, R.map_ok, R.map_exc, R.map_stuck, R.out_ok, R.out_exc, R.out_stuck, Out.seq_nx, Out.seq_rt, Out.seq_bk, Out.seq_ct, Out.seq_exc, Out.seq_stuck, eqv_ii, eqv_ss, eqv_tt, eqv_ll, eqv_bb, eqv_it, eqv_ti, eqv_is, eqv_si, eqv_ts, eqv_st, eqv_tn, eqv_nt, eqv_tl, eqv_lt, eqvAll_nn, eqvAll_cc, eqvAll_nc, eqvAll_cn, eqR_ii, eqR_ss, eqR_bb, nth0, nth1, nth2, nth3, truthy_b, truthy_t, truthy_l, truthy_n, truthy_i, cmp_eq, cmp_ne, cmp_lt, cmp_le, cmp_gt, cmp_ge, cmp_is_nn, cmp_is_tn, cmp_is_ln, cmp_is_in, cmp_is_sn, cmp_isnot_nn, cmp_isnot_tn, cmp_isnot_ln, cmp_isnot_in, cmp_isnot_sn, isi_tt, isi_tl, isi_ti, isi_tb, isi_ts, isi_tn, isi_ii, isi_ib, isi_it, isi_il, isi_is, isi_in, isi_bb, isi_bi, isi_ss, isi_st, isi_si, isi_ll, isi_lt, len_t, len_l, tup_l, tup_t, list_l, list_t, sub_ii, add_ii, idx_t, idx_l, walk_t, walk_l, iteF_t, iteF_f, andK_t, andK_f, orK_t, orK_f, ifeK_t, ifeK_f, chK_t, chK_f, setO_some, getS_0, getS_s, ofOut_rt, ofOut_nx, ofOut_exc, List.set, List.map_cons, List.map_nil, List.cons_append, List.nil_append, List.replicate, decide_true, decide_false, Nat.reduceSub, Nat.reduceAdd, List.length_cons, List.length_nil, Bool.not_true, Bool.not_false, Bool.and_true, Bool.and_false, Bool.true_and, Bool.false_and, List.isEmpty_cons, List.isEmpty_nil, reduceIte, Bool.false_eq_true, if_false, if_true, true_and, and_true, h1t, hc, e3]
  · have h1t : ((deep : Int) = 0) = False := eq_false (by omega)
    by_cases h2 : x % 10 < 2
    · have h2t : (((x % 10 : Nat) : Int) < 2) = True := eq_true (by omega)
      simp only [_law_grown_T3, x_raise, x_raiseX, x_try, h_none, h_some, h_nil, e_slf, e_slt, e_slb, e_exf, x_nil, x_cons, x_doc, x_pass, x_brk, x_cont, x_set, x_unpack, x_par, x_app, x_ext, x_aug, x_expr, x_ite, x_ret, e_nil, e_var, e_cst, e_glob, e_tup, e_lst, e_call, e_bin, e_neg, e_not, e_cmp, e_chain, e_and, e_or, e_ife, e_f1, e_isi, e_idx, es_nil, es_cons, tryK_exc, tryK_rt, tryK_nx, clK_t, clK_f, leaveS_rt, leaveS_nx, Out.calm_rt, Out.calm_nx, part_i, isi_x, isi_v, cut1, cutR_l, cutR_t, List.drop, out_rt_seq, ofOut_out_rt, R.bind_ok, R.bind_exc, R.bind_stuck, R.calm_ok, R.calm_exc, R.calm_stuck, R.map_ok, R.map_exc, R.map_stuck, R.out_ok, R.out_exc, R.out_stuck, Out.seq_nx, Out.seq_rt, Out.seq_bk, Out.seq_ct, Out.seq_exc, Out.seq_stuck, eqv_ii, eqv_ss, eqv_tt, eqv_ll, eqv_bb, eqv_it, eqv_ti, eqv_is, eqv_si, eqv_ts, eqv_st, eqv_tn, eqv_nt, eqv_tl, eqv_lt, eqvAll_nn, eqvAll_cc, eqvAll_nc, eqvAll_cn, eqR_ii, eqR_ss, eqR_bb, nth0, nth1, nth2, nth3, truthy_b, truthy_t, truthy_l, truthy_n, truthy_i, cmp_eq, cmp_ne, cmp_lt, cmp_le, cmp_gt, cmp_ge, cmp_is_nn, cmp_is_tn, cmp_is_ln, cmp_is_in, cmp_is_sn, cmp_isnot_nn, cmp_isnot_tn, cmp_isnot_ln, cmp_isnot_in, cmp_isnot_sn, isi_tt, isi_tl, isi_ti, isi_tb, isi_ts, isi_tn, isi_ii, isi_ib, isi_it, isi_il, isi_is, isi_in, isi_bb, isi_bi, isi_ss, isi_st, isi_si, isi_ll, isi_lt, len_t, len_l, tup_l, tup_t, list_l, list_t, sub_ii, add_ii, idx_t, idx_l, walk_t, walk_l, iteF_t, iteF_f, andK_t, andK_f, orK_t, orK_f, ifeK_t, ifeK_f, chK_t, chK_f, setO_some, getS_0, getS_s, ofOut_rt, ofOut_nx, ofOut_exc, List.set, List.map_cons, List.map_nil, List.cons_append, List.nil_append, List.replicate, decide_true, decide_false, Nat.reduceSub, Nat.reduceAdd, List.length_cons, List.length_nil, Bool.not_true, Bool.not_false, Bool.and_true, Bool.and_false, Bool.true_and, Bool.false_and, List.isEmpty_cons, List.isEmpty_nil, reduceIte, Bool.false_eq_true, if_false, if_true, true_and, and_true, h1t, h2t, hc, e3]
    · have h2t : (((x % 10 : Nat) : Int) < 2) = False := eq_false (by omega)
      have h3t : ((28 : Int) ≤ (s : Int)) = True := eq_true (by omega)
      simp only [_law_grown_T3, x_raise, x_raiseX, x_try, h_none, h_some, h_nil, e_slf, e_slt, e_slb, e_exf, x_nil, x_cons, x_doc, x_pass, x_brk, x_cont, x_set, x_unpack, x_par, x_app, x_ext, x_aug, x_expr, x_ite, x_ret, e_nil, e_var, e_cst, e_glob, e_tup, e_lst, e_call, e_bin, e_neg, e_not, e_cmp, e_chain, e_and, e_or, e_ife, e_f1, e_isi, e_idx, es_nil, es_cons, tryK_exc, tryK_rt, tryK_nx, clK_t, clK_f, leaveS_rt, leaveS_nx, Out.calm_rt, Out.calm_nx, part_i, isi_x, isi_v, cut1, cutR_l, cutR_t, List.drop, out_rt_seq, ofOut_out_rt, R.bind_ok, R.bind_exc, R.bind_stuck, R.calm_ok, R.calm_exc, R.calm_stuck, R.map_ok, R.map_exc, R.map_stuck, R.out_ok, R.out_exc, R.out_stuck, Out.seq_nx, Out.seq_rt, Out.seq_bk, Out.seq_ct, Out.seq_exc, Out.seq_stuck, eqv_ii, eqv_ss, eqv_tt, eqv_ll, eqv_bb, eqv_it, eqv_ti, eqv_is, eqv_si, eqv_ts, eqv_st, eqv_tn, eqv_nt, eqv_tl, eqv_lt, eqvAll_nn, eqvAll_cc, eqvAll_nc, eqvAll_cn, eqR_ii, eqR_ss, eqR_bb, nth0, nth1, nth2, nth3, truthy_b, truthy_t, truthy_l, truthy_n, truthy_i, cmp_eq, cmp_ne, cmp_lt, cmp_le, cmp_gt, cmp_ge, cmp_is_nn, cmp_is_tn, cmp_is_ln, cmp_is_in, cmp_is_sn, cmp_isnot_nn, cmp_isnot_tn, cmp_isnot_ln, cmp_isnot_in, cmp_isnot_sn, isi_tt, isi_tl, isi_ti, isi_tb, isi_ts, isi_tn, isi_ii, isi_ib, isi_it, isi_il, isi_is, isi_in, isi_bb, isi_bi, isi_ss, isi_st, isi_si, isi_ll, isi_lt, len_t, len_l, tup_l, tup_t, list_l, list_t, sub_ii, add_ii, idx_t, idx_l, walk_t, walk_l, iteF_t, iteF_f, andK_t, andK_f, orK_t, orK_f, ifeK_t, ifeK_f, chK_t, chK_f, setO_some, getS_0, getS_s, ofOut_rt, ofOut_nx, ofOut_exc, List.set, List.map_cons, List.map_nil, List.cons_append, List.nil_append, List.replicate, decide_true, decide_false, Nat.reduceSub, Nat.reduceAdd, List.length_cons, List.length_nil, Bool.not_true, Bool.not_false, Bool.and_true, Bool.and_false, Bool.true_and, Bool.false_and, List.isEmpty_cons, List.isEmpty_nil, reduceIte, Bool.false_eq_true, if_false, if_true, true_and, and_true, h1t, h2t, h3t, hc, e3]
theorem grown_3 (C : Nat → List D → R D) (ns : List Nat) (s many deep x : Nat) (hl : ¬ (deep = 0 ∨ x % 10 < 2 ∨ 28 ≤ s)) : exS C (_law_grown_T3 le gr) [some (natsD ns), some (.int s), some (.int many), some (.int deep), some (.int x), some (.int ((x % 10 : Nat) : Int)), some (.int ((x / 10 : Nat) : Int)), none, none, none, none, none, none, none, none] = exS C (_law_grown_T4 gr) [some (natsD ns), some (.int s), some (.int many), some (.int deep), some (.int x), some (.int ((x % 10 : Nat) : Int)), some (.int ((x / 10 : Nat) : Int)), none, none, none, none, none, none, none, none] := by
  have h1t : ((deep : Int) = 0) = False := eq_false (by omega)
  have h2t : (((x % 10 : Nat) : Int) < 2) = False := eq_false (by omega)
  have h3t : ((28 : Int) ≤ (s : Int)) = False := eq_false (by omega)
  simp only [_law_grown_T3, x_raise, x_raiseX, x_try, h_none, h_some, h_nil, e_slf, e_slt, e_slb, e_exf, x_nil, x_cons, x_doc, x_pass, x_brk, x_cont, x_set, x_unpack, x_par, x_app, x_ext, x_aug, x_expr, x_ite, x_ret, e_nil, e_var, e_cst, e_glob, e_tup, e_lst, e_call, e_bin, e_neg, e_not, e_cmp, e_chain, e_and, e_or, e_ife, e_f1, e_isi, e_idx, es_nil, es_cons, tryK_exc, tryK_rt, tryK_nx, clK_t, clK_f, leaveS_rt, leaveS_nx, Out.calm_rt, Out.calm_nx, part_i, isi_x, isi_v, cut1, cutR_l, cutR_t, List.drop, out_rt_seq, ofOut_out_rt, R.bind_ok, R.bind_exc, R.bind_stuck, R.calm_ok, R.calm_exc, R.calm_stuck, R.map_ok, R.map_exc, R.map_stuck, R.out_ok, R.out_exc, R.out_stuck, Out.seq_nx, Out.seq_rt, Out.seq_bk, Out.seq_ct, Out.seq_exc, Out.seq_stuck, eqv_ii, eqv_ss, eqv_tt, eqv_ll, eqv_bb, eqv_it, eqv_ti, eqv_is, eqv_si, eqv_ts, eqv_st, eqv_tn, eqv_nt, eqv_tl, eqv_lt, eqvAll_nn, eqvAll_cc, eqvAll_nc, eqvAll_cn, eqR_ii, eqR_ss, eqR_bb, nth0, nth1, nth2, nth3, truthy_b, truthy_t, truthy_l, truthy_n, truthy_i, cmp_eq, cmp_ne, cmp_lt, cmp_le, cmp_gt, cmp_ge, cmp_is_nn, cmp_is_tn, cmp_is_ln, cmp_is_in, cmp_is_sn, cmp_isnot_nn, cmp_isnot_tn, cmp_isnot_ln, cmp_isnot_in, cmp_isnot_sn, isi_tt, isi_tl, isi_ti, isi_tb, isi_ts, isi_tn, isi_ii, isi_ib, isi_it, isi_il, isi_is, isi_in, isi_bb, isi_bi, isi_ss, isi_st, isi_si, isi_ll, isi_lt, len_t, len_l, tup_l, tup_t, list_l, list_t, sub_ii, add_ii, idx_t, idx_l, walk_t, walk_l, iteF_t, iteF_f, andK_t, andK_f, orK_t, orK_f, ifeK_t, ifeK_f, chK_t, chK_f, setO_some, getS_0, getS_s, ofOut_rt, ofOut_nx, ofOut_exc, List.set, List.map_cons, List.map_nil, List.cons_append, List.nil_append, List.replicate, decide_true, decide_false, Nat.reduceSub, Nat.reduceAdd, List.length_cons, List.length_nil, Bool.not_true, Bool.not_false, Bool.and_true, Bool.and_false, Bool.true_and, Bool.false_and, List.isEmpty_cons, List.isEmpty_nil, reduceIte, Bool.false_eq_true, if_false, if_true, true_and, and_true, h1t, h2t, h3t]
theorem grown_round (C : Nat → List D → R D) (ns : List Nat) (s many d x : Nat) (a b : Tm) (f1 f2 : Nat) (hr1 : x % 10 < 6) (hr2 : 1 ≤ many) (hr3 : many ≤ 3)
    (ha : C gr [natsD ns, .int ((s + 1 : Nat) : Int), .int ((many - 1 : Nat) : Int), .int (d : Int)] = ok (.tuple [a.d, .int f1])) (hb : C gr [natsD ns, .int f1, .int ((many + 1 : Nat) : Int), .int (d : Int)] = ok (.tuple [b.d, .int f2])) :
    exS C (_law_grown_T4 gr) [some (natsD ns), some (.int s), some (.int many), some (.int ((d + 1 : Nat) : Int)), some (.int x), some (.int ((x % 10 : Nat) : Int)), some (.int ((x / 10 : Nat) : Int)), none, none, none, none, none, none, none, none] = .rt (.tuple [(Tm.round a b).d, .int f2]) := by
  have h4t : (((x % 10 : Nat) : Int) < 6) = True := eq_true (by omega)
  have h5t : ((1 : Int) ≤ (many : Int)) = True := eq_true (by omega)
  have h6t : ((many : Int) ≤ 3) = True := eq_true (by omega)
  have e3 : (s : Int) + 1 = ((s + 1 : Nat) : Int) := by omega
  have e4 : ((d + 1 : Nat) : Int) - 1 = (d : Int) := by omega
  have e5 : (many : Int) - 1 = ((many - 1 : Nat) : Int) := by omega
  have e6 : (many : Int) + 1 = ((many + 1 : Nat) : Int) := by omega
  simp only [_law_grown_T4, x_raise, x_raiseX, x_try, h_none, h_some, h_nil, e_slf, e_slt, e_slb, e_exf, x_nil, x_cons, x_doc, x_pass, x_brk, x_cont, x_set, x_unpack, x_par, x_app, x_ext, x_aug, x_expr, x_ite, x_ret, e_nil, e_var, e_cst, e_glob, e_tup, e_lst, e_call, e_bin, e_neg, e_not, e_cmp, e_chain, e_and, e_or, e_ife, e_f1, e_isi, e_idx, es_nil, es_cons, tryK_exc, tryK_rt, tryK_nx, clK_t, clK_f, leaveS_rt, leaveS_nx, Out.calm_rt, Out.calm_nx, part_i, isi_x, isi_v, cut1, cutR_l, cutR_t, List.drop, out_rt_seq, ofOut_out_rt, R.bind_ok, R.bind_exc, R.bind_stuck, R.calm_ok, R.calm_exc, R.calm_stuck, R.map_ok, R.map_exc, R.map_stuck, R.out_ok, R.out_exc, R.out_stuck, Out.seq_nx, Out.seq_rt, Out.seq_bk, Out.seq_ct, Out.seq_exc, Out.seq_stuck, eqv_ii, eqv_ss, eqv_tt, eqv_ll, eqv_bb, eqv_it, eqv_ti, eqv_is, eqv_si, eqv_ts, eqv_st, eqv_tn, eqv_nt, eqv_tl, eqv_lt, eqvAll_nn, eqvAll_cc, eqvAll_nc, eqvAll_cn, eqR_ii, eqR_ss, eqR_bb, nth0, nth1, nth2, nth3, truthy_b, truthy_t, truthy_l, truthy_n, truthy_i, cmp_eq, cmp_ne, cmp_lt, cmp_le, cmp_gt, cmp_ge, cmp_is_nn, cmp_is_tn, cmp_is_ln, cmp_is_in, cmp_is_sn, cmp_isnot_nn, cmp_isnot_tn, cmp_isnot_ln, cmp_isnot_in, cmp_isnot_sn, isi_tt, isi_tl, isi_ti, isi_tb, isi_ts, isi_tn, isi_ii, isi_ib, isi_it, isi_il, isi_is, isi_in, isi_bb, isi_bi, isi_ss, isi_st, isi_si, isi_ll, isi_lt, len_t, len_l, tup_l, tup_t, list_l, list_t, sub_ii, add_ii, idx_t, idx_l, walk_t, walk_l, iteF_t, iteF_f, andK_t, andK_f, orK_t, orK_f, ifeK_t, ifeK_f, chK_t, chK_f, setO_some, getS_0, getS_s, ofOut_rt, ofOut_nx, ofOut_exc, List.set, List.map_cons, List.map_nil, List.cons_append, List.nil_append, List.replicate, decide_true, decide_false, Nat.reduceSub, Nat.reduceAdd, List.length_cons, List.length_nil, Bool.not_true, Bool.not_false, Bool.and_true, Bool.and_false, Bool.true_and, Bool.false_and, List.isEmpty_cons, List.isEmpty_nil, reduceIte, Bool.false_eq_true, if_false, if_true, true_and, and_true, h4t, h5t, h6t, e3, e4, e5, e6, ha, hb, Tm.d]
theorem grown_4 (C : Nat → List D → R D) (ns : List Nat) (s many deep x : Nat) (hr : ¬ (x % 10 < 6 ∧ 1 ≤ many ∧ many ≤ 3)) : exS C (_law_grown_T4 gr) [some (natsD ns), some (.int s), some (.int many), some (.int deep), some (.int x), some (.int ((x % 10 : Nat) : Int)), some (.int ((x / 10 : Nat) : Int)), none, none, none, none, none, none, none, none] = exS C (_law_grown_T5 gr) [some (natsD ns), some (.int s), some (.int many), some (.int deep), some (.int x), some (.int ((x % 10 : Nat) : Int)), some (.int ((x / 10 : Nat) : Int)), none, none, none, none, none, none, none, none] := by
  by_cases q1 : x % 10 < 6
  · have q1t : (((x % 10 : Nat) : Int) < 6) = True := eq_true (by omega)
    by_cases q2 : 1 ≤ many
    · have q2t : ((1 : Int) ≤ (many : Int)) = True := eq_true (by omega)
      have q3t : ((many : Int) ≤ 3) = False := eq_false (by omega)
      simp only [_law_grown_T4, x_raise, x_raiseX, x_try, h_none, h_some, h_nil, e_slf, e_slt, e_slb, e_exf, x_nil, x_cons, x_doc, x_pass, x_brk, x_cont, x_set, x_unpack, x_par, x_app, x_ext, x_aug, x_expr, x_ite, x_ret, e_nil, e_var, e_cst, e_glob, e_tup, e_lst, e_call, e_bin, e_neg, e_not, e_cmp, e_chain, e_and, e_or, e_ife, e_f1, e_isi, e_idx, es_nil, es_cons, tryK_exc, tryK_rt, tryK_nx, clK_t, clK_f, leaveS_rt, leaveS_nx, Out.calm_rt, Out.calm_nx, part_i, isi_x, isi_v, cut1, cutR_l, cutR_t, List.drop, out_rt_seq, ofOut_out_rt, R.bind_ok, R.bind_exc, R.bind_stuck, R.calm_ok, R.calm_exc, R.calm_stuck, R.map_ok, R.map_exc, R.map_stuck, R.out_ok, R.out_exc, R.out_stuck, Out.seq_nx, Out.seq_rt, Out.seq_bk, Out.seq_ct, Out.seq_exc, Out.seq_stuck, eqv_ii, eqv_ss, eqv_tt, eqv_ll, eqv_bb, eqv_it, eqv_ti, eqv_is, eqv_si, eqv_ts, eqv_st, eqv_tn, eqv_nt, eqv_tl, eqv_lt, eqvAll_nn, eqvAll_cc, eqvAll_nc, eqvAll_cn, eqR_ii, eqR_ss, eqR_bb, nth0, nth1, nth2, nth3, truthy_b, truthy_t, truthy_l, truthy_n, truthy_i, cmp_eq, cmp_ne, cmp_lt, cmp_le, cmp_gt, cmp_ge, cmp_is_nn, cmp_is_tn, cmp_is_ln, cmp_is_in, cmp_is_sn, cmp_isnot_nn, cmp_isnot_tn, cmp_isnot_ln, cmp_isnot_in, cmp_isnot_sn, isi_tt, isi_tl, isi_ti, isi_tb, isi_ts, isi_tn, isi_ii, isi_ib, isi_it, isi_il, isi_is, isi_in, isi_bb, isi_bi, isi_ss, isi_st, isi_si, isi_ll, isi_lt, len_t, len_l, tup_l, tup_t, list_l, list_t, sub_ii, add_ii, idx_t, idx_l, walk_t, walk_l, iteF_t, iteF_f, andK_t, andK_f, orK_t, orK_f, ifeK_t, ifeK_f, chK_t, chK_f, setO_some, getS_0, getS_s, ofOut_rt, ofOut_nx, ofOut_exc, List.set, List.map_cons, List.map_nil, List.cons_append, List.nil_append, List.replicate, decide_true, decide_false, Nat.reduceSub, Nat.reduceAdd, List.length_cons, List.length_nil, Bool.not_true, Bool.not_false, Bool.and_true, Bool.and_false, Bool.true_and, Bool.false_and, List.isEmpty_cons, List.isEmpty_nil, reduceIte, Bool.false_eq_true, if_false, if_true, true_and, and_true, q1t, q2t, q3t]
    · have q2t : ((1 : Int) ≤ (many : Int)) = False := eq_false (by omega)
      simp only [_law_grown_T4, x_raise, x_raiseX, x_try, h_none, h_some, h_nil, e_slf, e_slt, e_slb, e_exf, x_nil, x_cons, x_doc, x_pass, x_brk, x_cont, x_set, x_unpack, x_par, x_app, x_ext, x_aug, x_expr, x_ite, x_ret, e_nil, e_var, e_cst, e_glob, e_tup, e_lst, e_call, e_bin, e_neg, e_not, e_cmp, e_chain, e_and, e_or, e_ife, e_f1, e_isi, e_idx, es_nil, es_cons, tryK_exc, tryK_rt, tryK_nx, clK_t, clK_f, leaveS_rt, leaveS_nx, Out.calm_rt, Out.calm_nx, part_i, isi_x, isi_v, cut1, cutR_l, cutR_t, List.drop, out_rt_seq, ofOut_out_rt, R.bind_ok, R.bind_exc, R.bind_stuck, R.calm_ok, R.calm_exc, R.calm_stuck, R.map_ok, R.map_exc, R.map_stuck, R.out_ok, R.out_exc, R.out_stuck, Out.seq_nx, Out.seq_rt, Out.seq_bk, Out.seq_ct, Out.seq_exc, Out.seq_stuck, eqv_ii, eqv_ss, eqv_tt, eqv_ll, eqv_bb, eqv_it, eqv_ti, eqv_is, eqv_si, eqv_ts, eqv_st, eqv_tn, eqv_nt, eqv_tl, eqv_lt, eqvAll_nn, eqvAll_cc, eqvAll_nc, eqvAll_cn, eqR_ii, eqR_ss, eqR_bb, nth0, nth1, nth2, nth3, truthy_b, truthy_t, truthy_l, truthy_n, truthy_i, cmp_eq, cmp_ne, cmp_lt, cmp_le, cmp_gt, cmp_ge, cmp_is_nn, cmp_is_tn, cmp_is_ln, cmp_is_in, cmp_is_sn, cmp_isnot_nn, cmp_isnot_tn, cmp_isnot_ln, cmp_isnot_in, cmp_isnot_sn, isi_tt, isi_tl, isi_ti, isi_tb, isi_ts, isi_tn, isi_ii, isi_ib, isi_it, isi_il, isi_is, isi_in, isi_bb, isi_bi, isi_ss, isi_st, isi_si, isi_ll, isi_lt, len_t, len_l, tup_l, tup_t, list_l, list_t, sub_ii, add_ii, idx_t, idx_l, walk_t, walk_l, iteF_t, iteF_f, andK_t, andK_f, orK_t, orK_f, ifeK_t, ifeK_f, chK_t, chK_f, setO_some, getS_0, getS_s, ofOut_rt, ofOut_nx, ofOut_exc, List.set, List.map_cons, List.map_nil, List.cons_append, List.nil_append, List.replicate, decide_true, decide_false, Nat.reduceSub, Nat.reduceAdd, List.length_cons, List.length_nil, Bool.not_true, Bool.not_false, Bool.and_true, Bool.and_false, Bool.true_and, Bool.false_and, List.isEmpty_cons, List.isEmpty_nil, reduceIte, Bool.false_eq_true, if_false, if_true, true_and, and_true, q1t, q2t]
  · have q1t : (((x % 10 : Nat) : Int) < 6) = False := eq_false (by omega)
    simp only [_law_grown_T4, x_raise, x_raiseX, x_try, h_none, h_some, h_nil, e_slf, e_slt, e_slb, e_exf, x_nil, x_cons, x_doc, x_pass, x_brk, x_cont, x_set, x_unpack, x_par, x_app, x_ext, x_aug, x_expr, x_ite, x_ret, e_nil, e_var, e_cst, e_glob, e_tup, e_lst, e_call, e_bin, e_neg, e_not, e_cmp, e_chain, e_and, e_or, e_ife, e_f1, e_isi, e_idx, es_nil, es_cons, tryK_exc, tryK_rt, tryK_nx, clK_t, clK_f, leaveS_rt, leaveS_nx, Out.calm_rt, Out.calm_nx, part_i, isi_x, isi_v, cut1, cutR_l, cutR_t, List.drop, out_rt_seq, ofOut_out_rt, R.bind_ok, R.bind_exc, R.bind_stuck, R.calm_ok, R.calm_exc, R.calm_stuck, R.map_ok, R.map_exc, R.map_stuck, R.out_ok, R.out_exc, R.out_stuck, Out.seq_nx, Out.seq_rt, Out.seq_bk, Out.seq_ct, Out.seq_exc, Out.seq_stuck, eqv_ii, eqv_ss, eqv_tt, eqv_ll, eqv_bb, eqv_it, eqv_ti, eqv_is, eqv_si, eqv_ts, eqv_st, eqv_tn, eqv_nt, eqv_tl, eqv_lt, eqvAll_nn, eqvAll_cc, eqvAll_nc, eqvAll_cn, eqR_ii, eqR_ss, eqR_bb, nth0, nth1, nth2, nth3, truthy_b, truthy_t, truthy_l, truthy_n, truthy_i, cmp_eq, cmp_ne, cmp_lt, cmp_le, cmp_gt, cmp_ge, cmp_is_nn, cmp_is_tn, cmp_is_ln, cmp_is_in, cmp_is_sn, cmp_isnot_nn, cmp_isnot_tn, cmp_isnot_ln, cmp_isnot_in, cmp_isnot_sn, isi_tt, isi_tl, isi_ti, isi_tb, isi_ts, isi_tn, isi_ii, isi_ib, isi_it, isi_il, isi_is, isi_in, isi_bb, isi_bi, isi_ss, isi_st, isi_si, isi_ll, isi_lt, len_t, len_l, tup_l, tup_t, list_l, list_t, sub_ii, add_ii, idx_t, idx_l, walk_t, walk_l, iteF_t, iteF_f, andK_t, andK_f, orK_t, orK_f, ifeK_t, ifeK_f, chK_t, chK_f, setO_some, getS_0, getS_s, ofOut_rt, ofOut_nx, ofOut_exc, List.set, List.map_cons, List.map_nil, List.cons_append, List.nil_append, List.replicate, decide_true, decide_false, Nat.reduceSub, Nat.reduceAdd, List.length_cons, List.length_nil, Bool.not_true, Bool.not_false, Bool.and_true, Bool.and_false, Bool.true_and, Bool.false_and, List.isEmpty_cons, List.isEmpty_nil, reduceIte, Bool.false_eq_true, if_false, if_true, true_and, and_true, q1t]
theorem grown_5 (C : Nat → List D → R D) (ns : List Nat) (s many d x wd : Nat) (hwd : 1 + x / 10 % 7 % 3 = wd) : exS C (_law_grown_T5 gr) [some (natsD ns), some (.int s), some (.int many), some (.int ((d + 1 : Nat) : Int)), some (.int x), some (.int ((x % 10 : Nat) : Int)), some (.int ((x / 10 : Nat) : Int)), none, none, none, none, none, none, none, none] = exS C (_law_grown_T7 gr) [some (natsD ns), some (.int s), some (.int many), some (.int ((d + 1 : Nat) : Int)), some (.int x), some (.int ((x % 10 : Nat) : Int)), some (.int ((x / 10 : Nat) : Int)), some (.int (wd : Int)), some (.tuple [.tuple [.str w_next], .int ((s + 1 : Nat) : Int)]), none, none, none, none, none, none] := by
  have e3 : (s : Int) + 1 = ((s + 1 : Nat) : Int) := by omega
  have e5 : (1 : Int) + ((x / 10 : Nat) : Int) % 7 % 3 = (wd : Int) := by omega
  simp only [_law_grown_T5, x_raise, x_raiseX, x_try, h_none, h_some, h_nil, e_slf, e_slt, e_slb, e_exf, x_nil, x_cons, x_doc, x_pass, x_brk, x_cont, x_set, x_unpack, x_par, x_app, x_ext, x_aug, x_expr, x_ite, x_ret, e_nil, e_var, e_cst, e_glob, e_tup, e_lst, e_call, e_bin, e_neg, e_not, e_cmp, e_chain, e_and, e_or, e_ife, e_f1, e_isi, e_idx, es_nil, es_cons, tryK_exc, tryK_rt, tryK_nx, clK_t, clK_f, leaveS_rt, leaveS_nx, Out.calm_rt, Out.calm_nx, part_i, isi_x, isi_v, cut1, cutR_l, cutR_t, List.drop, out_rt_seq, ofOut_out_rt, R.bind_ok, R.bind_exc, R.bind_stuck, R.calm_ok, R.calm_exc, R.calm_stuck, R.map_ok, R.map_exc, R.map_stuck, R.out_ok, R.out_exc, R.out_stuck, Out.seq_nx, Out.seq_rt, Out.seq_bk, Out.seq_ct, Out.seq_exc, Out.seq_stuck, eqv_ii, eqv_ss, eqv_tt, eqv_ll, eqv_bb, eqv_it, eqv_ti, eqv_is, eqv_si, eqv_ts, eqv_st, eqv_tn, eqv_nt, eqv_tl, eqv_lt, eqvAll_nn, eqvAll_cc, eqvAll_nc, eqvAll_cn, eqR_ii, eqR_ss, eqR_bb, nth0, nth1, nth2, nth3, truthy_b, truthy_t, truthy_l, truthy_n, truthy_i, cmp_eq, cmp_ne, cmp_lt, cmp_le, cmp_gt, cmp_ge, cmp_is_nn, cmp_is_tn, cmp_is_ln, cmp_is_in, cmp_is_sn, cmp_isnot_nn, cmp_isnot_tn, cmp_isnot_ln, cmp_isnot_in, cmp_isnot_sn, isi_tt, isi_tl, isi_ti, isi_tb, isi_ts, isi_tn, isi_ii, isi_ib, isi_it, isi_il, isi_is, isi_in, isi_bb, isi_bi, isi_ss, isi_st, isi_si, isi_ll, isi_lt, len_t, len_l, tup_l, tup_t, list_l, list_t, sub_ii, add_ii, idx_t, idx_l, walk_t, walk_l, iteF_t, iteF_f, andK_t, andK_f, orK_t, orK_f, ifeK_t, ifeK_f, chK_t, chK_f, setO_some, getS_0, getS_s, ofOut_rt, ofOut_nx, ofOut_exc, List.set, List.map_cons, List.map_nil, List.cons_append, List.nil_append, List.replicate, decide_true, decide_false, Nat.reduceSub, Nat.reduceAdd, List.length_cons, List.length_nil, Bool.not_true, Bool.not_false, Bool.and_true, Bool.and_false, Bool.true_and, Bool.false_and, List.isEmpty_cons, List.isEmpty_nil, reduceIte, Bool.false_eq_true, if_false, if_true, true_and, and_true, e3, e5, mod_ii _ _ (show (0 : Int) < 7 by decide), mod_ii _ _ (show (0 : Int) < 3 by decide)]
theorem grown_7 (C : Nat → List D → R D) (ns : List Nat) (s many d x wd : Nat) (o : Tm) (e0 : Nat) (ho : 1 < wd ∨ x / 10 / 7 % 2 = 0) (hoc : C gr [natsD ns, .int ((s + 1 : Nat) : Int), .int (wd : Int), .int (d : Int)] = ok (.tuple [o.d, .int e0])) :
    exS C (_law_grown_T7 gr) [some (natsD ns), some (.int s), some (.int many), some (.int ((d + 1 : Nat) : Int)), some (.int x), some (.int ((x % 10 : Nat) : Int)), some (.int ((x / 10 : Nat) : Int)), some (.int (wd : Int)), some (.tuple [.tuple [.str w_next], .int ((s + 1 : Nat) : Int)]), none, none, none, none, none, none] = exS C (_law_grown_T8 gr) [some (natsD ns), some (.int s), some (.int many), some (.int ((d + 1 : Nat) : Int)), some (.int x), some (.int ((x % 10 : Nat) : Int)), some (.int ((x / 10 : Nat) : Int)), some (.int (wd : Int)), some (.tuple [o.d, .int e0]), none, none, none, none, none, none] := by
  have e3 : (s : Int) + 1 = ((s + 1 : Nat) : Int) := by omega
  have e4 : ((d + 1 : Nat) : Int) - 1 = (d : Int) := by omega
  have e6 : ((x / 10 : Nat) : Int) / 7 % 2 = ((x / 10 / 7 % 2 : Nat) : Int) := by omega
  unfold _law_grown_T7
  refine x_cons_nx ((x_ite_t ?_).trans ?_)
  · by_cases q1 : 1 < wd
    · have q1t : ((1 : Int) < (wd : Int)) = True := eq_true (by omega)
      simp only [x_raise, x_raiseX, x_try, h_none, h_some, h_nil, e_slf, e_slt, e_slb, e_exf, x_nil, x_cons, x_doc, x_pass, x_brk, x_cont, x_set, x_unpack, x_par, x_app, x_ext, x_aug, x_expr, x_ite, x_ret, e_nil, e_var, e_cst, e_glob, e_tup, e_lst, e_call, e_bin, e_neg, e_not, e_cmp, e_chain, e_and, e_or, e_ife, e_f1, e_isi, e_idx, es_nil, es_cons, tryK_exc, tryK_rt, tryK_nx, clK_t, clK_f, leaveS_rt, leaveS_nx, Out.calm_rt, Out.calm_nx, part_i, isi_x, isi_v, cut1, cutR_l, cutR_t, List.drop, out_rt_seq, ofOut_out_rt, R.bind_ok, R.bind_exc, R.bind_stuck, R.calm_ok, R.calm_exc, R.calm_stuck, R.map_ok, R.map_exc, R.map_stuck, R.out_ok, R.out_exc, R.out_stuck, Out.seq_nx, Out.seq_rt, Out.seq_bk, Out.seq_ct, Out.seq_exc, Out.seq_stuck, eqv_ii, eqv_ss, eqv_tt, eqv_ll, eqv_bb, eqv_it, eqv_ti, eqv_is, eqv_si, eqv_ts, eqv_st, eqv_tn, eqv_nt, eqv_tl, eqv_lt, eqvAll_nn, eqvAll_cc, eqvAll_nc, eqvAll_cn, eqR_ii, eqR_ss, eqR_bb, nth0, nth1, nth2, nth3, truthy_b, truthy_t, truthy_l, truthy_n, truthy_i, cmp_eq, cmp_ne, cmp_lt, cmp_le, cmp_gt, cmp_ge, cmp_is_nn, cmp_is_tn, cmp_is_ln, cmp_is_in, cmp_is_sn, cmp_isnot_nn, cmp_isnot_tn, cmp_isnot_ln, cmp_isnot_in, cmp_isnot_sn, isi_tt, isi_tl, isi_ti, isi_tb, isi_ts, isi_tn, isi_ii, isi_ib, isi_it, isi_il, isi_is, isi_in, isi_bb, isi_bi, isi_ss, isi_st, isi_si, isi_ll, isi_lt, len_t, len_l, tup_l, tup_t, list_l, list_t, sub_ii, add_ii, idx_t, idx_l, walk_t, walk_l, iteF_t, iteF_f, andK_t, andK_f, orK_t, orK_f, ifeK_t, ifeK_f, chK_t, chK_f, setO_some, getS_0, getS_s, ofOut_rt, ofOut_nx, ofOut_exc, List.set, List.map_cons, List.map_nil, List.cons_append, List.nil_append, List.replicate, decide_true, decide_false, Nat.reduceSub, Nat.reduceAdd, List.length_cons, List.length_nil, Bool.not_true, Bool.not_false, Bool.and_true, Bool.and_false, Bool.true_and, Bool.false_and, List.isEmpty_cons, List.isEmpty_nil, reduceIte, Bool.false_eq_true, if_false, if_true, true_and, and_true, q1t]
    · have q1t : ((1 : Int) < (wd : Int)) = False := eq_false (by omega)
      have q2t : (((x / 10 / 7 % 2 : Nat) : Int) = 0) = True := eq_true (by omega)
      simp only [x_raise, x_raiseX, x_try, h_none, h_some, h_nil, e_slf, e_slt, e_slb, e_exf, x_nil, x_cons, x_doc, x_pass, x_brk, x_cont, x_set, x_unpack, x_par, x_app, x_ext, x_aug, x_expr, x_ite, x_ret, e_nil, e_var, e_cst, e_glob, e_tup, e_lst, e_call, e_bin, e_neg, e_not, e_cmp, e_chain, e_and, e_or, e_ife, e_f1, e_isi, e_idx, es_nil, es_cons, tryK_exc, tryK_rt, tryK_nx, clK_t, clK_f, leaveS_rt, leaveS_nx, Out.calm_rt, Out.calm_nx, part_i, isi_x, isi_v, cut1, cutR_l, cutR_t, List.drop, out_rt_seq, ofOut_out_rt, R.bind_ok, R.bind_exc, R.bind_stuck, R.calm_ok, R.calm_exc, R.calm_stuck, R.map_ok, R.map_exc, R.map_stuck, R.out_ok, R.out_exc, R.out_stuck, Out.seq_nx, Out.seq_rt, Out.seq_bk, Out.seq_ct, Out.seq_exc, Out.seq_stuck, eqv_ii, eqv_ss, eqv_tt, eqv_ll, eqv_bb, eqv_it, eqv_ti, eqv_is, eqv_si, eqv_ts, eqv_st, eqv_tn, eqv_nt, eqv_tl, eqv_lt, eqvAll_nn, eqvAll_cc, eqvAll_nc, eqvAll_cn, eqR_ii, eqR_ss, eqR_bb, nth0, nth1, nth2, nth3, truthy_b, truthy_t, truthy_l, truthy_n, truthy_i, cmp_eq, cmp_ne, cmp_lt, cmp_le, cmp_gt, cmp_ge, cmp_is_nn, cmp_is_tn, cmp_is_ln, cmp_is_in, cmp_is_sn, cmp_isnot_nn, cmp_isnot_tn, cmp_isnot_ln, cmp_isnot_in, cmp_isnot_sn, isi_tt, isi_tl, isi_ti, isi_tb, isi_ts, isi_tn, isi_ii, isi_ib, isi_it, isi_il, isi_is, isi_in, isi_bb, isi_bi, isi_ss, isi_st, isi_si, isi_ll, isi_lt, len_t, len_l, tup_l, tup_t, list_l, list_t, sub_ii, add_ii, idx_t, idx_l, walk_t, walk_l, iteF_t, iteF_f, andK_t, andK_f, orK_t, orK_f, ifeK_t, ifeK_f, chK_t, chK_f, setO_some, getS_0, getS_s, ofOut_rt, ofOut_nx, ofOut_exc, List.set, List.map_cons, List.map_nil, List.cons_append, List.nil_append, List.replicate, decide_true, decide_false, Nat.reduceSub, Nat.reduceAdd, List.length_cons, List.length_nil, Bool.not_true, Bool.not_false, Bool.and_true, Bool.and_false, Bool.true_and, Bool.false_and, List.isEmpty_cons, List.isEmpty_nil, reduceIte, Bool.false_eq_true, if_false, if_true, true_and, and_true, q1t, q2t, mod_ii _ _ (show (0 : Int) < 2 by decide), fdiv_ii _ _ (show (0 : Int) < 7 ∧ (7 : Int) < 1073741824 by decide), e6]
  · simp only [x_raise, x_raiseX, x_try, h_none, h_some, h_nil, e_slf, e_slt, e_slb, e_exf, x_nil, x_cons, x_doc, x_pass, x_brk, x_cont, x_set, x_unpack, x_par, x_app, x_ext, x_aug, x_expr, x_ite, x_ret, e_nil, e_var, e_cst, e_glob, e_tup, e_lst, e_call, e_bin, e_neg, e_not, e_cmp, e_chain, e_and, e_or, e_ife, e_f1, e_isi, e_idx, es_nil, es_cons, tryK_exc, tryK_rt, tryK_nx, clK_t, clK_f, leaveS_rt, leaveS_nx, Out.calm_rt, Out.calm_nx, part_i, isi_x, isi_v, cut1, cutR_l, cutR_t, List.drop, out_rt_seq, ofOut_out_rt, R.bind_ok, R.bind_exc, R.bind_stuck, R.calm_ok, R.calm_exc, R.calm_stuck, R.map_ok, R.map_exc, R.map_stuck, R.out_ok, R.out_exc, R.out_stuck, Out.seq_nx, Out.seq_rt, Out.seq_bk, Out.seq_ct, Out.seq_exc, Out.seq_stuck, eqv_ii, eqv_ss, eqv_tt, eqv_ll, eqv_bb, eqv_it, eqv_ti, eqv_is, eqv_si, eqv_ts, eqv_st, eqv_tn, eqv_nt, eqv_tl, eqv_lt, eqvAll_nn, eqvAll_cc, eqvAll_nc, eqvAll_cn, eqR_ii, eqR_ss, eqR_bb, nth0, nth1, nth2, nth3, truthy_b, truthy_t, truthy_l, truthy_n, truthy_i, cmp_eq, cmp_ne, cmp_lt, cmp_le, cmp_gt, cmp_ge, cmp_is_nn, cmp_is_tn, cmp_is_ln, cmp_is_in, cmp_is_sn, cmp_isnot_nn, cmp_isnot_tn, cmp_isnot_ln, cmp_isnot_in, cmp_isnot_sn, isi_tt, isi_tl, isi_ti, isi_tb, isi_ts, isi_tn, isi_ii, isi_ib, isi_it, isi_il, isi_is, isi_in, isi_bb, isi_bi, isi_ss, isi_st, isi_si, isi_ll, isi_lt, len_t, len_l, tup_l, tup_t, list_l, list_t, sub_ii, add_ii, idx_t, idx_l, walk_t, walk_l, iteF_t, iteF_f, andK_t, andK_f, orK_t, orK_f, ifeK_t, ifeK_f, chK_t, chK_f, setO_some, getS_0, getS_s, ofOut_rt, ofOut_nx, ofOut_exc, List.set, List.map_cons, List.map_nil, List.cons_append, List.nil_append, List.replicate, decide_true, decide_false, Nat.reduceSub, Nat.reduceAdd, List.length_cons, List.length_nil, Bool.not_true, Bool.not_false, Bool.and_true, Bool.and_false, Bool.true_and, Bool.false_and, List.isEmpty_cons, List.isEmpty_nil, reduceIte, Bool.false_eq_true, if_false, if_true, true_and, and_true, e3, e4, hoc]
theorem grown_7n (C : Nat → List D → R D) (ns : List Nat) (s many d x wd : Nat) (ho : ¬ (1 < wd ∨ x / 10 / 7 % 2 = 0)) : exS C (_law_grown_T7 gr) [some (natsD ns), some (.int s), some (.int many), some (.int ((d + 1 : Nat) : Int)), some (.int x), some (.int ((x % 10 : Nat) : Int)), some (.int ((x / 10 : Nat) : Int)), some (.int (wd : Int)), some (.tuple [.tuple [.str w_next], .int ((s + 1 : Nat) : Int)]), none, none, none, none, none, none] = exS C (_law_grown_T8 gr) [some (natsD ns), some (.int s), some (.int many), some (.int ((d + 1 : Nat) : Int)), some (.int x), some (.int ((x % 10 : Nat) : Int)), some (.int ((x / 10 : Nat) : Int)), some (.int (wd : Int)), some (.tuple [.tuple [.str w_next], .int ((s + 1 : Nat) : Int)]), none, none, none, none, none, none] := by
  have e6 : ((x / 10 : Nat) : Int) / 7 % 2 = ((x / 10 / 7 % 2 : Nat) : Int) := by omega
  have q1t : ((1 : Int) < (wd : Int)) = False := eq_false (by omega)
  have q2t : (((x / 10 / 7 % 2 : Nat) : Int) = 0) = False := eq_false (by omega)
  unfold _law_grown_T7
  refine x_cons_nx ((x_ite_f ?_).trans ?_)
  · simp only [x_raise, x_raiseX, x_try, h_none, h_some, h_nil, e_slf, e_slt, e_slb, e_exf, x_nil, x_cons, x_doc, x_pass, x_brk, x_cont, x_set, x_unpack, x_par, x_app, x_ext, x_aug, x_expr, x_ite, x_ret, e_nil, e_var, e_cst, e_glob, e_tup, e_lst, e_call, e_bin, e_neg, e_not, e_cmp, e_chain, e_and, e_or, e_ife, e_f1, e_isi, e_idx, es_nil, es_cons, tryK_exc, tryK_rt, tryK_nx, clK_t, clK_f, leaveS_rt, leaveS_nx, Out.calm_rt, Out.calm_nx, part_i, isi_x, isi_v, cut1, cutR_l, cutR_t, List.drop, out_rt_seq, ofOut_out_rt, R.bind_ok, R.bind_exc, R.bind_stuck, R.calm_ok, R.calm_exc, R.calm_stuck, R.map_ok, R.map_exc, R.map_stuck, R.out_ok, R.out_exc, R.out_stuck, Out.seq_nx, Out.seq_rt, Out.seq_bk, Out.seq_ct, Out.seq_exc, Out.seq_stuck, eqv_ii, eqv_ss, eqv_tt, eqv_ll, eqv_bb, eqv_it, eqv_ti, eqv_is, eqv_si, eqv_ts, eqv_st, eqv_tn, eqv_nt, eqv_tl, eqv_lt, eqvAll_nn, eqvAll_cc, eqvAll_nc, eqvAll_cn, eqR_ii, eqR_ss, eqR_bb, nth0, nth1, nth2, nth3, truthy_b, truthy_t, truthy_l, truthy_n, truthy_i, cmp_eq, cmp_ne, cmp_lt, cmp_le, cmp_gt, cmp_ge, cmp_is_nn, cmp_is_tn, cmp_is_ln, cmp_is_in, cmp_is_sn, cmp_isnot_nn, cmp_isnot_tn, cmp_isnot_ln, cmp_isnot_in, cmp_isnot_sn, isi_tt, isi_tl, isi_ti, isi_tb, isi_ts, isi_tn, isi_ii, isi_ib, isi_it, isi_il, isi_is, isi_in, isi_bb, isi_bi, isi_ss, isi_st, isi_si, isi_ll, isi_lt, len_t, len_l, tup_l, tup_t, list_l, list_t, sub_ii, add_ii, idx_t, idx_l, walk_t, walk_l, iteF_t, iteF_f, andK_t, andK_f, orK_t, orK_f, ifeK_t, ifeK_f, chK_t, chK_f, setO_some, getS_0, getS_s, ofOut_rt, ofOut_nx, ofOut_exc, List.set, List.map_cons, List.map_nil, List.cons_append, List.nil_append, List.replicate, decide_true, decide_false, Nat.reduceSub, Nat.reduceAdd, List.length_cons, List.length_nil, Bool.not_true, Bool.not_false, Bool.and_true, Bool.and_false, Bool.true_and, Bool.false_and, List.isEmpty_cons, List.isEmpty_nil, reduceIte, Bool.false_eq_true, if_false, if_true, true_and, and_true, q1t, q2t, mod_ii _ _ (show (0 : Int) < 2 by decide), fdiv_ii _ _ (show (0 : Int) < 7 ∧ (7 : Int) < 1073741824 by decide), e6]
  · rfl
theorem rng_nat (wd : Nat) (h : wd ≤ 1000) : rng1R (.int (wd : Int)) = ok (.list ((List.range wd).map fun (k : Nat) => .int (0 + (k : Int)))) := by
  have hb : (big62 0 && big62 (wd : Int) && decide (((wd : Int) - 0).toNat ≤ Line)) = true := by
    simp only [big62, Bool.and_eq_true, decide_eq_true_eq]
    refine ⟨⟨by omega, by omega⟩, ?_⟩
    exact Nat.le_trans (show ((wd : Int) - 0).toNat ≤ 1000 by omega) (by decide)
  show rngR 0 (wd : Int) = _
  unfold rngR
  rw [if_pos hb]
  have : ((wd : Int) - 0).toNat = wd := by omega
  rw [this]
theorem grown_p1 (C : Nat → List D → R D) (ns : List Nat) (s many d x wd e0 : Nat) (od : D) : exS C (.set 9 (.lst .nil)) [some (natsD ns), some (.int s), some (.int many), some (.int ((d + 1 : Nat) : Int)), some (.int x), some (.int ((x % 10 : Nat) : Int)), some (.int ((x / 10 : Nat) : Int)), some (.int (wd : Int)), some (.tuple [od, .int e0]), none, none, none, none, none, none] = .nx [some (natsD ns), some (.int s), some (.int many), some (.int ((d + 1 : Nat) : Int)), some (.int x), some (.int ((x % 10 : Nat) : Int)), some (.int ((x / 10 : Nat) : Int)), some (.int (wd : Int)), some (.tuple [od, .int e0]), some (.list []), none, none, none, none, none] := by simp only [x_raise, x_raiseX, x_try, h_none, h_some, h_nil, e_slf, e_slt, e_slb, e_exf, x_nil, x_cons, x_doc, x_pass, x_brk, x_cont, x_set, x_unpack, x_par, x_app, x_ext, x_aug, x_expr, x_ite, x_ret, e_nil, e_var, e_cst, e_glob, e_tup, e_lst, e_call, e_bin, e_neg, e_not, e_cmp, e_chain, e_and, e_or, e_ife, e_f1, e_isi, e_idx, es_nil, es_cons, tryK_exc, tryK_rt, tryK_nx, clK_t, clK_f, leaveS_rt, leaveS_nx, Out.calm_rt, Out.calm_nx, part_i, isi_x, isi_v, cut1, cutR_l, cutR_t, List.drop, out_rt_seq, ofOut_out_rt, R.bind_ok, R.bind_exc, R.bind_stuck, R.calm_ok, R.calm_exc, R.calm_stuck, R.map_ok, R.map_exc, R.map_stuck, R.out_ok, R.out_exc, R.out_stuck, Out.seq_nx, Out.seq_rt, Out.seq_bk, Out.seq_ct, Out.seq_exc, Out.seq_stuck, eqv_ii, eqv_ss, eqv_tt, eqv_ll, eqv_bb, eqv_it, eqv_ti, eqv_is, eqv_si, eqv_ts, eqv_st, eqv_tn, eqv_nt, eqv_tl, eqv_lt, eqvAll_nn, eqvAll_cc, eqvAll_nc, eqvAll_cn, eqR_ii, eqR_ss, eqR_bb, nth0, nth1, nth2, nth3, truthy_b, truthy_t, truthy_l, truthy_n, truthy_i, cmp_eq, cmp_ne, cmp_lt, cmp_le, cmp_gt, cmp_ge, cmp_is_nn, cmp_is_tn, cmp_is_ln, cmp_is_in, cmp_is_sn, cmp_isnot_nn, cmp_isnot_tn, cmp_isnot_ln, cmp_isnot_in, cmp_isnot_sn, isi_tt, isi_tl, isi_ti, isi_tb, isi_ts, isi_tn, isi_ii, isi_ib, isi_it, isi_il, isi_is, isi_in, isi_bb, isi_bi, isi_ss, isi_st, isi_si, isi_ll, isi_lt, len_t, len_l, tup_l, tup_t, list_l, list_t, sub_ii, add_ii, idx_t, idx_l, walk_t, walk_l, iteF_t, iteF_f, andK_t, andK_f, orK_t, orK_f, ifeK_t, ifeK_f, chK_t, chK_f, setO_some, getS_0, getS_s, ofOut_rt, ofOut_nx, ofOut_exc, List.set, List.map_cons, List.map_nil, List.cons_append, List.nil_append, List.replicate, decide_true, decide_false, Nat.reduceSub, Nat.reduceAdd, List.length_cons, List.length_nil, Bool.not_true, Bool.not_false, Bool.and_true, Bool.and_false, Bool.true_and, Bool.false_and, List.isEmpty_cons, List.isEmpty_nil, reduceIte, Bool.false_eq_true, if_false, if_true, true_and, and_true]
theorem grown_p2 (C : Nat → List D → R D) (ns : List Nat) (s many d x wd e0 : Nat) (od : D) : exS C (.set 10 (.idx (.var 8) (.cst (.int 1)))) [some (natsD ns), some (.int s), some (.int many), some (.int ((d + 1 : Nat) : Int)), some (.int x), some (.int ((x % 10 : Nat) : Int)), some (.int ((x / 10 : Nat) : Int)), some (.int (wd : Int)), some (.tuple [od, .int e0]), some (.list []), none, none, none, none, none] = .nx [some (natsD ns), some (.int s), some (.int many), some (.int ((d + 1 : Nat) : Int)), some (.int x), some (.int ((x % 10 : Nat) : Int)), some (.int ((x / 10 : Nat) : Int)), some (.int (wd : Int)), some (.tuple [od, .int e0]), some (.list []), some (.int e0), none, none, none, none] := by simp only [x_raise, x_raiseX, x_try, h_none, h_some, h_nil, e_slf, e_slt, e_slb, e_exf, x_nil, x_cons, x_doc, x_pass, x_brk, x_cont, x_set, x_unpack, x_par, x_app, x_ext, x_aug, x_expr, x_ite, x_ret, e_nil, e_var, e_cst, e_glob, e_tup, e_lst, e_call, e_bin, e_neg, e_not, e_cmp, e_chain, e_and, e_or, e_ife, e_f1, e_isi, e_idx, es_nil, es_cons, tryK_exc, tryK_rt, tryK_nx, clK_t, clK_f, leaveS_rt, leaveS_nx, Out.calm_rt, Out.calm_nx, part_i, isi_x, isi_v, cut1, cutR_l, cutR_t, List.drop, out_rt_seq, ofOut_out_rt, R.bind_ok, R.bind_exc, R.bind_stuck, R.calm_ok, R.calm_exc, R.calm_stuck, R.map_ok, R.map_exc, R.map_stuck, R.out_ok, R.out_exc, R.out_stuck, Out.seq_nx, Out.seq_rt, Out.seq_bk, Out.seq_ct, Out.seq_exc, Out.seq_stuck, eqv_ii, eqv_ss, eqv_tt, eqv_ll, eqv_bb, eqv_it, eqv_ti, eqv_is, eqv_si, eqv_ts, eqv_st, eqv_tn, eqv_nt, eqv_tl, eqv_lt, eqvAll_nn, eqvAll_cc, eqvAll_nc, eqvAll_cn, eqR_ii, eqR_ss, eqR_bb, nth0, nth1, nth2, nth3, truthy_b, truthy_t, truthy_l, truthy_n, truthy_i, cmp_eq, cmp_ne, cmp_lt, cmp_le, cmp_gt, cmp_ge, cmp_is_nn, cmp_is_tn, cmp_is_ln, cmp_is_in, cmp_is_sn, cmp_isnot_nn, cmp_isnot_tn, cmp_isnot_ln, cmp_isnot_in, cmp_isnot_sn, isi_tt, isi_tl, isi_ti, isi_tb, isi_ts, isi_tn, isi_ii, isi_ib, isi_it, isi_il, isi_is, isi_in, isi_bb, isi_bi, isi_ss, isi_st, isi_si, isi_ll, isi_lt, len_t, len_l, tup_l, tup_t, list_l, list_t, sub_ii, add_ii, idx_t, idx_l, walk_t, walk_l, iteF_t, iteF_f, andK_t, andK_f, orK_t, orK_f, ifeK_t, ifeK_f, chK_t, chK_f, setO_some, getS_0, getS_s, ofOut_rt, ofOut_nx, ofOut_exc, List.set, List.map_cons, List.map_nil, List.cons_append, List.nil_append, List.replicate, decide_true, decide_false, Nat.reduceSub, Nat.reduceAdd, List.length_cons, List.length_nil, Bool.not_true, Bool.not_false, Bool.and_true, Bool.and_false, Bool.true_and, Bool.false_and, List.isEmpty_cons, List.isEmpty_nil, reduceIte, Bool.false_eq_true, if_false, if_true, true_and, and_true]
theorem grown_p3 (C : Nat → List D → R D) (ns : List Nat) (s many d x wd e0 : Nat) (od : D) (b : S) (hw : wd ≤ 1000) : exS C (.for (.one 11) (.rng1 (.var 7)) b) [some (natsD ns), some (.int s), some (.int many), some (.int ((d + 1 : Nat) : Int)), some (.int x), some (.int ((x % 10 : Nat) : Int)), some (.int ((x / 10 : Nat) : Int)), some (.int (wd : Int)), some (.tuple [od, .int e0]), some (.list []), some (.int e0), none, none, none, none] = forL (stepF (.one 11) fun ρ => exS C b ρ) ((List.range wd).map fun (k : Nat) => PyData.int (0 + (k : Int))) [some (natsD ns), some (.int s), some (.int many), some (.int ((d + 1 : Nat) : Int)), some (.int x), some (.int ((x % 10 : Nat) : Int)), some (.int ((x / 10 : Nat) : Int)), some (.int (wd : Int)), some (.tuple [od, .int e0]), some (.list []), some (.int e0), none, none, none, none] := by simp only [x_raise, x_raiseX, x_try, h_none, h_some, h_nil, e_slf, e_slt, e_slb, e_exf, x_nil, x_cons, x_doc, x_pass, x_brk, x_cont, x_set, x_unpack, x_par, x_app, x_ext, x_aug, x_expr, x_ite, x_ret, e_nil, e_var, e_cst, e_glob, e_tup, e_lst, e_call, e_bin, e_neg, e_not, e_cmp, e_chain, e_and, e_or, e_ife, e_f1, e_isi, e_idx, es_nil, es_cons, tryK_exc, tryK_rt, tryK_nx, clK_t, clK_f, leaveS_rt, leaveS_nx, Out.calm_rt, Out.calm_nx, part_i, isi_x, isi_v, cut1, cutR_l, cutR_t, List.drop, out_rt_seq, ofOut_out_rt, R.bind_ok, R.bind_exc, R.bind_stuck, R.calm_ok, R.calm_exc, R.calm_stuck, R.map_ok, R.map_exc, R.map_stuck, R.out_ok, R.out_exc, R.out_stuck, Out.seq_nx, Out.seq_rt, Out.seq_bk, Out.seq_ct, Out.seq_exc, Out.seq_stuck, eqv_ii, eqv_ss, eqv_tt, eqv_ll, eqv_bb, eqv_it, eqv_ti, eqv_is, eqv_si, eqv_ts, eqv_st, eqv_tn, eqv_nt, eqv_tl, eqv_lt, eqvAll_nn, eqvAll_cc, eqvAll_nc, eqvAll_cn, eqR_ii, eqR_ss, eqR_bb, nth0, nth1, nth2, nth3, truthy_b, truthy_t, truthy_l, truthy_n, truthy_i, cmp_eq, cmp_ne, cmp_lt, cmp_le, cmp_gt, cmp_ge, cmp_is_nn, cmp_is_tn, cmp_is_ln, cmp_is_in, cmp_is_sn, cmp_isnot_nn, cmp_isnot_tn, cmp_isnot_ln, cmp_isnot_in, cmp_isnot_sn, isi_tt, isi_tl, isi_ti, isi_tb, isi_ts, isi_tn, isi_ii, isi_ib, isi_it, isi_il, isi_is, isi_in, isi_bb, isi_bi, isi_ss, isi_st, isi_si, isi_ll, isi_lt, len_t, len_l, tup_l, tup_t, list_l, list_t, sub_ii, add_ii, idx_t, idx_l, walk_t, walk_l, iteF_t, iteF_f, andK_t, andK_f, orK_t, orK_f, ifeK_t, ifeK_f, chK_t, chK_f, setO_some, getS_0, getS_s, ofOut_rt, ofOut_nx, ofOut_exc, List.set, List.map_cons, List.map_nil, List.cons_append, List.nil_append, List.replicate, decide_true, decide_false, Nat.reduceSub, Nat.reduceAdd, List.length_cons, List.length_nil, Bool.not_true, Bool.not_false, Bool.and_true, Bool.and_false, Bool.true_and, Bool.false_and, List.isEmpty_cons, List.isEmpty_nil, reduceIte, Bool.false_eq_true, if_false, if_true, true_and, and_true, x_for, e_rng1, rng_nat wd hw]
theorem grown_p4 (C : Nat → List D → R D) (ns : List Nat) (s many d x wd e0 : Nat) (od : D) (J : List D) (e : Nat) (y11 y14 : Option D) : exS C (.ret (.tup (.cons (.tup (.cons (.cst (.str w_put)) (.cons (.idx (.var 8) (.cst (.int 0))) (.cons (.f1 .tuple (.var 9)) .nil)))) (.cons (.var 10) .nil)))) [some (natsD ns), some (.int s), some (.int many), some (.int ((d + 1 : Nat) : Int)), some (.int x), some (.int ((x % 10 : Nat) : Int)), some (.int ((x / 10 : Nat) : Int)), some (.int (wd : Int)), some (.tuple [od, .int e0]), some (.list J), some (.int e), y11, none, none, y14] = .rt (.tuple [.tuple [.str w_put, od, .tuple J], .int e]) := by simp only [x_raise, x_raiseX, x_try, h_none, h_some, h_nil, e_slf, e_slt, e_slb, e_exf, x_nil, x_cons, x_doc, x_pass, x_brk, x_cont, x_set, x_unpack, x_par, x_app, x_ext, x_aug, x_expr, x_ite, x_ret, e_nil, e_var, e_cst, e_glob, e_tup, e_lst, e_call, e_bin, e_neg, e_not, e_cmp, e_chain, e_and, e_or, e_ife, e_f1, e_isi, e_idx, es_nil, es_cons, tryK_exc, tryK_rt, tryK_nx, clK_t, clK_f, leaveS_rt, leaveS_nx, Out.calm_rt, Out.calm_nx, part_i, isi_x, isi_v, cut1, cutR_l, cutR_t, List.drop, out_rt_seq, ofOut_out_rt, R.bind_ok, R.bind_exc, R.bind_stuck, R.calm_ok, R.calm_exc, R.calm_stuck, R.map_ok, R.map_exc, R.map_stuck, R.out_ok, R.out_exc, R.out_stuck, Out.seq_nx, Out.seq_rt, Out.seq_bk, Out.seq_ct, Out.seq_exc, Out.seq_stuck, eqv_ii, eqv_ss, eqv_tt, eqv_ll, eqv_bb, eqv_it, eqv_ti, eqv_is, eqv_si, eqv_ts, eqv_st, eqv_tn, eqv_nt, eqv_tl, eqv_lt, eqvAll_nn, eqvAll_cc, eqvAll_nc, eqvAll_cn, eqR_ii, eqR_ss, eqR_bb, nth0, nth1, nth2, nth3, truthy_b, truthy_t, truthy_l, truthy_n, truthy_i, cmp_eq, cmp_ne, cmp_lt, cmp_le, cmp_gt, cmp_ge, cmp_is_nn, cmp_is_tn, cmp_is_ln, cmp_is_in, cmp_is_sn, cmp_isnot_nn, cmp_isnot_tn, cmp_isnot_ln, cmp_isnot_in, cmp_isnot_sn, isi_tt, isi_tl, isi_ti, isi_tb, isi_ts, isi_tn, isi_ii, isi_ib, isi_it, isi_il, isi_is, isi_in, isi_bb, isi_bi, isi_ss, isi_st, isi_si, isi_ll, isi_lt, len_t, len_l, tup_l, tup_t, list_l, list_t, sub_ii, add_ii, idx_t, idx_l, walk_t, walk_l, iteF_t, iteF_f, andK_t, andK_f, orK_t, orK_f, ifeK_t, ifeK_f, chK_t, chK_f, setO_some, getS_0, getS_s, ofOut_rt, ofOut_nx, ofOut_exc, List.set, List.map_cons, List.map_nil, List.cons_append, List.nil_append, List.replicate, decide_true, decide_false, Nat.reduceSub, Nat.reduceAdd, List.length_cons, List.length_nil, Bool.not_true, Bool.not_false, Bool.and_true, Bool.and_false, Bool.true_and, Bool.false_and, List.isEmpty_cons, List.isEmpty_nil, reduceIte, Bool.false_eq_true, if_false, if_true, true_and, and_true]
theorem grown_pe (C : Nat → List D → R D) (ns : List Nat) (s many d x wd e0 : Nat) (od : D) (hw : wd ≤ 1000) (J : List D) (e : Nat) (y11 y14 : Option D) (h : forL (stepF (.one 11) fun ρ => exS C (_law_grown_L0 gr) ρ) ((List.range wd).map fun (k : Nat) => PyData.int (0 + (k : Int))) [some (natsD ns), some (.int s), some (.int many), some (.int ((d + 1 : Nat) : Int)), some (.int x), some (.int ((x % 10 : Nat) : Int)), some (.int ((x / 10 : Nat) : Int)), some (.int (wd : Int)), some (.tuple [od, .int e0]), some (.list []), some (.int e0), none, none, none, none] = .nx [some (natsD ns), some (.int s), some (.int many), some (.int ((d + 1 : Nat) : Int)), some (.int x), some (.int ((x % 10 : Nat) : Int)), some (.int ((x / 10 : Nat) : Int)), some (.int (wd : Int)), some (.tuple [od, .int e0]), some (.list J), some (.int e), y11, none, none, y14]) :
    exS C (_law_grown_T8 gr) [some (natsD ns), some (.int s), some (.int many), some (.int ((d + 1 : Nat) : Int)), some (.int x), some (.int ((x % 10 : Nat) : Int)), some (.int ((x / 10 : Nat) : Int)), some (.int (wd : Int)), some (.tuple [od, .int e0]), none, none, none, none, none, none] = .rt (.tuple [.tuple [.str w_put, od, .tuple J], .int e]) :=
  (x_cons_nx (grown_p1 C ns s many d x wd e0 od)).trans ((x_cons_nx (grown_p2 C ns s many d x wd e0 od)).trans ((x_cons_nx ((grown_p3 C ns s many d x wd e0 od _ hw).trans h)).trans (x_cons_rt (grown_p4 C ns s many d x wd e0 od J e y11 y14))))
theorem grown_8 (n : Nat) (ns : List Nat) (s many d x wd e0 : Nat) (od : D) (hm : many ≤ 4) (hw : wd ≤ 3) (hn : d + 2 ≤ n) (IH : GrownSpec ds gr d) : ∃ (js : List Tm) (e : Nat), js.length = wd ∧ Tm.wfs js ∧ (∀ t ∈ js, t.ar = many) ∧ e0 + wd ≤ e ∧ (e ≤ 28 + 4 * d + wd ∨ e ≤ e0 + wd) ∧
      2 * Tm.szs js + wd * off d ≤ 3 * (e - e0) + 3 * wd ∧ Tm.dps js ≤ d ∧ exS (callF ds n) (_law_grown_T8 gr) [some (natsD ns), some (.int s), some (.int many), some (.int ((d + 1 : Nat) : Int)), some (.int x), some (.int ((x % 10 : Nat) : Int)), some (.int ((x / 10 : Nat) : Int)), some (.int (wd : Int)), some (.tuple [od, .int e0]), none, none, none, none, none, none] = .rt (.tuple [.tuple [.str w_put, od, .tuple (Tm.ds js)], .int e]) := by
  have e4 : ((d + 1 : Nat) : Int) - 1 = (d : Int) := by omega
  obtain ⟨js, e, y11, y14, l1, l2, l3, l4, l5, l6, l7, l8⟩ := loop_grown (fun ρ => exS (callF ds n) (_law_grown_L0 gr) ρ) many d (some (natsD ns)) (some (.int s)) (some (.int many)) (some (.int ((d + 1 : Nat) : Int))) (some (.int x)) (some (.int ((x % 10 : Nat) : Int))) (some (.int ((x / 10 : Nat) : Int))) (some (.int (wd : Int))) (some (.tuple [od, .int e0])) (fun is s1 x11 x12 x13 x14 hil => by
    obtain ⟨t, e, G, h⟩ := IH n ns s1 many hn hm
    have hL : (Tm.ds is).length < Line := by rw [Tm.ds_len]; exact line10 hil
    have ea : Tm.ds (is ++ [t]) = Tm.ds is ++ [t.d] := by rw [Tm.ds_append]; simp only [Tm.ds]
    refine ⟨t, e, some (.tuple [t.d, .int e]), G, ?_⟩
    simp only [_law_grown_L0, x_raise, x_raiseX, x_try, h_none, h_some, h_nil, e_slf, e_slt, e_slb, e_exf, x_nil, x_cons, x_doc, x_pass, x_brk, x_cont, x_set, x_unpack, x_par, x_app, x_ext, x_aug, x_expr, x_ite, x_ret, e_nil, e_var, e_cst, e_glob, e_tup, e_lst, e_call, e_bin, e_neg, e_not, e_cmp, e_chain, e_and, e_or, e_ife, e_f1, e_isi, e_idx, es_nil, es_cons, tryK_exc, tryK_rt, tryK_nx, clK_t, clK_f, leaveS_rt, leaveS_nx, Out.calm_rt, Out.calm_nx, part_i, isi_x, isi_v, cut1, cutR_l, cutR_t, List.drop, out_rt_seq, ofOut_out_rt, R.bind_ok, R.bind_exc, R.bind_stuck, R.calm_ok, R.calm_exc, R.calm_stuck, R.map_ok, R.map_exc, R.map_stuck, R.out_ok, R.out_exc, R.out_stuck, Out.seq_nx, Out.seq_rt, Out.seq_bk, Out.seq_ct, Out.seq_exc, Out.seq_stuck, eqv_ii, eqv_ss, eqv_tt, eqv_ll, eqv_bb, eqv_it, eqv_ti, eqv_is, eqv_si, eqv_ts, eqv_st, eqv_tn, eqv_nt, eqv_tl, eqv_lt, eqvAll_nn, eqvAll_cc, eqvAll_nc, eqvAll_cn, eqR_ii, eqR_ss, eqR_bb, nth0, nth1, nth2, nth3, truthy_b, truthy_t, truthy_l, truthy_n, truthy_i, cmp_eq, cmp_ne, cmp_lt, cmp_le, cmp_gt, cmp_ge, cmp_is_nn, cmp_is_tn, cmp_is_ln, cmp_is_in, cmp_is_sn, cmp_isnot_nn, cmp_isnot_tn, cmp_isnot_ln, cmp_isnot_in, cmp_isnot_sn, isi_tt, isi_tl, isi_ti, isi_tb, isi_ts, isi_tn, isi_ii, isi_ib, isi_it, isi_il, isi_is, isi_in, isi_bb, isi_bi, isi_ss, isi_st, isi_si, isi_ll, isi_lt, len_t, len_l, tup_l, tup_t, list_l, list_t, sub_ii, add_ii, idx_t, idx_l, walk_t, walk_l, iteF_t, iteF_f, andK_t, andK_f, orK_t, orK_f, ifeK_t, ifeK_f, chK_t, chK_f, setO_some, getS_0, getS_s, ofOut_rt, ofOut_nx, ofOut_exc, List.set, List.map_cons, List.map_nil, List.cons_append, List.nil_append, List.replicate, decide_true, decide_false, Nat.reduceSub, Nat.reduceAdd, List.length_cons, List.length_nil, Bool.not_true, Bool.not_false, Bool.and_true, Bool.and_false, Bool.true_and, Bool.false_and, List.isEmpty_cons, List.isEmpty_nil, reduceIte, Bool.false_eq_true, if_false, if_true, true_and, and_true, e4, h, getL, List.getElem?_cons_succ, List.getElem?_cons_zero, appF, hL, ea]) ((List.range wd).map fun (k : Nat) => .int (0 + (k : Int))) [] e0 none none none none (by simp; omega)
  simp only [List.length_map, List.length_range] at l1 l4 l5 l6
  refine ⟨js, e, l1, l2, l3, l4, l5, l6, l7, ?_⟩
  exact grown_pe (callF ds n) ns s many d x wd e0 od (by omega) (Tm.ds js) e y11 y14 l8
include hle hgr in
theorem grown_body (deep : Nat) (hdeep : deep ≤ 3) (IH : ∀ d, deep = d + 1 → GrownSpec ds gr d) : GrownSpec ds gr deep := by
  intro n ns s many hn hm
  obtain ⟨n, rfl⟩ : ∃ k, n = k + 1 := ⟨n - 1, by omega⟩
  obtain ⟨x, hx⟩ := grown_0 (le := le) hgr n ns s many deep
  by_cases hl : deep = 0 ∨ x % 10 < 2 ∨ 28 ≤ s
  · obtain ⟨n, rfl⟩ : ∃ k, n = k + 1 := ⟨n - 1, by omega⟩
    exact ⟨leafT (x / 10) many, s + 1, .leaf _ _ _ _ hm, by rw [hx, grown_leaf hle n ns s many deep x hm hl]; rfl⟩
  · obtain ⟨d, rfl⟩ : ∃ d, deep = d + 1 := ⟨deep - 1, by omega⟩
    have hs : s < 28 := by omega
    have ih := IH d rfl n ns
    by_cases hr : x % 10 < 6 ∧ 1 ≤ many ∧ many ≤ 3
    · obtain ⟨a, f1, Ga, ha⟩ := ih (s + 1) (many - 1) (by omega) (by omega)
      obtain ⟨b, f2, Gb, hb⟩ := ih f1 (many + 1) (by omega) (by omega)
      refine ⟨.round a b, f2, .round Ga Gb ⟨hr.2.1, hr.2.2⟩ (by omega) hs, ?_⟩
      rw [hx, grown_3 _ ns s many (d + 1) x hl, grown_round _ ns s many d x a b f1 f2 hr.1 hr.2.1 hr.2.2 ha hb]
      rfl
    · generalize hwd : 1 + x / 10 % 7 % 3 = wd
      have hw : x / 10 % 7 % 3 < 3 := Nat.mod_lt _ (by decide)
      by_cases ho : 1 < wd ∨ x / 10 / 7 % 2 = 0
      · obtain ⟨o, e0, Go, hoc⟩ := ih (s + 1) wd (by omega) (by omega)
        obtain ⟨js, e, l1, l2, l3, l4, l5, l6, l7, l8⟩ := grown_8 n ns s many d x wd e0 o.d hm (by omega) (by omega) (IH d rfl)
        refine ⟨.put o js, e, Grown.put (e0 := e0) Go.wf (by rw [Go.ar, l1]) (fun z => by rw [z] at l1; simp at l1; omega) l2 l3 (by omega) (by omega) hs Go.dp l7 (by omega) (by omega) (by rw [l1]; exact l6) (.inr (by rw [l1]; exact Go)), ?_⟩
        rw [hx, grown_3 _ ns s many (d + 1) x hl, grown_4 _ ns s many (d + 1) x hr, grown_5 _ ns s many d x wd hwd, grown_7 _ ns s many d x wd o e0 ho hoc, l8]
        simp only [Tm.d, ofOut_rt]
      · obtain ⟨js, e, l1, l2, l3, l4, l5, l6, l7, l8⟩ := grown_8 n ns s many d x wd (s + 1) Tm.next.d hm (by omega) (by omega) (IH d rfl)
        have hwd1 : wd = 1 := by omega
        refine ⟨.put .next js, e, Grown.put (e0 := s + 1) (by simp only [Tm.wf]) (by rw [l1, hwd1]; rfl) (fun z => by rw [z] at l1; simp at l1; omega) l2 l3 (by omega) (by omega) hs (by simp only [Tm.dp]; omega) l7 (by omega) (by omega) (by rw [l1]; exact l6) (.inl ⟨rfl, by simp only [Tm.sz], by omega⟩), ?_⟩
        simp only [Tm.d] at l8
        rw [hx, grown_3 _ ns s many (d + 1) x hl, grown_4 _ ns s many (d + 1) x hr, grown_5 _ ns s many d x wd hwd, grown_7n _ ns s many d x wd ho, l8]
        simp only [Tm.d, ofOut_rt]
include hle hgr in
theorem grown_ok : ∀ (deep : Nat), deep ≤ 3 → GrownSpec ds gr deep
  | 0, h => grown_body hle hgr 0 h fun d e => nomatch e
  | d + 1, h => grown_body hle hgr (d + 1) h fun d' e => by
    have : d' = d := by omega
    rw [this]
    exact grown_ok d (by omega)
end
end Pyr

namespace B
open PySem Pyr
def _law_ways_L0 (f__law_ways : Nat) : S := (.cons (.set 1 (.bin .add (.var 1) (.comp (.one 4) (.call f__law_ways (.cons (.idx (.var 2) (.var 3)) .nil)) .nil (.bin .add (.tup (.cons (.var 3) .nil)) (.var 4))))) .nil)
def _law_at_L0 (f__law_parts : Nat) : S := (.cons (.set 0 (.idx (.call f__law_parts (.cons (.var 0) .nil)) (.var 2))) .nil)
def _law_drawn (f__law_row : Nat) (f__law_grown : Nat) : Def := ⟨2, 3, (.cons (.set 2 (.call f__law_row (.cons (.var 0) (.cons (.var 1) .nil)))) (.cons (.ret (.idx (.call f__law_grown (.cons (.var 2) (.cons (.cst (.int 1)) (.cons (.idx (.lst (.cons (.cst (.int 1)) (.cons (.cst (.int 2)) (.cons (.cst (.int 1)) (.cons (.cst (.int 3)) (.cons (.cst (.int 2)) (.cons (.cst (.int 0)) (.cons (.cst (.int 1)) (.cons (.cst (.int 2)) (.cons (.cst (.int 4)) (.cons (.cst (.int 3)) .nil))))))))))) (.bin .mod (.idx (.var 2) (.cst (.int 0))) (.cst (.int 10)))) (.cons (.bin .add (.cst (.int 1)) (.bin .mod (.bin .fdiv (.idx (.var 2) (.cst (.int 0))) (.cst (.int 10))) (.cst (.int 3)))) .nil))))) (.cst (.int 0)))) .nil))⟩
def _law_places (f__law_places : Nat) : Def := ⟨1, 1, (.cons (.ite (.cmp .eq (.idx (.var 0) (.cst (.int 0))) (.cst (.str w_next))) (.cons (.ret (.cst (.int 1))) .nil) .nil) (.cons (.ite (.cmp .eq (.idx (.var 0) (.cst (.int 0))) (.cst (.str w_put))) (.cons (.ret (.call f__law_places (.cons (.idx (.idx (.var 0) (.cst (.int 2))) (.cst (.int 0))) .nil))) .nil) .nil) (.cons (.ite (.cmp .eq (.idx (.var 0) (.cst (.int 0))) (.cst (.str w_round))) (.cons (.ret (.bin .add (.cst (.int 1)) (.call f__law_places (.cons (.idx (.var 0) (.cst (.int 1))) .nil)))) .nil) .nil) (.cons (.ret (.idx (.var 0) (.cst (.int 1)))) .nil))))⟩
def _law_parts : Def := ⟨1, 1, (.cons (.ite (.cmp .eq (.idx (.var 0) (.cst (.int 0))) (.cst (.str w_put))) (.cons (.ret (.bin .add (.lst (.cons (.idx (.var 0) (.cst (.int 1))) .nil)) (.f1 .list (.idx (.var 0) (.cst (.int 2)))))) .nil) .nil) (.cons (.ite (.cmp .eq (.idx (.var 0) (.cst (.int 0))) (.cst (.str w_round))) (.cons (.ret (.lst (.cons (.idx (.var 0) (.cst (.int 1))) (.cons (.idx (.var 0) (.cst (.int 2))) .nil)))) .nil) .nil) (.cons (.ret (.lst .nil)) .nil)))⟩
def _law_size (f__law_parts : Nat) (f__law_size : Nat) : Def := ⟨1, 2, (.cons (.ret (.bin .add (.cst (.int 1)) (.f1 .sum (.comp (.one 1) (.call f__law_parts (.cons (.var 0) .nil)) .nil (.call f__law_size (.cons (.var 1) .nil)))))) .nil)⟩
def _law_ways (f__law_parts : Nat) (f__law_ways : Nat) : Def := ⟨1, 5, (.cons (.set 1 (.lst (.cons (.tup .nil) .nil))) (.cons (.set 2 (.call f__law_parts (.cons (.var 0) .nil))) (.cons (.for (.one 3) (.rng1 (.f1 .len (.var 2))) (_law_ways_L0 f__law_ways)) (.cons (.ret (.var 1)) .nil))))⟩
def _law_at (f__law_parts : Nat) : Def := ⟨2, 3, (.cons (.for (.one 2) (.var 1) (_law_at_L0 f__law_parts)) (.cons (.ret (.var 0)) .nil))⟩
def _law_with (f__law_parts : Nat) (f__law_with : Nat) : Def := ⟨3, 4, (.cons (.ite (.cmp .eq (.var 1) (.tup .nil)) (.cons (.ret (.var 2)) .nil) .nil) (.cons (.set 3 (.call f__law_parts (.cons (.var 0) .nil))) (.cons (.setidx 3 (.idx (.var 1) (.cst (.int 0))) (.call f__law_with (.cons (.idx (.var 3) (.idx (.var 1) (.cst (.int 0)))) (.cons (.slf (.var 1) (.cst (.int 1))) (.cons (.var 2) .nil))))) (.cons (.ite (.cmp .eq (.idx (.var 0) (.cst (.int 0))) (.cst (.str w_put))) (.cons (.ret (.tup (.cons (.cst (.str w_put)) (.cons (.idx (.var 3) (.cst (.int 0))) (.cons (.f1 .tuple (.slf (.var 3) (.cst (.int 1)))) .nil))))) .nil) .nil) (.cons (.ret (.tup (.cons (.cst (.str w_round)) (.cons (.idx (.var 3) (.cst (.int 0))) (.cons (.idx (.var 3) (.cst (.int 1))) .nil))))) .nil)))))⟩
def w_way : Str := "way"
def part_at_L0 (f_is_within : Nat) (f_parts_right : Nat) : S := (.cons (.set 4 (.call f_parts_right (.cons (.var 2) .nil))) (.cons (.ite (.not (.call f_is_within (.cons (.var 3) (.cons (.cst (.int 0)) (.cons (.bin .sub (.f1 .len (.var 4)) (.cst (.int 1))) .nil))))) (.cons (.ret (.cst .none)) .nil) .nil) (.cons (.set 2 (.idx (.var 4) (.var 3))) .nil)))
def parts_right : Def := ⟨1, 1, (.cons (.ite (.cmp .eq (.idx (.var 0) (.cst (.int 0))) (.cst (.str w_put))) (.cons (.ret (.bin .add (.lst (.cons (.idx (.var 0) (.cst (.int 1))) .nil)) (.f1 .list (.idx (.var 0) (.cst (.int 2)))))) .nil) .nil) (.cons (.ite (.cmp .eq (.idx (.var 0) (.cst (.int 0))) (.cst (.str w_round))) (.cons (.ret (.lst (.cons (.idx (.var 0) (.cst (.int 1))) (.cons (.idx (.var 0) (.cst (.int 2))) .nil)))) .nil) .nil) (.cons (.ret (.lst .nil)) .nil)))⟩
def part_at (f_is_within : Nat) (f_parts_right : Nat) : Def := ⟨2, 5, (.cons (.ite (.not (.isi .tuple (.var 1))) (.cons (.ret (.cst .none)) .nil) .nil) (.cons (.set 2 (.var 0)) (.cons (.for (.one 3) (.var 1) (part_at_L0 f_is_within f_parts_right)) (.cons (.ret (.var 2)) .nil))))⟩
def part (f_checked : Nat) (f_part_at : Nat) (c_BadWay : Nat) : Def := ⟨2, 3, (.cons (.set 2 (.call f_part_at (.cons (.call f_checked (.cons (.var 0) .nil)) (.cons (.var 1) .nil)))) (.cons (.ite (.cmp .is (.var 2) (.cst .none)) (.cons (.raiseX c_BadWay w_way (.var 1)) .nil) .nil) (.cons (.ret (.var 2)) .nil)))⟩
def made_of : Def := ⟨2, 2, (.cons (.ite (.cmp .eq (.idx (.var 0) (.cst (.int 0))) (.cst (.str w_put))) (.cons (.ret (.tup (.cons (.cst (.str w_put)) (.cons (.idx (.var 1) (.cst (.int 0))) (.cons (.f1 .tuple (.slf (.var 1) (.cst (.int 1)))) .nil))))) .nil) .nil) (.cons (.ret (.tup (.cons (.cst (.str w_round)) (.cons (.idx (.var 1) (.cst (.int 0))) (.cons (.idx (.var 1) (.cst (.int 1))) .nil))))) .nil))⟩
def with_part (f_parts_right : Nat) (f_made_of : Nat) (f_with_part : Nat) : Def := ⟨3, 4, (.cons (.ite (.cmp .eq (.var 1) (.tup .nil)) (.cons (.ret (.var 2)) .nil) .nil) (.cons (.set 3 (.call f_parts_right (.cons (.var 0) .nil))) (.cons (.setidx 3 (.idx (.var 1) (.cst (.int 0))) (.call f_with_part (.cons (.idx (.var 3) (.idx (.var 1) (.cst (.int 0)))) (.cons (.slf (.var 1) (.cst (.int 1))) (.cons (.var 2) .nil))))) (.cons (.ret (.call f_made_of (.cons (.var 0) (.cons (.var 3) .nil)))) .nil))))⟩
def looked (f_is_term : Nat) (c_TooBig : Nat) : Def := ⟨1, 1, (.cons (.ite (.not (.call f_is_term (.cons (.var 0) .nil))) (.cons (.raise c_TooBig .nil) .nil) .nil) (.cons (.ret (.var 0)) .nil))⟩
def width (f_width : Nat) : Def := ⟨1, 1, (.cons (.ite (.cmp .eq (.idx (.var 0) (.cst (.int 0))) (.cst (.str w_next))) (.cons (.ret (.cst (.int 1))) .nil) .nil) (.cons (.ite (.cmp .eq (.idx (.var 0) (.cst (.int 0))) (.cst (.str w_put))) (.cons (.ret (.call f_width (.cons (.idx (.idx (.var 0) (.cst (.int 2))) (.cst (.int 0))) .nil))) .nil) .nil) (.cons (.ite (.cmp .eq (.idx (.var 0) (.cst (.int 0))) (.cst (.str w_round))) (.cons (.ret (.bin .add (.cst (.int 1)) (.call f_width (.cons (.idx (.var 0) (.cst (.int 1))) .nil)))) .nil) .nil) (.cons (.ret (.idx (.var 0) (.cst (.int 1)))) .nil))))⟩
def all_places : Def := ⟨1, 2, (.cons (.ret (.f1 .tuple (.comp (.one 1) (.rng1 (.var 0)) .nil (.tup (.cons (.cst (.str w_place)) (.cons (.var 0) (.cons (.var 1) .nil))))))) .nil)⟩
def many_parts (f_parts_right : Nat) (f_many_parts : Nat) : Def := ⟨1, 2, (.cons (.ret (.bin .add (.cst (.int 1)) (.f1 .sum (.comp (.one 1) (.call f_parts_right (.cons (.var 0) .nil)) .nil (.call f_many_parts (.cons (.var 1) .nil)))))) .nil)⟩
def ways_of_L0 (f_ways_of : Nat) : S := (.cons (.ext 1 (.comp (.one 4) (.call f_ways_of (.cons (.var 3) .nil)) .nil (.bin .add (.tup (.cons (.var 2) .nil)) (.var 4)))) .nil)
def ways_of (f_parts_right : Nat) (f_ways_of : Nat) : Def := ⟨1, 5, (.cons (.set 1 (.lst (.cons (.tup .nil) .nil))) (.cons (.for (.many [2, 3]) (.enum (.call f_parts_right (.cons (.var 0) .nil))) (ways_of_L0 f_ways_of)) (.cons (.ret (.var 1)) .nil)))⟩
def ways (f_checked : Nat) (f_ways_of : Nat) : Def := ⟨1, 1, (.cons (.ret (.call f_ways_of (.cons (.call f_checked (.cons (.var 0) .nil)) .nil))) .nil)⟩
def changed (f_arity : Nat) (f_part : Nat) (f_with_part : Nat) (f_looked : Nat) (c_BadTerm : Nat) : Def := ⟨3, 4, (.cons (.set 3 (.call f_part (.cons (.var 0) (.cons (.var 1) .nil)))) (.cons (.ite (.cmp .ne (.call f_arity (.cons (.var 2) .nil)) (.call f_arity (.cons (.var 3) .nil))) (.cons (.raise c_BadTerm .nil) .nil) .nil) (.cons (.ret (.call f_looked (.cons (.call f_with_part (.cons (.var 0) (.cons (.var 1) (.cons (.var 2) .nil)))) .nil))) .nil)))⟩
end B

namespace Pyr
open PySem B
open R (ok exc stuck)
/-! # Parts, ways, a part in another's stead -/
theorem compK_one {α : Type} {C : Nat → List D → R D} {i : Nat} {e : E} {ρ : Env} {enc out : α → D} (ts : List α) (h : ∀ t ∈ ts, evE C e (ρ.set i (some (enc t))) = ok (out t)) : compK C (.one i) .nil e ρ (ts.map enc) = ok (.list (ts.map out)) := by
  unfold compK
  rw [comp_each (out := out) ts fun t ht => ?_]
  · rfl
  · simp only [compF, setTg, e_nil, R.bind_ok, truthy_b, R.calm_ok, h t ht, if_true]
/-- a comprehension with a test -/
theorem comp_filter {α : Type} {f : D → R (Option D)} {enc out : α → D} {p : α → Bool} : ∀ (ts : List α), (∀ t ∈ ts, f (enc t) = ok (if p t then some (out t) else none)) → compL f (ts.map enc) = ok ((ts.filter p).map out)
  | [], _ => rfl
  | t :: ts, h => by
    simp only [List.map_cons, compL]
    rw [h t List.mem_cons_self, comp_filter ts fun u hu => h u (List.mem_cons_of_mem _ hu)]
    cases e : p t <;> simp [List.filter, e]
theorem compK_filter {α : Type} {C : Nat → List D → R D} {i : Nat} {c e : E} {ρ : Env} {enc out : α → D} (p : α → Bool) (ts : List α) (hc : ∀ t ∈ ts, (evE C c (ρ.set i (some (enc t)))).bind Pyr.truthy = ok (p t)) (h : ∀ t ∈ ts, p t = true → evE C e (ρ.set i (some (enc t))) = ok (out t)) :
    compK C (.one i) c e ρ (ts.map enc) = ok (.list ((ts.filter p).map out)) := by
  unfold compK
  rw [comp_filter (out := out) (p := p) ts fun t ht => ?_]
  · rfl
  · simp only [compF, setTg, hc t ht, R.bind_ok, R.calm_ok]
    cases e : p t
    · simp
    · simp [h t ht e]
/-- a loop by its invariant -/
theorem forL_inv {step : D → Env → Out} (I : Nat → Env → Prop) : ∀ (xs : List D) (k : Nat) (ρ : Env), I k ρ → (∀ i (hi : i < xs.length) ρ, I (k + i) ρ → ∃ ρ', step xs[i] ρ = .nx ρ' ∧ I (k + i + 1) ρ') → ∃ ρ', forL step xs ρ = .nx ρ' ∧ I (k + xs.length) ρ'
  | [], k, ρ, h0, _ => ⟨ρ, rfl, h0⟩
  | x :: xs, k, ρ, h0, hs => by
    obtain ⟨ρ1, e1, h1⟩ := hs 0 (by simp) ρ h0
    obtain ⟨ρ2, e2, h2⟩ := forL_inv I xs (k + 1) ρ1 h1 (fun i hi ρ h => by
      have := hs (i + 1) (by simp; omega) ρ (by rw [show k + (i + 1) = k + 1 + i by omega]; exact h)
      simpa [show k + (i + 1) = k + 1 + i by omega] using this)
    refine ⟨ρ2, ?_, by rw [show k + (x :: xs).length = k + 1 + xs.length by simp; omega]; exact h2⟩
    have e1 : step x ρ = .nx ρ1 := e1
    simp only [forL, e1, e2]
/-- .. that may end early -/
theorem forL_out {step : D → Env → Out} (I : Nat → Env → Prop) (P : Out → Prop) : ∀ (xs : List D) (k : Nat) (ρ : Env), I k ρ → (∀ i (hi : i < xs.length) ρ, I (k + i) ρ → (∃ ρ', step xs[i] ρ = .nx ρ' ∧ I (k + i + 1) ρ') ∨ ∃ d, step xs[i] ρ = .rt d ∧ P (.rt d)) → (∀ ρ, I (k + xs.length) ρ → P (.nx ρ)) → P (forL step xs ρ)
  | [], k, ρ, h0, _, he => he ρ h0
  | x :: xs, k, ρ, h0, hs, he => by
    rcases hs 0 (by simp) ρ h0 with ⟨ρ1, e1, h1⟩ | ⟨d, e1, h1⟩
    · have := forL_out I P xs (k + 1) ρ1 h1 (fun i hi ρ h => by
        have := hs (i + 1) (by simp; omega) ρ (by rw [show k + (i + 1) = k + 1 + i by omega]; exact h)
        simpa [show k + (i + 1) = k + 1 + i by omega] using this) (fun ρ h => he ρ (by rw [show k + (x :: xs).length = k + 1 + xs.length by simp; omega]; exact h))
      have e1 : step x ρ = .nx ρ1 := e1
      simp only [forL, e1]; exact this
    · have e1 : step x ρ = .rt d := e1
      simp only [forL, e1]; exact h1
theorem forL_inv0 {step : D → Env → Out} (I : Nat → Env → Prop) (xs : List D) (ρ : Env) (h0 : I 0 ρ) (hs : ∀ i (hi : i < xs.length) ρ, I i ρ → ∃ ρ', step xs[i] ρ = .nx ρ' ∧ I (i + 1) ρ') : ∃ ρ', forL step xs ρ = .nx ρ' ∧ I xs.length ρ' := by
  obtain ⟨ρ', e, h⟩ := forL_inv I xs 0 ρ h0 (fun i hi ρ h => by
    rw [Nat.zero_add] at h ⊢
    exact hs i hi ρ h)
  exact ⟨ρ', e, by simpa using h⟩
theorem forL_out0 {step : D → Env → Out} (I : Nat → Env → Prop) (P : Out → Prop) (xs : List D) (ρ : Env) (h0 : I 0 ρ) (hs : ∀ i (hi : i < xs.length) ρ, I i ρ → (∃ ρ', step xs[i] ρ = .nx ρ' ∧ I (i + 1) ρ') ∨ ∃ d, step xs[i] ρ = .rt d ∧ P (.rt d)) (he : ∀ ρ, I xs.length ρ → P (.nx ρ)) : P (forL step xs ρ) :=
  forL_out I P xs 0 ρ h0 (fun i hi ρ h => by
    rw [Nat.zero_add] at h ⊢
    exact hs i hi ρ h) fun ρ h => he ρ (by simpa using h)
theorem szs_of {is : List Tm} {t : Tm} (h : t ∈ is) : t.sz ≤ Tm.szs is := by
  induction is with
  | nil => cases h
  | cons u is ih =>
    simp only [Tm.szs]
    rcases List.mem_cons.mp h with rfl | h
    · omega
    · have := ih h; omega
theorem ds_head {t : Tm} {is : List Tm} : L2.atI (Tm.ds (t :: is)) 0 = some t.d := by simp only [Tm.ds, nth0]
theorem ds_at {is : List Tm} {k : Nat} (h : k < is.length) : L2.atI (Tm.ds is) (k : Int) = some (is.getD k .next).d := by
  rw [nthN _ _ (by rw [Tm.ds_len]; exact h), List.getD_eq_getElem?_getD, List.getElem?_eq_getElem h]
  simp [Tm.ds_map]
theorem eqR_ds {is js : List Tm} (h : Tm.dps is ≤ 60) : eqR (.tuple (Tm.ds is)) (.tuple (Tm.ds js)) = ok (Tm.eqs is js) := by
  have := Tm.depths_le is
  rw [eqR_d _ _ (.inl (by simp only [PyData.depth]; omega)), eqv_tt, Tm.eqvs]
theorem eqR_tm {t u : Tm} (h : t.dp ≤ 60) : eqR t.d u.d = ok (t.eq u) := by
  have := Tm.depth_le t
  rw [eqR_d _ _ (.inl (by omega)), Tm.eqv]
theorem eqR_dsl {is js : List Tm} (h : Tm.dps is ≤ 60) : eqR (.list (Tm.ds is)) (.list (Tm.ds js)) = ok (Tm.eqs is js) := by
  have := Tm.depths_le is
  rw [eqR_d _ _ (.inl (by simp only [PyData.depth]; omega)), eqv_ll, Tm.eqvs]
def allP (m : Nat) : List Tm := (List.range m).map (.place m)
def headAr : List Tm → Nat
  | [] => 0
  | t :: _ => t.ar
theorem headAr_of {is : List Tm} {m : Nat} (h : is ≠ []) (ha : ∀ t ∈ is, t.ar = m) : headAr is = m := by
  cases is with
  | nil => exact absurd rfl h
  | cons t is => exact ha t List.mem_cons_self
theorem put_facts {o : Tm} {is : List Tm} (h : (Tm.put o is).wf) : o.wf ∧ is ≠ [] ∧ o.ar = is.length ∧ Tm.wfs is ∧ (∀ t ∈ is, t.ar = (Tm.put o is).ar) := by simpa only [Tm.wf] using h
theorem put_ar {o : Tm} {is : List Tm} : (Tm.put o is).ar = headAr is := by cases is <;> rfl
theorem allP_len (m : Nat) : (allP m).length = m := by simp [allP]
theorem getD_mem {is : List Tm} {k : Nat} (h : k < is.length) : is.getD k .next ∈ is := by
  rw [List.getD_eq_getElem?_getD, List.getElem?_eq_getElem h]
  exact List.getElem_mem h
def Tm.parts : Tm → List Tm
  | .put o is => o :: is
  | .round a b => [a, b]
  | _ => []
theorem parts_sz (t : Tm) : t.sz = 1 + Tm.szs t.parts := by cases t <;> simp [Tm.sz, Tm.parts, Tm.szs] <;> omega
theorem parts_dp {t u : Tm} (h : u ∈ t.parts) : u.dp + 1 ≤ t.dp := by
  cases t with
  | put o is =>
    have m1 := Nat.le_max_left o.dp (Tm.dps is)
    have m2 := Nat.le_max_right o.dp (Tm.dps is)
    simp only [Tm.dp]
    rcases List.mem_cons.mp h with rfl | h
    · omega
    · have := Tm.dp_of h; omega
  | round a b =>
    have m1 := Nat.le_max_left a.dp b.dp
    have m2 := Nat.le_max_right a.dp b.dp
    simp only [Tm.dp]
    rcases List.mem_cons.mp h with rfl | h
    · omega
    · rcases List.mem_cons.mp h with rfl | h
      · omega
      · cases h
  | next => cases h
  | nought _ => cases h
  | place _ _ => cases h
theorem parts_wf {t : Tm} (h : t.wf) : Tm.wfs t.parts := by
  cases t <;> simp only [Tm.parts, Tm.wfs] <;> simp only [Tm.wf] at h
  · exact ⟨h.1, h.2.2.2.1⟩
  · exact ⟨h.1, h.2.1, trivial⟩
theorem szs_len : ∀ ts : List Tm, ts.length ≤ Tm.szs ts
  | [] => by simp
  | t :: ts => by have := t.sz_pos; have := szs_len ts; simp only [Tm.szs, List.length_cons]; omega
theorem parts_len {t : Tm} (h : t.wf) : t.parts.length ≤ 5 := by
  cases t with
  | put o is =>
    simp only [Tm.wf] at h
    have := Tm.ar_le o h.1
    simp only [Tm.parts, List.length_cons]; omega
  | _ => simp [Tm.parts]
section
variable {ds : List Def} {lpl lpa lsz : Nat} (hlpl : ds[lpl]? = some (_law_places lpl)) (hlpa : ds[lpa]? = some _law_parts) (hlsz : ds[lsz]? = some (_law_size lpa lsz))
theorem law_places_ok (hlpl : ds[lpl]? = some (_law_places lpl)) : ∀ (t : Tm), t.wf → ∀ n : Nat, t.dp + 1 ≤ n → callF ds n lpl [t.d] = ok (.int t.ar)
  | .next, _, n + 1, hn => by rw [run_at hlpl _ _ rfl]; simp only [x_raise, x_raiseX, x_try, h_none, h_some, h_nil, e_slf, e_slt, e_slb, e_exf, x_nil, x_cons, x_doc, x_pass, x_brk, x_cont, x_set, x_unpack, x_par, x_app, x_ext, x_aug, x_expr, x_ite, x_ret, e_nil, e_var, e_cst, e_glob, e_tup, e_lst, e_call, e_bin, e_neg, e_not, e_cmp, e_chain, e_and, e_or, e_ife, e_f1, e_isi, e_idx, es_nil, es_cons, tryK_exc, tryK_rt, tryK_nx, clK_t, clK_f, leaveS_rt, leaveS_nx, Out.calm_rt, Out.calm_nx, part_i, isi_x, isi_v, cut1, cutR_l, cutR_t, List.drop, out_rt_seq, ofOut_out_rt, R.bind_ok, R.bind_exc, R.bind_stuck, R.calm_ok, R.calm_exc, R.calm_stuck, R.map_ok, R.map_exc, R.map_stuck, R.out_ok, R.out_exc, R.out_stuck, Out.seq_nx, Out.seq_rt, Out.seq_bk, Out.seq_ct, Out.seq_exc, Out.seq_stuck, eqv_ii, eqv_ss, eqv_tt, eqv_ll, eqv_bb, eqv_it, eqv_ti, eqv_is, eqv_si, eqv_ts, eqv_st, eqv_tn, eqv_nt, eqv_tl, eqv_lt, eqvAll_nn, eqvAll_cc, eqvAll_nc, eqvAll_cn, eqR_ii, eqR_ss, eqR_bb, nth0, nth1, nth2, nth3, truthy_b, truthy_t, truthy_l, truthy_n, truthy_i, cmp_eq, cmp_ne, cmp_lt, cmp_le, cmp_gt, cmp_ge, cmp_is_nn, cmp_is_tn, cmp_is_ln, cmp_is_in, cmp_is_sn, cmp_isnot_nn, cmp_isnot_tn, cmp_isnot_ln, cmp_isnot_in, cmp_isnot_sn, isi_tt, isi_tl, isi_ti, isi_tb, isi_ts, isi_tn, isi_ii, isi_ib, isi_it, isi_il, isi_is, isi_in, isi_bb, isi_bi, isi_ss, isi_st, isi_si, isi_ll, isi_lt, len_t, len_l, tup_l, tup_t, list_l, list_t, sub_ii, add_ii, idx_t, idx_l, walk_t, walk_l, iteF_t, iteF_f, andK_t, andK_f, orK_t, orK_f, ifeK_t, ifeK_f, chK_t, chK_f, setO_some, getS_0, getS_s, ofOut_rt, ofOut_nx, ofOut_exc, List.set, List.map_cons, List.map_nil, List.cons_append, List.nil_append, List.replicate, decide_true, decide_false, Nat.reduceSub, Nat.reduceAdd, List.length_cons, List.length_nil, Bool.not_true, Bool.not_false, Bool.and_true, Bool.and_false, Bool.true_and, Bool.false_and, List.isEmpty_cons, List.isEmpty_nil, reduceIte, Bool.false_eq_true, if_false, if_true, true_and, and_true, Tm.d, w1, w2, w3, w4, w5, w6, w7, w8, w9, w10, w11, w12, w13, w14, w15, w16, w17, w18, w19, w20, Tm.ar]; rfl
  | .nought m, _, n + 1, hn => by rw [run_at hlpl _ _ rfl]; simp only [x_raise, x_raiseX, x_try, h_none, h_some, h_nil, e_slf, e_slt, e_slb, e_exf, x_nil, x_cons, x_doc, x_pass, x_brk, x_cont, x_set, x_unpack, x_par, x_app, x_ext, x_aug, x_expr, x_ite, x_ret, e_nil, e_var, e_cst, e_glob, e_tup, e_lst, e_call, e_bin, e_neg, e_not, e_cmp, e_chain, e_and, e_or, e_ife, e_f1, e_isi, e_idx, es_nil, es_cons, tryK_exc, tryK_rt, tryK_nx, clK_t, clK_f, leaveS_rt, leaveS_nx, Out.calm_rt, Out.calm_nx, part_i, isi_x, isi_v, cut1, cutR_l, cutR_t, List.drop, out_rt_seq, ofOut_out_rt, R.bind_ok, R.bind_exc, R.bind_stuck, R.calm_ok, R.calm_exc, R.calm_stuck, R.map_ok, R.map_exc, R.map_stuck, R.out_ok, R.out_exc, R.out_stuck, Out.seq_nx, Out.seq_rt, Out.seq_bk, Out.seq_ct, Out.seq_exc, Out.seq_stuck, eqv_ii, eqv_ss, eqv_tt, eqv_ll, eqv_bb, eqv_it, eqv_ti, eqv_is, eqv_si, eqv_ts, eqv_st, eqv_tn, eqv_nt, eqv_tl, eqv_lt, eqvAll_nn, eqvAll_cc, eqvAll_nc, eqvAll_cn, eqR_ii, eqR_ss, eqR_bb, nth0, nth1, nth2, nth3, truthy_b, truthy_t, truthy_l, truthy_n, truthy_i, cmp_eq, cmp_ne, cmp_lt, cmp_le, cmp_gt, cmp_ge, cmp_is_nn, cmp_is_tn, cmp_is_ln, cmp_is_in, cmp_is_sn, cmp_isnot_nn, cmp_isnot_tn, cmp_isnot_ln, cmp_isnot_in, cmp_isnot_sn, isi_tt, isi_tl, isi_ti, isi_tb, isi_ts, isi_tn, isi_ii, isi_ib, isi_it, isi_il, isi_is, isi_in, isi_bb, isi_bi, isi_ss, isi_st, isi_si, isi_ll, isi_lt, len_t, len_l, tup_l, tup_t, list_l, list_t, sub_ii, add_ii, idx_t, idx_l, walk_t, walk_l, iteF_t, iteF_f, andK_t, andK_f, orK_t, orK_f, ifeK_t, ifeK_f, chK_t, chK_f, setO_some, getS_0, getS_s, ofOut_rt, ofOut_nx, ofOut_exc, List.set, List.map_cons, List.map_nil, List.cons_append, List.nil_append, List.replicate, decide_true, decide_false, Nat.reduceSub, Nat.reduceAdd, List.length_cons, List.length_nil, Bool.not_true, Bool.not_false, Bool.and_true, Bool.and_false, Bool.true_and, Bool.false_and, List.isEmpty_cons, List.isEmpty_nil, reduceIte, Bool.false_eq_true, if_false, if_true, true_and, and_true, Tm.d, w1, w2, w3, w4, w5, w6, w7, w8, w9, w10, w11, w12, w13, w14, w15, w16, w17, w18, w19, w20, Tm.ar]
  | .place m k, _, n + 1, hn => by rw [run_at hlpl _ _ rfl]; simp only [x_raise, x_raiseX, x_try, h_none, h_some, h_nil, e_slf, e_slt, e_slb, e_exf, x_nil, x_cons, x_doc, x_pass, x_brk, x_cont, x_set, x_unpack, x_par, x_app, x_ext, x_aug, x_expr, x_ite, x_ret, e_nil, e_var, e_cst, e_glob, e_tup, e_lst, e_call, e_bin, e_neg, e_not, e_cmp, e_chain, e_and, e_or, e_ife, e_f1, e_isi, e_idx, es_nil, es_cons, tryK_exc, tryK_rt, tryK_nx, clK_t, clK_f, leaveS_rt, leaveS_nx, Out.calm_rt, Out.calm_nx, part_i, isi_x, isi_v, cut1, cutR_l, cutR_t, List.drop, out_rt_seq, ofOut_out_rt, R.bind_ok, R.bind_exc, R.bind_stuck, R.calm_ok, R.calm_exc, R.calm_stuck, R.map_ok, R.map_exc, R.map_stuck, R.out_ok, R.out_exc, R.out_stuck, Out.seq_nx, Out.seq_rt, Out.seq_bk, Out.seq_ct, Out.seq_exc, Out.seq_stuck, eqv_ii, eqv_ss, eqv_tt, eqv_ll, eqv_bb, eqv_it, eqv_ti, eqv_is, eqv_si, eqv_ts, eqv_st, eqv_tn, eqv_nt, eqv_tl, eqv_lt, eqvAll_nn, eqvAll_cc, eqvAll_nc, eqvAll_cn, eqR_ii, eqR_ss, eqR_bb, nth0, nth1, nth2, nth3, truthy_b, truthy_t, truthy_l, truthy_n, truthy_i, cmp_eq, cmp_ne, cmp_lt, cmp_le, cmp_gt, cmp_ge, cmp_is_nn, cmp_is_tn, cmp_is_ln, cmp_is_in, cmp_is_sn, cmp_isnot_nn, cmp_isnot_tn, cmp_isnot_ln, cmp_isnot_in, cmp_isnot_sn, isi_tt, isi_tl, isi_ti, isi_tb, isi_ts, isi_tn, isi_ii, isi_ib, isi_it, isi_il, isi_is, isi_in, isi_bb, isi_bi, isi_ss, isi_st, isi_si, isi_ll, isi_lt, len_t, len_l, tup_l, tup_t, list_l, list_t, sub_ii, add_ii, idx_t, idx_l, walk_t, walk_l, iteF_t, iteF_f, andK_t, andK_f, orK_t, orK_f, ifeK_t, ifeK_f, chK_t, chK_f, setO_some, getS_0, getS_s, ofOut_rt, ofOut_nx, ofOut_exc, List.set, List.map_cons, List.map_nil, List.cons_append, List.nil_append, List.replicate, decide_true, decide_false, Nat.reduceSub, Nat.reduceAdd, List.length_cons, List.length_nil, Bool.not_true, Bool.not_false, Bool.and_true, Bool.and_false, Bool.true_and, Bool.false_and, List.isEmpty_cons, List.isEmpty_nil, reduceIte, Bool.false_eq_true, if_false, if_true, true_and, and_true, Tm.d, w1, w2, w3, w4, w5, w6, w7, w8, w9, w10, w11, w12, w13, w14, w15, w16, w17, w18, w19, w20, Tm.ar]
  | .put o [], h, n + 1, hn => by simp only [Tm.wf] at h; exact absurd rfl h.2.1
  | .put o (t :: is), h, n + 1, hn => by
    obtain ⟨h1, h2, h3, h4, h5⟩ := put_facts h
    have ed : (Tm.put o (t :: is)).dp = 1 + max o.dp (Tm.dps (t :: is)) := by simp only [Tm.dp]
    have m2 := Nat.le_max_right o.dp (Tm.dps (t :: is))
    have m3 := Tm.dp_of (List.mem_cons_self (a := t) (l := is))
    have ih := law_places_ok hlpl t (Tm.wf_of h4 t List.mem_cons_self) n (by omega)
    rw [run_at hlpl _ _ rfl]
    simp only [x_raise, x_raiseX, x_try, h_none, h_some, h_nil, e_slf, e_slt, e_slb, e_exf, x_nil, x_cons, x_doc, x_pass, x_brk, x_cont, x_set, x_unpack, x_par, x_app, x_ext, x_aug, x_expr, x_ite, x_ret, e_nil, e_var, e_cst, e_glob, e_tup, e_lst, e_call, e_bin, e_neg, e_not, e_cmp, e_chain, e_and, e_or, e_ife, e_f1, e_isi, e_idx, es_nil, es_cons, tryK_exc, tryK_rt, tryK_nx, clK_t, clK_f, leaveS_rt, leaveS_nx, Out.calm_rt, Out.calm_nx, part_i, isi_x, isi_v, cut1, cutR_l, cutR_t, List.drop, out_rt_seq, ofOut_out_rt, R.bind_ok, R.bind_exc, R.bind_stuck, R.calm_ok, R.calm_exc, R.calm_stuck, R.map_ok, R.map_exc, R.map_stuck, R.out_ok, R.out_exc, R.out_stuck, Out.seq_nx, Out.seq_rt, Out.seq_bk, Out.seq_ct, Out.seq_exc, Out.seq_stuck, eqv_ii, eqv_ss, eqv_tt, eqv_ll, eqv_bb, eqv_it, eqv_ti, eqv_is, eqv_si, eqv_ts, eqv_st, eqv_tn, eqv_nt, eqv_tl, eqv_lt, eqvAll_nn, eqvAll_cc, eqvAll_nc, eqvAll_cn, eqR_ii, eqR_ss, eqR_bb, nth0, nth1, nth2, nth3, truthy_b, truthy_t, truthy_l, truthy_n, truthy_i, cmp_eq, cmp_ne, cmp_lt, cmp_le, cmp_gt, cmp_ge, cmp_is_nn, cmp_is_tn, cmp_is_ln, cmp_is_in, cmp_is_sn, cmp_isnot_nn, cmp_isnot_tn, cmp_isnot_ln, cmp_isnot_in, cmp_isnot_sn, isi_tt, isi_tl, isi_ti, isi_tb, isi_ts, isi_tn, isi_ii, isi_ib, isi_it, isi_il, isi_is, isi_in, isi_bb, isi_bi, isi_ss, isi_st, isi_si, isi_ll, isi_lt, len_t, len_l, tup_l, tup_t, list_l, list_t, sub_ii, add_ii, idx_t, idx_l, walk_t, walk_l, iteF_t, iteF_f, andK_t, andK_f, orK_t, orK_f, ifeK_t, ifeK_f, chK_t, chK_f, setO_some, getS_0, getS_s, ofOut_rt, ofOut_nx, ofOut_exc, List.set, List.map_cons, List.map_nil, List.cons_append, List.nil_append, List.replicate, decide_true, decide_false, Nat.reduceSub, Nat.reduceAdd, List.length_cons, List.length_nil, Bool.not_true, Bool.not_false, Bool.and_true, Bool.and_false, Bool.true_and, Bool.false_and, List.isEmpty_cons, List.isEmpty_nil, reduceIte, Bool.false_eq_true, if_false, if_true, true_and, and_true, Tm.d, w1, w2, w3, w4, w5, w6, w7, w8, w9, w10, w11, w12, w13, w14, w15, w16, w17, w18, w19, w20, Tm.ar, ds_head, ih]
  | .round a b, h, n + 1, hn => by
    have hw : a.wf ∧ b.wf ∧ a.ar ≤ 3 ∧ b.ar = a.ar + 2 := by simpa only [Tm.wf] using h
    have ed : (Tm.round a b).dp = 1 + max a.dp b.dp := by simp only [Tm.dp]
    have m1 := Nat.le_max_left a.dp b.dp
    have ih := law_places_ok hlpl a hw.1 n (by omega)
    have e1 : (1 : Int) + (a.ar : Int) = ((a.ar + 1 : Nat) : Int) := by omega
    rw [run_at hlpl _ _ rfl]
    simp only [x_raise, x_raiseX, x_try, h_none, h_some, h_nil, e_slf, e_slt, e_slb, e_exf, x_nil, x_cons, x_doc, x_pass, x_brk, x_cont, x_set, x_unpack, x_par, x_app, x_ext, x_aug, x_expr, x_ite, x_ret, e_nil, e_var, e_cst, e_glob, e_tup, e_lst, e_call, e_bin, e_neg, e_not, e_cmp, e_chain, e_and, e_or, e_ife, e_f1, e_isi, e_idx, es_nil, es_cons, tryK_exc, tryK_rt, tryK_nx, clK_t, clK_f, leaveS_rt, leaveS_nx, Out.calm_rt, Out.calm_nx, part_i, isi_x, isi_v, cut1, cutR_l, cutR_t, List.drop, out_rt_seq, ofOut_out_rt, R.bind_ok, R.bind_exc, R.bind_stuck, R.calm_ok, R.calm_exc, R.calm_stuck, R.map_ok, R.map_exc, R.map_stuck, R.out_ok, R.out_exc, R.out_stuck, Out.seq_nx, Out.seq_rt, Out.seq_bk, Out.seq_ct, Out.seq_exc, Out.seq_stuck, eqv_ii, eqv_ss, eqv_tt, eqv_ll, eqv_bb, eqv_it, eqv_ti, eqv_is, eqv_si, eqv_ts, eqv_st, eqv_tn, eqv_nt, eqv_tl, eqv_lt, eqvAll_nn, eqvAll_cc, eqvAll_nc, eqvAll_cn, eqR_ii, eqR_ss, eqR_bb, nth0, nth1, nth2, nth3, truthy_b, truthy_t, truthy_l, truthy_n, truthy_i, cmp_eq, cmp_ne, cmp_lt, cmp_le, cmp_gt, cmp_ge, cmp_is_nn, cmp_is_tn, cmp_is_ln, cmp_is_in, cmp_is_sn, cmp_isnot_nn, cmp_isnot_tn, cmp_isnot_ln, cmp_isnot_in, cmp_isnot_sn, isi_tt, isi_tl, isi_ti, isi_tb, isi_ts, isi_tn, isi_ii, isi_ib, isi_it, isi_il, isi_is, isi_in, isi_bb, isi_bi, isi_ss, isi_st, isi_si, isi_ll, isi_lt, len_t, len_l, tup_l, tup_t, list_l, list_t, sub_ii, add_ii, idx_t, idx_l, walk_t, walk_l, iteF_t, iteF_f, andK_t, andK_f, orK_t, orK_f, ifeK_t, ifeK_f, chK_t, chK_f, setO_some, getS_0, getS_s, ofOut_rt, ofOut_nx, ofOut_exc, List.set, List.map_cons, List.map_nil, List.cons_append, List.nil_append, List.replicate, decide_true, decide_false, Nat.reduceSub, Nat.reduceAdd, List.length_cons, List.length_nil, Bool.not_true, Bool.not_false, Bool.and_true, Bool.and_false, Bool.true_and, Bool.false_and, List.isEmpty_cons, List.isEmpty_nil, reduceIte, Bool.false_eq_true, if_false, if_true, true_and, and_true, Tm.d, w1, w2, w3, w4, w5, w6, w7, w8, w9, w10, w11, w12, w13, w14, w15, w16, w17, w18, w19, w20, Tm.ar, ih, e1]
  | t, _, 0, hn => by omega
include hlpa in
theorem law_parts_ok (t : Tm) (hs : t.sz ≤ 1000) (n : Nat) : callF ds (n + 1) lpa [t.d] = ok (.list (Tm.ds t.parts)) := by
  rw [run_at hlpa _ _ rfl]
  cases t with
  | put o is =>
    have hl : [o.d].length + (Tm.ds is).length ≤ Line := by
      have e := szs_len is
      have es : (Tm.put o is).sz = 1 + o.sz + Tm.szs is := by simp only [Tm.sz]
      rw [Tm.ds_len]
      exact Nat.le_trans (show [o.d].length + is.length ≤ 1001 by simp; omega) (by decide)
    simp only [x_raise, x_raiseX, x_try, h_none, h_some, h_nil, e_slf, e_slt, e_slb, e_exf, x_nil, x_cons, x_doc, x_pass, x_brk, x_cont, x_set, x_unpack, x_par, x_app, x_ext, x_aug, x_expr, x_ite, x_ret, e_nil, e_var, e_cst, e_glob, e_tup, e_lst, e_call, e_bin, e_neg, e_not, e_cmp, e_chain, e_and, e_or, e_ife, e_f1, e_isi, e_idx, es_nil, es_cons, tryK_exc, tryK_rt, tryK_nx, clK_t, clK_f, leaveS_rt, leaveS_nx, Out.calm_rt, Out.calm_nx, part_i, isi_x, isi_v, cut1, cutR_l, cutR_t, List.drop, out_rt_seq, ofOut_out_rt, R.bind_ok, R.bind_exc, R.bind_stuck, R.calm_ok, R.calm_exc, R.calm_stuck, R.map_ok, R.map_exc, R.map_stuck, R.out_ok, R.out_exc, R.out_stuck, Out.seq_nx, Out.seq_rt, Out.seq_bk, Out.seq_ct, Out.seq_exc, Out.seq_stuck, eqv_ii, eqv_ss, eqv_tt, eqv_ll, eqv_bb, eqv_it, eqv_ti, eqv_is, eqv_si, eqv_ts, eqv_st, eqv_tn, eqv_nt, eqv_tl, eqv_lt, eqvAll_nn, eqvAll_cc, eqvAll_nc, eqvAll_cn, eqR_ii, eqR_ss, eqR_bb, nth0, nth1, nth2, nth3, truthy_b, truthy_t, truthy_l, truthy_n, truthy_i, cmp_eq, cmp_ne, cmp_lt, cmp_le, cmp_gt, cmp_ge, cmp_is_nn, cmp_is_tn, cmp_is_ln, cmp_is_in, cmp_is_sn, cmp_isnot_nn, cmp_isnot_tn, cmp_isnot_ln, cmp_isnot_in, cmp_isnot_sn, isi_tt, isi_tl, isi_ti, isi_tb, isi_ts, isi_tn, isi_ii, isi_ib, isi_it, isi_il, isi_is, isi_in, isi_bb, isi_bi, isi_ss, isi_st, isi_si, isi_ll, isi_lt, len_t, len_l, tup_l, tup_t, list_l, list_t, sub_ii, add_ii, idx_t, idx_l, walk_t, walk_l, iteF_t, iteF_f, andK_t, andK_f, orK_t, orK_f, ifeK_t, ifeK_f, chK_t, chK_f, setO_some, getS_0, getS_s, ofOut_rt, ofOut_nx, ofOut_exc, List.set, List.map_cons, List.map_nil, List.cons_append, List.nil_append, List.replicate, decide_true, decide_false, Nat.reduceSub, Nat.reduceAdd, List.length_cons, List.length_nil, Bool.not_true, Bool.not_false, Bool.and_true, Bool.and_false, Bool.true_and, Bool.false_and, List.isEmpty_cons, List.isEmpty_nil, reduceIte, Bool.false_eq_true, if_false, if_true, true_and, and_true, Tm.d, w1, w2, w3, w4, w5, w6, w7, w8, w9, w10, w11, w12, w13, w14, w15, w16, w17, w18, w19, w20, Tm.parts, add_ll _ _ hl, Tm.ds]
  | round a b => simp only [x_raise, x_raiseX, x_try, h_none, h_some, h_nil, e_slf, e_slt, e_slb, e_exf, x_nil, x_cons, x_doc, x_pass, x_brk, x_cont, x_set, x_unpack, x_par, x_app, x_ext, x_aug, x_expr, x_ite, x_ret, e_nil, e_var, e_cst, e_glob, e_tup, e_lst, e_call, e_bin, e_neg, e_not, e_cmp, e_chain, e_and, e_or, e_ife, e_f1, e_isi, e_idx, es_nil, es_cons, tryK_exc, tryK_rt, tryK_nx, clK_t, clK_f, leaveS_rt, leaveS_nx, Out.calm_rt, Out.calm_nx, part_i, isi_x, isi_v, cut1, cutR_l, cutR_t, List.drop, out_rt_seq, ofOut_out_rt, R.bind_ok, R.bind_exc, R.bind_stuck, R.calm_ok, R.calm_exc, R.calm_stuck, R.map_ok, R.map_exc, R.map_stuck, R.out_ok, R.out_exc, R.out_stuck, Out.seq_nx, Out.seq_rt, Out.seq_bk, Out.seq_ct, Out.seq_exc, Out.seq_stuck, eqv_ii, eqv_ss, eqv_tt, eqv_ll, eqv_bb, eqv_it, eqv_ti, eqv_is, eqv_si, eqv_ts, eqv_st, eqv_tn, eqv_nt, eqv_tl, eqv_lt, eqvAll_nn, eqvAll_cc, eqvAll_nc, eqvAll_cn, eqR_ii, eqR_ss, eqR_bb, nth0, nth1, nth2, nth3, truthy_b, truthy_t, truthy_l, truthy_n, truthy_i, cmp_eq, cmp_ne, cmp_lt, cmp_le, cmp_gt, cmp_ge, cmp_is_nn, cmp_is_tn, cmp_is_ln, cmp_is_in, cmp_is_sn, cmp_isnot_nn, cmp_isnot_tn, cmp_isnot_ln, cmp_isnot_in, cmp_isnot_sn, isi_tt, isi_tl, isi_ti, isi_tb, isi_ts, isi_tn, isi_ii, isi_ib, isi_it, isi_il, isi_is, isi_in, isi_bb, isi_bi, isi_ss, isi_st, isi_si, isi_ll, isi_lt, len_t, len_l, tup_l, tup_t, list_l, list_t, sub_ii, add_ii, idx_t, idx_l, walk_t, walk_l, iteF_t, iteF_f, andK_t, andK_f, orK_t, orK_f, ifeK_t, ifeK_f, chK_t, chK_f, setO_some, getS_0, getS_s, ofOut_rt, ofOut_nx, ofOut_exc, List.set, List.map_cons, List.map_nil, List.cons_append, List.nil_append, List.replicate, decide_true, decide_false, Nat.reduceSub, Nat.reduceAdd, List.length_cons, List.length_nil, Bool.not_true, Bool.not_false, Bool.and_true, Bool.and_false, Bool.true_and, Bool.false_and, List.isEmpty_cons, List.isEmpty_nil, reduceIte, Bool.false_eq_true, if_false, if_true, true_and, and_true, Tm.d, w1, w2, w3, w4, w5, w6, w7, w8, w9, w10, w11, w12, w13, w14, w15, w16, w17, w18, w19, w20, Tm.parts, Tm.ds]
  | next => simp only [x_raise, x_raiseX, x_try, h_none, h_some, h_nil, e_slf, e_slt, e_slb, e_exf, x_nil, x_cons, x_doc, x_pass, x_brk, x_cont, x_set, x_unpack, x_par, x_app, x_ext, x_aug, x_expr, x_ite, x_ret, e_nil, e_var, e_cst, e_glob, e_tup, e_lst, e_call, e_bin, e_neg, e_not, e_cmp, e_chain, e_and, e_or, e_ife, e_f1, e_isi, e_idx, es_nil, es_cons, tryK_exc, tryK_rt, tryK_nx, clK_t, clK_f, leaveS_rt, leaveS_nx, Out.calm_rt, Out.calm_nx, part_i, isi_x, isi_v, cut1, cutR_l, cutR_t, List.drop, out_rt_seq, ofOut_out_rt, R.bind_ok, R.bind_exc, R.bind_stuck, R.calm_ok, R.calm_exc, R.calm_stuck, R.map_ok, R.map_exc, R.map_stuck, R.out_ok, R.out_exc, R.out_stuck, Out.seq_nx, Out.seq_rt, Out.seq_bk, Out.seq_ct, Out.seq_exc, Out.seq_stuck, eqv_ii, eqv_ss, eqv_tt, eqv_ll, eqv_bb, eqv_it, eqv_ti, eqv_is, eqv_si, eqv_ts, eqv_st, eqv_tn, eqv_nt, eqv_tl, eqv_lt, eqvAll_nn, eqvAll_cc, eqvAll_nc, eqvAll_cn, eqR_ii, eqR_ss, eqR_bb, nth0, nth1, nth2, nth3, truthy_b, truthy_t, truthy_l, truthy_n, truthy_i, cmp_eq, cmp_ne, cmp_lt, cmp_le, cmp_gt, cmp_ge, cmp_is_nn, cmp_is_tn, cmp_is_ln, cmp_is_in, cmp_is_sn, cmp_isnot_nn, cmp_isnot_tn, cmp_isnot_ln, cmp_isnot_in, cmp_isnot_sn, isi_tt, isi_tl, isi_ti, isi_tb, isi_ts, isi_tn, isi_ii, isi_ib, isi_it, isi_il, isi_is, isi_in, isi_bb, isi_bi, isi_ss, isi_st, isi_si, isi_ll, isi_lt, len_t, len_l, tup_l, tup_t, list_l, list_t, sub_ii, add_ii, idx_t, idx_l, walk_t, walk_l, iteF_t, iteF_f, andK_t, andK_f, orK_t, orK_f, ifeK_t, ifeK_f, chK_t, chK_f, setO_some, getS_0, getS_s, ofOut_rt, ofOut_nx, ofOut_exc, List.set, List.map_cons, List.map_nil, List.cons_append, List.nil_append, List.replicate, decide_true, decide_false, Nat.reduceSub, Nat.reduceAdd, List.length_cons, List.length_nil, Bool.not_true, Bool.not_false, Bool.and_true, Bool.and_false, Bool.true_and, Bool.false_and, List.isEmpty_cons, List.isEmpty_nil, reduceIte, Bool.false_eq_true, if_false, if_true, true_and, and_true, Tm.d, w1, w2, w3, w4, w5, w6, w7, w8, w9, w10, w11, w12, w13, w14, w15, w16, w17, w18, w19, w20, Tm.parts, Tm.ds]
  | nought _ => simp only [x_raise, x_raiseX, x_try, h_none, h_some, h_nil, e_slf, e_slt, e_slb, e_exf, x_nil, x_cons, x_doc, x_pass, x_brk, x_cont, x_set, x_unpack, x_par, x_app, x_ext, x_aug, x_expr, x_ite, x_ret, e_nil, e_var, e_cst, e_glob, e_tup, e_lst, e_call, e_bin, e_neg, e_not, e_cmp, e_chain, e_and, e_or, e_ife, e_f1, e_isi, e_idx, es_nil, es_cons, tryK_exc, tryK_rt, tryK_nx, clK_t, clK_f, leaveS_rt, leaveS_nx, Out.calm_rt, Out.calm_nx, part_i, isi_x, isi_v, cut1, cutR_l, cutR_t, List.drop, out_rt_seq, ofOut_out_rt, R.bind_ok, R.bind_exc, R.bind_stuck, R.calm_ok, R.calm_exc, R.calm_stuck, R.map_ok, R.map_exc, R.map_stuck, R.out_ok, R.out_exc, R.out_stuck, Out.seq_nx, Out.seq_rt, Out.seq_bk, Out.seq_ct, Out.seq_exc, Out.seq_stuck, eqv_ii, eqv_ss, eqv_tt, eqv_ll, eqv_bb, eqv_it, eqv_ti, eqv_is, eqv_si, eqv_ts, eqv_st, eqv_tn, eqv_nt, eqv_tl, eqv_lt, eqvAll_nn, eqvAll_cc, eqvAll_nc, eqvAll_cn, eqR_ii, eqR_ss, eqR_bb, nth0, nth1, nth2, nth3, truthy_b, truthy_t, truthy_l, truthy_n, truthy_i, cmp_eq, cmp_ne, cmp_lt, cmp_le, cmp_gt, cmp_ge, cmp_is_nn, cmp_is_tn, cmp_is_ln, cmp_is_in, cmp_is_sn, cmp_isnot_nn, cmp_isnot_tn, cmp_isnot_ln, cmp_isnot_in, cmp_isnot_sn, isi_tt, isi_tl, isi_ti, isi_tb, isi_ts, isi_tn, isi_ii, isi_ib, isi_it, isi_il, isi_is, isi_in, isi_bb, isi_bi, isi_ss, isi_st, isi_si, isi_ll, isi_lt, len_t, len_l, tup_l, tup_t, list_l, list_t, sub_ii, add_ii, idx_t, idx_l, walk_t, walk_l, iteF_t, iteF_f, andK_t, andK_f, orK_t, orK_f, ifeK_t, ifeK_f, chK_t, chK_f, setO_some, getS_0, getS_s, ofOut_rt, ofOut_nx, ofOut_exc, List.set, List.map_cons, List.map_nil, List.cons_append, List.nil_append, List.replicate, decide_true, decide_false, Nat.reduceSub, Nat.reduceAdd, List.length_cons, List.length_nil, Bool.not_true, Bool.not_false, Bool.and_true, Bool.and_false, Bool.true_and, Bool.false_and, List.isEmpty_cons, List.isEmpty_nil, reduceIte, Bool.false_eq_true, if_false, if_true, true_and, and_true, Tm.d, w1, w2, w3, w4, w5, w6, w7, w8, w9, w10, w11, w12, w13, w14, w15, w16, w17, w18, w19, w20, Tm.parts, Tm.ds]
  | place _ _ => simp only [x_raise, x_raiseX, x_try, h_none, h_some, h_nil, e_slf, e_slt, e_slb, e_exf, x_nil, x_cons, x_doc, x_pass, x_brk, x_cont, x_set, x_unpack, x_par, x_app, x_ext, x_aug, x_expr, x_ite, x_ret, e_nil, e_var, e_cst, e_glob, e_tup, e_lst, e_call, e_bin, e_neg, e_not, e_cmp, e_chain, e_and, e_or, e_ife, e_f1, e_isi, e_idx, es_nil, es_cons, tryK_exc, tryK_rt, tryK_nx, clK_t, clK_f, leaveS_rt, leaveS_nx, Out.calm_rt, Out.calm_nx, part_i, isi_x, isi_v, cut1, cutR_l, cutR_t, List.drop, out_rt_seq, ofOut_out_rt, R.bind_ok, R.bind_exc, R.bind_stuck, R.calm_ok, R.calm_exc, R.calm_stuck, R.map_ok, R.map_exc, R.map_stuck, R.out_ok, R.out_exc, R.out_stuck, Out.seq_nx, Out.seq_rt, Out.seq_bk, Out.seq_ct, Out.seq_exc, Out.seq_stuck, eqv_ii, eqv_ss, eqv_tt, eqv_ll, eqv_bb, eqv_it, eqv_ti, eqv_is, eqv_si, eqv_ts, eqv_st, eqv_tn, eqv_nt, eqv_tl, eqv_lt, eqvAll_nn, eqvAll_cc, eqvAll_nc, eqvAll_cn, eqR_ii, eqR_ss, eqR_bb, nth0, nth1, nth2, nth3, truthy_b, truthy_t, truthy_l, truthy_n, truthy_i, cmp_eq, cmp_ne, cmp_lt, cmp_le, cmp_gt, cmp_ge, cmp_is_nn, cmp_is_tn, cmp_is_ln, cmp_is_in, cmp_is_sn, cmp_isnot_nn, cmp_isnot_tn, cmp_isnot_ln, cmp_isnot_in, cmp_isnot_sn, isi_tt, isi_tl, isi_ti, isi_tb, isi_ts, isi_tn, isi_ii, isi_ib, isi_it, isi_il, isi_is, isi_in, isi_bb, isi_bi, isi_ss, isi_st, isi_si, isi_ll, isi_lt, len_t, len_l, tup_l, tup_t, list_l, list_t, sub_ii, add_ii, idx_t, idx_l, walk_t, walk_l, iteF_t, iteF_f, andK_t, andK_f, orK_t, orK_f, ifeK_t, ifeK_f, chK_t, chK_f, setO_some, getS_0, getS_s, ofOut_rt, ofOut_nx, ofOut_exc, List.set, List.map_cons, List.map_nil, List.cons_append, List.nil_append, List.replicate, decide_true, decide_false, Nat.reduceSub, Nat.reduceAdd, List.length_cons, List.length_nil, Bool.not_true, Bool.not_false, Bool.and_true, Bool.and_false, Bool.true_and, Bool.false_and, List.isEmpty_cons, List.isEmpty_nil, reduceIte, Bool.false_eq_true, if_false, if_true, true_and, and_true, Tm.d, w1, w2, w3, w4, w5, w6, w7, w8, w9, w10, w11, w12, w13, w14, w15, w16, w17, w18, w19, w20, Tm.parts, Tm.ds]
theorem asInts_szs : ∀ ts : List Tm, asInts (ts.map fun t => PyData.int (t.sz : Int)) = some (ts.map fun t => (t.sz : Int)) ∧ (ts.map fun t => (t.sz : Int)).sum = (Tm.szs ts : Int)
  | [] => ⟨rfl, by simp [Tm.szs]⟩
  | t :: ts => by
    obtain ⟨h1, h2⟩ := asInts_szs ts
    refine ⟨by simp only [List.map_cons, asInts, h1, Option.map_some], ?_⟩
    simp only [List.map_cons, List.sum_cons, h2, Tm.szs]
    omega
theorem sum_szs (ts : List Tm) : f1R .sum (.list (ts.map fun t => PyData.int (t.sz : Int))) = ok (.int (Tm.szs ts : Int)) := by
  obtain ⟨h1, h2⟩ := asInts_szs ts
  simp only [f1R, h1, h2]
theorem law_size_ok (hlpa : ds[lpa]? = some _law_parts) (hlsz : ds[lsz]? = some (_law_size lpa lsz)) : ∀ (k : Nat) (t : Tm), t.dp ≤ k → t.sz ≤ 1000 → ∀ n : Nat, t.dp + 2 ≤ n → callF ds n lsz [t.d] = ok (.int t.sz) := by
  intro k
  induction k with
  | zero =>
    intro t hk hs n hn
    obtain ⟨n, rfl⟩ : ∃ m, n = m + 2 := ⟨n - 2, by omega⟩
    have hp := law_parts_ok hlpa t hs n
    have hnil : t.parts = [] := by
      cases hq : t.parts with
      | nil => rfl
      | cons u us => have := parts_dp (t := t) (u := u) (by rw [hq]; exact List.mem_cons_self); omega
    have hc := compK_one (C := callF ds (n + 1)) (i := 1) (e := .call lsz (.cons (.var 1) .nil)) (ρ := [some t.d, none]) (enc := Tm.d) (out := fun t => PyData.int (t.sz : Int)) t.parts (fun u hu => by rw [hnil] at hu; cases hu)
    rw [← Tm.ds_map] at hc
    have e1 : (1 : Int) + (Tm.szs t.parts : Int) = (t.sz : Int) := by rw [parts_sz t]; omega
    rw [run_at hlsz _ _ rfl]
    simp only [x_raise, x_raiseX, x_try, h_none, h_some, h_nil, e_slf, e_slt, e_slb, e_exf, x_nil, x_cons, x_doc, x_pass, x_brk, x_cont, x_set, x_unpack, x_par, x_app, x_ext, x_aug, x_expr, x_ite, x_ret, e_nil, e_var, e_cst, e_glob, e_tup, e_lst, e_call, e_bin, e_neg, e_not, e_cmp, e_chain, e_and, e_or, e_ife, e_f1, e_isi, e_idx, es_nil, es_cons, tryK_exc, tryK_rt, tryK_nx, clK_t, clK_f, leaveS_rt, leaveS_nx, Out.calm_rt, Out.calm_nx, part_i, isi_x, isi_v, cut1, cutR_l, cutR_t, List.drop, out_rt_seq, ofOut_out_rt, R.bind_ok, R.bind_exc, R.bind_stuck, R.calm_ok, R.calm_exc, R.calm_stuck, R.map_ok, R.map_exc, R.map_stuck, R.out_ok, R.out_exc, R.out_stuck, Out.seq_nx, Out.seq_rt, Out.seq_bk, Out.seq_ct, Out.seq_exc, Out.seq_stuck, eqv_ii, eqv_ss, eqv_tt, eqv_ll, eqv_bb, eqv_it, eqv_ti, eqv_is, eqv_si, eqv_ts, eqv_st, eqv_tn, eqv_nt, eqv_tl, eqv_lt, eqvAll_nn, eqvAll_cc, eqvAll_nc, eqvAll_cn, eqR_ii, eqR_ss, eqR_bb, nth0, nth1, nth2, nth3, truthy_b, truthy_t, truthy_l, truthy_n, truthy_i, cmp_eq, cmp_ne, cmp_lt, cmp_le, cmp_gt, cmp_ge, cmp_is_nn, cmp_is_tn, cmp_is_ln, cmp_is_in, cmp_is_sn, cmp_isnot_nn, cmp_isnot_tn, cmp_isnot_ln, cmp_isnot_in, cmp_isnot_sn, isi_tt, isi_tl, isi_ti, isi_tb, isi_ts, isi_tn, isi_ii, isi_ib, isi_it, isi_il, isi_is, isi_in, isi_bb, isi_bi, isi_ss, isi_st, isi_si, isi_ll, isi_lt, len_t, len_l, tup_l, tup_t, list_l, list_t, sub_ii, add_ii, idx_t, idx_l, walk_t, walk_l, iteF_t, iteF_f, andK_t, andK_f, orK_t, orK_f, ifeK_t, ifeK_f, chK_t, chK_f, setO_some, getS_0, getS_s, ofOut_rt, ofOut_nx, ofOut_exc, List.set, List.map_cons, List.map_nil, List.cons_append, List.nil_append, List.replicate, decide_true, decide_false, Nat.reduceSub, Nat.reduceAdd, List.length_cons, List.length_nil, Bool.not_true, Bool.not_false, Bool.and_true, Bool.and_false, Bool.true_and, Bool.false_and, List.isEmpty_cons, List.isEmpty_nil, reduceIte, Bool.false_eq_true, if_false, if_true, true_and, and_true, e_comp, hp, hc, sum_szs, e1]
  | succ k ih =>
    intro t hk hs n hn
    obtain ⟨n, rfl⟩ : ∃ m, n = m + 2 := ⟨n - 2, by omega⟩
    have hp := law_parts_ok hlpa t hs n
    have hc := compK_one (C := callF ds (n + 1)) (i := 1) (e := .call lsz (.cons (.var 1) .nil)) (ρ := [some t.d, none]) (enc := Tm.d) (out := fun t => PyData.int (t.sz : Int)) t.parts (fun u hu => by
      have h1 := parts_dp hu
      have h2 := szs_of hu
      have h3 := parts_sz t
      have := ih u (by omega) (by omega) (n + 1) (by omega)
      simp only [x_raise, x_raiseX, x_try, h_none, h_some, h_nil, e_slf, e_slt, e_slb, e_exf, x_nil, x_cons, x_doc, x_pass, x_brk, x_cont, x_set, x_unpack, x_par, x_app, x_ext, x_aug, x_expr, x_ite, x_ret, e_nil, e_var, e_cst, e_glob, e_tup, e_lst, e_call, e_bin, e_neg, e_not, e_cmp, e_chain, e_and, e_or, e_ife, e_f1, e_isi, e_idx, es_nil, es_cons, tryK_exc, tryK_rt, tryK_nx, clK_t, clK_f, leaveS_rt, leaveS_nx, Out.calm_rt, Out.calm_nx, part_i, isi_x, isi_v, cut1, cutR_l, cutR_t, List.drop, out_rt_seq, ofOut_out_rt, R.bind_ok, R.bind_exc, R.bind_stuck, R.calm_ok, R.calm_exc, R.calm_stuck, R.map_ok, R.map_exc, R.map_stuck, R.out_ok, R.out_exc, R.out_stuck, Out.seq_nx, Out.seq_rt, Out.seq_bk, Out.seq_ct, Out.seq_exc, Out.seq_stuck, eqv_ii, eqv_ss, eqv_tt, eqv_ll, eqv_bb, eqv_it, eqv_ti, eqv_is, eqv_si, eqv_ts, eqv_st, eqv_tn, eqv_nt, eqv_tl, eqv_lt, eqvAll_nn, eqvAll_cc, eqvAll_nc, eqvAll_cn, eqR_ii, eqR_ss, eqR_bb, nth0, nth1, nth2, nth3, truthy_b, truthy_t, truthy_l, truthy_n, truthy_i, cmp_eq, cmp_ne, cmp_lt, cmp_le, cmp_gt, cmp_ge, cmp_is_nn, cmp_is_tn, cmp_is_ln, cmp_is_in, cmp_is_sn, cmp_isnot_nn, cmp_isnot_tn, cmp_isnot_ln, cmp_isnot_in, cmp_isnot_sn, isi_tt, isi_tl, isi_ti, isi_tb, isi_ts, isi_tn, isi_ii, isi_ib, isi_it, isi_il, isi_is, isi_in, isi_bb, isi_bi, isi_ss, isi_st, isi_si, isi_ll, isi_lt, len_t, len_l, tup_l, tup_t, list_l, list_t, sub_ii, add_ii, idx_t, idx_l, walk_t, walk_l, iteF_t, iteF_f, andK_t, andK_f, orK_t, orK_f, ifeK_t, ifeK_f, chK_t, chK_f, setO_some, getS_0, getS_s, ofOut_rt, ofOut_nx, ofOut_exc, List.set, List.map_cons, List.map_nil, List.cons_append, List.nil_append, List.replicate, decide_true, decide_false, Nat.reduceSub, Nat.reduceAdd, List.length_cons, List.length_nil, Bool.not_true, Bool.not_false, Bool.and_true, Bool.and_false, Bool.true_and, Bool.false_and, List.isEmpty_cons, List.isEmpty_nil, reduceIte, Bool.false_eq_true, if_false, if_true, true_and, and_true, this])
    rw [← Tm.ds_map] at hc
    have e1 : (1 : Int) + (Tm.szs t.parts : Int) = (t.sz : Int) := by rw [parts_sz t]; omega
    rw [run_at hlsz _ _ rfl]
    simp only [x_raise, x_raiseX, x_try, h_none, h_some, h_nil, e_slf, e_slt, e_slb, e_exf, x_nil, x_cons, x_doc, x_pass, x_brk, x_cont, x_set, x_unpack, x_par, x_app, x_ext, x_aug, x_expr, x_ite, x_ret, e_nil, e_var, e_cst, e_glob, e_tup, e_lst, e_call, e_bin, e_neg, e_not, e_cmp, e_chain, e_and, e_or, e_ife, e_f1, e_isi, e_idx, es_nil, es_cons, tryK_exc, tryK_rt, tryK_nx, clK_t, clK_f, leaveS_rt, leaveS_nx, Out.calm_rt, Out.calm_nx, part_i, isi_x, isi_v, cut1, cutR_l, cutR_t, List.drop, out_rt_seq, ofOut_out_rt, R.bind_ok, R.bind_exc, R.bind_stuck, R.calm_ok, R.calm_exc, R.calm_stuck, R.map_ok, R.map_exc, R.map_stuck, R.out_ok, R.out_exc, R.out_stuck, Out.seq_nx, Out.seq_rt, Out.seq_bk, Out.seq_ct, Out.seq_exc, Out.seq_stuck, eqv_ii, eqv_ss, eqv_tt, eqv_ll, eqv_bb, eqv_it, eqv_ti, eqv_is, eqv_si, eqv_ts, eqv_st, eqv_tn, eqv_nt, eqv_tl, eqv_lt, eqvAll_nn, eqvAll_cc, eqvAll_nc, eqvAll_cn, eqR_ii, eqR_ss, eqR_bb, nth0, nth1, nth2, nth3, truthy_b, truthy_t, truthy_l, truthy_n, truthy_i, cmp_eq, cmp_ne, cmp_lt, cmp_le, cmp_gt, cmp_ge, cmp_is_nn, cmp_is_tn, cmp_is_ln, cmp_is_in, cmp_is_sn, cmp_isnot_nn, cmp_isnot_tn, cmp_isnot_ln, cmp_isnot_in, cmp_isnot_sn, isi_tt, isi_tl, isi_ti, isi_tb, isi_ts, isi_tn, isi_ii, isi_ib, isi_it, isi_il, isi_is, isi_in, isi_bb, isi_bi, isi_ss, isi_st, isi_si, isi_ll, isi_lt, len_t, len_l, tup_l, tup_t, list_l, list_t, sub_ii, add_ii, idx_t, idx_l, walk_t, walk_l, iteF_t, iteF_f, andK_t, andK_f, orK_t, orK_f, ifeK_t, ifeK_f, chK_t, chK_f, setO_some, getS_0, getS_s, ofOut_rt, ofOut_nx, ofOut_exc, List.set, List.map_cons, List.map_nil, List.cons_append, List.nil_append, List.replicate, decide_true, decide_false, Nat.reduceSub, Nat.reduceAdd, List.length_cons, List.length_nil, Bool.not_true, Bool.not_false, Bool.and_true, Bool.and_false, Bool.true_and, Bool.false_and, List.isEmpty_cons, List.isEmpty_nil, reduceIte, Bool.false_eq_true, if_false, if_true, true_and, and_true, e_comp, hp, hc, sum_szs, e1]
end
end Pyr

namespace Pyr
open PySem B
open R (ok exc stuck)
/-! # Ways -/
mutual
def Tm.ways : Tm → List (List Nat)
  | .put o is => [] :: (o.ways.map (0 :: ·) ++ wayss 1 is)
  | .round a b => [] :: (a.ways.map (0 :: ·) ++ (b.ways.map (1 :: ·) ++ []))
  | _ => [[]]
def wayss : Nat → List Tm → List (List Nat)
  | _, [] => []
  | k, t :: ts => t.ways.map (k :: ·) ++ wayss (k + 1) ts
end
theorem ways_eq (t : Tm) : t.ways = [] :: wayss 0 t.parts := by cases t <;> simp only [Tm.ways, Tm.parts, wayss]
theorem wayss_app : ∀ (ts : List Tm) (k : Nat) (u : Tm), wayss k (ts ++ [u]) = wayss k ts ++ u.ways.map ((k + ts.length) :: ·)
  | [], k, u => by simp [wayss]
  | t :: ts, k, u => by
    simp only [List.cons_append, wayss, wayss_app ts (k + 1) u, List.append_assoc, List.length_cons]
    rw [show k + 1 + ts.length = k + (ts.length + 1) by omega]
mutual
theorem ways_len : ∀ t : Tm, t.ways.length = t.sz
  | .put o is => by simp only [Tm.ways, Tm.sz, List.length_cons, List.length_append, List.length_map, ways_len o, wayss_len is 1]; omega
  | .round a b => by simp only [Tm.ways, Tm.sz, List.length_cons, List.length_append, List.length_map, List.length_nil, ways_len a, ways_len b]; omega
  | .next => by simp [Tm.ways, Tm.sz]
  | .nought _ => by simp [Tm.ways, Tm.sz]
  | .place _ _ => by simp [Tm.ways, Tm.sz]
theorem wayss_len : ∀ (ts : List Tm) (k : Nat), (wayss k ts).length = Tm.szs ts
  | [], _ => by simp [wayss, Tm.szs]
  | t :: ts, k => by simp only [wayss, Tm.szs, List.length_append, List.length_map, ways_len t, wayss_len ts (k + 1)]
end
/-- the part to which a way leads -/
def atT : List Nat → Tm → Option Tm
  | [], t => some t
  | k :: w, t => (t.parts[k]?).bind (atT w)
theorem mem_wayss : ∀ (ts : List Tm) (k : Nat) (w : List Nat), w ∈ wayss k ts ↔ ∃ i u v, ts[i]? = some u ∧ v ∈ u.ways ∧ w = (k + i) :: v
  | [], k, w => by simp [wayss]
  | t :: ts, k, w => by
    simp only [wayss, List.mem_append, mem_wayss ts (k + 1) w, List.mem_map]
    constructor
    · rintro (⟨v, hv, rfl⟩ | ⟨i, u, v, h1, h2, rfl⟩)
      · exact ⟨0, t, v, rfl, hv, rfl⟩
      · exact ⟨i + 1, u, v, by simpa using h1, h2, by rw [show k + (i + 1) = k + 1 + i by omega]⟩
    · rintro ⟨i, u, v, h1, h2, rfl⟩
      cases i with
      | zero => simp at h1; subst h1; exact .inl ⟨v, h2, rfl⟩
      | succ i => exact .inr ⟨i, u, v, by simpa using h1, h2, by rw [show k + (i + 1) = k + 1 + i by omega]⟩
theorem mem_ways (t : Tm) (w : List Nat) : w ∈ t.ways ↔ w = [] ∨ ∃ i u v, t.parts[i]? = some u ∧ v ∈ u.ways ∧ w = i :: v := by
  rw [ways_eq, List.mem_cons, mem_wayss]
  simp
/-- a way is one of the ways just if it leads to a part -/
theorem way_iff : ∀ (w : List Nat) (t : Tm), w ∈ t.ways ↔ (atT w t).isSome = true
  | [], t => by rw [mem_ways]; simp [atT]
  | k :: w, t => by
    rw [mem_ways]
    simp only [reduceCtorEq, false_or, atT]
    constructor
    · rintro ⟨i, u, v, h1, h2, h3⟩
      cases h3
      rw [h1]
      exact (way_iff w u).mp h2
    · intro h
      cases e : t.parts[k]? with
      | none => rw [e] at h; cases h
      | some u =>
        rw [e] at h
        exact ⟨k, u, w, e, (way_iff w u).mpr h, rfl⟩
structure AtOk (t u : Tm) (w : List Nat) : Prop where
  wf : t.wf → u.wf
  sz : u.sz ≤ t.sz
  dp : u.dp + w.length ≤ t.dp
theorem at_ok : ∀ (w : List Nat) (t u : Tm), atT w t = some u → AtOk t u w
  | [], t, u, h => by simp only [atT, Option.some.injEq] at h; subst h; exact ⟨id, Nat.le_refl _, by simp⟩
  | k :: w, t, u, h => by
    simp only [atT] at h
    cases e : t.parts[k]? with
    | none => rw [e] at h; cases h
    | some p =>
      rw [e] at h
      have A := at_ok w p u h
      have hm := List.mem_of_getElem? e
      have h1 := parts_dp hm
      have h2 := szs_of hm
      have h3 := parts_sz t
      refine ⟨fun hw => A.wf (Tm.wf_of (parts_wf hw) p hm), ?_, ?_⟩
      · have := A.sz; omega
      · have := A.dp; simp only [List.length_cons]; omega
/-- like t, of these parts -/
def Tm.made : Tm → List Tm → Tm
  | .put _ _, p :: ps => .put p ps
  | .round _ _, a :: b :: _ => .round a b
  | t, _ => t
/-- t with o where the way leads -/
def withT : List Nat → Tm → Tm → Tm
  | [], _, o => o
  | k :: w, t, o => t.made (t.parts.set k (withT w (t.parts.getD k .next) o))
def wayD (w : List Nat) : D := .tuple (w.map fun (n : Nat) => PyData.int n)
def waysD (ws : List (List Nat)) : List D := ws.map wayD
theorem enumL_at : ∀ (xs : List D) (n i : Nat) (h : i < (enumL n xs).length), ∃ h2 : i < xs.length, (enumL n xs)[i] = .tuple [.int ((n + i : Nat) : Int), xs[i]]
  | x :: xs, n, 0, h => ⟨by simp, by simp [enumL]⟩
  | x :: xs, n, i + 1, h => by
    have h' : i < (enumL (n + 1) xs).length := by simpa [enumL] using h
    obtain ⟨h2, e⟩ := enumL_at xs (n + 1) i h'
    refine ⟨by simpa using h2, ?_⟩
    simp only [enumL, List.getElem_cons_succ, e]
    rw [show n + 1 + i = n + (i + 1) by omega]
  | [], n, i, h => by simp [enumL] at h
theorem enum0_at {xs : List D} {i : Nat} (h : i < (enumL 0 xs).length) : ∃ h2 : i < xs.length, (enumL 0 xs)[i] = .tuple [.int (i : Int), xs[i]] := by
  obtain ⟨h2, e⟩ := enumL_at xs 0 i h
  exact ⟨h2, by rw [e]; simp⟩
theorem enumL_length : ∀ (xs : List D) (n : Nat), (enumL n xs).length = xs.length
  | [], _ => rfl
  | x :: xs, n => by simp [enumL, enumL_length xs (n + 1)]
theorem small_line {n : Nat} (h : n ≤ 5000) : n ≤ Line := Nat.le_trans h (by decide)
theorem add_tup1 (k : Nat) (w : List Nat) (h : w.length ≤ 2000) : binD .add (.tuple [.int (k : Int)]) (wayD w) = ok (wayD (k :: w)) := by
  unfold wayD
  rw [add_tt _ _ (small_line (by simp; omega))]
  rfl
theorem way_short {t : Tm} {w : List Nat} (h : w ∈ t.ways) : w.length ≤ t.dp := by
  obtain ⟨u, hu⟩ := Option.isSome_iff_exists.mp ((way_iff w t).mp h)
  have := (at_ok w t u hu).dp
  omega
theorem ds_get {ts : List Tm} {i : Nat} (h : i < (Tm.ds ts).length) : ∃ h2 : i < ts.length, (Tm.ds ts)[i] = ts[i].d := by
  refine ⟨by rw [Tm.ds_len] at h; exact h, ?_⟩
  simp [Tm.ds_map]
theorem take_snoc {α : Type} {ts : List α} {i : Nat} (h : i < ts.length) : ts.take (i + 1) = ts.take i ++ [ts[i]] := by simp
section
variable {ds : List Def} {pr wo lpa lwa : Nat} (hpr : ds[pr]? = some _law_parts) (hwo : ds[wo]? = some (ways_of pr wo)) (hlwa : ds[lwa]? = some (_law_ways pr lwa))
theorem ways_of_ok (hpr : ds[pr]? = some _law_parts) (hwo : ds[wo]? = some (ways_of pr wo)) : ∀ (k : Nat) (t : Tm), t.dp ≤ k → t.sz ≤ 1000 → k ≤ 1000 → ∀ n : Nat, t.dp + 2 ≤ n → callF ds n wo [t.d] = ok (.list (waysD t.ways)) := by
  intro k
  induction k using Nat.strongRecOn with
  | _ k ih =>
  intro t hk hs hk2 n hn
  obtain ⟨n, rfl⟩ : ∃ m, n = m + 2 := ⟨n - 2, by omega⟩
  have hp := law_parts_ok hpr t hs n
  have hsz := parts_sz t
  rw [run_at hwo _ _ rfl]
  simp only [x_raise, x_raiseX, x_try, h_none, h_some, h_nil, e_slf, e_slt, e_slb, e_exf, x_nil, x_cons, x_doc, x_pass, x_brk, x_cont, x_set, x_unpack, x_par, x_app, x_ext, x_aug, x_expr, x_ite, x_ret, e_nil, e_var, e_cst, e_glob, e_tup, e_lst, e_call, e_bin, e_neg, e_not, e_cmp, e_chain, e_and, e_or, e_ife, e_f1, e_isi, e_idx, es_nil, es_cons, tryK_exc, tryK_rt, tryK_nx, clK_t, clK_f, leaveS_rt, leaveS_nx, Out.calm_rt, Out.calm_nx, part_i, isi_x, isi_v, cut1, cutR_l, cutR_t, List.drop, out_rt_seq, ofOut_out_rt, R.bind_ok, R.bind_exc, R.bind_stuck, R.calm_ok, R.calm_exc, R.calm_stuck, R.map_ok, R.map_exc, R.map_stuck, R.out_ok, R.out_exc, R.out_stuck, Out.seq_nx, Out.seq_rt, Out.seq_bk, Out.seq_ct, Out.seq_exc, Out.seq_stuck, eqv_ii, eqv_ss, eqv_tt, eqv_ll, eqv_bb, eqv_it, eqv_ti, eqv_is, eqv_si, eqv_ts, eqv_st, eqv_tn, eqv_nt, eqv_tl, eqv_lt, eqvAll_nn, eqvAll_cc, eqvAll_nc, eqvAll_cn, eqR_ii, eqR_ss, eqR_bb, nth0, nth1, nth2, nth3, truthy_b, truthy_t, truthy_l, truthy_n, truthy_i, cmp_eq, cmp_ne, cmp_lt, cmp_le, cmp_gt, cmp_ge, cmp_is_nn, cmp_is_tn, cmp_is_ln, cmp_is_in, cmp_is_sn, cmp_isnot_nn, cmp_isnot_tn, cmp_isnot_ln, cmp_isnot_in, cmp_isnot_sn, isi_tt, isi_tl, isi_ti, isi_tb, isi_ts, isi_tn, isi_ii, isi_ib, isi_it, isi_il, isi_is, isi_in, isi_bb, isi_bi, isi_ss, isi_st, isi_si, isi_ll, isi_lt, len_t, len_l, tup_l, tup_t, list_l, list_t, sub_ii, add_ii, idx_t, idx_l, walk_t, walk_l, iteF_t, iteF_f, andK_t, andK_f, orK_t, orK_f, ifeK_t, ifeK_f, chK_t, chK_f, setO_some, getS_0, getS_s, ofOut_rt, ofOut_nx, ofOut_exc, List.set, List.map_cons, List.map_nil, List.cons_append, List.nil_append, List.replicate, decide_true, decide_false, Nat.reduceSub, Nat.reduceAdd, List.length_cons, List.length_nil, Bool.not_true, Bool.not_false, Bool.and_true, Bool.and_false, Bool.true_and, Bool.false_and, List.isEmpty_cons, List.isEmpty_nil, reduceIte, Bool.false_eq_true, if_false, if_true, true_and, and_true, x_for, e_enum, hp, enumR]
  obtain ⟨ρ', e1, x2, x3, x4, e2⟩ := forL_inv0 (step := stepF (.many [2, 3]) fun ρ => exS (callF ds (n + 1)) (ways_of_L0 wo) ρ) (fun i ρ => ∃ x2 x3 x4, ρ = [some t.d, some (.list (waysD ([] :: wayss 0 (t.parts.take i)))), x2, x3, x4]) (enumL 0 (Tm.ds t.parts))
    [some t.d, some (.list [.tuple []]), none, none, none] ⟨none, none, none, by simp [wayss, waysD, wayD]⟩ (fun i hi ρ h => by
      obtain ⟨x2, x3, x4, rfl⟩ := h
      obtain ⟨h2, e⟩ := enum0_at hi
      obtain ⟨h3, e3⟩ := ds_get h2
      have hm : t.parts[i] ∈ t.parts := List.getElem_mem h3
      have d1 := parts_dp hm
      have s1 := szs_of hm
      have hc := ih (k - 1) (by omega) t.parts[i] (by omega) (by omega) (by omega) (n + 1) (by omega)
      rw [e, e3]
      have hcomp := compK_one (C := callF ds (n + 1)) (i := 4) (e := .bin .add (.tup (.cons (.var 2) .nil)) (.var 4)) (ρ := [some t.d, some (.list (waysD ([] :: wayss 0 (t.parts.take i)))), some (.int (i : Int)), some (t.parts[i]).d, x4]) (enc := wayD) (out := fun w => wayD (i :: w)) t.parts[i].ways (fun w hw => by
        have := way_short hw
        simp only [x_raise, x_raiseX, x_try, h_none, h_some, h_nil, e_slf, e_slt, e_slb, e_exf, x_nil, x_cons, x_doc, x_pass, x_brk, x_cont, x_set, x_unpack, x_par, x_app, x_ext, x_aug, x_expr, x_ite, x_ret, e_nil, e_var, e_cst, e_glob, e_tup, e_lst, e_call, e_bin, e_neg, e_not, e_cmp, e_chain, e_and, e_or, e_ife, e_f1, e_isi, e_idx, es_nil, es_cons, tryK_exc, tryK_rt, tryK_nx, clK_t, clK_f, leaveS_rt, leaveS_nx, Out.calm_rt, Out.calm_nx, part_i, isi_x, isi_v, cut1, cutR_l, cutR_t, List.drop, out_rt_seq, ofOut_out_rt, R.bind_ok, R.bind_exc, R.bind_stuck, R.calm_ok, R.calm_exc, R.calm_stuck, R.map_ok, R.map_exc, R.map_stuck, R.out_ok, R.out_exc, R.out_stuck, Out.seq_nx, Out.seq_rt, Out.seq_bk, Out.seq_ct, Out.seq_exc, Out.seq_stuck, eqv_ii, eqv_ss, eqv_tt, eqv_ll, eqv_bb, eqv_it, eqv_ti, eqv_is, eqv_si, eqv_ts, eqv_st, eqv_tn, eqv_nt, eqv_tl, eqv_lt, eqvAll_nn, eqvAll_cc, eqvAll_nc, eqvAll_cn, eqR_ii, eqR_ss, eqR_bb, nth0, nth1, nth2, nth3, truthy_b, truthy_t, truthy_l, truthy_n, truthy_i, cmp_eq, cmp_ne, cmp_lt, cmp_le, cmp_gt, cmp_ge, cmp_is_nn, cmp_is_tn, cmp_is_ln, cmp_is_in, cmp_is_sn, cmp_isnot_nn, cmp_isnot_tn, cmp_isnot_ln, cmp_isnot_in, cmp_isnot_sn, isi_tt, isi_tl, isi_ti, isi_tb, isi_ts, isi_tn, isi_ii, isi_ib, isi_it, isi_il, isi_is, isi_in, isi_bb, isi_bi, isi_ss, isi_st, isi_si, isi_ll, isi_lt, len_t, len_l, tup_l, tup_t, list_l, list_t, sub_ii, add_ii, idx_t, idx_l, walk_t, walk_l, iteF_t, iteF_f, andK_t, andK_f, orK_t, orK_f, ifeK_t, ifeK_f, chK_t, chK_f, setO_some, getS_0, getS_s, ofOut_rt, ofOut_nx, ofOut_exc, List.set, List.map_cons, List.map_nil, List.cons_append, List.nil_append, List.replicate, decide_true, decide_false, Nat.reduceSub, Nat.reduceAdd, List.length_cons, List.length_nil, Bool.not_true, Bool.not_false, Bool.and_true, Bool.and_false, Bool.true_and, Bool.false_and, List.isEmpty_cons, List.isEmpty_nil, reduceIte, Bool.false_eq_true, if_false, if_true, true_and, and_true, add_tup1 _ _ (show w.length ≤ 2000 by omega)])
      have hcomp' : compK (callF ds (n + 1)) (.one 4) .nil (.bin .add (.tup (.cons (.var 2) .nil)) (.var 4)) [some t.d, some (.list (waysD ([] :: wayss 0 (t.parts.take i)))), some (.int (i : Int)), some (t.parts[i]).d, x4] (waysD t.parts[i].ways) = _ := hcomp
      have hl : (waysD ([] :: wayss 0 (t.parts.take i))).length + (t.parts[i].ways.map fun w => wayD (i :: w)).length ≤ Line := by
        refine small_line ?_
        have h4 : Tm.szs (t.parts.take i) ≤ Tm.szs t.parts := by
          have : ∀ (ts : List Tm) (i : Nat), Tm.szs (ts.take i) ≤ Tm.szs ts := by
            intro ts
            induction ts with
            | nil => intro i; simp [Tm.szs]
            | cons u us ih => intro i; cases i <;> simp [Tm.szs]; exact ih _
          exact this _ _
        simp only [waysD, List.length_map, List.length_cons, wayss_len, ways_len]
        omega
      refine ⟨_, ?_, some (.int (i : Int)), some (t.parts[i]).d, x4, rfl⟩
      have ea : waysD ([] :: wayss 0 (t.parts.take (i + 1))) = waysD ([] :: wayss 0 (t.parts.take i)) ++ t.parts[i].ways.map fun w => wayD (i :: w) := by
        rw [take_snoc h3, wayss_app, List.length_take, Nat.min_eq_left (by omega), Nat.zero_add]
        simp [waysD]
      rw [ea]
      simp only [ways_of_L0, stepF, setTg, setAll, x_raise, x_raiseX, x_try, h_none, h_some, h_nil, e_slf, e_slt, e_slb, e_exf, x_nil, x_cons, x_doc, x_pass, x_brk, x_cont, x_set, x_unpack, x_par, x_app, x_ext, x_aug, x_expr, x_ite, x_ret, e_nil, e_var, e_cst, e_glob, e_tup, e_lst, e_call, e_bin, e_neg, e_not, e_cmp, e_chain, e_and, e_or, e_ife, e_f1, e_isi, e_idx, es_nil, es_cons, tryK_exc, tryK_rt, tryK_nx, clK_t, clK_f, leaveS_rt, leaveS_nx, Out.calm_rt, Out.calm_nx, part_i, isi_x, isi_v, cut1, cutR_l, cutR_t, List.drop, out_rt_seq, ofOut_out_rt, R.bind_ok, R.bind_exc, R.bind_stuck, R.calm_ok, R.calm_exc, R.calm_stuck, R.map_ok, R.map_exc, R.map_stuck, R.out_ok, R.out_exc, R.out_stuck, Out.seq_nx, Out.seq_rt, Out.seq_bk, Out.seq_ct, Out.seq_exc, Out.seq_stuck, eqv_ii, eqv_ss, eqv_tt, eqv_ll, eqv_bb, eqv_it, eqv_ti, eqv_is, eqv_si, eqv_ts, eqv_st, eqv_tn, eqv_nt, eqv_tl, eqv_lt, eqvAll_nn, eqvAll_cc, eqvAll_nc, eqvAll_cn, eqR_ii, eqR_ss, eqR_bb, nth0, nth1, nth2, nth3, truthy_b, truthy_t, truthy_l, truthy_n, truthy_i, cmp_eq, cmp_ne, cmp_lt, cmp_le, cmp_gt, cmp_ge, cmp_is_nn, cmp_is_tn, cmp_is_ln, cmp_is_in, cmp_is_sn, cmp_isnot_nn, cmp_isnot_tn, cmp_isnot_ln, cmp_isnot_in, cmp_isnot_sn, isi_tt, isi_tl, isi_ti, isi_tb, isi_ts, isi_tn, isi_ii, isi_ib, isi_it, isi_il, isi_is, isi_in, isi_bb, isi_bi, isi_ss, isi_st, isi_si, isi_ll, isi_lt, len_t, len_l, tup_l, tup_t, list_l, list_t, sub_ii, add_ii, idx_t, idx_l, walk_t, walk_l, iteF_t, iteF_f, andK_t, andK_f, orK_t, orK_f, ifeK_t, ifeK_f, chK_t, chK_f, setO_some, getS_0, getS_s, ofOut_rt, ofOut_nx, ofOut_exc, List.set, List.map_cons, List.map_nil, List.cons_append, List.nil_append, List.replicate, decide_true, decide_false, Nat.reduceSub, Nat.reduceAdd, List.length_cons, List.length_nil, Bool.not_true, Bool.not_false, Bool.and_true, Bool.and_false, Bool.true_and, Bool.false_and, List.isEmpty_cons, List.isEmpty_nil, reduceIte, Bool.false_eq_true, if_false, if_true, true_and, and_true, e_comp, hc, hcomp', getL, List.getElem?_cons_succ, List.getElem?_cons_zero, extF, hl])
  have e3 : (enumL 0 (Tm.ds t.parts)).length = t.parts.length := by rw [enumL_length, Tm.ds_len]
  rw [e3, List.take_length, ← ways_eq] at e2
  subst e2
  rw [e1]
  simp only [x_raise, x_raiseX, x_try, h_none, h_some, h_nil, e_slf, e_slt, e_slb, e_exf, x_nil, x_cons, x_doc, x_pass, x_brk, x_cont, x_set, x_unpack, x_par, x_app, x_ext, x_aug, x_expr, x_ite, x_ret, e_nil, e_var, e_cst, e_glob, e_tup, e_lst, e_call, e_bin, e_neg, e_not, e_cmp, e_chain, e_and, e_or, e_ife, e_f1, e_isi, e_idx, es_nil, es_cons, tryK_exc, tryK_rt, tryK_nx, clK_t, clK_f, leaveS_rt, leaveS_nx, Out.calm_rt, Out.calm_nx, part_i, isi_x, isi_v, cut1, cutR_l, cutR_t, List.drop, out_rt_seq, ofOut_out_rt, R.bind_ok, R.bind_exc, R.bind_stuck, R.calm_ok, R.calm_exc, R.calm_stuck, R.map_ok, R.map_exc, R.map_stuck, R.out_ok, R.out_exc, R.out_stuck, Out.seq_nx, Out.seq_rt, Out.seq_bk, Out.seq_ct, Out.seq_exc, Out.seq_stuck, eqv_ii, eqv_ss, eqv_tt, eqv_ll, eqv_bb, eqv_it, eqv_ti, eqv_is, eqv_si, eqv_ts, eqv_st, eqv_tn, eqv_nt, eqv_tl, eqv_lt, eqvAll_nn, eqvAll_cc, eqvAll_nc, eqvAll_cn, eqR_ii, eqR_ss, eqR_bb, nth0, nth1, nth2, nth3, truthy_b, truthy_t, truthy_l, truthy_n, truthy_i, cmp_eq, cmp_ne, cmp_lt, cmp_le, cmp_gt, cmp_ge, cmp_is_nn, cmp_is_tn, cmp_is_ln, cmp_is_in, cmp_is_sn, cmp_isnot_nn, cmp_isnot_tn, cmp_isnot_ln, cmp_isnot_in, cmp_isnot_sn, isi_tt, isi_tl, isi_ti, isi_tb, isi_ts, isi_tn, isi_ii, isi_ib, isi_it, isi_il, isi_is, isi_in, isi_bb, isi_bi, isi_ss, isi_st, isi_si, isi_ll, isi_lt, len_t, len_l, tup_l, tup_t, list_l, list_t, sub_ii, add_ii, idx_t, idx_l, walk_t, walk_l, iteF_t, iteF_f, andK_t, andK_f, orK_t, orK_f, ifeK_t, ifeK_f, chK_t, chK_f, setO_some, getS_0, getS_s, ofOut_rt, ofOut_nx, ofOut_exc, List.set, List.map_cons, List.map_nil, List.cons_append, List.nil_append, List.replicate, decide_true, decide_false, Nat.reduceSub, Nat.reduceAdd, List.length_cons, List.length_nil, Bool.not_true, Bool.not_false, Bool.and_true, Bool.and_false, Bool.true_and, Bool.false_and, List.isEmpty_cons, List.isEmpty_nil, reduceIte, Bool.false_eq_true, if_false, if_true, true_and, and_true]
theorem szs_take : ∀ (ts : List Tm) (i : Nat), Tm.szs (ts.take i) ≤ Tm.szs ts
  | [], i => by simp [Tm.szs]
  | u :: us, 0 => by simp [Tm.szs]
  | u :: us, i + 1 => by simp only [List.take_succ_cons, Tm.szs]; have := szs_take us i; omega
theorem rng_at {m i : Nat} (h : i < ((List.range m).map fun (k : Nat) => PyData.int (0 + (k : Int))).length) : i < m ∧ ((List.range m).map fun (k : Nat) => PyData.int (0 + (k : Int)))[i] = .int (i : Int) := by
  have h' : i < m := by simpa using h
  exact ⟨h', by simp⟩
theorem law_ways_ok (hpr : ds[pr]? = some _law_parts) (hlwa : ds[lwa]? = some (_law_ways pr lwa)) : ∀ (k : Nat) (t : Tm), t.dp ≤ k → t.sz ≤ 1000 → k ≤ 1000 → ∀ n : Nat, t.dp + 2 ≤ n → callF ds n lwa [t.d] = ok (.list (waysD t.ways)) := by
  intro k
  induction k using Nat.strongRecOn with
  | _ k ih =>
  intro t hk hs hk2 n hn
  obtain ⟨n, rfl⟩ : ∃ m, n = m + 2 := ⟨n - 2, by omega⟩
  have hp := law_parts_ok hpr t hs n
  have hsz := parts_sz t
  have hlen : t.parts.length ≤ 1000 := by have := szs_len t.parts; omega
  rw [run_at hlwa _ _ rfl]
  simp only [x_raise, x_raiseX, x_try, h_none, h_some, h_nil, e_slf, e_slt, e_slb, e_exf, x_nil, x_cons, x_doc, x_pass, x_brk, x_cont, x_set, x_unpack, x_par, x_app, x_ext, x_aug, x_expr, x_ite, x_ret, e_nil, e_var, e_cst, e_glob, e_tup, e_lst, e_call, e_bin, e_neg, e_not, e_cmp, e_chain, e_and, e_or, e_ife, e_f1, e_isi, e_idx, es_nil, es_cons, tryK_exc, tryK_rt, tryK_nx, clK_t, clK_f, leaveS_rt, leaveS_nx, Out.calm_rt, Out.calm_nx, part_i, isi_x, isi_v, cut1, cutR_l, cutR_t, List.drop, out_rt_seq, ofOut_out_rt, R.bind_ok, R.bind_exc, R.bind_stuck, R.calm_ok, R.calm_exc, R.calm_stuck, R.map_ok, R.map_exc, R.map_stuck, R.out_ok, R.out_exc, R.out_stuck, Out.seq_nx, Out.seq_rt, Out.seq_bk, Out.seq_ct, Out.seq_exc, Out.seq_stuck, eqv_ii, eqv_ss, eqv_tt, eqv_ll, eqv_bb, eqv_it, eqv_ti, eqv_is, eqv_si, eqv_ts, eqv_st, eqv_tn, eqv_nt, eqv_tl, eqv_lt, eqvAll_nn, eqvAll_cc, eqvAll_nc, eqvAll_cn, eqR_ii, eqR_ss, eqR_bb, nth0, nth1, nth2, nth3, truthy_b, truthy_t, truthy_l, truthy_n, truthy_i, cmp_eq, cmp_ne, cmp_lt, cmp_le, cmp_gt, cmp_ge, cmp_is_nn, cmp_is_tn, cmp_is_ln, cmp_is_in, cmp_is_sn, cmp_isnot_nn, cmp_isnot_tn, cmp_isnot_ln, cmp_isnot_in, cmp_isnot_sn, isi_tt, isi_tl, isi_ti, isi_tb, isi_ts, isi_tn, isi_ii, isi_ib, isi_it, isi_il, isi_is, isi_in, isi_bb, isi_bi, isi_ss, isi_st, isi_si, isi_ll, isi_lt, len_t, len_l, tup_l, tup_t, list_l, list_t, sub_ii, add_ii, idx_t, idx_l, walk_t, walk_l, iteF_t, iteF_f, andK_t, andK_f, orK_t, orK_f, ifeK_t, ifeK_f, chK_t, chK_f, setO_some, getS_0, getS_s, ofOut_rt, ofOut_nx, ofOut_exc, List.set, List.map_cons, List.map_nil, List.cons_append, List.nil_append, List.replicate, decide_true, decide_false, Nat.reduceSub, Nat.reduceAdd, List.length_cons, List.length_nil, Bool.not_true, Bool.not_false, Bool.and_true, Bool.and_false, Bool.true_and, Bool.false_and, List.isEmpty_cons, List.isEmpty_nil, reduceIte, Bool.false_eq_true, if_false, if_true, true_and, and_true, x_for, e_rng1, hp, Tm.ds_len, rng_nat _ hlen]
  obtain ⟨ρ', e1, x3, x4, e2⟩ := forL_inv0 (step := stepF (.one 3) fun ρ => exS (callF ds (n + 1)) (_law_ways_L0 lwa) ρ) (fun i ρ => ∃ x3 x4, ρ = [some t.d, some (.list (waysD ([] :: wayss 0 (t.parts.take i)))), some (.list (Tm.ds t.parts)), x3, x4]) ((List.range t.parts.length).map fun (k : Nat) => PyData.int (0 + (k : Int)))
    [some t.d, some (.list [.tuple []]), some (.list (Tm.ds t.parts)), none, none] ⟨none, none, by simp [wayss, waysD, wayD]⟩ (fun i hi ρ h => by
      obtain ⟨x3, x4, rfl⟩ := h
      obtain ⟨h3, e⟩ := rng_at hi
      have hm : t.parts[i] ∈ t.parts := List.getElem_mem h3
      have hg : t.parts.getD i .next = t.parts[i] := by rw [List.getD_eq_getElem?_getD, List.getElem?_eq_getElem h3]; rfl
      have d1 := parts_dp hm
      have s1 := szs_of hm
      have hc := ih (k - 1) (by omega) t.parts[i] (by omega) (by omega) (by omega) (n + 1) (by omega)
      rw [e]
      have hcomp := compK_one (C := callF ds (n + 1)) (i := 4) (e := .bin .add (.tup (.cons (.var 3) .nil)) (.var 4)) (ρ := [some t.d, some (.list (waysD ([] :: wayss 0 (t.parts.take i)))), some (.list (Tm.ds t.parts)), some (.int (i : Int)), x4]) (enc := wayD) (out := fun w => wayD (i :: w)) t.parts[i].ways (fun w hw => by
        have := way_short hw
        simp only [x_raise, x_raiseX, x_try, h_none, h_some, h_nil, e_slf, e_slt, e_slb, e_exf, x_nil, x_cons, x_doc, x_pass, x_brk, x_cont, x_set, x_unpack, x_par, x_app, x_ext, x_aug, x_expr, x_ite, x_ret, e_nil, e_var, e_cst, e_glob, e_tup, e_lst, e_call, e_bin, e_neg, e_not, e_cmp, e_chain, e_and, e_or, e_ife, e_f1, e_isi, e_idx, es_nil, es_cons, tryK_exc, tryK_rt, tryK_nx, clK_t, clK_f, leaveS_rt, leaveS_nx, Out.calm_rt, Out.calm_nx, part_i, isi_x, isi_v, cut1, cutR_l, cutR_t, List.drop, out_rt_seq, ofOut_out_rt, R.bind_ok, R.bind_exc, R.bind_stuck, R.calm_ok, R.calm_exc, R.calm_stuck, R.map_ok, R.map_exc, R.map_stuck, R.out_ok, R.out_exc, R.out_stuck, Out.seq_nx, Out.seq_rt, Out.seq_bk, Out.seq_ct, Out.seq_exc, Out.seq_stuck, eqv_ii, eqv_ss, eqv_tt, eqv_ll, eqv_bb, eqv_it, eqv_ti, eqv_is, eqv_si, eqv_ts, eqv_st, eqv_tn, eqv_nt, eqv_tl, eqv_lt, eqvAll_nn, eqvAll_cc, eqvAll_nc, eqvAll_cn, eqR_ii, eqR_ss, eqR_bb, nth0, nth1, nth2, nth3, truthy_b, truthy_t, truthy_l, truthy_n, truthy_i, cmp_eq, cmp_ne, cmp_lt, cmp_le, cmp_gt, cmp_ge, cmp_is_nn, cmp_is_tn, cmp_is_ln, cmp_is_in, cmp_is_sn, cmp_isnot_nn, cmp_isnot_tn, cmp_isnot_ln, cmp_isnot_in, cmp_isnot_sn, isi_tt, isi_tl, isi_ti, isi_tb, isi_ts, isi_tn, isi_ii, isi_ib, isi_it, isi_il, isi_is, isi_in, isi_bb, isi_bi, isi_ss, isi_st, isi_si, isi_ll, isi_lt, len_t, len_l, tup_l, tup_t, list_l, list_t, sub_ii, add_ii, idx_t, idx_l, walk_t, walk_l, iteF_t, iteF_f, andK_t, andK_f, orK_t, orK_f, ifeK_t, ifeK_f, chK_t, chK_f, setO_some, getS_0, getS_s, ofOut_rt, ofOut_nx, ofOut_exc, List.set, List.map_cons, List.map_nil, List.cons_append, List.nil_append, List.replicate, decide_true, decide_false, Nat.reduceSub, Nat.reduceAdd, List.length_cons, List.length_nil, Bool.not_true, Bool.not_false, Bool.and_true, Bool.and_false, Bool.true_and, Bool.false_and, List.isEmpty_cons, List.isEmpty_nil, reduceIte, Bool.false_eq_true, if_false, if_true, true_and, and_true, add_tup1 _ _ (show w.length ≤ 2000 by omega)])
      have hcomp' : compK (callF ds (n + 1)) (.one 4) .nil (.bin .add (.tup (.cons (.var 3) .nil)) (.var 4)) [some t.d, some (.list (waysD ([] :: wayss 0 (t.parts.take i)))), some (.list (Tm.ds t.parts)), some (.int (i : Int)), x4] (waysD t.parts[i].ways) = _ := hcomp
      have hl : (waysD ([] :: wayss 0 (t.parts.take i))).length + (t.parts[i].ways.map fun w => wayD (i :: w)).length ≤ Line := by
        refine small_line ?_
        have h4 := szs_take t.parts i
        simp only [waysD, List.length_map, List.length_cons, wayss_len, ways_len]
        omega
      refine ⟨_, ?_, some (.int (i : Int)), x4, rfl⟩
      have ea : waysD ([] :: wayss 0 (t.parts.take (i + 1))) = waysD ([] :: wayss 0 (t.parts.take i)) ++ t.parts[i].ways.map fun w => wayD (i :: w) := by
        rw [take_snoc h3, wayss_app, List.length_take, Nat.min_eq_left (by omega), Nat.zero_add]
        simp [waysD]
      rw [ea]
      simp only [_law_ways_L0, stepF, setTg, x_raise, x_raiseX, x_try, h_none, h_some, h_nil, e_slf, e_slt, e_slb, e_exf, x_nil, x_cons, x_doc, x_pass, x_brk, x_cont, x_set, x_unpack, x_par, x_app, x_ext, x_aug, x_expr, x_ite, x_ret, e_nil, e_var, e_cst, e_glob, e_tup, e_lst, e_call, e_bin, e_neg, e_not, e_cmp, e_chain, e_and, e_or, e_ife, e_f1, e_isi, e_idx, es_nil, es_cons, tryK_exc, tryK_rt, tryK_nx, clK_t, clK_f, leaveS_rt, leaveS_nx, Out.calm_rt, Out.calm_nx, part_i, isi_x, isi_v, cut1, cutR_l, cutR_t, List.drop, out_rt_seq, ofOut_out_rt, R.bind_ok, R.bind_exc, R.bind_stuck, R.calm_ok, R.calm_exc, R.calm_stuck, R.map_ok, R.map_exc, R.map_stuck, R.out_ok, R.out_exc, R.out_stuck, Out.seq_nx, Out.seq_rt, Out.seq_bk, Out.seq_ct, Out.seq_exc, Out.seq_stuck, eqv_ii, eqv_ss, eqv_tt, eqv_ll, eqv_bb, eqv_it, eqv_ti, eqv_is, eqv_si, eqv_ts, eqv_st, eqv_tn, eqv_nt, eqv_tl, eqv_lt, eqvAll_nn, eqvAll_cc, eqvAll_nc, eqvAll_cn, eqR_ii, eqR_ss, eqR_bb, nth0, nth1, nth2, nth3, truthy_b, truthy_t, truthy_l, truthy_n, truthy_i, cmp_eq, cmp_ne, cmp_lt, cmp_le, cmp_gt, cmp_ge, cmp_is_nn, cmp_is_tn, cmp_is_ln, cmp_is_in, cmp_is_sn, cmp_isnot_nn, cmp_isnot_tn, cmp_isnot_ln, cmp_isnot_in, cmp_isnot_sn, isi_tt, isi_tl, isi_ti, isi_tb, isi_ts, isi_tn, isi_ii, isi_ib, isi_it, isi_il, isi_is, isi_in, isi_bb, isi_bi, isi_ss, isi_st, isi_si, isi_ll, isi_lt, len_t, len_l, tup_l, tup_t, list_l, list_t, sub_ii, add_ii, idx_t, idx_l, walk_t, walk_l, iteF_t, iteF_f, andK_t, andK_f, orK_t, orK_f, ifeK_t, ifeK_f, chK_t, chK_f, setO_some, getS_0, getS_s, ofOut_rt, ofOut_nx, ofOut_exc, List.set, List.map_cons, List.map_nil, List.cons_append, List.nil_append, List.replicate, decide_true, decide_false, Nat.reduceSub, Nat.reduceAdd, List.length_cons, List.length_nil, Bool.not_true, Bool.not_false, Bool.and_true, Bool.and_false, Bool.true_and, Bool.false_and, List.isEmpty_cons, List.isEmpty_nil, reduceIte, Bool.false_eq_true, if_false, if_true, true_and, and_true, e_comp, ds_at h3, hg, hc, hcomp', add_ll _ _ hl])
  have e3 : ((List.range t.parts.length).map fun (k : Nat) => PyData.int (0 + (k : Int))).length = t.parts.length := by simp
  rw [e3, List.take_length, ← ways_eq] at e2
  subst e2
  rw [e1]
  simp only [x_raise, x_raiseX, x_try, h_none, h_some, h_nil, e_slf, e_slt, e_slb, e_exf, x_nil, x_cons, x_doc, x_pass, x_brk, x_cont, x_set, x_unpack, x_par, x_app, x_ext, x_aug, x_expr, x_ite, x_ret, e_nil, e_var, e_cst, e_glob, e_tup, e_lst, e_call, e_bin, e_neg, e_not, e_cmp, e_chain, e_and, e_or, e_ife, e_f1, e_isi, e_idx, es_nil, es_cons, tryK_exc, tryK_rt, tryK_nx, clK_t, clK_f, leaveS_rt, leaveS_nx, Out.calm_rt, Out.calm_nx, part_i, isi_x, isi_v, cut1, cutR_l, cutR_t, List.drop, out_rt_seq, ofOut_out_rt, R.bind_ok, R.bind_exc, R.bind_stuck, R.calm_ok, R.calm_exc, R.calm_stuck, R.map_ok, R.map_exc, R.map_stuck, R.out_ok, R.out_exc, R.out_stuck, Out.seq_nx, Out.seq_rt, Out.seq_bk, Out.seq_ct, Out.seq_exc, Out.seq_stuck, eqv_ii, eqv_ss, eqv_tt, eqv_ll, eqv_bb, eqv_it, eqv_ti, eqv_is, eqv_si, eqv_ts, eqv_st, eqv_tn, eqv_nt, eqv_tl, eqv_lt, eqvAll_nn, eqvAll_cc, eqvAll_nc, eqvAll_cn, eqR_ii, eqR_ss, eqR_bb, nth0, nth1, nth2, nth3, truthy_b, truthy_t, truthy_l, truthy_n, truthy_i, cmp_eq, cmp_ne, cmp_lt, cmp_le, cmp_gt, cmp_ge, cmp_is_nn, cmp_is_tn, cmp_is_ln, cmp_is_in, cmp_is_sn, cmp_isnot_nn, cmp_isnot_tn, cmp_isnot_ln, cmp_isnot_in, cmp_isnot_sn, isi_tt, isi_tl, isi_ti, isi_tb, isi_ts, isi_tn, isi_ii, isi_ib, isi_it, isi_il, isi_is, isi_in, isi_bb, isi_bi, isi_ss, isi_st, isi_si, isi_ll, isi_lt, len_t, len_l, tup_l, tup_t, list_l, list_t, sub_ii, add_ii, idx_t, idx_l, walk_t, walk_l, iteF_t, iteF_f, andK_t, andK_f, orK_t, orK_f, ifeK_t, ifeK_f, chK_t, chK_f, setO_some, getS_0, getS_s, ofOut_rt, ofOut_nx, ofOut_exc, List.set, List.map_cons, List.map_nil, List.cons_append, List.nil_append, List.replicate, decide_true, decide_false, Nat.reduceSub, Nat.reduceAdd, List.length_cons, List.length_nil, Bool.not_true, Bool.not_false, Bool.and_true, Bool.and_false, Bool.true_and, Bool.false_and, List.isEmpty_cons, List.isEmpty_nil, reduceIte, Bool.false_eq_true, if_false, if_true, true_and, and_true]
/-! ## the part to which any thing leads -/
def atD : List D → Tm → Option Tm
  | [], t => some t
  | .int k :: w, t => if 0 ≤ k then (t.parts[k.toNat]?).bind (atD w) else none
  | _ :: _, _ => none
theorem atD_nat : ∀ (w : List Nat) (t : Tm), atD (w.map fun (n : Nat) => PyData.int n) t = atT w t
  | [], t => rfl
  | k :: w, t => by
    simp only [List.map_cons, atD, atT]
    rw [if_pos (by omega), Int.toNat_natCast]
    cases t.parts[k]? with
    | none => rfl
    | some u => exact atD_nat w u
theorem atD_app : ∀ (w : List Nat) (xs : List D) (t : Tm), atD (w.map (fun (n : Nat) => PyData.int n) ++ xs) t = (atT w t).bind (atD xs)
  | [], xs, t => rfl
  | k :: w, xs, t => by
    simp only [List.map_cons, List.cons_append, atD, atT]
    rw [if_pos (by omega), Int.toNat_natCast]
    cases t.parts[k]? with
    | none => rfl
    | some u => exact atD_app w xs u
def optD : Option Tm → D
  | none => .none
  | some u => u.d
/-- no dict: isinstance has an answer -/
def plainD : D → Bool
  | .dict _ => false
  | _ => true
def withinB (lo hi : Int) : D → Bool
  | .int i => decide (lo ≤ i) && decide (i ≤ hi)
  | _ => false
theorem is_within_any {iw : Nat} (hiw : ds[iw]? = some is_within) (n : Nat) (x : D) (hx : plainD x = true) (lo hi : Int) : callF ds (n + 1) iw [x, .int lo, .int hi] = ok (.bool (withinB lo hi x)) := by
  cases x with
  | int i => exact is_within_ok hiw n i lo hi
  | dict _ => cases hx
  | none => rw [run_at hiw n _ rfl]; simp [x_raise, x_raiseX, x_try, h_none, h_some, h_nil, e_slf, e_slt, e_slb, e_exf, x_nil, x_cons, x_doc, x_pass, x_brk, x_cont, x_set, x_unpack, x_par, x_app, x_ext, x_aug, x_expr, x_ite, x_ret, e_nil, e_var, e_cst, e_glob, e_tup, e_lst, e_call, e_bin, e_neg, e_not, e_cmp, e_chain, e_and, e_or, e_ife, e_f1, e_isi, e_idx, es_nil, es_cons, withinB]
  | bool b => rw [run_at hiw n _ rfl]; simp [x_raise, x_raiseX, x_try, h_none, h_some, h_nil, e_slf, e_slt, e_slb, e_exf, x_nil, x_cons, x_doc, x_pass, x_brk, x_cont, x_set, x_unpack, x_par, x_app, x_ext, x_aug, x_expr, x_ite, x_ret, e_nil, e_var, e_cst, e_glob, e_tup, e_lst, e_call, e_bin, e_neg, e_not, e_cmp, e_chain, e_and, e_or, e_ife, e_f1, e_isi, e_idx, es_nil, es_cons, withinB]
  | str s => rw [run_at hiw n _ rfl]; simp [x_raise, x_raiseX, x_try, h_none, h_some, h_nil, e_slf, e_slt, e_slb, e_exf, x_nil, x_cons, x_doc, x_pass, x_brk, x_cont, x_set, x_unpack, x_par, x_app, x_ext, x_aug, x_expr, x_ite, x_ret, e_nil, e_var, e_cst, e_glob, e_tup, e_lst, e_call, e_bin, e_neg, e_not, e_cmp, e_chain, e_and, e_or, e_ife, e_f1, e_isi, e_idx, es_nil, es_cons, withinB]
  | list s => rw [run_at hiw n _ rfl]; simp [x_raise, x_raiseX, x_try, h_none, h_some, h_nil, e_slf, e_slt, e_slb, e_exf, x_nil, x_cons, x_doc, x_pass, x_brk, x_cont, x_set, x_unpack, x_par, x_app, x_ext, x_aug, x_expr, x_ite, x_ret, e_nil, e_var, e_cst, e_glob, e_tup, e_lst, e_call, e_bin, e_neg, e_not, e_cmp, e_chain, e_and, e_or, e_ife, e_f1, e_isi, e_idx, es_nil, es_cons, withinB]
  | tuple s => rw [run_at hiw n _ rfl]; simp [x_raise, x_raiseX, x_try, h_none, h_some, h_nil, e_slf, e_slt, e_slb, e_exf, x_nil, x_cons, x_doc, x_pass, x_brk, x_cont, x_set, x_unpack, x_par, x_app, x_ext, x_aug, x_expr, x_ite, x_ret, e_nil, e_var, e_cst, e_glob, e_tup, e_lst, e_call, e_bin, e_neg, e_not, e_cmp, e_chain, e_and, e_or, e_ife, e_f1, e_isi, e_idx, es_nil, es_cons, withinB]
variable {iw pa ck pt rs bw : Nat}
theorem part_loop (hiw : ds[iw]? = some is_within) (hpr : ds[pr]? = some _law_parts) (n : Nat) (td wd : D) : ∀ (xs : List D) (t : Tm) (x3 x4 : Option D), (∀ x ∈ xs, plainD x = true) → t.sz ≤ 1000 →
    (atD xs t = none → forL (stepF (.one 3) fun ρ => exS (callF ds (n + 1)) (part_at_L0 iw pr) ρ) xs [some td, some wd, some t.d, x3, x4] = .rt .none) ∧
    (∀ u, atD xs t = some u → ∃ y3 y4, forL (stepF (.one 3) fun ρ => exS (callF ds (n + 1)) (part_at_L0 iw pr) ρ) xs [some td, some wd, some t.d, x3, x4] = .nx [some td, some wd, some u.d, y3, y4])
  | [], t, x3, x4, _, _ => ⟨fun h => (by cases h), fun u h => by cases h; exact ⟨x3, x4, rfl⟩⟩
  | x :: xs, t, x3, x4, hx, hs => by
    have hp := law_parts_ok hpr t hs n
    have hw := is_within_any hiw n x (hx x List.mem_cons_self) 0 ((t.parts.length : Int) - 1)
    by_cases hi : ∃ k : Nat, x = .int k ∧ k < t.parts.length
    · obtain ⟨k, rfl, hk⟩ := hi
      have hg : t.parts.getD k .next = t.parts[k] := by rw [List.getD_eq_getElem?_getD, List.getElem?_eq_getElem hk]; rfl
      have hm : t.parts[k] ∈ t.parts := List.getElem_mem hk
      have s1 := szs_of hm
      have s2 := parts_sz t
      have e1 : withinB 0 ((t.parts.length : Int) - 1) (.int (k : Int)) = true := by simp [withinB]; omega
      rw [e1] at hw
      have step : (stepF (.one 3) fun ρ => exS (callF ds (n + 1)) (part_at_L0 iw pr) ρ) (.int (k : Int)) [some td, some wd, some t.d, x3, x4] = .nx [some td, some wd, some t.parts[k].d, some (.int (k : Int)), some (.list (Tm.ds t.parts))] := by
        simp only [part_at_L0, stepF, setTg, x_raise, x_raiseX, x_try, h_none, h_some, h_nil, e_slf, e_slt, e_slb, e_exf, x_nil, x_cons, x_doc, x_pass, x_brk, x_cont, x_set, x_unpack, x_par, x_app, x_ext, x_aug, x_expr, x_ite, x_ret, e_nil, e_var, e_cst, e_glob, e_tup, e_lst, e_call, e_bin, e_neg, e_not, e_cmp, e_chain, e_and, e_or, e_ife, e_f1, e_isi, e_idx, es_nil, es_cons, tryK_exc, tryK_rt, tryK_nx, clK_t, clK_f, leaveS_rt, leaveS_nx, Out.calm_rt, Out.calm_nx, part_i, isi_x, isi_v, cut1, cutR_l, cutR_t, List.drop, out_rt_seq, ofOut_out_rt, R.bind_ok, R.bind_exc, R.bind_stuck, R.calm_ok, R.calm_exc, R.calm_stuck, R.map_ok, R.map_exc, R.map_stuck, R.out_ok, R.out_exc, R.out_stuck, Out.seq_nx, Out.seq_rt, Out.seq_bk, Out.seq_ct, Out.seq_exc, Out.seq_stuck, eqv_ii, eqv_ss, eqv_tt, eqv_ll, eqv_bb, eqv_it, eqv_ti, eqv_is, eqv_si, eqv_ts, eqv_st, eqv_tn, eqv_nt, eqv_tl, eqv_lt, eqvAll_nn, eqvAll_cc, eqvAll_nc, eqvAll_cn, eqR_ii, eqR_ss, eqR_bb, nth0, nth1, nth2, nth3, truthy_b, truthy_t, truthy_l, truthy_n, truthy_i, cmp_eq, cmp_ne, cmp_lt, cmp_le, cmp_gt, cmp_ge, cmp_is_nn, cmp_is_tn, cmp_is_ln, cmp_is_in, cmp_is_sn, cmp_isnot_nn, cmp_isnot_tn, cmp_isnot_ln, cmp_isnot_in, cmp_isnot_sn, isi_tt, isi_tl, isi_ti, isi_tb, isi_ts, isi_tn, isi_ii, isi_ib, isi_it, isi_il, isi_is, isi_in, isi_bb, isi_bi, isi_ss, isi_st, isi_si, isi_ll, isi_lt, len_t, len_l, tup_l, tup_t, list_l, list_t, sub_ii, add_ii, idx_t, idx_l, walk_t, walk_l, iteF_t, iteF_f, andK_t, andK_f, orK_t, orK_f, ifeK_t, ifeK_f, chK_t, chK_f, setO_some, getS_0, getS_s, ofOut_rt, ofOut_nx, ofOut_exc, List.set, List.map_cons, List.map_nil, List.cons_append, List.nil_append, List.replicate, decide_true, decide_false, Nat.reduceSub, Nat.reduceAdd, List.length_cons, List.length_nil, Bool.not_true, Bool.not_false, Bool.and_true, Bool.and_false, Bool.true_and, Bool.false_and, List.isEmpty_cons, List.isEmpty_nil, reduceIte, Bool.false_eq_true, if_false, if_true, true_and, and_true, hp, Tm.ds_len, hw, ds_at hk, hg]
      have ea : atD (.int (k : Int) :: xs) t = atD xs t.parts[k] := by
        simp only [atD]
        rw [if_pos (by omega), Int.toNat_natCast, List.getElem?_eq_getElem hk]
        rfl
      obtain ⟨i1, i2⟩ := part_loop hiw hpr n td wd xs t.parts[k] (some (.int (k : Int))) (some (.list (Tm.ds t.parts))) (fun y hy => hx y (List.mem_cons_of_mem _ hy)) (by omega)
      rw [ea]
      simp only [forL, step]
      exact ⟨i1, i2⟩
    · have e1 : withinB 0 ((t.parts.length : Int) - 1) x = false := by
        cases x <;> simp only [withinB]
        rename_i j
        rw [Bool.and_eq_false_iff]
        by_cases h0 : 0 ≤ j
        · right
          refine decide_eq_false fun z => hi ⟨j.toNat, by rw [Int.toNat_of_nonneg h0], by omega⟩
        · left; exact decide_eq_false h0
      rw [e1] at hw
      have step : (stepF (.one 3) fun ρ => exS (callF ds (n + 1)) (part_at_L0 iw pr) ρ) x [some td, some wd, some t.d, x3, x4] = .rt .none := by
        simp only [part_at_L0, stepF, setTg, x_raise, x_raiseX, x_try, h_none, h_some, h_nil, e_slf, e_slt, e_slb, e_exf, x_nil, x_cons, x_doc, x_pass, x_brk, x_cont, x_set, x_unpack, x_par, x_app, x_ext, x_aug, x_expr, x_ite, x_ret, e_nil, e_var, e_cst, e_glob, e_tup, e_lst, e_call, e_bin, e_neg, e_not, e_cmp, e_chain, e_and, e_or, e_ife, e_f1, e_isi, e_idx, es_nil, es_cons, tryK_exc, tryK_rt, tryK_nx, clK_t, clK_f, leaveS_rt, leaveS_nx, Out.calm_rt, Out.calm_nx, part_i, isi_x, isi_v, cut1, cutR_l, cutR_t, List.drop, out_rt_seq, ofOut_out_rt, R.bind_ok, R.bind_exc, R.bind_stuck, R.calm_ok, R.calm_exc, R.calm_stuck, R.map_ok, R.map_exc, R.map_stuck, R.out_ok, R.out_exc, R.out_stuck, Out.seq_nx, Out.seq_rt, Out.seq_bk, Out.seq_ct, Out.seq_exc, Out.seq_stuck, eqv_ii, eqv_ss, eqv_tt, eqv_ll, eqv_bb, eqv_it, eqv_ti, eqv_is, eqv_si, eqv_ts, eqv_st, eqv_tn, eqv_nt, eqv_tl, eqv_lt, eqvAll_nn, eqvAll_cc, eqvAll_nc, eqvAll_cn, eqR_ii, eqR_ss, eqR_bb, nth0, nth1, nth2, nth3, truthy_b, truthy_t, truthy_l, truthy_n, truthy_i, cmp_eq, cmp_ne, cmp_lt, cmp_le, cmp_gt, cmp_ge, cmp_is_nn, cmp_is_tn, cmp_is_ln, cmp_is_in, cmp_is_sn, cmp_isnot_nn, cmp_isnot_tn, cmp_isnot_ln, cmp_isnot_in, cmp_isnot_sn, isi_tt, isi_tl, isi_ti, isi_tb, isi_ts, isi_tn, isi_ii, isi_ib, isi_it, isi_il, isi_is, isi_in, isi_bb, isi_bi, isi_ss, isi_st, isi_si, isi_ll, isi_lt, len_t, len_l, tup_l, tup_t, list_l, list_t, sub_ii, add_ii, idx_t, idx_l, walk_t, walk_l, iteF_t, iteF_f, andK_t, andK_f, orK_t, orK_f, ifeK_t, ifeK_f, chK_t, chK_f, setO_some, getS_0, getS_s, ofOut_rt, ofOut_nx, ofOut_exc, List.set, List.map_cons, List.map_nil, List.cons_append, List.nil_append, List.replicate, decide_true, decide_false, Nat.reduceSub, Nat.reduceAdd, List.length_cons, List.length_nil, Bool.not_true, Bool.not_false, Bool.and_true, Bool.and_false, Bool.true_and, Bool.false_and, List.isEmpty_cons, List.isEmpty_nil, reduceIte, Bool.false_eq_true, if_false, if_true, true_and, and_true, hp, Tm.ds_len, hw]
      have ea : atD (x :: xs) t = none := by
        cases x <;> simp only [atD]
        rename_i j
        by_cases h0 : 0 ≤ j
        · rw [if_pos h0, List.getElem?_eq_none (by
            rcases Nat.lt_or_ge j.toNat t.parts.length with l | l
            · exact absurd ⟨j.toNat, by rw [Int.toNat_of_nonneg h0], l⟩ hi
            · exact l)]
          rfl
        · rw [if_neg h0]
      rw [ea]
      refine ⟨fun _ => by simp only [forL, step], fun u h => by cases h⟩
theorem part_at_ok (hiw : ds[iw]? = some is_within) (hpr : ds[pr]? = some _law_parts) (hpa : ds[pa]? = some (part_at iw pr)) (n : Nat) (t : Tm) (xs : List D) (hx : ∀ x ∈ xs, plainD x = true) (hs : t.sz ≤ 1000) : callF ds (n + 2) pa [t.d, .tuple xs] = ok (optD (atD xs t)) := by
  rw [run_at hpa _ _ rfl]
  obtain ⟨i1, i2⟩ := part_loop hiw hpr n t.d (.tuple xs) xs t none none hx hs
  cases e : atD xs t with
  | none =>
    have := i1 e
    simp only [x_raise, x_raiseX, x_try, h_none, h_some, h_nil, e_slf, e_slt, e_slb, e_exf, x_nil, x_cons, x_doc, x_pass, x_brk, x_cont, x_set, x_unpack, x_par, x_app, x_ext, x_aug, x_expr, x_ite, x_ret, e_nil, e_var, e_cst, e_glob, e_tup, e_lst, e_call, e_bin, e_neg, e_not, e_cmp, e_chain, e_and, e_or, e_ife, e_f1, e_isi, e_idx, es_nil, es_cons, tryK_exc, tryK_rt, tryK_nx, clK_t, clK_f, leaveS_rt, leaveS_nx, Out.calm_rt, Out.calm_nx, part_i, isi_x, isi_v, cut1, cutR_l, cutR_t, List.drop, out_rt_seq, ofOut_out_rt, R.bind_ok, R.bind_exc, R.bind_stuck, R.calm_ok, R.calm_exc, R.calm_stuck, R.map_ok, R.map_exc, R.map_stuck, R.out_ok, R.out_exc, R.out_stuck, Out.seq_nx, Out.seq_rt, Out.seq_bk, Out.seq_ct, Out.seq_exc, Out.seq_stuck, eqv_ii, eqv_ss, eqv_tt, eqv_ll, eqv_bb, eqv_it, eqv_ti, eqv_is, eqv_si, eqv_ts, eqv_st, eqv_tn, eqv_nt, eqv_tl, eqv_lt, eqvAll_nn, eqvAll_cc, eqvAll_nc, eqvAll_cn, eqR_ii, eqR_ss, eqR_bb, nth0, nth1, nth2, nth3, truthy_b, truthy_t, truthy_l, truthy_n, truthy_i, cmp_eq, cmp_ne, cmp_lt, cmp_le, cmp_gt, cmp_ge, cmp_is_nn, cmp_is_tn, cmp_is_ln, cmp_is_in, cmp_is_sn, cmp_isnot_nn, cmp_isnot_tn, cmp_isnot_ln, cmp_isnot_in, cmp_isnot_sn, isi_tt, isi_tl, isi_ti, isi_tb, isi_ts, isi_tn, isi_ii, isi_ib, isi_it, isi_il, isi_is, isi_in, isi_bb, isi_bi, isi_ss, isi_st, isi_si, isi_ll, isi_lt, len_t, len_l, tup_l, tup_t, list_l, list_t, sub_ii, add_ii, idx_t, idx_l, walk_t, walk_l, iteF_t, iteF_f, andK_t, andK_f, orK_t, orK_f, ifeK_t, ifeK_f, chK_t, chK_f, setO_some, getS_0, getS_s, ofOut_rt, ofOut_nx, ofOut_exc, List.set, List.map_cons, List.map_nil, List.cons_append, List.nil_append, List.replicate, decide_true, decide_false, Nat.reduceSub, Nat.reduceAdd, List.length_cons, List.length_nil, Bool.not_true, Bool.not_false, Bool.and_true, Bool.and_false, Bool.true_and, Bool.false_and, List.isEmpty_cons, List.isEmpty_nil, reduceIte, Bool.false_eq_true, if_false, if_true, true_and, and_true, x_for, this, optD]
  | some u =>
    obtain ⟨y3, y4, h⟩ := i2 u e
    simp only [x_raise, x_raiseX, x_try, h_none, h_some, h_nil, e_slf, e_slt, e_slb, e_exf, x_nil, x_cons, x_doc, x_pass, x_brk, x_cont, x_set, x_unpack, x_par, x_app, x_ext, x_aug, x_expr, x_ite, x_ret, e_nil, e_var, e_cst, e_glob, e_tup, e_lst, e_call, e_bin, e_neg, e_not, e_cmp, e_chain, e_and, e_or, e_ife, e_f1, e_isi, e_idx, es_nil, es_cons, tryK_exc, tryK_rt, tryK_nx, clK_t, clK_f, leaveS_rt, leaveS_nx, Out.calm_rt, Out.calm_nx, part_i, isi_x, isi_v, cut1, cutR_l, cutR_t, List.drop, out_rt_seq, ofOut_out_rt, R.bind_ok, R.bind_exc, R.bind_stuck, R.calm_ok, R.calm_exc, R.calm_stuck, R.map_ok, R.map_exc, R.map_stuck, R.out_ok, R.out_exc, R.out_stuck, Out.seq_nx, Out.seq_rt, Out.seq_bk, Out.seq_ct, Out.seq_exc, Out.seq_stuck, eqv_ii, eqv_ss, eqv_tt, eqv_ll, eqv_bb, eqv_it, eqv_ti, eqv_is, eqv_si, eqv_ts, eqv_st, eqv_tn, eqv_nt, eqv_tl, eqv_lt, eqvAll_nn, eqvAll_cc, eqvAll_nc, eqvAll_cn, eqR_ii, eqR_ss, eqR_bb, nth0, nth1, nth2, nth3, truthy_b, truthy_t, truthy_l, truthy_n, truthy_i, cmp_eq, cmp_ne, cmp_lt, cmp_le, cmp_gt, cmp_ge, cmp_is_nn, cmp_is_tn, cmp_is_ln, cmp_is_in, cmp_is_sn, cmp_isnot_nn, cmp_isnot_tn, cmp_isnot_ln, cmp_isnot_in, cmp_isnot_sn, isi_tt, isi_tl, isi_ti, isi_tb, isi_ts, isi_tn, isi_ii, isi_ib, isi_it, isi_il, isi_is, isi_in, isi_bb, isi_bi, isi_ss, isi_st, isi_si, isi_ll, isi_lt, len_t, len_l, tup_l, tup_t, list_l, list_t, sub_ii, add_ii, idx_t, idx_l, walk_t, walk_l, iteF_t, iteF_f, andK_t, andK_f, orK_t, orK_f, ifeK_t, ifeK_f, chK_t, chK_f, setO_some, getS_0, getS_s, ofOut_rt, ofOut_nx, ofOut_exc, List.set, List.map_cons, List.map_nil, List.cons_append, List.nil_append, List.replicate, decide_true, decide_false, Nat.reduceSub, Nat.reduceAdd, List.length_cons, List.length_nil, Bool.not_true, Bool.not_false, Bool.and_true, Bool.and_false, Bool.true_and, Bool.false_and, List.isEmpty_cons, List.isEmpty_nil, reduceIte, Bool.false_eq_true, if_false, if_true, true_and, and_true, x_for, h, optD]
theorem part_at_odd (hpa : ds[pa]? = some (part_at iw pr)) (n : Nat) (t : Tm) (x : D) (hx : isiR .tuple x = ok false) : callF ds (n + 1) pa [t.d, x] = ok .none := by
  rw [run_at hpa _ _ rfl]
  simp only [x_raise, x_raiseX, x_try, h_none, h_some, h_nil, e_slf, e_slt, e_slb, e_exf, x_nil, x_cons, x_doc, x_pass, x_brk, x_cont, x_set, x_unpack, x_par, x_app, x_ext, x_aug, x_expr, x_ite, x_ret, e_nil, e_var, e_cst, e_glob, e_tup, e_lst, e_call, e_bin, e_neg, e_not, e_cmp, e_chain, e_and, e_or, e_ife, e_f1, e_isi, e_idx, es_nil, es_cons, tryK_exc, tryK_rt, tryK_nx, clK_t, clK_f, leaveS_rt, leaveS_nx, Out.calm_rt, Out.calm_nx, part_i, isi_x, isi_v, cut1, cutR_l, cutR_t, List.drop, out_rt_seq, ofOut_out_rt, R.bind_ok, R.bind_exc, R.bind_stuck, R.calm_ok, R.calm_exc, R.calm_stuck, R.map_ok, R.map_exc, R.map_stuck, R.out_ok, R.out_exc, R.out_stuck, Out.seq_nx, Out.seq_rt, Out.seq_bk, Out.seq_ct, Out.seq_exc, Out.seq_stuck, eqv_ii, eqv_ss, eqv_tt, eqv_ll, eqv_bb, eqv_it, eqv_ti, eqv_is, eqv_si, eqv_ts, eqv_st, eqv_tn, eqv_nt, eqv_tl, eqv_lt, eqvAll_nn, eqvAll_cc, eqvAll_nc, eqvAll_cn, eqR_ii, eqR_ss, eqR_bb, nth0, nth1, nth2, nth3, truthy_b, truthy_t, truthy_l, truthy_n, truthy_i, cmp_eq, cmp_ne, cmp_lt, cmp_le, cmp_gt, cmp_ge, cmp_is_nn, cmp_is_tn, cmp_is_ln, cmp_is_in, cmp_is_sn, cmp_isnot_nn, cmp_isnot_tn, cmp_isnot_ln, cmp_isnot_in, cmp_isnot_sn, isi_tt, isi_tl, isi_ti, isi_tb, isi_ts, isi_tn, isi_ii, isi_ib, isi_it, isi_il, isi_is, isi_in, isi_bb, isi_bi, isi_ss, isi_st, isi_si, isi_ll, isi_lt, len_t, len_l, tup_l, tup_t, list_l, list_t, sub_ii, add_ii, idx_t, idx_l, walk_t, walk_l, iteF_t, iteF_f, andK_t, andK_f, orK_t, orK_f, ifeK_t, ifeK_f, chK_t, chK_f, setO_some, getS_0, getS_s, ofOut_rt, ofOut_nx, ofOut_exc, List.set, List.map_cons, List.map_nil, List.cons_append, List.nil_append, List.replicate, decide_true, decide_false, Nat.reduceSub, Nat.reduceAdd, List.length_cons, List.length_nil, Bool.not_true, Bool.not_false, Bool.and_true, Bool.and_false, Bool.true_and, Bool.false_and, List.isEmpty_cons, List.isEmpty_nil, reduceIte, Bool.false_eq_true, if_false, if_true, true_and, and_true, hx]
variable {po pp pq te : Nat} {rsC : S}
theorem part_call_ok (hiw : ds[iw]? = some is_within) (hpo : ds[po]? = some (places_of iw pp pq)) (hpp : ds[pp]? = some (places_put po)) (hpq : ds[pq]? = some (places_round po)) (hte : ds[te]? = some (is_term po)) (hck : ds[ck]? = some (checked te rsC))
    (hpr : ds[pr]? = some _law_parts) (hpa : ds[pa]? = some (part_at iw pr)) (hpt : ds[pt]? = some (part ck pa bw)) (n : Nat) (t : Tm) (hw : t.wf) (hs : t.sz ≤ 60) (hn : 2 * t.dp + 5 ≤ n) (x : D) (o : Option Tm) (hx : callF ds (n - 1) pa [t.d, x] = ok (optD o)) :
    callF ds n pt [t.d, x] = (match o with | some u => ok u.d | none => exc bw (.dict [(.str w_way, x)])) := by
  obtain ⟨n, rfl⟩ : ∃ m, n = m + 1 := ⟨n - 1, by omega⟩
  have hc := checked_ok hiw hpo hpp hpq hte hck t hw hs n (by omega)
  rw [run_at hpt _ _ rfl]
  have hx : callF ds n pa [t.d, x] = ok (optD o) := hx
  cases o with
  | none => simp only [x_raise, x_raiseX, x_try, h_none, h_some, h_nil, e_slf, e_slt, e_slb, e_exf, x_nil, x_cons, x_doc, x_pass, x_brk, x_cont, x_set, x_unpack, x_par, x_app, x_ext, x_aug, x_expr, x_ite, x_ret, e_nil, e_var, e_cst, e_glob, e_tup, e_lst, e_call, e_bin, e_neg, e_not, e_cmp, e_chain, e_and, e_or, e_ife, e_f1, e_isi, e_idx, es_nil, es_cons, tryK_exc, tryK_rt, tryK_nx, clK_t, clK_f, leaveS_rt, leaveS_nx, Out.calm_rt, Out.calm_nx, part_i, isi_x, isi_v, cut1, cutR_l, cutR_t, List.drop, out_rt_seq, ofOut_out_rt, R.bind_ok, R.bind_exc, R.bind_stuck, R.calm_ok, R.calm_exc, R.calm_stuck, R.map_ok, R.map_exc, R.map_stuck, R.out_ok, R.out_exc, R.out_stuck, Out.seq_nx, Out.seq_rt, Out.seq_bk, Out.seq_ct, Out.seq_exc, Out.seq_stuck, eqv_ii, eqv_ss, eqv_tt, eqv_ll, eqv_bb, eqv_it, eqv_ti, eqv_is, eqv_si, eqv_ts, eqv_st, eqv_tn, eqv_nt, eqv_tl, eqv_lt, eqvAll_nn, eqvAll_cc, eqvAll_nc, eqvAll_cn, eqR_ii, eqR_ss, eqR_bb, nth0, nth1, nth2, nth3, truthy_b, truthy_t, truthy_l, truthy_n, truthy_i, cmp_eq, cmp_ne, cmp_lt, cmp_le, cmp_gt, cmp_ge, cmp_is_nn, cmp_is_tn, cmp_is_ln, cmp_is_in, cmp_is_sn, cmp_isnot_nn, cmp_isnot_tn, cmp_isnot_ln, cmp_isnot_in, cmp_isnot_sn, isi_tt, isi_tl, isi_ti, isi_tb, isi_ts, isi_tn, isi_ii, isi_ib, isi_it, isi_il, isi_is, isi_in, isi_bb, isi_bi, isi_ss, isi_st, isi_si, isi_ll, isi_lt, len_t, len_l, tup_l, tup_t, list_l, list_t, sub_ii, add_ii, idx_t, idx_l, walk_t, walk_l, iteF_t, iteF_f, andK_t, andK_f, orK_t, orK_f, ifeK_t, ifeK_f, chK_t, chK_f, setO_some, getS_0, getS_s, ofOut_rt, ofOut_nx, ofOut_exc, List.set, List.map_cons, List.map_nil, List.cons_append, List.nil_append, List.replicate, decide_true, decide_false, Nat.reduceSub, Nat.reduceAdd, List.length_cons, List.length_nil, Bool.not_true, Bool.not_false, Bool.and_true, Bool.and_false, Bool.true_and, Bool.false_and, List.isEmpty_cons, List.isEmpty_nil, reduceIte, Bool.false_eq_true, if_false, if_true, true_and, and_true, hc, hx, optD]
  | some u =>
    obtain ⟨w, r, e⟩ := u.tup
    have e2 : cmpR .is u.d .none = ok false := by rw [e]; rfl
    simp only [x_raise, x_raiseX, x_try, h_none, h_some, h_nil, e_slf, e_slt, e_slb, e_exf, x_nil, x_cons, x_doc, x_pass, x_brk, x_cont, x_set, x_unpack, x_par, x_app, x_ext, x_aug, x_expr, x_ite, x_ret, e_nil, e_var, e_cst, e_glob, e_tup, e_lst, e_call, e_bin, e_neg, e_not, e_cmp, e_chain, e_and, e_or, e_ife, e_f1, e_isi, e_idx, es_nil, es_cons, tryK_exc, tryK_rt, tryK_nx, clK_t, clK_f, leaveS_rt, leaveS_nx, Out.calm_rt, Out.calm_nx, part_i, isi_x, isi_v, cut1, cutR_l, cutR_t, List.drop, out_rt_seq, ofOut_out_rt, R.bind_ok, R.bind_exc, R.bind_stuck, R.calm_ok, R.calm_exc, R.calm_stuck, R.map_ok, R.map_exc, R.map_stuck, R.out_ok, R.out_exc, R.out_stuck, Out.seq_nx, Out.seq_rt, Out.seq_bk, Out.seq_ct, Out.seq_exc, Out.seq_stuck, eqv_ii, eqv_ss, eqv_tt, eqv_ll, eqv_bb, eqv_it, eqv_ti, eqv_is, eqv_si, eqv_ts, eqv_st, eqv_tn, eqv_nt, eqv_tl, eqv_lt, eqvAll_nn, eqvAll_cc, eqvAll_nc, eqvAll_cn, eqR_ii, eqR_ss, eqR_bb, nth0, nth1, nth2, nth3, truthy_b, truthy_t, truthy_l, truthy_n, truthy_i, cmp_eq, cmp_ne, cmp_lt, cmp_le, cmp_gt, cmp_ge, cmp_is_nn, cmp_is_tn, cmp_is_ln, cmp_is_in, cmp_is_sn, cmp_isnot_nn, cmp_isnot_tn, cmp_isnot_ln, cmp_isnot_in, cmp_isnot_sn, isi_tt, isi_tl, isi_ti, isi_tb, isi_ts, isi_tn, isi_ii, isi_ib, isi_it, isi_il, isi_is, isi_in, isi_bb, isi_bi, isi_ss, isi_st, isi_si, isi_ll, isi_lt, len_t, len_l, tup_l, tup_t, list_l, list_t, sub_ii, add_ii, idx_t, idx_l, walk_t, walk_l, iteF_t, iteF_f, andK_t, andK_f, orK_t, orK_f, ifeK_t, ifeK_f, chK_t, chK_f, setO_some, getS_0, getS_s, ofOut_rt, ofOut_nx, ofOut_exc, List.set, List.map_cons, List.map_nil, List.cons_append, List.nil_append, List.replicate, decide_true, decide_false, Nat.reduceSub, Nat.reduceAdd, List.length_cons, List.length_nil, Bool.not_true, Bool.not_false, Bool.and_true, Bool.and_false, Bool.true_and, Bool.false_and, List.isEmpty_cons, List.isEmpty_nil, reduceIte, Bool.false_eq_true, if_false, if_true, true_and, and_true, hc, hx, optD, e2]
variable {lat : Nat}
theorem law_at_ok (hpr : ds[pr]? = some _law_parts) (hlat : ds[lat]? = some (_law_at pr)) (n : Nat) (t u : Tm) (w : List Nat) (hs : t.sz ≤ 1000) (h : atT w t = some u) : callF ds (n + 2) lat [t.d, wayD w] = ok u.d := by
  have loop : ∀ (w : List Nat) (t u : Tm) (wd : D) (x2 : Option D), t.sz ≤ 1000 → atT w t = some u → ∃ y2, forL (stepF (.one 2) fun ρ => exS (callF ds (n + 1)) (_law_at_L0 pr) ρ) (w.map fun (k : Nat) => PyData.int k) [some t.d, some wd, x2] = .nx [some u.d, some wd, y2] := by
    intro w
    induction w with
    | nil => intro t u wd x2 _ h; cases h; exact ⟨x2, rfl⟩
    | cons k w ih =>
      intro t u wd x2 hs h
      simp only [atT] at h
      cases e : t.parts[k]? with
      | none => rw [e] at h; cases h
      | some p =>
        rw [e] at h
        obtain ⟨hk, e'⟩ := List.getElem?_eq_some_iff.mp e
        have hg : t.parts.getD k .next = p := by rw [List.getD_eq_getElem?_getD, e]; rfl
        have hm := List.mem_of_getElem? e
        have s1 := szs_of hm
        have s2 := parts_sz t
        have hp := law_parts_ok hpr t hs n
        obtain ⟨y2, h2⟩ := ih p u wd (some (.int (k : Int))) (by omega) h
        refine ⟨y2, ?_⟩
        have step : (stepF (.one 2) fun ρ => exS (callF ds (n + 1)) (_law_at_L0 pr) ρ) (.int (k : Int)) [some t.d, some wd, x2] = .nx [some p.d, some wd, some (.int (k : Int))] := by
          simp only [_law_at_L0, stepF, setTg, x_raise, x_raiseX, x_try, h_none, h_some, h_nil, e_slf, e_slt, e_slb, e_exf, x_nil, x_cons, x_doc, x_pass, x_brk, x_cont, x_set, x_unpack, x_par, x_app, x_ext, x_aug, x_expr, x_ite, x_ret, e_nil, e_var, e_cst, e_glob, e_tup, e_lst, e_call, e_bin, e_neg, e_not, e_cmp, e_chain, e_and, e_or, e_ife, e_f1, e_isi, e_idx, es_nil, es_cons, tryK_exc, tryK_rt, tryK_nx, clK_t, clK_f, leaveS_rt, leaveS_nx, Out.calm_rt, Out.calm_nx, part_i, isi_x, isi_v, cut1, cutR_l, cutR_t, List.drop, out_rt_seq, ofOut_out_rt, R.bind_ok, R.bind_exc, R.bind_stuck, R.calm_ok, R.calm_exc, R.calm_stuck, R.map_ok, R.map_exc, R.map_stuck, R.out_ok, R.out_exc, R.out_stuck, Out.seq_nx, Out.seq_rt, Out.seq_bk, Out.seq_ct, Out.seq_exc, Out.seq_stuck, eqv_ii, eqv_ss, eqv_tt, eqv_ll, eqv_bb, eqv_it, eqv_ti, eqv_is, eqv_si, eqv_ts, eqv_st, eqv_tn, eqv_nt, eqv_tl, eqv_lt, eqvAll_nn, eqvAll_cc, eqvAll_nc, eqvAll_cn, eqR_ii, eqR_ss, eqR_bb, nth0, nth1, nth2, nth3, truthy_b, truthy_t, truthy_l, truthy_n, truthy_i, cmp_eq, cmp_ne, cmp_lt, cmp_le, cmp_gt, cmp_ge, cmp_is_nn, cmp_is_tn, cmp_is_ln, cmp_is_in, cmp_is_sn, cmp_isnot_nn, cmp_isnot_tn, cmp_isnot_ln, cmp_isnot_in, cmp_isnot_sn, isi_tt, isi_tl, isi_ti, isi_tb, isi_ts, isi_tn, isi_ii, isi_ib, isi_it, isi_il, isi_is, isi_in, isi_bb, isi_bi, isi_ss, isi_st, isi_si, isi_ll, isi_lt, len_t, len_l, tup_l, tup_t, list_l, list_t, sub_ii, add_ii, idx_t, idx_l, walk_t, walk_l, iteF_t, iteF_f, andK_t, andK_f, orK_t, orK_f, ifeK_t, ifeK_f, chK_t, chK_f, setO_some, getS_0, getS_s, ofOut_rt, ofOut_nx, ofOut_exc, List.set, List.map_cons, List.map_nil, List.cons_append, List.nil_append, List.replicate, decide_true, decide_false, Nat.reduceSub, Nat.reduceAdd, List.length_cons, List.length_nil, Bool.not_true, Bool.not_false, Bool.and_true, Bool.and_false, Bool.true_and, Bool.false_and, List.isEmpty_cons, List.isEmpty_nil, reduceIte, Bool.false_eq_true, if_false, if_true, true_and, and_true, hp, ds_at hk, hg]
        simp only [List.map_cons, forL, step]
        exact h2
  obtain ⟨y2, e⟩ := loop w t u (wayD w) none hs h
  have e' : forL (stepF (.one 2) fun ρ => exS (callF ds (n + 1)) (_law_at_L0 pr) ρ) (w.map fun (k : Nat) => PyData.int k) [some t.d, some (wayD w), none] = _ := e
  rw [run_at hlat _ _ rfl]
  have hw : walkR (wayD w) = ok (w.map fun (k : Nat) => PyData.int k) := rfl
  simp only [x_raise, x_raiseX, x_try, h_none, h_some, h_nil, e_slf, e_slt, e_slb, e_exf, x_nil, x_cons, x_doc, x_pass, x_brk, x_cont, x_set, x_unpack, x_par, x_app, x_ext, x_aug, x_expr, x_ite, x_ret, e_nil, e_var, e_cst, e_glob, e_tup, e_lst, e_call, e_bin, e_neg, e_not, e_cmp, e_chain, e_and, e_or, e_ife, e_f1, e_isi, e_idx, es_nil, es_cons, tryK_exc, tryK_rt, tryK_nx, clK_t, clK_f, leaveS_rt, leaveS_nx, Out.calm_rt, Out.calm_nx, part_i, isi_x, isi_v, cut1, cutR_l, cutR_t, List.drop, out_rt_seq, ofOut_out_rt, R.bind_ok, R.bind_exc, R.bind_stuck, R.calm_ok, R.calm_exc, R.calm_stuck, R.map_ok, R.map_exc, R.map_stuck, R.out_ok, R.out_exc, R.out_stuck, Out.seq_nx, Out.seq_rt, Out.seq_bk, Out.seq_ct, Out.seq_exc, Out.seq_stuck, eqv_ii, eqv_ss, eqv_tt, eqv_ll, eqv_bb, eqv_it, eqv_ti, eqv_is, eqv_si, eqv_ts, eqv_st, eqv_tn, eqv_nt, eqv_tl, eqv_lt, eqvAll_nn, eqvAll_cc, eqvAll_nc, eqvAll_cn, eqR_ii, eqR_ss, eqR_bb, nth0, nth1, nth2, nth3, truthy_b, truthy_t, truthy_l, truthy_n, truthy_i, cmp_eq, cmp_ne, cmp_lt, cmp_le, cmp_gt, cmp_ge, cmp_is_nn, cmp_is_tn, cmp_is_ln, cmp_is_in, cmp_is_sn, cmp_isnot_nn, cmp_isnot_tn, cmp_isnot_ln, cmp_isnot_in, cmp_isnot_sn, isi_tt, isi_tl, isi_ti, isi_tb, isi_ts, isi_tn, isi_ii, isi_ib, isi_it, isi_il, isi_is, isi_in, isi_bb, isi_bi, isi_ss, isi_st, isi_si, isi_ll, isi_lt, len_t, len_l, tup_l, tup_t, list_l, list_t, sub_ii, add_ii, idx_t, idx_l, walk_t, walk_l, iteF_t, iteF_f, andK_t, andK_f, orK_t, orK_f, ifeK_t, ifeK_f, chK_t, chK_f, setO_some, getS_0, getS_s, ofOut_rt, ofOut_nx, ofOut_exc, List.set, List.map_cons, List.map_nil, List.cons_append, List.nil_append, List.replicate, decide_true, decide_false, Nat.reduceSub, Nat.reduceAdd, List.length_cons, List.length_nil, Bool.not_true, Bool.not_false, Bool.and_true, Bool.and_false, Bool.true_and, Bool.false_and, List.isEmpty_cons, List.isEmpty_nil, reduceIte, Bool.false_eq_true, if_false, if_true, true_and, and_true, x_for, hw, e']
end
end Pyr

namespace Pyr
open PySem B
open R (ok exc stuck)
/-! # Drawn functions; equality of lists of data -/
theorem eqvAll_self {α : Type} {f : α → D} : ∀ (ts : List α), (∀ t ∈ ts, PyData.eqv (f t) (f t) = true) → PyData.eqvAll (ts.map f) (ts.map f) = true
  | [], _ => by simp
  | t :: ts, h => by simp only [List.map_cons, eqvAll_cc, h t List.mem_cons_self, eqvAll_self ts fun u hu => h u (List.mem_cons_of_mem _ hu), Bool.and_self]
theorem depthAll_le {α : Type} {f : α → D} {k : Nat} : ∀ (ts : List α), (∀ t ∈ ts, (f t).depth ≤ k) → PyData.depthAll (ts.map f) ≤ k
  | [], _ => by simp [PyData.depthAll]
  | t :: ts, h => by
    simp only [List.map_cons, PyData.depthAll]
    exact Nat.max_le.mpr ⟨h t List.mem_cons_self, depthAll_le ts fun u hu => h u (List.mem_cons_of_mem _ hu)⟩
theorem wayD_self (w : List Nat) : PyData.eqv (wayD w) (wayD w) = true := by
  unfold wayD
  rw [eqv_tt]
  exact eqvAll_self w fun k _ => by simp
theorem wayD_depth (w : List Nat) : (wayD w).depth ≤ 2 := by
  have := depthAll_le (f := fun (n : Nat) => PyData.int n) (k := 1) w fun t _ => by simp [PyData.depth]
  unfold wayD
  simp only [PyData.depth]
  omega
theorem waysD_eq (ws : List (List Nat)) : eqR (.list (waysD ws)) (.list (waysD ws)) = ok true := by
  have := depthAll_le (f := wayD) (k := 2) ws fun t _ => wayD_depth t
  rw [eqR_d _ _ (.inl (by simp only [PyData.depth, waysD]; omega)), eqv_ll, waysD, eqvAll_self ws fun t _ => wayD_self t]
theorem at_get {xs : List D} {j : Nat} {d : D} (h : xs[j]? = some d) : L2.atI xs (j : Int) = some d := by
  obtain ⟨hj, e⟩ := List.getElem?_eq_some_iff.mp h
  rw [nthN _ _ hj, e]
theorem idx_get {xs : List D} {j : Nat} {d : D} (h : xs[j]? = some d) : idxR (.list xs) (.int (j : Int)) = ok d := by
  obtain ⟨hj, e⟩ := List.getElem?_eq_some_iff.mp h
  rw [idx_l, nthN _ _ hj, e]
theorem idx_getT {xs : List D} {j : Nat} {d : D} (h : xs[j]? = some d) : idxR (.tuple xs) (.int (j : Int)) = ok d := by
  obtain ⟨hj, e⟩ := List.getElem?_eq_some_iff.mp h
  rw [idx_t, nthN _ _ hj, e]
/-- a number below n, of any cell -/
theorem cell_mod (c : Int) (n : Nat) (hn : 0 < n) : ∃ k : Nat, k < n ∧ binD .mod (.int c) (.int (n : Int)) = ok (.int (k : Int)) := by
  have h0 : (0 : Int) < n := by omega
  have h1 := Int.emod_nonneg c (show (n : Int) ≠ 0 by omega)
  have h2 := Int.emod_lt_of_pos c h0
  refine ⟨(c % (n : Int)).toNat, by omega, ?_⟩
  rw [mod_ii _ _ h0, Int.toNat_of_nonneg h1]
section
variable {ds : List Def} {ce ro le gr dr : Nat} (hce : ds[ce]? = some _law_cell) (hro : ds[ro]? = some (_law_row ce)) (hle : ds[le]? = some _law_leaf) (hgr : ds[gr]? = some (_law_grown le gr)) (hdr : ds[dr]? = some (_law_drawn ro gr))
theorem row_get {ns : List Nat} (k : Nat) (h : k < ns.length) : idxR (natsD ns) (.int (k : Int)) = ok (.int ((ns.getD k 0 : Nat) : Int)) := by
  refine idx_get ?_
  simp [List.getD_eq_getElem?_getD, List.getElem?_eq_getElem h]
include hce hro hle hgr hdr in
theorem drawn_ok (n k : Nat) (ss : List Int) (hn : 6 ≤ n) : ∃ t : Tm, t.wf ∧ t.sz ≤ 60 ∧ t.dp ≤ 3 ∧ callF ds (n + 1) dr [intsD ss, .int k] = ok t.d := by
  obtain ⟨m, rfl⟩ : ∃ m, n = m + 2 := ⟨n - 2, by omega⟩
  obtain ⟨ns, l60, _, hr⟩ := row_ok hce hro m k ss
  have hr : callF ds (m + 2) ro [intsD ss, .int k] = ok (natsD ns) := hr
  generalize hx : ns.getD 0 0 = x
  have h0 := row_get (ns := ns) 0 (by omega)
  rw [hx] at h0
  have h0 : idxR (natsD ns) (.int 0) = ok (.int (x : Int)) := h0
  have hm : ∃ many : Nat, many ≤ 4 ∧ idxR (.list [.int 1, .int 2, .int 1, .int 3, .int 2, .int 0, .int 1, .int 2, .int 4, .int 3]) (.int ((x % 10 : Nat) : Int)) = ok (.int (many : Int)) := by
    have : x % 10 < 10 := Nat.mod_lt _ (by decide)
    generalize x % 10 = j at this
    match j, this with
    | 0, _ => exact ⟨1, by decide, idx_get rfl⟩
    | 1, _ => exact ⟨2, by decide, idx_get rfl⟩
    | 2, _ => exact ⟨1, by decide, idx_get rfl⟩
    | 3, _ => exact ⟨3, by decide, idx_get rfl⟩
    | 4, _ => exact ⟨2, by decide, idx_get rfl⟩
    | 5, _ => exact ⟨0, by decide, idx_get rfl⟩
    | 6, _ => exact ⟨1, by decide, idx_get rfl⟩
    | 7, _ => exact ⟨2, by decide, idx_get rfl⟩
    | 8, _ => exact ⟨4, by decide, idx_get rfl⟩
    | 9, _ => exact ⟨3, by decide, idx_get rfl⟩
    | k + 10, h => omega
  obtain ⟨many, m4, hm⟩ := hm
  have hd : 1 + x / 10 % 3 ≤ 3 := by omega
  obtain ⟨t, e, G, hg⟩ := grown_ok hle hgr (1 + x / 10 % 3) hd (m + 2) ns 1 many (by omega) m4
  have hg : callF ds (m + 2) gr [natsD ns, .int 1, .int (many : Int), .int ((1 + x / 10 % 3 : Nat) : Int)] = ok (.tuple [t.d, .int e]) := hg
  refine ⟨t, G.wf, ?_, by have := G.dp; omega, ?_⟩
  · have h1 := G.sz
    have h2 := G.hi
    have h3 := G.lo
    have : off (1 + x / 10 % 3) + 12 * 3 ≥ 12 * (1 + x / 10 % 3) := by omega
    omega
  · have e1 : (x : Int) % 10 = ((x % 10 : Nat) : Int) := by omega
    have e2 : (1 : Int) + (x : Int) / 10 % 3 = ((1 + x / 10 % 3 : Nat) : Int) := by omega
    rw [run_at hdr _ _ rfl]
    simp only [x_raise, x_raiseX, x_try, h_none, h_some, h_nil, e_slf, e_slt, e_slb, e_exf, x_nil, x_cons, x_doc, x_pass, x_brk, x_cont, x_set, x_unpack, x_par, x_app, x_ext, x_aug, x_expr, x_ite, x_ret, e_nil, e_var, e_cst, e_glob, e_tup, e_lst, e_call, e_bin, e_neg, e_not, e_cmp, e_chain, e_and, e_or, e_ife, e_f1, e_isi, e_idx, es_nil, es_cons, tryK_exc, tryK_rt, tryK_nx, clK_t, clK_f, leaveS_rt, leaveS_nx, Out.calm_rt, Out.calm_nx, part_i, isi_x, isi_v, cut1, cutR_l, cutR_t, List.drop, out_rt_seq, ofOut_out_rt, R.bind_ok, R.bind_exc, R.bind_stuck, R.calm_ok, R.calm_exc, R.calm_stuck, R.map_ok, R.map_exc, R.map_stuck, R.out_ok, R.out_exc, R.out_stuck, Out.seq_nx, Out.seq_rt, Out.seq_bk, Out.seq_ct, Out.seq_exc, Out.seq_stuck, eqv_ii, eqv_ss, eqv_tt, eqv_ll, eqv_bb, eqv_it, eqv_ti, eqv_is, eqv_si, eqv_ts, eqv_st, eqv_tn, eqv_nt, eqv_tl, eqv_lt, eqvAll_nn, eqvAll_cc, eqvAll_nc, eqvAll_cn, eqR_ii, eqR_ss, eqR_bb, nth0, nth1, nth2, nth3, truthy_b, truthy_t, truthy_l, truthy_n, truthy_i, cmp_eq, cmp_ne, cmp_lt, cmp_le, cmp_gt, cmp_ge, cmp_is_nn, cmp_is_tn, cmp_is_ln, cmp_is_in, cmp_is_sn, cmp_isnot_nn, cmp_isnot_tn, cmp_isnot_ln, cmp_isnot_in, cmp_isnot_sn, isi_tt, isi_tl, isi_ti, isi_tb, isi_ts, isi_tn, isi_ii, isi_ib, isi_it, isi_il, isi_is, isi_in, isi_bb, isi_bi, isi_ss, isi_st, isi_si, isi_ll, isi_lt, len_t, len_l, tup_l, tup_t, list_l, list_t, sub_ii, add_ii, idx_t, idx_l, walk_t, walk_l, iteF_t, iteF_f, andK_t, andK_f, orK_t, orK_f, ifeK_t, ifeK_f, chK_t, chK_f, setO_some, getS_0, getS_s, ofOut_rt, ofOut_nx, ofOut_exc, List.set, List.map_cons, List.map_nil, List.cons_append, List.nil_append, List.replicate, decide_true, decide_false, Nat.reduceSub, Nat.reduceAdd, List.length_cons, List.length_nil, Bool.not_true, Bool.not_false, Bool.and_true, Bool.and_false, Bool.true_and, Bool.false_and, List.isEmpty_cons, List.isEmpty_nil, reduceIte, Bool.false_eq_true, if_false, if_true, true_and, and_true, hr, h0, mod_ii _ _ (show (0 : Int) < 10 by decide), mod_ii _ _ (show (0 : Int) < 3 by decide), fdiv_ii _ _ (show (0 : Int) < 10 ∧ (10 : Int) < 1073741824 by decide), e1, e2, hm, hg]
end
end Pyr

namespace Pyr
open PySem B
open R (ok exc stuck)
/-! # Another thing in a part's stead -/
def madeD : Tm → List D → D
  | .put _ _, p :: ps => .tuple [.str w_put, p, .tuple ps]
  | .round _ _, a :: b :: _ => .tuple [.str w_round, a, b]
  | t, _ => t.d
def withD : List Nat → Tm → D → D
  | [], _, x => x
  | k :: w, t, x => madeD t ((Tm.ds t.parts).set k (withD w (t.parts.getD k .next) x))
theorem ds_set : ∀ (ts : List Tm) (k : Nat) (u : Tm), (Tm.ds ts).set k u.d = Tm.ds (ts.set k u)
  | [], k, u => rfl
  | t :: ts, 0, u => by simp only [Tm.ds, List.set]
  | t :: ts, k + 1, u => by simp only [Tm.ds, List.set, ds_set ts k u]
theorem madeD_d (t : Tm) (ps : List Tm) : madeD t (Tm.ds ps) = (t.made ps).d := by
  cases t with
  | put o is => cases ps <;> simp only [Tm.ds, madeD, Tm.made, Tm.d]
  | round a b =>
    cases ps with
    | nil => simp only [Tm.ds, madeD, Tm.made, Tm.d]
    | cons p ps => cases ps <;> simp only [Tm.ds, madeD, Tm.made, Tm.d]
  | next => simp only [madeD, Tm.made]
  | nought _ => simp only [madeD, Tm.made]
  | place _ _ => simp only [madeD, Tm.made]
theorem withD_d : ∀ (w : List Nat) (t o : Tm), withD w t o.d = (withT w t o).d
  | [], t, o => rfl
  | k :: w, t, o => by simp only [withD, withT, withD_d w, ds_set, madeD_d]
theorem szs_set : ∀ (ts : List Tm) (k : Nat) (u v : Tm), ts[k]? = some v → Tm.szs (ts.set k u) + v.sz = Tm.szs ts + u.sz
  | [], k, u, v, h => by simp at h
  | t :: ts, 0, u, v, h => by simp at h; subst h; simp only [List.set, Tm.szs]; omega
  | t :: ts, k + 1, u, v, h => by
    have := szs_set ts k u v (by simpa using h)
    simp only [List.set, Tm.szs]; omega
theorem dps_set : ∀ (ts : List Tm) (k : Nat) (u : Tm), Tm.dps (ts.set k u) ≤ max (Tm.dps ts) u.dp
  | [], k, u => by simp [Tm.dps]
  | t :: ts, 0, u => by simp only [List.set, Tm.dps]; omega
  | t :: ts, k + 1, u => by
    have := dps_set ts k u
    simp only [List.set, Tm.dps]; omega
theorem wfs_set : ∀ (ts : List Tm) (k : Nat) (u : Tm), Tm.wfs ts → u.wf → Tm.wfs (ts.set k u)
  | [], k, u, _, _ => by simp only [List.set, Tm.wfs]
  | t :: ts, 0, u, h, hu => by simp only [Tm.wfs] at h; simp only [List.set, Tm.wfs]; exact ⟨hu, h.2⟩
  | t :: ts, k + 1, u, h, hu => by simp only [Tm.wfs] at h; simp only [List.set, Tm.wfs]; exact ⟨h.1, wfs_set ts k u h.2 hu⟩
theorem ars_set {ts : List Tm} {m : Nat} (h : ∀ t ∈ ts, t.ar = m) (k : Nat) {u : Tm} (hu : u.ar = m) : ∀ t ∈ ts.set k u, t.ar = m := by
  intro t ht
  rcases List.mem_or_eq_of_mem_set ht with h1 | h1
  · exact h t h1
  · rw [h1]; exact hu
structure WithOk (t u o r : Tm) (w : List Nat) : Prop where
  wf : r.wf
  ar : r.ar = t.ar
  sz : r.sz + u.sz = t.sz + o.sz
  dp : r.dp ≤ max t.dp (w.length + o.dp)
theorem with_ok : ∀ (w : List Nat) (t u o : Tm), t.wf → o.wf → atT w t = some u → o.ar = u.ar → WithOk t u o (withT w t o) w
  | [], t, u, o, ht, ho, h, ha => by
    simp only [atT, Option.some.injEq] at h
    subst h
    exact ⟨ho, ha, by simp only [withT]; omega, by simp only [withT, List.length_nil]; omega⟩
  | k :: w, t, u, o, ht, ho, h, ha => by
    simp only [atT] at h
    cases e : t.parts[k]? with
    | none => rw [e] at h; cases h
    | some p =>
      rw [e] at h
      have hp : p.wf := Tm.wf_of (parts_wf ht) p (List.mem_of_getElem? e)
      have W := with_ok w p u o hp ho h ha
      have w3 := W.sz
      have w4 := W.dp
      have hg : t.parts.getD k .next = p := by rw [List.getD_eq_getElem?_getD, e]; rfl
      have hd := parts_dp (List.mem_of_getElem? e)
      simp only [withT, hg]
      generalize withT w p o = r at W w3 w4
      cases t with
      | put f is =>
        obtain ⟨h1, h2, h3, h4, h5⟩ := put_facts ht
        cases k with
        | zero =>
          have e' : f = p := by simpa [Tm.parts] using e
          subst e'
          have m1 : (Tm.put f is).dp = 1 + max f.dp (Tm.dps is) := by simp only [Tm.dp]
          have m2 : (Tm.put r is).dp = 1 + max r.dp (Tm.dps is) := by simp only [Tm.dp]
          have m3 : (Tm.put f is).sz = 1 + f.sz + Tm.szs is := by simp only [Tm.sz]
          have m4 : (Tm.put r is).sz = 1 + r.sz + Tm.szs is := by simp only [Tm.sz]
          show WithOk (.put f is) u o (.put r is) (0 :: w)
          have ea : (Tm.put r is).ar = (Tm.put f is).ar := by rw [put_ar, put_ar]
          refine ⟨?_, ea, by rw [m3, m4]; omega, by rw [m1, m2]; simp only [List.length_cons]; omega⟩
          simp only [Tm.wf]
          exact ⟨W.wf, h2, by rw [W.ar]; exact h3, h4, fun t ht => by rw [ea]; exact h5 t ht⟩
        | succ k =>
          have e' : is[k]? = some p := by simpa [Tm.parts] using e
          have hm := List.mem_of_getElem? e'
          have m1 : (Tm.put f is).dp = 1 + max f.dp (Tm.dps is) := by simp only [Tm.dp]
          have m2 : (Tm.put f (is.set k r)).dp = 1 + max f.dp (Tm.dps (is.set k r)) := by simp only [Tm.dp]
          have m3 : (Tm.put f is).sz = 1 + f.sz + Tm.szs is := by simp only [Tm.sz]
          have m4 : (Tm.put f (is.set k r)).sz = 1 + f.sz + Tm.szs (is.set k r) := by simp only [Tm.sz]
          have s1 := szs_set is k r p e'
          have d1 := dps_set is k r
          have all := ars_set h5 k (u := r) (by rw [W.ar]; exact h5 p hm)
          have hne : is.set k r ≠ [] := fun z => h2 (by simpa using z)
          have ea : (Tm.put f (is.set k r)).ar = (Tm.put f is).ar := by rw [put_ar, headAr_of hne all]
          show WithOk (.put f is) u o (.put f (is.set k r)) ((k + 1) :: w)
          refine ⟨?_, ea, by rw [m3, m4]; omega, by rw [m1, m2]; simp only [List.length_cons]; omega⟩
          simp only [Tm.wf]
          exact ⟨h1, hne, by rw [List.length_set]; exact h3, wfs_set is k r h4 W.wf, fun t ht => by rw [ea]; exact all t ht⟩
      | round a b =>
        have hw : a.wf ∧ b.wf ∧ a.ar ≤ 3 ∧ b.ar = a.ar + 2 := by simpa only [Tm.wf] using ht
        have m1 : (Tm.round a b).dp = 1 + max a.dp b.dp := by simp only [Tm.dp]
        have m3 : (Tm.round a b).sz = 1 + a.sz + b.sz := by simp only [Tm.sz]
        match k, e with
        | 0, e =>
          have e' : a = p := by simpa [Tm.parts] using e
          subst e'
          have m2 : (Tm.round r b).dp = 1 + max r.dp b.dp := by simp only [Tm.dp]
          have m4 : (Tm.round r b).sz = 1 + r.sz + b.sz := by simp only [Tm.sz]
          have w2 := W.ar
          show WithOk (.round a b) u o (.round r b) (0 :: w)
          refine ⟨?_, by simp only [Tm.ar, w2], by rw [m3, m4]; omega, by rw [m1, m2]; simp only [List.length_cons]; omega⟩
          simp only [Tm.wf]
          exact ⟨W.wf, hw.2.1, by omega, by omega⟩
        | 1, e =>
          have e' : b = p := by simpa [Tm.parts] using e
          subst e'
          have m2 : (Tm.round a r).dp = 1 + max a.dp r.dp := by simp only [Tm.dp]
          have m4 : (Tm.round a r).sz = 1 + a.sz + r.sz := by simp only [Tm.sz]
          have w2 := W.ar
          show WithOk (.round a b) u o (.round a r) (1 :: w)
          refine ⟨?_, by simp only [Tm.ar], by rw [m3, m4]; omega, by rw [m1, m2]; simp only [List.length_cons]; omega⟩
          simp only [Tm.wf]
          exact ⟨hw.1, W.wf, hw.2.2.1, by omega⟩
        | k + 2, e => simp [Tm.parts] at e
      | next => simp [Tm.parts] at e
      | nought _ => simp [Tm.parts] at e
      | place _ _ => simp [Tm.parts] at e
theorem ixN_nat {n k : Nat} (h : k < n) : L2.ixN n (k : Int) = some k := by
  have : (k : Int) < (n : Int) := by omega
  simp [L2.ixN, this]
theorem wayD_nil (w : List Nat) : eqR (wayD w) (.tuple []) = ok w.isEmpty := by
  have := wayD_depth w
  rw [eqR_d _ _ (.inl (by omega))]
  cases w <;> simp [wayD]
theorem wayD_head (k : Nat) (w : List Nat) : idxR (wayD (k :: w)) (.int 0) = ok (.int (k : Int)) := by
  show idxR (.tuple (.int (k : Int) :: w.map fun (n : Nat) => PyData.int n)) (.int 0) = _
  simp
theorem wayD_tail (k : Nat) (w : List Nat) : cutR (wayD (k :: w)) (some 1) none = ok (wayD w) := by
  show ok (PyData.tuple (cutL (.int (k : Int) :: w.map fun (n : Nat) => PyData.int n) (some 1) none)) = _
  rw [cut1]
  rfl
section
variable {ds : List Def} {pr mo wp lwi : Nat}
theorem law_with_ok (hpr : ds[pr]? = some _law_parts) (hlwi : ds[lwi]? = some (_law_with pr lwi)) (x : D) : ∀ (w : List Nat) (t : Tm), (atT w t).isSome = true → t.sz ≤ 1000 → ∀ n, w.length + 2 ≤ n → callF ds n lwi [t.d, wayD w, x] = ok (withD w t x)
  | [], t, h, hs, n, hn => by
    obtain ⟨n, rfl⟩ : ∃ m, n = m + 1 := ⟨n - 1, by omega⟩
    rw [run_at hlwi _ _ rfl]
    simp only [x_raise, x_raiseX, x_try, h_none, h_some, h_nil, e_slf, e_slt, e_slb, e_exf, x_nil, x_cons, x_doc, x_pass, x_brk, x_cont, x_set, x_unpack, x_par, x_app, x_ext, x_aug, x_expr, x_ite, x_ret, e_nil, e_var, e_cst, e_glob, e_tup, e_lst, e_call, e_bin, e_neg, e_not, e_cmp, e_chain, e_and, e_or, e_ife, e_f1, e_isi, e_idx, es_nil, es_cons, tryK_exc, tryK_rt, tryK_nx, clK_t, clK_f, leaveS_rt, leaveS_nx, Out.calm_rt, Out.calm_nx, part_i, isi_x, isi_v, cut1, cutR_l, cutR_t, List.drop, out_rt_seq, ofOut_out_rt, R.bind_ok, R.bind_exc, R.bind_stuck, R.calm_ok, R.calm_exc, R.calm_stuck, R.map_ok, R.map_exc, R.map_stuck, R.out_ok, R.out_exc, R.out_stuck, Out.seq_nx, Out.seq_rt, Out.seq_bk, Out.seq_ct, Out.seq_exc, Out.seq_stuck, eqv_ii, eqv_ss, eqv_tt, eqv_ll, eqv_bb, eqv_it, eqv_ti, eqv_is, eqv_si, eqv_ts, eqv_st, eqv_tn, eqv_nt, eqv_tl, eqv_lt, eqvAll_nn, eqvAll_cc, eqvAll_nc, eqvAll_cn, eqR_ii, eqR_ss, eqR_bb, nth0, nth1, nth2, nth3, truthy_b, truthy_t, truthy_l, truthy_n, truthy_i, cmp_eq, cmp_ne, cmp_lt, cmp_le, cmp_gt, cmp_ge, cmp_is_nn, cmp_is_tn, cmp_is_ln, cmp_is_in, cmp_is_sn, cmp_isnot_nn, cmp_isnot_tn, cmp_isnot_ln, cmp_isnot_in, cmp_isnot_sn, isi_tt, isi_tl, isi_ti, isi_tb, isi_ts, isi_tn, isi_ii, isi_ib, isi_it, isi_il, isi_is, isi_in, isi_bb, isi_bi, isi_ss, isi_st, isi_si, isi_ll, isi_lt, len_t, len_l, tup_l, tup_t, list_l, list_t, sub_ii, add_ii, idx_t, idx_l, walk_t, walk_l, iteF_t, iteF_f, andK_t, andK_f, orK_t, orK_f, ifeK_t, ifeK_f, chK_t, chK_f, setO_some, getS_0, getS_s, ofOut_rt, ofOut_nx, ofOut_exc, List.set, List.map_cons, List.map_nil, List.cons_append, List.nil_append, List.replicate, decide_true, decide_false, Nat.reduceSub, Nat.reduceAdd, List.length_cons, List.length_nil, Bool.not_true, Bool.not_false, Bool.and_true, Bool.and_false, Bool.true_and, Bool.false_and, List.isEmpty_cons, List.isEmpty_nil, reduceIte, Bool.false_eq_true, if_false, if_true, true_and, and_true, wayD_nil, withD]
  | k :: w, t, h, hs, n, hn => by
    obtain ⟨n, rfl⟩ : ∃ m, n = m + 2 := ⟨n - 2, by simp at hn; omega⟩
    simp only [List.length_cons] at hn
    simp only [atT] at h
    cases e : t.parts[k]? with
    | none => rw [e] at h; cases h
    | some p =>
      rw [e] at h
      have hg : t.parts.getD k .next = p := by rw [List.getD_eq_getElem?_getD, e]; rfl
      obtain ⟨hk, _⟩ := List.getElem?_eq_some_iff.mp e
      have hm := List.mem_of_getElem? e
      have s1 := szs_of hm
      have s2 := parts_sz t
      have hp := law_parts_ok hpr t hs n
      have ih := law_with_ok hpr hlwi x w p h (by omega) (n + 1) (by omega)
      have hix : L2.ixN (Tm.ds t.parts).length (k : Int) = some k := ixN_nat (by rw [Tm.ds_len]; exact hk)
      rw [run_at hlwi _ _ rfl]
      simp only [x_raise, x_raiseX, x_try, h_none, h_some, h_nil, e_slf, e_slt, e_slb, e_exf, x_nil, x_cons, x_doc, x_pass, x_brk, x_cont, x_set, x_unpack, x_par, x_app, x_ext, x_aug, x_expr, x_ite, x_ret, e_nil, e_var, e_cst, e_glob, e_tup, e_lst, e_call, e_bin, e_neg, e_not, e_cmp, e_chain, e_and, e_or, e_ife, e_f1, e_isi, e_idx, es_nil, es_cons, tryK_exc, tryK_rt, tryK_nx, clK_t, clK_f, leaveS_rt, leaveS_nx, Out.calm_rt, Out.calm_nx, part_i, isi_x, isi_v, cut1, cutR_l, cutR_t, List.drop, out_rt_seq, ofOut_out_rt, R.bind_ok, R.bind_exc, R.bind_stuck, R.calm_ok, R.calm_exc, R.calm_stuck, R.map_ok, R.map_exc, R.map_stuck, R.out_ok, R.out_exc, R.out_stuck, Out.seq_nx, Out.seq_rt, Out.seq_bk, Out.seq_ct, Out.seq_exc, Out.seq_stuck, eqv_ii, eqv_ss, eqv_tt, eqv_ll, eqv_bb, eqv_it, eqv_ti, eqv_is, eqv_si, eqv_ts, eqv_st, eqv_tn, eqv_nt, eqv_tl, eqv_lt, eqvAll_nn, eqvAll_cc, eqvAll_nc, eqvAll_cn, eqR_ii, eqR_ss, eqR_bb, nth0, nth1, nth2, nth3, truthy_b, truthy_t, truthy_l, truthy_n, truthy_i, cmp_eq, cmp_ne, cmp_lt, cmp_le, cmp_gt, cmp_ge, cmp_is_nn, cmp_is_tn, cmp_is_ln, cmp_is_in, cmp_is_sn, cmp_isnot_nn, cmp_isnot_tn, cmp_isnot_ln, cmp_isnot_in, cmp_isnot_sn, isi_tt, isi_tl, isi_ti, isi_tb, isi_ts, isi_tn, isi_ii, isi_ib, isi_it, isi_il, isi_is, isi_in, isi_bb, isi_bi, isi_ss, isi_st, isi_si, isi_ll, isi_lt, len_t, len_l, tup_l, tup_t, list_l, list_t, sub_ii, add_ii, idx_t, idx_l, walk_t, walk_l, iteF_t, iteF_f, andK_t, andK_f, orK_t, orK_f, ifeK_t, ifeK_f, chK_t, chK_f, setO_some, getS_0, getS_s, ofOut_rt, ofOut_nx, ofOut_exc, List.set, List.map_cons, List.map_nil, List.cons_append, List.nil_append, List.replicate, decide_true, decide_false, Nat.reduceSub, Nat.reduceAdd, List.length_cons, List.length_nil, Bool.not_true, Bool.not_false, Bool.and_true, Bool.and_false, Bool.true_and, Bool.false_and, List.isEmpty_cons, List.isEmpty_nil, reduceIte, Bool.false_eq_true, if_false, if_true, true_and, and_true, wayD_nil, hp, x_setidx, wayD_head, wayD_tail, ds_at hk, hg, ih, getL, List.getElem?_cons_succ, List.getElem?_cons_zero, setF, hix, withD]
      cases t with
      | put f is =>
        cases k with
        | zero => simp only [x_raise, x_raiseX, x_try, h_none, h_some, h_nil, e_slf, e_slt, e_slb, e_exf, x_nil, x_cons, x_doc, x_pass, x_brk, x_cont, x_set, x_unpack, x_par, x_app, x_ext, x_aug, x_expr, x_ite, x_ret, e_nil, e_var, e_cst, e_glob, e_tup, e_lst, e_call, e_bin, e_neg, e_not, e_cmp, e_chain, e_and, e_or, e_ife, e_f1, e_isi, e_idx, es_nil, es_cons, tryK_exc, tryK_rt, tryK_nx, clK_t, clK_f, leaveS_rt, leaveS_nx, Out.calm_rt, Out.calm_nx, part_i, isi_x, isi_v, cut1, cutR_l, cutR_t, List.drop, out_rt_seq, ofOut_out_rt, R.bind_ok, R.bind_exc, R.bind_stuck, R.calm_ok, R.calm_exc, R.calm_stuck, R.map_ok, R.map_exc, R.map_stuck, R.out_ok, R.out_exc, R.out_stuck, Out.seq_nx, Out.seq_rt, Out.seq_bk, Out.seq_ct, Out.seq_exc, Out.seq_stuck, eqv_ii, eqv_ss, eqv_tt, eqv_ll, eqv_bb, eqv_it, eqv_ti, eqv_is, eqv_si, eqv_ts, eqv_st, eqv_tn, eqv_nt, eqv_tl, eqv_lt, eqvAll_nn, eqvAll_cc, eqvAll_nc, eqvAll_cn, eqR_ii, eqR_ss, eqR_bb, nth0, nth1, nth2, nth3, truthy_b, truthy_t, truthy_l, truthy_n, truthy_i, cmp_eq, cmp_ne, cmp_lt, cmp_le, cmp_gt, cmp_ge, cmp_is_nn, cmp_is_tn, cmp_is_ln, cmp_is_in, cmp_is_sn, cmp_isnot_nn, cmp_isnot_tn, cmp_isnot_ln, cmp_isnot_in, cmp_isnot_sn, isi_tt, isi_tl, isi_ti, isi_tb, isi_ts, isi_tn, isi_ii, isi_ib, isi_it, isi_il, isi_is, isi_in, isi_bb, isi_bi, isi_ss, isi_st, isi_si, isi_ll, isi_lt, len_t, len_l, tup_l, tup_t, list_l, list_t, sub_ii, add_ii, idx_t, idx_l, walk_t, walk_l, iteF_t, iteF_f, andK_t, andK_f, orK_t, orK_f, ifeK_t, ifeK_f, chK_t, chK_f, setO_some, getS_0, getS_s, ofOut_rt, ofOut_nx, ofOut_exc, List.set, List.map_cons, List.map_nil, List.cons_append, List.nil_append, List.replicate, decide_true, decide_false, Nat.reduceSub, Nat.reduceAdd, List.length_cons, List.length_nil, Bool.not_true, Bool.not_false, Bool.and_true, Bool.and_false, Bool.true_and, Bool.false_and, List.isEmpty_cons, List.isEmpty_nil, reduceIte, Bool.false_eq_true, if_false, if_true, true_and, and_true, Tm.d, w1, w2, w3, w4, w5, w6, w7, w8, w9, w10, w11, w12, w13, w14, w15, w16, w17, w18, w19, w20, Tm.parts, Tm.ds, madeD]
        | succ k => simp only [x_raise, x_raiseX, x_try, h_none, h_some, h_nil, e_slf, e_slt, e_slb, e_exf, x_nil, x_cons, x_doc, x_pass, x_brk, x_cont, x_set, x_unpack, x_par, x_app, x_ext, x_aug, x_expr, x_ite, x_ret, e_nil, e_var, e_cst, e_glob, e_tup, e_lst, e_call, e_bin, e_neg, e_not, e_cmp, e_chain, e_and, e_or, e_ife, e_f1, e_isi, e_idx, es_nil, es_cons, tryK_exc, tryK_rt, tryK_nx, clK_t, clK_f, leaveS_rt, leaveS_nx, Out.calm_rt, Out.calm_nx, part_i, isi_x, isi_v, cut1, cutR_l, cutR_t, List.drop, out_rt_seq, ofOut_out_rt, R.bind_ok, R.bind_exc, R.bind_stuck, R.calm_ok, R.calm_exc, R.calm_stuck, R.map_ok, R.map_exc, R.map_stuck, R.out_ok, R.out_exc, R.out_stuck, Out.seq_nx, Out.seq_rt, Out.seq_bk, Out.seq_ct, Out.seq_exc, Out.seq_stuck, eqv_ii, eqv_ss, eqv_tt, eqv_ll, eqv_bb, eqv_it, eqv_ti, eqv_is, eqv_si, eqv_ts, eqv_st, eqv_tn, eqv_nt, eqv_tl, eqv_lt, eqvAll_nn, eqvAll_cc, eqvAll_nc, eqvAll_cn, eqR_ii, eqR_ss, eqR_bb, nth0, nth1, nth2, nth3, truthy_b, truthy_t, truthy_l, truthy_n, truthy_i, cmp_eq, cmp_ne, cmp_lt, cmp_le, cmp_gt, cmp_ge, cmp_is_nn, cmp_is_tn, cmp_is_ln, cmp_is_in, cmp_is_sn, cmp_isnot_nn, cmp_isnot_tn, cmp_isnot_ln, cmp_isnot_in, cmp_isnot_sn, isi_tt, isi_tl, isi_ti, isi_tb, isi_ts, isi_tn, isi_ii, isi_ib, isi_it, isi_il, isi_is, isi_in, isi_bb, isi_bi, isi_ss, isi_st, isi_si, isi_ll, isi_lt, len_t, len_l, tup_l, tup_t, list_l, list_t, sub_ii, add_ii, idx_t, idx_l, walk_t, walk_l, iteF_t, iteF_f, andK_t, andK_f, orK_t, orK_f, ifeK_t, ifeK_f, chK_t, chK_f, setO_some, getS_0, getS_s, ofOut_rt, ofOut_nx, ofOut_exc, List.set, List.map_cons, List.map_nil, List.cons_append, List.nil_append, List.replicate, decide_true, decide_false, Nat.reduceSub, Nat.reduceAdd, List.length_cons, List.length_nil, Bool.not_true, Bool.not_false, Bool.and_true, Bool.and_false, Bool.true_and, Bool.false_and, List.isEmpty_cons, List.isEmpty_nil, reduceIte, Bool.false_eq_true, if_false, if_true, true_and, and_true, Tm.d, w1, w2, w3, w4, w5, w6, w7, w8, w9, w10, w11, w12, w13, w14, w15, w16, w17, w18, w19, w20, Tm.parts, Tm.ds, madeD]
      | round a b =>
        match k, hk with
        | 0, _ => simp only [x_raise, x_raiseX, x_try, h_none, h_some, h_nil, e_slf, e_slt, e_slb, e_exf, x_nil, x_cons, x_doc, x_pass, x_brk, x_cont, x_set, x_unpack, x_par, x_app, x_ext, x_aug, x_expr, x_ite, x_ret, e_nil, e_var, e_cst, e_glob, e_tup, e_lst, e_call, e_bin, e_neg, e_not, e_cmp, e_chain, e_and, e_or, e_ife, e_f1, e_isi, e_idx, es_nil, es_cons, tryK_exc, tryK_rt, tryK_nx, clK_t, clK_f, leaveS_rt, leaveS_nx, Out.calm_rt, Out.calm_nx, part_i, isi_x, isi_v, cut1, cutR_l, cutR_t, List.drop, out_rt_seq, ofOut_out_rt, R.bind_ok, R.bind_exc, R.bind_stuck, R.calm_ok, R.calm_exc, R.calm_stuck, R.map_ok, R.map_exc, R.map_stuck, R.out_ok, R.out_exc, R.out_stuck, Out.seq_nx, Out.seq_rt, Out.seq_bk, Out.seq_ct, Out.seq_exc, Out.seq_stuck, eqv_ii, eqv_ss, eqv_tt, eqv_ll, eqv_bb, eqv_it, eqv_ti, eqv_is, eqv_si, eqv_ts, eqv_st, eqv_tn, eqv_nt, eqv_tl, eqv_lt, eqvAll_nn, eqvAll_cc, eqvAll_nc, eqvAll_cn, eqR_ii, eqR_ss, eqR_bb, nth0, nth1, nth2, nth3, truthy_b, truthy_t, truthy_l, truthy_n, truthy_i, cmp_eq, cmp_ne, cmp_lt, cmp_le, cmp_gt, cmp_ge, cmp_is_nn, cmp_is_tn, cmp_is_ln, cmp_is_in, cmp_is_sn, cmp_isnot_nn, cmp_isnot_tn, cmp_isnot_ln, cmp_isnot_in, cmp_isnot_sn, isi_tt, isi_tl, isi_ti, isi_tb, isi_ts, isi_tn, isi_ii, isi_ib, isi_it, isi_il, isi_is, isi_in, isi_bb, isi_bi, isi_ss, isi_st, isi_si, isi_ll, isi_lt, len_t, len_l, tup_l, tup_t, list_l, list_t, sub_ii, add_ii, idx_t, idx_l, walk_t, walk_l, iteF_t, iteF_f, andK_t, andK_f, orK_t, orK_f, ifeK_t, ifeK_f, chK_t, chK_f, setO_some, getS_0, getS_s, ofOut_rt, ofOut_nx, ofOut_exc, List.set, List.map_cons, List.map_nil, List.cons_append, List.nil_append, List.replicate, decide_true, decide_false, Nat.reduceSub, Nat.reduceAdd, List.length_cons, List.length_nil, Bool.not_true, Bool.not_false, Bool.and_true, Bool.and_false, Bool.true_and, Bool.false_and, List.isEmpty_cons, List.isEmpty_nil, reduceIte, Bool.false_eq_true, if_false, if_true, true_and, and_true, Tm.d, w1, w2, w3, w4, w5, w6, w7, w8, w9, w10, w11, w12, w13, w14, w15, w16, w17, w18, w19, w20, Tm.parts, Tm.ds, madeD]
        | 1, _ => simp only [x_raise, x_raiseX, x_try, h_none, h_some, h_nil, e_slf, e_slt, e_slb, e_exf, x_nil, x_cons, x_doc, x_pass, x_brk, x_cont, x_set, x_unpack, x_par, x_app, x_ext, x_aug, x_expr, x_ite, x_ret, e_nil, e_var, e_cst, e_glob, e_tup, e_lst, e_call, e_bin, e_neg, e_not, e_cmp, e_chain, e_and, e_or, e_ife, e_f1, e_isi, e_idx, es_nil, es_cons, tryK_exc, tryK_rt, tryK_nx, clK_t, clK_f, leaveS_rt, leaveS_nx, Out.calm_rt, Out.calm_nx, part_i, isi_x, isi_v, cut1, cutR_l, cutR_t, List.drop, out_rt_seq, ofOut_out_rt, R.bind_ok, R.bind_exc, R.bind_stuck, R.calm_ok, R.calm_exc, R.calm_stuck, R.map_ok, R.map_exc, R.map_stuck, R.out_ok, R.out_exc, R.out_stuck, Out.seq_nx, Out.seq_rt, Out.seq_bk, Out.seq_ct, Out.seq_exc, Out.seq_stuck, eqv_ii, eqv_ss, eqv_tt, eqv_ll, eqv_bb, eqv_it, eqv_ti, eqv_is, eqv_si, eqv_ts, eqv_st, eqv_tn, eqv_nt, eqv_tl, eqv_lt, eqvAll_nn, eqvAll_cc, eqvAll_nc, eqvAll_cn, eqR_ii, eqR_ss, eqR_bb, nth0, nth1, nth2, nth3, truthy_b, truthy_t, truthy_l, truthy_n, truthy_i, cmp_eq, cmp_ne, cmp_lt, cmp_le, cmp_gt, cmp_ge, cmp_is_nn, cmp_is_tn, cmp_is_ln, cmp_is_in, cmp_is_sn, cmp_isnot_nn, cmp_isnot_tn, cmp_isnot_ln, cmp_isnot_in, cmp_isnot_sn, isi_tt, isi_tl, isi_ti, isi_tb, isi_ts, isi_tn, isi_ii, isi_ib, isi_it, isi_il, isi_is, isi_in, isi_bb, isi_bi, isi_ss, isi_st, isi_si, isi_ll, isi_lt, len_t, len_l, tup_l, tup_t, list_l, list_t, sub_ii, add_ii, idx_t, idx_l, walk_t, walk_l, iteF_t, iteF_f, andK_t, andK_f, orK_t, orK_f, ifeK_t, ifeK_f, chK_t, chK_f, setO_some, getS_0, getS_s, ofOut_rt, ofOut_nx, ofOut_exc, List.set, List.map_cons, List.map_nil, List.cons_append, List.nil_append, List.replicate, decide_true, decide_false, Nat.reduceSub, Nat.reduceAdd, List.length_cons, List.length_nil, Bool.not_true, Bool.not_false, Bool.and_true, Bool.and_false, Bool.true_and, Bool.false_and, List.isEmpty_cons, List.isEmpty_nil, reduceIte, Bool.false_eq_true, if_false, if_true, true_and, and_true, Tm.d, w1, w2, w3, w4, w5, w6, w7, w8, w9, w10, w11, w12, w13, w14, w15, w16, w17, w18, w19, w20, Tm.parts, Tm.ds, madeD]
        | k + 2, h => exact absurd h (by simp [Tm.parts])
      | next => simp [Tm.parts] at hk
      | nought _ => simp [Tm.parts] at hk
      | place _ _ => simp [Tm.parts] at hk
theorem with_part_ok (hpr : ds[pr]? = some _law_parts) (hmo : ds[mo]? = some made_of) (hwp : ds[wp]? = some (with_part pr mo wp)) (x : D) : ∀ (w : List Nat) (t : Tm), (atT w t).isSome = true → t.sz ≤ 1000 → ∀ n, w.length + 2 ≤ n → callF ds n wp [t.d, wayD w, x] = ok (withD w t x)
  | [], t, h, hs, n, hn => by
    obtain ⟨n, rfl⟩ : ∃ m, n = m + 1 := ⟨n - 1, by omega⟩
    rw [run_at hwp _ _ rfl]
    simp only [x_raise, x_raiseX, x_try, h_none, h_some, h_nil, e_slf, e_slt, e_slb, e_exf, x_nil, x_cons, x_doc, x_pass, x_brk, x_cont, x_set, x_unpack, x_par, x_app, x_ext, x_aug, x_expr, x_ite, x_ret, e_nil, e_var, e_cst, e_glob, e_tup, e_lst, e_call, e_bin, e_neg, e_not, e_cmp, e_chain, e_and, e_or, e_ife, e_f1, e_isi, e_idx, es_nil, es_cons, tryK_exc, tryK_rt, tryK_nx, clK_t, clK_f, leaveS_rt, leaveS_nx, Out.calm_rt, Out.calm_nx, part_i, isi_x, isi_v, cut1, cutR_l, cutR_t, List.drop, out_rt_seq, ofOut_out_rt, R.bind_ok, R.bind_exc, R.bind_stuck, R.calm_ok, R.calm_exc, R.calm_stuck, R.map_ok, R.map_exc, R.map_stuck, R.out_ok, R.out_exc, R.out_stuck, Out.seq_nx, Out.seq_rt, Out.seq_bk, Out.seq_ct, Out.seq_exc, Out.seq_stuck, eqv_ii, eqv_ss, eqv_tt, eqv_ll, eqv_bb, eqv_it, eqv_ti, eqv_is, eqv_si, eqv_ts, eqv_st, eqv_tn, eqv_nt, eqv_tl, eqv_lt, eqvAll_nn, eqvAll_cc, eqvAll_nc, eqvAll_cn, eqR_ii, eqR_ss, eqR_bb, nth0, nth1, nth2, nth3, truthy_b, truthy_t, truthy_l, truthy_n, truthy_i, cmp_eq, cmp_ne, cmp_lt, cmp_le, cmp_gt, cmp_ge, cmp_is_nn, cmp_is_tn, cmp_is_ln, cmp_is_in, cmp_is_sn, cmp_isnot_nn, cmp_isnot_tn, cmp_isnot_ln, cmp_isnot_in, cmp_isnot_sn, isi_tt, isi_tl, isi_ti, isi_tb, isi_ts, isi_tn, isi_ii, isi_ib, isi_it, isi_il, isi_is, isi_in, isi_bb, isi_bi, isi_ss, isi_st, isi_si, isi_ll, isi_lt, len_t, len_l, tup_l, tup_t, list_l, list_t, sub_ii, add_ii, idx_t, idx_l, walk_t, walk_l, iteF_t, iteF_f, andK_t, andK_f, orK_t, orK_f, ifeK_t, ifeK_f, chK_t, chK_f, setO_some, getS_0, getS_s, ofOut_rt, ofOut_nx, ofOut_exc, List.set, List.map_cons, List.map_nil, List.cons_append, List.nil_append, List.replicate, decide_true, decide_false, Nat.reduceSub, Nat.reduceAdd, List.length_cons, List.length_nil, Bool.not_true, Bool.not_false, Bool.and_true, Bool.and_false, Bool.true_and, Bool.false_and, List.isEmpty_cons, List.isEmpty_nil, reduceIte, Bool.false_eq_true, if_false, if_true, true_and, and_true, wayD_nil, withD]
  | k :: w, t, h, hs, n, hn => by
    obtain ⟨n, rfl⟩ : ∃ m, n = m + 2 := ⟨n - 2, by simp at hn; omega⟩
    simp only [List.length_cons] at hn
    simp only [atT] at h
    cases e : t.parts[k]? with
    | none => rw [e] at h; cases h
    | some p =>
      rw [e] at h
      have hg : t.parts.getD k .next = p := by rw [List.getD_eq_getElem?_getD, e]; rfl
      obtain ⟨hk, _⟩ := List.getElem?_eq_some_iff.mp e
      have hm := List.mem_of_getElem? e
      have s1 := szs_of hm
      have s2 := parts_sz t
      have hp := law_parts_ok hpr t hs n
      have ih := with_part_ok hpr hmo hwp x w p h (by omega) (n + 1) (by omega)
      have hix : L2.ixN (Tm.ds t.parts).length (k : Int) = some k := ixN_nat (by rw [Tm.ds_len]; exact hk)
      have hmade : callF ds (n + 1) mo [t.d, .list ((Tm.ds t.parts).set k (withD w p x))] = ok (madeD t ((Tm.ds t.parts).set k (withD w p x))) := by
        rw [run_at hmo _ _ rfl]
        cases t with
        | put f is =>
          cases k with
          | zero => simp only [x_raise, x_raiseX, x_try, h_none, h_some, h_nil, e_slf, e_slt, e_slb, e_exf, x_nil, x_cons, x_doc, x_pass, x_brk, x_cont, x_set, x_unpack, x_par, x_app, x_ext, x_aug, x_expr, x_ite, x_ret, e_nil, e_var, e_cst, e_glob, e_tup, e_lst, e_call, e_bin, e_neg, e_not, e_cmp, e_chain, e_and, e_or, e_ife, e_f1, e_isi, e_idx, es_nil, es_cons, tryK_exc, tryK_rt, tryK_nx, clK_t, clK_f, leaveS_rt, leaveS_nx, Out.calm_rt, Out.calm_nx, part_i, isi_x, isi_v, cut1, cutR_l, cutR_t, List.drop, out_rt_seq, ofOut_out_rt, R.bind_ok, R.bind_exc, R.bind_stuck, R.calm_ok, R.calm_exc, R.calm_stuck, R.map_ok, R.map_exc, R.map_stuck, R.out_ok, R.out_exc, R.out_stuck, Out.seq_nx, Out.seq_rt, Out.seq_bk, Out.seq_ct, Out.seq_exc, Out.seq_stuck, eqv_ii, eqv_ss, eqv_tt, eqv_ll, eqv_bb, eqv_it, eqv_ti, eqv_is, eqv_si, eqv_ts, eqv_st, eqv_tn, eqv_nt, eqv_tl, eqv_lt, eqvAll_nn, eqvAll_cc, eqvAll_nc, eqvAll_cn, eqR_ii, eqR_ss, eqR_bb, nth0, nth1, nth2, nth3, truthy_b, truthy_t, truthy_l, truthy_n, truthy_i, cmp_eq, cmp_ne, cmp_lt, cmp_le, cmp_gt, cmp_ge, cmp_is_nn, cmp_is_tn, cmp_is_ln, cmp_is_in, cmp_is_sn, cmp_isnot_nn, cmp_isnot_tn, cmp_isnot_ln, cmp_isnot_in, cmp_isnot_sn, isi_tt, isi_tl, isi_ti, isi_tb, isi_ts, isi_tn, isi_ii, isi_ib, isi_it, isi_il, isi_is, isi_in, isi_bb, isi_bi, isi_ss, isi_st, isi_si, isi_ll, isi_lt, len_t, len_l, tup_l, tup_t, list_l, list_t, sub_ii, add_ii, idx_t, idx_l, walk_t, walk_l, iteF_t, iteF_f, andK_t, andK_f, orK_t, orK_f, ifeK_t, ifeK_f, chK_t, chK_f, setO_some, getS_0, getS_s, ofOut_rt, ofOut_nx, ofOut_exc, List.set, List.map_cons, List.map_nil, List.cons_append, List.nil_append, List.replicate, decide_true, decide_false, Nat.reduceSub, Nat.reduceAdd, List.length_cons, List.length_nil, Bool.not_true, Bool.not_false, Bool.and_true, Bool.and_false, Bool.true_and, Bool.false_and, List.isEmpty_cons, List.isEmpty_nil, reduceIte, Bool.false_eq_true, if_false, if_true, true_and, and_true, Tm.d, w1, w2, w3, w4, w5, w6, w7, w8, w9, w10, w11, w12, w13, w14, w15, w16, w17, w18, w19, w20, Tm.parts, Tm.ds, madeD]
          | succ k => simp only [x_raise, x_raiseX, x_try, h_none, h_some, h_nil, e_slf, e_slt, e_slb, e_exf, x_nil, x_cons, x_doc, x_pass, x_brk, x_cont, x_set, x_unpack, x_par, x_app, x_ext, x_aug, x_expr, x_ite, x_ret, e_nil, e_var, e_cst, e_glob, e_tup, e_lst, e_call, e_bin, e_neg, e_not, e_cmp, e_chain, e_and, e_or, e_ife, e_f1, e_isi, e_idx, es_nil, es_cons, tryK_exc, tryK_rt, tryK_nx, clK_t, clK_f, leaveS_rt, leaveS_nx, Out.calm_rt, Out.calm_nx, part_i, isi_x, isi_v, cut1, cutR_l, cutR_t, List.drop, out_rt_seq, ofOut_out_rt, R.bind_ok, R.bind_exc, R.bind_stuck, R.calm_ok, R.calm_exc, R.calm_stuck, R.map_ok, R.map_exc, R.map_stuck, R.out_ok, R.out_exc, R.out_stuck, Out.seq_nx, Out.seq_rt, Out.seq_bk, Out.seq_ct, Out.seq_exc, Out.seq_stuck, eqv_ii, eqv_ss, eqv_tt, eqv_ll, eqv_bb, eqv_it, eqv_ti, eqv_is, eqv_si, eqv_ts, eqv_st, eqv_tn, eqv_nt, eqv_tl, eqv_lt, eqvAll_nn, eqvAll_cc, eqvAll_nc, eqvAll_cn, eqR_ii, eqR_ss, eqR_bb, nth0, nth1, nth2, nth3, truthy_b, truthy_t, truthy_l, truthy_n, truthy_i, cmp_eq, cmp_ne, cmp_lt, cmp_le, cmp_gt, cmp_ge, cmp_is_nn, cmp_is_tn, cmp_is_ln, cmp_is_in, cmp_is_sn, cmp_isnot_nn, cmp_isnot_tn, cmp_isnot_ln, cmp_isnot_in, cmp_isnot_sn, isi_tt, isi_tl, isi_ti, isi_tb, isi_ts, isi_tn, isi_ii, isi_ib, isi_it, isi_il, isi_is, isi_in, isi_bb, isi_bi, isi_ss, isi_st, isi_si, isi_ll, isi_lt, len_t, len_l, tup_l, tup_t, list_l, list_t, sub_ii, add_ii, idx_t, idx_l, walk_t, walk_l, iteF_t, iteF_f, andK_t, andK_f, orK_t, orK_f, ifeK_t, ifeK_f, chK_t, chK_f, setO_some, getS_0, getS_s, ofOut_rt, ofOut_nx, ofOut_exc, List.set, List.map_cons, List.map_nil, List.cons_append, List.nil_append, List.replicate, decide_true, decide_false, Nat.reduceSub, Nat.reduceAdd, List.length_cons, List.length_nil, Bool.not_true, Bool.not_false, Bool.and_true, Bool.and_false, Bool.true_and, Bool.false_and, List.isEmpty_cons, List.isEmpty_nil, reduceIte, Bool.false_eq_true, if_false, if_true, true_and, and_true, Tm.d, w1, w2, w3, w4, w5, w6, w7, w8, w9, w10, w11, w12, w13, w14, w15, w16, w17, w18, w19, w20, Tm.parts, Tm.ds, madeD]
        | round a b =>
          match k, hk with
          | 0, _ => simp only [x_raise, x_raiseX, x_try, h_none, h_some, h_nil, e_slf, e_slt, e_slb, e_exf, x_nil, x_cons, x_doc, x_pass, x_brk, x_cont, x_set, x_unpack, x_par, x_app, x_ext, x_aug, x_expr, x_ite, x_ret, e_nil, e_var, e_cst, e_glob, e_tup, e_lst, e_call, e_bin, e_neg, e_not, e_cmp, e_chain, e_and, e_or, e_ife, e_f1, e_isi, e_idx, es_nil, es_cons, tryK_exc, tryK_rt, tryK_nx, clK_t, clK_f, leaveS_rt, leaveS_nx, Out.calm_rt, Out.calm_nx, part_i, isi_x, isi_v, cut1, cutR_l, cutR_t, List.drop, out_rt_seq, ofOut_out_rt, R.bind_ok, R.bind_exc, R.bind_stuck, R.calm_ok, R.calm_exc, R.calm_stuck, R.map_ok, R.map_exc, R.map_stuck, R.out_ok, R.out_exc, R.out_stuck, Out.seq_nx, Out.seq_rt, Out.seq_bk, Out.seq_ct, Out.seq_exc, Out.seq_stuck, eqv_ii, eqv_ss, eqv_tt, eqv_ll, eqv_bb, eqv_it, eqv_ti, eqv_is, eqv_si, eqv_ts, eqv_st, eqv_tn, eqv_nt, eqv_tl, eqv_lt, eqvAll_nn, eqvAll_cc, eqvAll_nc, eqvAll_cn, eqR_ii, eqR_ss, eqR_bb, nth0, nth1, nth2, nth3, truthy_b, truthy_t, truthy_l, truthy_n, truthy_i, cmp_eq, cmp_ne, cmp_lt, cmp_le, cmp_gt, cmp_ge, cmp_is_nn, cmp_is_tn, cmp_is_ln, cmp_is_in, cmp_is_sn, cmp_isnot_nn, cmp_isnot_tn, cmp_isnot_ln, cmp_isnot_in, cmp_isnot_sn, isi_tt, isi_tl, isi_ti, isi_tb, isi_ts, isi_tn, isi_ii, isi_ib, isi_it, isi_il, isi_is, isi_in, isi_bb, isi_bi, isi_ss, isi_st, isi_si, isi_ll, isi_lt, len_t, len_l, tup_l, tup_t, list_l, list_t, sub_ii, add_ii, idx_t, idx_l, walk_t, walk_l, iteF_t, iteF_f, andK_t, andK_f, orK_t, orK_f, ifeK_t, ifeK_f, chK_t, chK_f, setO_some, getS_0, getS_s, ofOut_rt, ofOut_nx, ofOut_exc, List.set, List.map_cons, List.map_nil, List.cons_append, List.nil_append, List.replicate, decide_true, decide_false, Nat.reduceSub, Nat.reduceAdd, List.length_cons, List.length_nil, Bool.not_true, Bool.not_false, Bool.and_true, Bool.and_false, Bool.true_and, Bool.false_and, List.isEmpty_cons, List.isEmpty_nil, reduceIte, Bool.false_eq_true, if_false, if_true, true_and, and_true, Tm.d, w1, w2, w3, w4, w5, w6, w7, w8, w9, w10, w11, w12, w13, w14, w15, w16, w17, w18, w19, w20, Tm.parts, Tm.ds, madeD]
          | 1, _ => simp only [x_raise, x_raiseX, x_try, h_none, h_some, h_nil, e_slf, e_slt, e_slb, e_exf, x_nil, x_cons, x_doc, x_pass, x_brk, x_cont, x_set, x_unpack, x_par, x_app, x_ext, x_aug, x_expr, x_ite, x_ret, e_nil, e_var, e_cst, e_glob, e_tup, e_lst, e_call, e_bin, e_neg, e_not, e_cmp, e_chain, e_and, e_or, e_ife, e_f1, e_isi, e_idx, es_nil, es_cons, tryK_exc, tryK_rt, tryK_nx, clK_t, clK_f, leaveS_rt, leaveS_nx, Out.calm_rt, Out.calm_nx, part_i, isi_x, isi_v, cut1, cutR_l, cutR_t, List.drop, out_rt_seq, ofOut_out_rt, R.bind_ok, R.bind_exc, R.bind_stuck, R.calm_ok, R.calm_exc, R.calm_stuck, R.map_ok, R.map_exc, R.map_stuck, R.out_ok, R.out_exc, R.out_stuck, Out.seq_nx, Out.seq_rt, Out.seq_bk, Out.seq_ct, Out.seq_exc, Out.seq_stuck, eqv_ii, eqv_ss, eqv_tt, eqv_ll, eqv_bb, eqv_it, eqv_ti, eqv_is, eqv_si, eqv_ts, eqv_st, eqv_tn, eqv_nt, eqv_tl, eqv_lt, eqvAll_nn, eqvAll_cc, eqvAll_nc, eqvAll_cn, eqR_ii, eqR_ss, eqR_bb, nth0, nth1, nth2, nth3, truthy_b, truthy_t, truthy_l, truthy_n, truthy_i, cmp_eq, cmp_ne, cmp_lt, cmp_le, cmp_gt, cmp_ge, cmp_is_nn, cmp_is_tn, cmp_is_ln, cmp_is_in, cmp_is_sn, cmp_isnot_nn, cmp_isnot_tn, cmp_isnot_ln, cmp_isnot_in, cmp_isnot_sn, isi_tt, isi_tl, isi_ti, isi_tb, isi_ts, isi_tn, isi_ii, isi_ib, isi_it, isi_il, isi_is, isi_in, isi_bb, isi_bi, isi_ss, isi_st, isi_si, isi_ll, isi_lt, len_t, len_l, tup_l, tup_t, list_l, list_t, sub_ii, add_ii, idx_t, idx_l, walk_t, walk_l, iteF_t, iteF_f, andK_t, andK_f, orK_t, orK_f, ifeK_t, ifeK_f, chK_t, chK_f, setO_some, getS_0, getS_s, ofOut_rt, ofOut_nx, ofOut_exc, List.set, List.map_cons, List.map_nil, List.cons_append, List.nil_append, List.replicate, decide_true, decide_false, Nat.reduceSub, Nat.reduceAdd, List.length_cons, List.length_nil, Bool.not_true, Bool.not_false, Bool.and_true, Bool.and_false, Bool.true_and, Bool.false_and, List.isEmpty_cons, List.isEmpty_nil, reduceIte, Bool.false_eq_true, if_false, if_true, true_and, and_true, Tm.d, w1, w2, w3, w4, w5, w6, w7, w8, w9, w10, w11, w12, w13, w14, w15, w16, w17, w18, w19, w20, Tm.parts, Tm.ds, madeD]
          | k + 2, h => exact absurd h (by simp [Tm.parts])
        | next => simp [Tm.parts] at hk
        | nought _ => simp [Tm.parts] at hk
        | place _ _ => simp [Tm.parts] at hk
      rw [run_at hwp _ _ rfl]
      simp only [x_raise, x_raiseX, x_try, h_none, h_some, h_nil, e_slf, e_slt, e_slb, e_exf, x_nil, x_cons, x_doc, x_pass, x_brk, x_cont, x_set, x_unpack, x_par, x_app, x_ext, x_aug, x_expr, x_ite, x_ret, e_nil, e_var, e_cst, e_glob, e_tup, e_lst, e_call, e_bin, e_neg, e_not, e_cmp, e_chain, e_and, e_or, e_ife, e_f1, e_isi, e_idx, es_nil, es_cons, tryK_exc, tryK_rt, tryK_nx, clK_t, clK_f, leaveS_rt, leaveS_nx, Out.calm_rt, Out.calm_nx, part_i, isi_x, isi_v, cut1, cutR_l, cutR_t, List.drop, out_rt_seq, ofOut_out_rt, R.bind_ok, R.bind_exc, R.bind_stuck, R.calm_ok, R.calm_exc, R.calm_stuck, R.map_ok, R.map_exc, R.map_stuck, R.out_ok, R.out_exc, R.out_stuck, Out.seq_nx, Out.seq_rt, Out.seq_bk, Out.seq_ct, Out.seq_exc, Out.seq_stuck, eqv_ii, eqv_ss, eqv_tt, eqv_ll, eqv_bb, eqv_it, eqv_ti, eqv_is, eqv_si, eqv_ts, eqv_st, eqv_tn, eqv_nt, eqv_tl, eqv_lt, eqvAll_nn, eqvAll_cc, eqvAll_nc, eqvAll_cn, eqR_ii, eqR_ss, eqR_bb, nth0, nth1, nth2, nth3, truthy_b, truthy_t, truthy_l, truthy_n, truthy_i, cmp_eq, cmp_ne, cmp_lt, cmp_le, cmp_gt, cmp_ge, cmp_is_nn, cmp_is_tn, cmp_is_ln, cmp_is_in, cmp_is_sn, cmp_isnot_nn, cmp_isnot_tn, cmp_isnot_ln, cmp_isnot_in, cmp_isnot_sn, isi_tt, isi_tl, isi_ti, isi_tb, isi_ts, isi_tn, isi_ii, isi_ib, isi_it, isi_il, isi_is, isi_in, isi_bb, isi_bi, isi_ss, isi_st, isi_si, isi_ll, isi_lt, len_t, len_l, tup_l, tup_t, list_l, list_t, sub_ii, add_ii, idx_t, idx_l, walk_t, walk_l, iteF_t, iteF_f, andK_t, andK_f, orK_t, orK_f, ifeK_t, ifeK_f, chK_t, chK_f, setO_some, getS_0, getS_s, ofOut_rt, ofOut_nx, ofOut_exc, List.set, List.map_cons, List.map_nil, List.cons_append, List.nil_append, List.replicate, decide_true, decide_false, Nat.reduceSub, Nat.reduceAdd, List.length_cons, List.length_nil, Bool.not_true, Bool.not_false, Bool.and_true, Bool.and_false, Bool.true_and, Bool.false_and, List.isEmpty_cons, List.isEmpty_nil, reduceIte, Bool.false_eq_true, if_false, if_true, true_and, and_true, wayD_nil, hp, x_setidx, wayD_head, wayD_tail, ds_at hk, hg, ih, getL, List.getElem?_cons_succ, List.getElem?_cons_zero, setF, hix, withD, hmade]
variable {iw po pp pq te ck ar lk : Nat} {rsC : S}
theorem is_term_any (hiw : ds[iw]? = some is_within) (hpo : ds[po]? = some (places_of iw pp pq)) (hpp : ds[pp]? = some (places_put po)) (hpq : ds[pq]? = some (places_round po)) (hte : ds[te]? = some (is_term po)) (t : Tm) (h : t.wf) (n : Nat) (hn : 2 * t.dp + 3 ≤ n) :
    callF ds n te [t.d] = ok (.bool (decide (t.sz ≤ 60))) := by
  obtain ⟨n, rfl⟩ : ∃ k, n = k + 1 := ⟨n - 1, by omega⟩
  rw [run_at hte _ _ rfl]
  have e' : callF ds n po [t.d, .int 60] = ok (found t 60) := places_ok hiw hpo hpp hpq t h n 60 (by omega)
  by_cases hs : t.sz ≤ 60
  · simp [x_raise, x_raiseX, x_try, h_none, h_some, h_nil, e_slf, e_slt, e_slb, e_exf, x_nil, x_cons, x_doc, x_pass, x_brk, x_cont, x_set, x_unpack, x_par, x_app, x_ext, x_aug, x_expr, x_ite, x_ret, e_nil, e_var, e_cst, e_glob, e_tup, e_lst, e_call, e_bin, e_neg, e_not, e_cmp, e_chain, e_and, e_or, e_ife, e_f1, e_isi, e_idx, es_nil, es_cons, e', found, hs]
  · simp [x_raise, x_raiseX, x_try, h_none, h_some, h_nil, e_slf, e_slt, e_slb, e_exf, x_nil, x_cons, x_doc, x_pass, x_brk, x_cont, x_set, x_unpack, x_par, x_app, x_ext, x_aug, x_expr, x_ite, x_ret, e_nil, e_var, e_cst, e_glob, e_tup, e_lst, e_call, e_bin, e_neg, e_not, e_cmp, e_chain, e_and, e_or, e_ife, e_f1, e_isi, e_idx, es_nil, es_cons, e', found, hs]
theorem looked_ok {c : Nat} (hiw : ds[iw]? = some is_within) (hpo : ds[po]? = some (places_of iw pp pq)) (hpp : ds[pp]? = some (places_put po)) (hpq : ds[pq]? = some (places_round po)) (hte : ds[te]? = some (is_term po)) (hlk : ds[lk]? = some (looked te c)) (t : Tm) (h : t.wf) (n : Nat) (hn : 2 * t.dp + 4 ≤ n) :
    callF ds n lk [t.d] = if t.sz ≤ 60 then ok t.d else exc c (.dict []) := by
  obtain ⟨n, rfl⟩ : ∃ k, n = k + 1 := ⟨n - 1, by omega⟩
  have e := is_term_any hiw hpo hpp hpq hte t h n (by omega)
  rw [run_at hlk _ _ rfl]
  by_cases hs : t.sz ≤ 60
  · simp only [x_raise, x_raiseX, x_try, h_none, h_some, h_nil, e_slf, e_slt, e_slb, e_exf, x_nil, x_cons, x_doc, x_pass, x_brk, x_cont, x_set, x_unpack, x_par, x_app, x_ext, x_aug, x_expr, x_ite, x_ret, e_nil, e_var, e_cst, e_glob, e_tup, e_lst, e_call, e_bin, e_neg, e_not, e_cmp, e_chain, e_and, e_or, e_ife, e_f1, e_isi, e_idx, es_nil, es_cons, tryK_exc, tryK_rt, tryK_nx, clK_t, clK_f, leaveS_rt, leaveS_nx, Out.calm_rt, Out.calm_nx, part_i, isi_x, isi_v, cut1, cutR_l, cutR_t, List.drop, out_rt_seq, ofOut_out_rt, R.bind_ok, R.bind_exc, R.bind_stuck, R.calm_ok, R.calm_exc, R.calm_stuck, R.map_ok, R.map_exc, R.map_stuck, R.out_ok, R.out_exc, R.out_stuck, Out.seq_nx, Out.seq_rt, Out.seq_bk, Out.seq_ct, Out.seq_exc, Out.seq_stuck, eqv_ii, eqv_ss, eqv_tt, eqv_ll, eqv_bb, eqv_it, eqv_ti, eqv_is, eqv_si, eqv_ts, eqv_st, eqv_tn, eqv_nt, eqv_tl, eqv_lt, eqvAll_nn, eqvAll_cc, eqvAll_nc, eqvAll_cn, eqR_ii, eqR_ss, eqR_bb, nth0, nth1, nth2, nth3, truthy_b, truthy_t, truthy_l, truthy_n, truthy_i, cmp_eq, cmp_ne, cmp_lt, cmp_le, cmp_gt, cmp_ge, cmp_is_nn, cmp_is_tn, cmp_is_ln, cmp_is_in, cmp_is_sn, cmp_isnot_nn, cmp_isnot_tn, cmp_isnot_ln, cmp_isnot_in, cmp_isnot_sn, isi_tt, isi_tl, isi_ti, isi_tb, isi_ts, isi_tn, isi_ii, isi_ib, isi_it, isi_il, isi_is, isi_in, isi_bb, isi_bi, isi_ss, isi_st, isi_si, isi_ll, isi_lt, len_t, len_l, tup_l, tup_t, list_l, list_t, sub_ii, add_ii, idx_t, idx_l, walk_t, walk_l, iteF_t, iteF_f, andK_t, andK_f, orK_t, orK_f, ifeK_t, ifeK_f, chK_t, chK_f, setO_some, getS_0, getS_s, ofOut_rt, ofOut_nx, ofOut_exc, List.set, List.map_cons, List.map_nil, List.cons_append, List.nil_append, List.replicate, decide_true, decide_false, Nat.reduceSub, Nat.reduceAdd, List.length_cons, List.length_nil, Bool.not_true, Bool.not_false, Bool.and_true, Bool.and_false, Bool.true_and, Bool.false_and, List.isEmpty_cons, List.isEmpty_nil, reduceIte, Bool.false_eq_true, if_false, if_true, true_and, and_true, e, hs]
  · simp only [x_raise, x_raiseX, x_try, h_none, h_some, h_nil, e_slf, e_slt, e_slb, e_exf, x_nil, x_cons, x_doc, x_pass, x_brk, x_cont, x_set, x_unpack, x_par, x_app, x_ext, x_aug, x_expr, x_ite, x_ret, e_nil, e_var, e_cst, e_glob, e_tup, e_lst, e_call, e_bin, e_neg, e_not, e_cmp, e_chain, e_and, e_or, e_ife, e_f1, e_isi, e_idx, es_nil, es_cons, tryK_exc, tryK_rt, tryK_nx, clK_t, clK_f, leaveS_rt, leaveS_nx, Out.calm_rt, Out.calm_nx, part_i, isi_x, isi_v, cut1, cutR_l, cutR_t, List.drop, out_rt_seq, ofOut_out_rt, R.bind_ok, R.bind_exc, R.bind_stuck, R.calm_ok, R.calm_exc, R.calm_stuck, R.map_ok, R.map_exc, R.map_stuck, R.out_ok, R.out_exc, R.out_stuck, Out.seq_nx, Out.seq_rt, Out.seq_bk, Out.seq_ct, Out.seq_exc, Out.seq_stuck, eqv_ii, eqv_ss, eqv_tt, eqv_ll, eqv_bb, eqv_it, eqv_ti, eqv_is, eqv_si, eqv_ts, eqv_st, eqv_tn, eqv_nt, eqv_tl, eqv_lt, eqvAll_nn, eqvAll_cc, eqvAll_nc, eqvAll_cn, eqR_ii, eqR_ss, eqR_bb, nth0, nth1, nth2, nth3, truthy_b, truthy_t, truthy_l, truthy_n, truthy_i, cmp_eq, cmp_ne, cmp_lt, cmp_le, cmp_gt, cmp_ge, cmp_is_nn, cmp_is_tn, cmp_is_ln, cmp_is_in, cmp_is_sn, cmp_isnot_nn, cmp_isnot_tn, cmp_isnot_ln, cmp_isnot_in, cmp_isnot_sn, isi_tt, isi_tl, isi_ti, isi_tb, isi_ts, isi_tn, isi_ii, isi_ib, isi_it, isi_il, isi_is, isi_in, isi_bb, isi_bi, isi_ss, isi_st, isi_si, isi_ll, isi_lt, len_t, len_l, tup_l, tup_t, list_l, list_t, sub_ii, add_ii, idx_t, idx_l, walk_t, walk_l, iteF_t, iteF_f, andK_t, andK_f, orK_t, orK_f, ifeK_t, ifeK_f, chK_t, chK_f, setO_some, getS_0, getS_s, ofOut_rt, ofOut_nx, ofOut_exc, List.set, List.map_cons, List.map_nil, List.cons_append, List.nil_append, List.replicate, decide_true, decide_false, Nat.reduceSub, Nat.reduceAdd, List.length_cons, List.length_nil, Bool.not_true, Bool.not_false, Bool.and_true, Bool.and_false, Bool.true_and, Bool.false_and, List.isEmpty_cons, List.isEmpty_nil, reduceIte, Bool.false_eq_true, if_false, if_true, true_and, and_true, e, hs]
end
end Pyr

namespace Pyr
open PySem B
open R (ok exc stuck)
/-! # part and changed, of anything -/
section
variable {ds : List Def} {iw po pp pq te ck pr pa pt mo wp lk ar cg cW cT cB : Nat} {rsC : S} (hiw : ds[iw]? = some is_within) (hpo : ds[po]? = some (places_of iw pp pq)) (hpp : ds[pp]? = some (places_put po)) (hpq : ds[pq]? = some (places_round po)) (hte : ds[te]? = some (is_term po))
  (hpr : ds[pr]? = some _law_parts) (hpa : ds[pa]? = some (part_at iw pr)) (hpt : ds[pt]? = some (part ck pa cW))
/-- a thing that leads to no part -/
def NoPart (t : Tm) (x : D) : Prop := isiR .tuple x = ok false ∨ ∃ xs, x = .tuple xs ∧ (∀ y ∈ xs, plainD y = true) ∧ atD xs t = none
theorem plain_nats (w : List Nat) (xs : List D) (h : ∀ y ∈ xs, plainD y = true) : ∀ y ∈ (w.map fun (n : Nat) => PyData.int n) ++ xs, plainD y = true := by
  intro y hy
  rcases List.mem_append.mp hy with hy | hy
  · obtain ⟨k, _, rfl⟩ := List.mem_map.mp hy
    rfl
  · exact h y hy
theorem no_way_behind {t u : Tm} {w : List Nat} {x : D} (hu : atT w t = some u) (hp : plainD x = true) (h : atD [x] u = none) : NoPart t (.tuple ((w.map fun (n : Nat) => PyData.int n) ++ [x])) := by
  refine .inr ⟨_, rfl, plain_nats w [x] (fun y hy => by rw [List.mem_singleton.mp hy]; exact hp), ?_⟩
  rw [atD_app, hu]
  exact h
theorem ninth {t : Tm} (h : t.wf) (xs : List D) : atD (.int 9 :: xs) t = none := by
  have := parts_len h
  simp only [atD]
  rw [if_pos (by decide), List.getElem?_eq_none (show t.parts.length ≤ (9 : Int).toNat by have : (9 : Int).toNat = 9 := rfl; omega)]
  rfl
section
variable (hck : ds[ck]? = some (checked te rsC))
include hiw hpo hpp hpq hte hck hpr hpa hpt in
theorem part_no (n : Nat) (t : Tm) (ht : t.wf) (hs : t.sz ≤ 60) (hn : 2 * t.dp + 5 ≤ n) (x : D) (h : NoPart t x) : callF ds n pt [t.d, x] = exc cW (.dict [(.str w_way, x)]) := by
  obtain ⟨m, rfl⟩ : ∃ m, n = m + 3 := ⟨n - 3, by omega⟩
  refine part_call_ok hiw hpo hpp hpq hte hck hpr hpa hpt (m + 3) t ht hs hn x none ?_
  rcases h with h | ⟨xs, rfl, h1, h2⟩
  · exact part_at_odd hpa _ t x h
  · have := part_at_ok hiw hpr hpa m t xs h1 (by omega)
    rw [h2] at this
    exact this
include hiw hpo hpp hpq hte hck hpr hpa hpt in
theorem part_yes (n : Nat) (t u : Tm) (ht : t.wf) (hs : t.sz ≤ 60) (hn : 2 * t.dp + 5 ≤ n) (w : List Nat) (h : atT w t = some u) : callF ds n pt [t.d, wayD w] = ok u.d := by
  obtain ⟨m, rfl⟩ : ∃ m, n = m + 3 := ⟨n - 3, by omega⟩
  refine part_call_ok hiw hpo hpp hpq hte hck hpr hpa hpt (m + 3) t ht hs hn (wayD w) (some u) ?_
  have := part_at_ok hiw hpr hpa m t (w.map fun (n : Nat) => PyData.int n) (fun y hy => by
    obtain ⟨k, _, rfl⟩ := List.mem_map.mp hy
    rfl) (by omega)
  rw [atD_nat, h] at this
  exact this
end
variable (hck : ds[ck]? = some (checked te (.raise cT .nil))) (har : ds[ar]? = some (arity po ck))
include hte in
theorem is_term_no {x : D} (n : Nat) (h : callF ds n po [x, .int 60] = ok .none) : callF ds (n + 1) te [x] = ok (.bool false) := by
  rw [run_at hte _ _ rfl]
  simp [x_raise, x_raiseX, x_try, h_none, h_some, h_nil, e_slf, e_slt, e_slb, e_exf, x_nil, x_cons, x_doc, x_pass, x_brk, x_cont, x_set, x_unpack, x_par, x_app, x_ext, x_aug, x_expr, x_ite, x_ret, e_nil, e_var, e_cst, e_glob, e_tup, e_lst, e_call, e_bin, e_neg, e_not, e_cmp, e_chain, e_and, e_or, e_ife, e_f1, e_isi, e_idx, es_nil, es_cons, h]
include hte hck in
theorem checked_no {x : D} (n : Nat) (h : callF ds n po [x, .int 60] = ok .none) : callF ds (n + 2) ck [x] = exc cT (.dict []) := by
  have := is_term_no hte n h
  rw [run_at hck _ _ rfl]
  simp only [x_raise, x_raiseX, x_try, h_none, h_some, h_nil, e_slf, e_slt, e_slb, e_exf, x_nil, x_cons, x_doc, x_pass, x_brk, x_cont, x_set, x_unpack, x_par, x_app, x_ext, x_aug, x_expr, x_ite, x_ret, e_nil, e_var, e_cst, e_glob, e_tup, e_lst, e_call, e_bin, e_neg, e_not, e_cmp, e_chain, e_and, e_or, e_ife, e_f1, e_isi, e_idx, es_nil, es_cons, tryK_exc, tryK_rt, tryK_nx, clK_t, clK_f, leaveS_rt, leaveS_nx, Out.calm_rt, Out.calm_nx, part_i, isi_x, isi_v, cut1, cutR_l, cutR_t, List.drop, out_rt_seq, ofOut_out_rt, R.bind_ok, R.bind_exc, R.bind_stuck, R.calm_ok, R.calm_exc, R.calm_stuck, R.map_ok, R.map_exc, R.map_stuck, R.out_ok, R.out_exc, R.out_stuck, Out.seq_nx, Out.seq_rt, Out.seq_bk, Out.seq_ct, Out.seq_exc, Out.seq_stuck, eqv_ii, eqv_ss, eqv_tt, eqv_ll, eqv_bb, eqv_it, eqv_ti, eqv_is, eqv_si, eqv_ts, eqv_st, eqv_tn, eqv_nt, eqv_tl, eqv_lt, eqvAll_nn, eqvAll_cc, eqvAll_nc, eqvAll_cn, eqR_ii, eqR_ss, eqR_bb, nth0, nth1, nth2, nth3, truthy_b, truthy_t, truthy_l, truthy_n, truthy_i, cmp_eq, cmp_ne, cmp_lt, cmp_le, cmp_gt, cmp_ge, cmp_is_nn, cmp_is_tn, cmp_is_ln, cmp_is_in, cmp_is_sn, cmp_isnot_nn, cmp_isnot_tn, cmp_isnot_ln, cmp_isnot_in, cmp_isnot_sn, isi_tt, isi_tl, isi_ti, isi_tb, isi_ts, isi_tn, isi_ii, isi_ib, isi_it, isi_il, isi_is, isi_in, isi_bb, isi_bi, isi_ss, isi_st, isi_si, isi_ll, isi_lt, len_t, len_l, tup_l, tup_t, list_l, list_t, sub_ii, add_ii, idx_t, idx_l, walk_t, walk_l, iteF_t, iteF_f, andK_t, andK_f, orK_t, orK_f, ifeK_t, ifeK_f, chK_t, chK_f, setO_some, getS_0, getS_s, ofOut_rt, ofOut_nx, ofOut_exc, List.set, List.map_cons, List.map_nil, List.cons_append, List.nil_append, List.replicate, decide_true, decide_false, Nat.reduceSub, Nat.reduceAdd, List.length_cons, List.length_nil, Bool.not_true, Bool.not_false, Bool.and_true, Bool.and_false, Bool.true_and, Bool.false_and, List.isEmpty_cons, List.isEmpty_nil, reduceIte, Bool.false_eq_true, if_false, if_true, true_and, and_true, this]
include hte hck har in
theorem arity_no {x : D} (n : Nat) (h : callF ds n po [x, .int 60] = ok .none) : callF ds (n + 3) ar [x] = exc cT (.dict []) := by
  have := checked_no hte hck n h
  rw [run_at har _ _ rfl]
  simp only [x_raise, x_raiseX, x_try, h_none, h_some, h_nil, e_slf, e_slt, e_slb, e_exf, x_nil, x_cons, x_doc, x_pass, x_brk, x_cont, x_set, x_unpack, x_par, x_app, x_ext, x_aug, x_expr, x_ite, x_ret, e_nil, e_var, e_cst, e_glob, e_tup, e_lst, e_call, e_bin, e_neg, e_not, e_cmp, e_chain, e_and, e_or, e_ife, e_f1, e_isi, e_idx, es_nil, es_cons, tryK_exc, tryK_rt, tryK_nx, clK_t, clK_f, leaveS_rt, leaveS_nx, Out.calm_rt, Out.calm_nx, part_i, isi_x, isi_v, cut1, cutR_l, cutR_t, List.drop, out_rt_seq, ofOut_out_rt, R.bind_ok, R.bind_exc, R.bind_stuck, R.calm_ok, R.calm_exc, R.calm_stuck, R.map_ok, R.map_exc, R.map_stuck, R.out_ok, R.out_exc, R.out_stuck, Out.seq_nx, Out.seq_rt, Out.seq_bk, Out.seq_ct, Out.seq_exc, Out.seq_stuck, eqv_ii, eqv_ss, eqv_tt, eqv_ll, eqv_bb, eqv_it, eqv_ti, eqv_is, eqv_si, eqv_ts, eqv_st, eqv_tn, eqv_nt, eqv_tl, eqv_lt, eqvAll_nn, eqvAll_cc, eqvAll_nc, eqvAll_cn, eqR_ii, eqR_ss, eqR_bb, nth0, nth1, nth2, nth3, truthy_b, truthy_t, truthy_l, truthy_n, truthy_i, cmp_eq, cmp_ne, cmp_lt, cmp_le, cmp_gt, cmp_ge, cmp_is_nn, cmp_is_tn, cmp_is_ln, cmp_is_in, cmp_is_sn, cmp_isnot_nn, cmp_isnot_tn, cmp_isnot_ln, cmp_isnot_in, cmp_isnot_sn, isi_tt, isi_tl, isi_ti, isi_tb, isi_ts, isi_tn, isi_ii, isi_ib, isi_it, isi_il, isi_is, isi_in, isi_bb, isi_bi, isi_ss, isi_st, isi_si, isi_ll, isi_lt, len_t, len_l, tup_l, tup_t, list_l, list_t, sub_ii, add_ii, idx_t, idx_l, walk_t, walk_l, iteF_t, iteF_f, andK_t, andK_f, orK_t, orK_f, ifeK_t, ifeK_f, chK_t, chK_f, setO_some, getS_0, getS_s, ofOut_rt, ofOut_nx, ofOut_exc, List.set, List.map_cons, List.map_nil, List.cons_append, List.nil_append, List.replicate, decide_true, decide_false, Nat.reduceSub, Nat.reduceAdd, List.length_cons, List.length_nil, Bool.not_true, Bool.not_false, Bool.and_true, Bool.and_false, Bool.true_and, Bool.false_and, List.isEmpty_cons, List.isEmpty_nil, reduceIte, Bool.false_eq_true, if_false, if_true, true_and, and_true, this]
variable (hmo : ds[mo]? = some made_of) (hwp : ds[wp]? = some (with_part pr mo wp)) (hlk : ds[lk]? = some (looked te cB)) (hcg : ds[cg]? = some (changed ar pt wp lk cT))
include hiw hpo hpp hpq hte hck hpr hpa hpt hcg in
theorem changed_noway (n : Nat) (t : Tm) (ht : t.wf) (hs : t.sz ≤ 60) (hn : 2 * t.dp + 6 ≤ n) (x o : D) (h : NoPart t x) : callF ds n cg [t.d, x, o] = exc cW (.dict [(.str w_way, x)]) := by
  obtain ⟨n, rfl⟩ : ∃ m, n = m + 1 := ⟨n - 1, by omega⟩
  have := part_no hiw hpo hpp hpq hte hpr hpa hpt hck n t ht hs (by omega) x h
  rw [run_at hcg _ _ rfl]
  simp only [x_raise, x_raiseX, x_try, h_none, h_some, h_nil, e_slf, e_slt, e_slb, e_exf, x_nil, x_cons, x_doc, x_pass, x_brk, x_cont, x_set, x_unpack, x_par, x_app, x_ext, x_aug, x_expr, x_ite, x_ret, e_nil, e_var, e_cst, e_glob, e_tup, e_lst, e_call, e_bin, e_neg, e_not, e_cmp, e_chain, e_and, e_or, e_ife, e_f1, e_isi, e_idx, es_nil, es_cons, tryK_exc, tryK_rt, tryK_nx, clK_t, clK_f, leaveS_rt, leaveS_nx, Out.calm_rt, Out.calm_nx, part_i, isi_x, isi_v, cut1, cutR_l, cutR_t, List.drop, out_rt_seq, ofOut_out_rt, R.bind_ok, R.bind_exc, R.bind_stuck, R.calm_ok, R.calm_exc, R.calm_stuck, R.map_ok, R.map_exc, R.map_stuck, R.out_ok, R.out_exc, R.out_stuck, Out.seq_nx, Out.seq_rt, Out.seq_bk, Out.seq_ct, Out.seq_exc, Out.seq_stuck, eqv_ii, eqv_ss, eqv_tt, eqv_ll, eqv_bb, eqv_it, eqv_ti, eqv_is, eqv_si, eqv_ts, eqv_st, eqv_tn, eqv_nt, eqv_tl, eqv_lt, eqvAll_nn, eqvAll_cc, eqvAll_nc, eqvAll_cn, eqR_ii, eqR_ss, eqR_bb, nth0, nth1, nth2, nth3, truthy_b, truthy_t, truthy_l, truthy_n, truthy_i, cmp_eq, cmp_ne, cmp_lt, cmp_le, cmp_gt, cmp_ge, cmp_is_nn, cmp_is_tn, cmp_is_ln, cmp_is_in, cmp_is_sn, cmp_isnot_nn, cmp_isnot_tn, cmp_isnot_ln, cmp_isnot_in, cmp_isnot_sn, isi_tt, isi_tl, isi_ti, isi_tb, isi_ts, isi_tn, isi_ii, isi_ib, isi_it, isi_il, isi_is, isi_in, isi_bb, isi_bi, isi_ss, isi_st, isi_si, isi_ll, isi_lt, len_t, len_l, tup_l, tup_t, list_l, list_t, sub_ii, add_ii, idx_t, idx_l, walk_t, walk_l, iteF_t, iteF_f, andK_t, andK_f, orK_t, orK_f, ifeK_t, ifeK_f, chK_t, chK_f, setO_some, getS_0, getS_s, ofOut_rt, ofOut_nx, ofOut_exc, List.set, List.map_cons, List.map_nil, List.cons_append, List.nil_append, List.replicate, decide_true, decide_false, Nat.reduceSub, Nat.reduceAdd, List.length_cons, List.length_nil, Bool.not_true, Bool.not_false, Bool.and_true, Bool.and_false, Bool.true_and, Bool.false_and, List.isEmpty_cons, List.isEmpty_nil, reduceIte, Bool.false_eq_true, if_false, if_true, true_and, and_true, this]
include hiw hpo hpp hpq hte hck har hpr hpa hpt hcg in
theorem changed_no (n : Nat) (t u : Tm) (ht : t.wf) (hs : t.sz ≤ 60) (hn : 2 * t.dp + 2 ≤ n) (w : List Nat) (hu : atT w t = some u) (o : D) (h : callF ds n po [o, .int 60] = ok .none) : callF ds (n + 4) cg [t.d, wayD w, o] = exc cT (.dict []) := by
  have := part_yes hiw hpo hpp hpq hte hpr hpa hpt hck (n + 3) t u ht hs (by omega) w hu
  have h2 := arity_no hte hck har n h
  rw [run_at hcg _ _ rfl]
  simp only [x_raise, x_raiseX, x_try, h_none, h_some, h_nil, e_slf, e_slt, e_slb, e_exf, x_nil, x_cons, x_doc, x_pass, x_brk, x_cont, x_set, x_unpack, x_par, x_app, x_ext, x_aug, x_expr, x_ite, x_ret, e_nil, e_var, e_cst, e_glob, e_tup, e_lst, e_call, e_bin, e_neg, e_not, e_cmp, e_chain, e_and, e_or, e_ife, e_f1, e_isi, e_idx, es_nil, es_cons, tryK_exc, tryK_rt, tryK_nx, clK_t, clK_f, leaveS_rt, leaveS_nx, Out.calm_rt, Out.calm_nx, part_i, isi_x, isi_v, cut1, cutR_l, cutR_t, List.drop, out_rt_seq, ofOut_out_rt, R.bind_ok, R.bind_exc, R.bind_stuck, R.calm_ok, R.calm_exc, R.calm_stuck, R.map_ok, R.map_exc, R.map_stuck, R.out_ok, R.out_exc, R.out_stuck, Out.seq_nx, Out.seq_rt, Out.seq_bk, Out.seq_ct, Out.seq_exc, Out.seq_stuck, eqv_ii, eqv_ss, eqv_tt, eqv_ll, eqv_bb, eqv_it, eqv_ti, eqv_is, eqv_si, eqv_ts, eqv_st, eqv_tn, eqv_nt, eqv_tl, eqv_lt, eqvAll_nn, eqvAll_cc, eqvAll_nc, eqvAll_cn, eqR_ii, eqR_ss, eqR_bb, nth0, nth1, nth2, nth3, truthy_b, truthy_t, truthy_l, truthy_n, truthy_i, cmp_eq, cmp_ne, cmp_lt, cmp_le, cmp_gt, cmp_ge, cmp_is_nn, cmp_is_tn, cmp_is_ln, cmp_is_in, cmp_is_sn, cmp_isnot_nn, cmp_isnot_tn, cmp_isnot_ln, cmp_isnot_in, cmp_isnot_sn, isi_tt, isi_tl, isi_ti, isi_tb, isi_ts, isi_tn, isi_ii, isi_ib, isi_it, isi_il, isi_is, isi_in, isi_bb, isi_bi, isi_ss, isi_st, isi_si, isi_ll, isi_lt, len_t, len_l, tup_l, tup_t, list_l, list_t, sub_ii, add_ii, idx_t, idx_l, walk_t, walk_l, iteF_t, iteF_f, andK_t, andK_f, orK_t, orK_f, ifeK_t, ifeK_f, chK_t, chK_f, setO_some, getS_0, getS_s, ofOut_rt, ofOut_nx, ofOut_exc, List.set, List.map_cons, List.map_nil, List.cons_append, List.nil_append, List.replicate, decide_true, decide_false, Nat.reduceSub, Nat.reduceAdd, List.length_cons, List.length_nil, Bool.not_true, Bool.not_false, Bool.and_true, Bool.and_false, Bool.true_and, Bool.false_and, List.isEmpty_cons, List.isEmpty_nil, reduceIte, Bool.false_eq_true, if_false, if_true, true_and, and_true, this, h2]
include hiw hpo hpp hpq hte hck har hpr hpa hpt hcg hmo hwp hlk in
theorem changed_ok (n : Nat) (t u o : Tm) (ht : t.wf) (hs : t.sz ≤ 60) (ho : o.wf) (hso : o.sz ≤ 60) (w : List Nat) (hu : atT w t = some u) (hn : 2 * t.dp + 2 * w.length + 2 * o.dp + 6 ≤ n) :
    callF ds n cg [t.d, wayD w, o.d] = if o.ar = u.ar then (if (withT w t o).sz ≤ 60 then ok (withT w t o).d else exc cB (.dict [])) else exc cT (.dict []) := by
  obtain ⟨n, rfl⟩ : ∃ m, n = m + 1 := ⟨n - 1, by omega⟩
  have A := at_ok _ _ _ hu
  have wl := A.dp
  have wz := A.sz
  have p1 := part_yes hiw hpo hpp hpq hte hpr hpa hpt hck n t u ht hs (by omega) w hu
  have p2 := arity_ok hiw hpo hpp hpq hte hck har u (A.wf ht) (by omega) n (by omega)
  have p3 := arity_ok hiw hpo hpp hpq hte hck har o ho hso n (by omega)
  rw [run_at hcg _ _ rfl]
  by_cases e : o.ar = u.ar
  · have W := with_ok w t u o ht ho hu e
    have w4 := W.dp
    have p4 := with_part_ok hpr hmo hwp o.d w t (by rw [hu]; rfl) (by omega) n (by omega)
    rw [withD_d] at p4
    have p5 := looked_ok hiw hpo hpp hpq hte hlk (withT w t o) W.wf n (by
      rcases Nat.le_total t.dp (w.length + o.dp) with h | h <;> omega)
    have ec : ((o.ar : Int) = (u.ar : Int)) = True := eq_true (by omega)
    rw [if_pos e]
    by_cases f : (withT w t o).sz ≤ 60
    · rw [if_pos f] at p5 ⊢
      simp only [x_raise, x_raiseX, x_try, h_none, h_some, h_nil, e_slf, e_slt, e_slb, e_exf, x_nil, x_cons, x_doc, x_pass, x_brk, x_cont, x_set, x_unpack, x_par, x_app, x_ext, x_aug, x_expr, x_ite, x_ret, e_nil, e_var, e_cst, e_glob, e_tup, e_lst, e_call, e_bin, e_neg, e_not, e_cmp, e_chain, e_and, e_or, e_ife, e_f1, e_isi, e_idx, es_nil, es_cons, tryK_exc, tryK_rt, tryK_nx, clK_t, clK_f, leaveS_rt, leaveS_nx, Out.calm_rt, Out.calm_nx, part_i, isi_x, isi_v, cut1, cutR_l, cutR_t, List.drop, out_rt_seq, ofOut_out_rt, R.bind_ok, R.bind_exc, R.bind_stuck, R.calm_ok, R.calm_exc, R.calm_stuck, R.map_ok, R.map_exc, R.map_stuck, R.out_ok, R.out_exc, R.out_stuck, Out.seq_nx, Out.seq_rt, Out.seq_bk, Out.seq_ct, Out.seq_exc, Out.seq_stuck, eqv_ii, eqv_ss, eqv_tt, eqv_ll, eqv_bb, eqv_it, eqv_ti, eqv_is, eqv_si, eqv_ts, eqv_st, eqv_tn, eqv_nt, eqv_tl, eqv_lt, eqvAll_nn, eqvAll_cc, eqvAll_nc, eqvAll_cn, eqR_ii, eqR_ss, eqR_bb, nth0, nth1, nth2, nth3, truthy_b, truthy_t, truthy_l, truthy_n, truthy_i, cmp_eq, cmp_ne, cmp_lt, cmp_le, cmp_gt, cmp_ge, cmp_is_nn, cmp_is_tn, cmp_is_ln, cmp_is_in, cmp_is_sn, cmp_isnot_nn, cmp_isnot_tn, cmp_isnot_ln, cmp_isnot_in, cmp_isnot_sn, isi_tt, isi_tl, isi_ti, isi_tb, isi_ts, isi_tn, isi_ii, isi_ib, isi_it, isi_il, isi_is, isi_in, isi_bb, isi_bi, isi_ss, isi_st, isi_si, isi_ll, isi_lt, len_t, len_l, tup_l, tup_t, list_l, list_t, sub_ii, add_ii, idx_t, idx_l, walk_t, walk_l, iteF_t, iteF_f, andK_t, andK_f, orK_t, orK_f, ifeK_t, ifeK_f, chK_t, chK_f, setO_some, getS_0, getS_s, ofOut_rt, ofOut_nx, ofOut_exc, List.set, List.map_cons, List.map_nil, List.cons_append, List.nil_append, List.replicate, decide_true, decide_false, Nat.reduceSub, Nat.reduceAdd, List.length_cons, List.length_nil, Bool.not_true, Bool.not_false, Bool.and_true, Bool.and_false, Bool.true_and, Bool.false_and, List.isEmpty_cons, List.isEmpty_nil, reduceIte, Bool.false_eq_true, if_false, if_true, true_and, and_true, p1, p2, p3, p4, p5, ec]
    · rw [if_neg f] at p5 ⊢
      simp only [x_raise, x_raiseX, x_try, h_none, h_some, h_nil, e_slf, e_slt, e_slb, e_exf, x_nil, x_cons, x_doc, x_pass, x_brk, x_cont, x_set, x_unpack, x_par, x_app, x_ext, x_aug, x_expr, x_ite, x_ret, e_nil, e_var, e_cst, e_glob, e_tup, e_lst, e_call, e_bin, e_neg, e_not, e_cmp, e_chain, e_and, e_or, e_ife, e_f1, e_isi, e_idx, es_nil, es_cons, tryK_exc, tryK_rt, tryK_nx, clK_t, clK_f, leaveS_rt, leaveS_nx, Out.calm_rt, Out.calm_nx, part_i, isi_x, isi_v, cut1, cutR_l, cutR_t, List.drop, out_rt_seq, ofOut_out_rt, R.bind_ok, R.bind_exc, R.bind_stuck, R.calm_ok, R.calm_exc, R.calm_stuck, R.map_ok, R.map_exc, R.map_stuck, R.out_ok, R.out_exc, R.out_stuck, Out.seq_nx, Out.seq_rt, Out.seq_bk, Out.seq_ct, Out.seq_exc, Out.seq_stuck, eqv_ii, eqv_ss, eqv_tt, eqv_ll, eqv_bb, eqv_it, eqv_ti, eqv_is, eqv_si, eqv_ts, eqv_st, eqv_tn, eqv_nt, eqv_tl, eqv_lt, eqvAll_nn, eqvAll_cc, eqvAll_nc, eqvAll_cn, eqR_ii, eqR_ss, eqR_bb, nth0, nth1, nth2, nth3, truthy_b, truthy_t, truthy_l, truthy_n, truthy_i, cmp_eq, cmp_ne, cmp_lt, cmp_le, cmp_gt, cmp_ge, cmp_is_nn, cmp_is_tn, cmp_is_ln, cmp_is_in, cmp_is_sn, cmp_isnot_nn, cmp_isnot_tn, cmp_isnot_ln, cmp_isnot_in, cmp_isnot_sn, isi_tt, isi_tl, isi_ti, isi_tb, isi_ts, isi_tn, isi_ii, isi_ib, isi_it, isi_il, isi_is, isi_in, isi_bb, isi_bi, isi_ss, isi_st, isi_si, isi_ll, isi_lt, len_t, len_l, tup_l, tup_t, list_l, list_t, sub_ii, add_ii, idx_t, idx_l, walk_t, walk_l, iteF_t, iteF_f, andK_t, andK_f, orK_t, orK_f, ifeK_t, ifeK_f, chK_t, chK_f, setO_some, getS_0, getS_s, ofOut_rt, ofOut_nx, ofOut_exc, List.set, List.map_cons, List.map_nil, List.cons_append, List.nil_append, List.replicate, decide_true, decide_false, Nat.reduceSub, Nat.reduceAdd, List.length_cons, List.length_nil, Bool.not_true, Bool.not_false, Bool.and_true, Bool.and_false, Bool.true_and, Bool.false_and, List.isEmpty_cons, List.isEmpty_nil, reduceIte, Bool.false_eq_true, if_false, if_true, true_and, and_true, p1, p2, p3, p4, p5, ec]
  · have ec : ((o.ar : Int) = (u.ar : Int)) = False := eq_false (by omega)
    rw [if_neg e]
    simp only [x_raise, x_raiseX, x_try, h_none, h_some, h_nil, e_slf, e_slt, e_slb, e_exf, x_nil, x_cons, x_doc, x_pass, x_brk, x_cont, x_set, x_unpack, x_par, x_app, x_ext, x_aug, x_expr, x_ite, x_ret, e_nil, e_var, e_cst, e_glob, e_tup, e_lst, e_call, e_bin, e_neg, e_not, e_cmp, e_chain, e_and, e_or, e_ife, e_f1, e_isi, e_idx, es_nil, es_cons, tryK_exc, tryK_rt, tryK_nx, clK_t, clK_f, leaveS_rt, leaveS_nx, Out.calm_rt, Out.calm_nx, part_i, isi_x, isi_v, cut1, cutR_l, cutR_t, List.drop, out_rt_seq, ofOut_out_rt, R.bind_ok, R.bind_exc, R.bind_stuck, R.calm_ok, R.calm_exc, R.calm_stuck, R.map_ok, R.map_exc, R.map_stuck, R.out_ok, R.out_exc, R.out_stuck, Out.seq_nx, Out.seq_rt, Out.seq_bk, Out.seq_ct, Out.seq_exc, Out.seq_stuck, eqv_ii, eqv_ss, eqv_tt, eqv_ll, eqv_bb, eqv_it, eqv_ti, eqv_is, eqv_si, eqv_ts, eqv_st, eqv_tn, eqv_nt, eqv_tl, eqv_lt, eqvAll_nn, eqvAll_cc, eqvAll_nc, eqvAll_cn, eqR_ii, eqR_ss, eqR_bb, nth0, nth1, nth2, nth3, truthy_b, truthy_t, truthy_l, truthy_n, truthy_i, cmp_eq, cmp_ne, cmp_lt, cmp_le, cmp_gt, cmp_ge, cmp_is_nn, cmp_is_tn, cmp_is_ln, cmp_is_in, cmp_is_sn, cmp_isnot_nn, cmp_isnot_tn, cmp_isnot_ln, cmp_isnot_in, cmp_isnot_sn, isi_tt, isi_tl, isi_ti, isi_tb, isi_ts, isi_tn, isi_ii, isi_ib, isi_it, isi_il, isi_is, isi_in, isi_bb, isi_bi, isi_ss, isi_st, isi_si, isi_ll, isi_lt, len_t, len_l, tup_l, tup_t, list_l, list_t, sub_ii, add_ii, idx_t, idx_l, walk_t, walk_l, iteF_t, iteF_f, andK_t, andK_f, orK_t, orK_f, ifeK_t, ifeK_f, chK_t, chK_f, setO_some, getS_0, getS_s, ofOut_rt, ofOut_nx, ofOut_exc, List.set, List.map_cons, List.map_nil, List.cons_append, List.nil_append, List.replicate, decide_true, decide_false, Nat.reduceSub, Nat.reduceAdd, List.length_cons, List.length_nil, Bool.not_true, Bool.not_false, Bool.and_true, Bool.and_false, Bool.true_and, Bool.false_and, List.isEmpty_cons, List.isEmpty_nil, reduceIte, Bool.false_eq_true, if_false, if_true, true_and, and_true, p1, p2, p3, ec]
end
/-! ## next put on something -/
def nextsT (b : Tm) : Nat → Tm
  | 0 => b
  | k + 1 => .put .next [nextsT b k]
theorem nexts_facts (b : Tm) (hb : b.wf) : ∀ k, (nextsT b k).wf ∧ (0 < k → (nextsT b k).ar = b.ar) ∧ (nextsT b k).sz = b.sz + 2 * k ∧ (nextsT b k).dp = b.dp + k ∧ (nextsT b k).ar = b.ar
  | 0 => ⟨hb, fun h => (by omega), by simp only [nextsT]; omega, rfl, rfl⟩
  | k + 1 => by
    obtain ⟨h1, _, h3, h4, h5⟩ := nexts_facts b hb k
    have ea : (nextsT b (k + 1)).ar = b.ar := h5
    refine ⟨?_, fun _ => ea, ?_, ?_, ea⟩
    · simp only [nextsT, Tm.wf, Tm.wfs]
      exact ⟨trivial, by simp, by simp [Tm.ar], ⟨h1, trivial⟩, fun t ht => by rw [List.mem_singleton.mp ht]; simp only [Tm.ar]⟩
    · simp only [nextsT, Tm.sz, Tm.szs, h3]; omega
    · simp only [nextsT, Tm.dp, Tm.dps, h4]; omega
section
variable {ds : List Def} {iw po pp pq ce ro le gr ot : Nat} (hiw : ds[iw]? = some is_within) (hpo : ds[po]? = some (places_of iw pp pq)) (hpp : ds[pp]? = some (places_put po)) (hpq : ds[pq]? = some (places_round po))
include hpp hpo hiw hpq in
theorem two_put_no (n : Nat) (x : D) : callF ds (n + 3) po [.tuple [.str w_put, .tuple [.str w_next], .tuple [x, x]], .int 60] = ok .none := by
  have h1 : callF ds (n + 1) po [.tuple [.str w_next], .int ((59 : Nat) : Int)] = ok (found .next 59) := places_next hpo n 59 (by decide)
  have h1 : callF ds (n + 1) po [.tuple [.str w_next], .int 59] = ok (.tuple [.int 1, .int 58]) := h1
  have h2 : callF ds (n + 2) pp [.tuple [.str w_put, .tuple [.str w_next], .tuple [x, x]], .int 59] = ok .none := by
    rw [run_at hpp _ _ rfl]
    simp [x_raise, x_raiseX, x_try, h_none, h_some, h_nil, e_slf, e_slt, e_slb, e_exf, x_nil, x_cons, x_doc, x_pass, x_brk, x_cont, x_set, x_unpack, x_par, x_app, x_ext, x_aug, x_expr, x_ite, x_ret, e_nil, e_var, e_cst, e_glob, e_tup, e_lst, e_call, e_bin, e_neg, e_not, e_cmp, e_chain, e_and, e_or, e_ife, e_f1, e_isi, e_idx, es_nil, es_cons, h1]
  rw [run_at hpo _ _ rfl]
  have h3 : eqR (.tuple [.str w_put, .tuple [.str w_next], .tuple [x, x]]) (.tuple [.str w_next]) = ok false := by
    rw [eqR_d _ _ (.inr (by decide))]
    simp [w1, w2, w3, w4, w5, w6, w7, w8, w9, w10, w11, w12, w13, w14, w15, w16, w17, w18, w19, w20]
  simp [x_raise, x_raiseX, x_try, h_none, h_some, h_nil, e_slf, e_slt, e_slb, e_exf, x_nil, x_cons, x_doc, x_pass, x_brk, x_cont, x_set, x_unpack, x_par, x_app, x_ext, x_aug, x_expr, x_ite, x_ret, e_nil, e_var, e_cst, e_glob, e_tup, e_lst, e_call, e_bin, e_neg, e_not, e_cmp, e_chain, e_and, e_or, e_ife, e_f1, e_isi, e_idx, es_nil, es_cons, w1, w2, w3, w4, w5, w6, w7, w8, w9, w10, w11, w12, w13, w14, w15, w16, w17, w18, w19, w20, h2, h3]
end
end Pyr

namespace Pyr
open PySem B
open R (ok exc stuck)
/-! # Things that are no functions -/
def IsTm (d : D) : Prop := ∃ t : Tm, t.wf ∧ d = t.d
/-- no dicts on the way, so deep -/
def Dk : Nat → D → Prop
  | 0, d => plainD d = true ∧ (∀ xs, d = .tuple xs → ∀ x ∈ xs, plainD x = true) ∧ (∀ w a b, d = .tuple [w, a, b] → w ≠ .str w_put ∧ w ≠ .str w_round)
  | k + 1, d => plainD d = true ∧ (∀ xs, d = .tuple xs → ∀ x ∈ xs, plainD x = true) ∧ (∀ w a b, d = .tuple [w, a, b] → (w = .str w_put ∨ w = .str w_round → Dk k a) ∧ (w = .str w_round → Dk k b) ∧ (w = .str w_put → ∀ is, b = .tuple is → is.length ≤ 1000 ∧ ∀ x ∈ is, Dk k x))
theorem Dk.plain : ∀ {k : Nat} {d : D}, Dk k d → plainD d = true
  | 0, _, h => h.1
  | _ + 1, _, h => h.1
theorem Dk.all : ∀ {k : Nat} {d : D}, Dk k d → ∀ xs, d = .tuple xs → ∀ x ∈ xs, plainD x = true
  | 0, _, h => h.2.1
  | _ + 1, _, h => h.2.1
theorem Dk.up : ∀ {k : Nat} {d : D}, Dk k d → Dk (k + 1) d
  | 0, _, h => ⟨h.1, h.2.1, fun w a b e => by
    obtain ⟨h1, h2⟩ := h.2.2 w a b e
    exact ⟨fun z => (by rcases z with z | z; exact (h1 z).elim; exact (h2 z).elim), fun z => (h2 z).elim, fun z => (h1 z).elim⟩⟩
  | k + 1, _, h => ⟨h.1, h.2.1, fun w a b e => by
    obtain ⟨h1, h2, h3⟩ := h.2.2 w a b e
    exact ⟨fun z => (h1 z).up, fun z => (h2 z).up, fun z is e => ⟨(h3 z is e).1, fun x hx => ((h3 z is e).2 x hx).up⟩⟩⟩
theorem Dk.mono {k m : Nat} {d : D} (h : Dk k d) (hm : k ≤ m) : Dk m d := by
  obtain ⟨j, rfl⟩ := Nat.exists_eq_add_of_le hm
  induction j with
  | zero => exact h
  | succ j ih => exact (ih (by omega)).up
theorem is_next : IsTm (.tuple [.str w_next]) := ⟨.next, by simp only [Tm.wf], by simp only [Tm.d]⟩
theorem is_nought {a : D} (h : withinB 0 4 a = true) : IsTm (.tuple [.str w_nought, a]) := by
  cases a with
  | int i =>
    simp only [withinB, Bool.and_eq_true, decide_eq_true_eq] at h
    refine ⟨.nought i.toNat, by simp only [Tm.wf]; omega, ?_⟩
    simp only [Tm.d]
    rw [Int.toNat_of_nonneg h.1]
  | _ => simp [withinB] at h
theorem is_place {a b : D} (h : withinB 1 4 a = true) (h2 : ∀ i, a = .int i → withinB 0 (i - 1) b = true) : IsTm (.tuple [.str w_place, a, b]) := by
  cases a with
  | int i =>
    have h2 := h2 i rfl
    cases b with
    | int j =>
      simp only [withinB, Bool.and_eq_true, decide_eq_true_eq] at h h2
      refine ⟨.place i.toNat j.toNat, by simp only [Tm.wf]; omega, ?_⟩
      simp only [Tm.d]
      rw [Int.toNat_of_nonneg (by omega), Int.toNat_of_nonneg (by omega)]
    | _ => simp [withinB] at h2
  | _ => simp [withinB] at h
theorem all_tm : ∀ {xs : List D}, (∀ x ∈ xs, IsTm x) → ∃ ts : List Tm, xs = Tm.ds ts ∧ Tm.wfs ts
  | [], _ => ⟨[], by simp only [Tm.ds], by simp only [Tm.wfs]⟩
  | x :: xs, h => by
    obtain ⟨t, h1, rfl⟩ := h x List.mem_cons_self
    obtain ⟨ts, rfl, h2⟩ := all_tm (fun y hy => h y (List.mem_cons_of_mem _ hy))
    exact ⟨t :: ts, by simp only [Tm.ds], by simp only [Tm.wfs]; exact ⟨h1, h2⟩⟩
theorem Tm.dk : ∀ (k : Nat) (t : Tm), t.wf → Dk k t.d → t.dp ≤ k
  | k, .next, _, _ => by simp [Tm.dp]
  | k, .nought _, _, _ => by simp [Tm.dp]
  | k, .place _ _, _, _ => by simp [Tm.dp]
  | 0, .put o is, _, h => ((h.2.2 (.str w_put) o.d (.tuple (Tm.ds is)) (by simp only [Tm.d])).1 rfl).elim
  | 0, .round a b, _, h => ((h.2.2 (.str w_round) a.d b.d (by simp only [Tm.d])).2 rfl).elim
  | k + 1, .round a b, hw, h => by
    obtain ⟨h1, h2, _⟩ := h.2.2 (.str w_round) a.d b.d (by simp only [Tm.d])
    have hw : a.wf ∧ b.wf ∧ a.ar ≤ 3 ∧ b.ar = a.ar + 2 := by simpa only [Tm.wf] using hw
    have := Tm.dk k a hw.1 (h1 (.inr rfl))
    have := Tm.dk k b hw.2.1 (h2 rfl)
    simp only [Tm.dp]; omega
  | k + 1, .put o is, hw, h => by
    obtain ⟨h1, h2, h3⟩ := h.2.2 (.str w_put) o.d (.tuple (Tm.ds is)) (by simp only [Tm.d])
    obtain ⟨w1, w2, w3, w4, w5⟩ := put_facts hw
    have := Tm.dk k o w1 (h1 (.inl rfl))
    have h4 := (h3 rfl _ rfl).2
    have : Tm.dps is ≤ k := by
      have all : ∀ ts : List Tm, (∀ t ∈ ts, t.wf ∧ Dk k t.d) → Tm.dps ts ≤ k := by
        intro ts
        induction ts with
        | nil => intro _; simp [Tm.dps]
        | cons t ts ih =>
          intro h
          have a1 := h t List.mem_cons_self
          have a2 := Tm.dk k t a1.1 a1.2
          have a3 := ih fun u hu => h u (List.mem_cons_of_mem _ hu)
          simp only [Tm.dps]; omega
      refine all is fun t ht => ⟨Tm.wf_of w4 t ht, h4 _ ?_⟩
      rw [Tm.ds_map]
      exact List.mem_map_of_mem ht
    simp only [Tm.dp]; omega
section
variable {ds : List Def} {iw po pp pq : Nat} (hiw : ds[iw]? = some is_within) (hpo : ds[po]? = some (places_of iw pp pq)) (hpp : ds[pp]? = some (places_put po)) (hpq : ds[pq]? = some (places_round po))
/-- what places_of tells of anything on the way -/
def Told (ds : List Def) (po n : Nat) (d : D) : Prop := (∃ t : Tm, t.wf ∧ d = t.d ∧ ∀ l : Nat, callF ds n po [d, .int l] = ok (found t l)) ∨ (¬ IsTm d ∧ ∀ l : Nat, callF ds n po [d, .int l] = ok .none)
theorem Told.none_or {n : Nat} {d : D} (h : Told ds po n d) (l : Nat) : callF ds n po [d, .int l] = ok .none ∨ ∃ t : Tm, t.wf ∧ d = t.d ∧ t.sz ≤ l ∧ callF ds n po [d, .int l] = ok (.tuple [.int t.ar, .int ((l - t.sz : Nat) : Int)]) := by
  rcases h with ⟨t, h1, h2, h3⟩ | ⟨_, h⟩
  · have := h3 l
    rcases found_cases t l with ⟨c, e⟩ | ⟨c, e⟩
    · rw [e] at this; exact .inr ⟨t, h1, h2, c, this⟩
    · rw [e] at this; exact .inl this
  · exact .inl (h l)
/-- the loop over what is put in, one of them being none, or of other places -/
theorem bad_loop (n : Nat) (th o : D) : ∀ (is : List D) (l : Nat) (many : D) (x4 x5 : Option D), (many = .none ∨ ∃ m : Nat, many = .int m) → (∀ d ∈ is, Told ds po n d) →
    (¬ ∃ ts : List Tm, is = Tm.ds ts ∧ Tm.wfs ts ∧ ∃ m : Nat, (∀ t ∈ ts, t.ar = m) ∧ (many = .none ∨ many = .int m)) →
    forL (stepF (.one 4) fun ρ => exS (callF ds n) (places_put_L0 po) ρ) is [some th, some (.int (l : Nat)), some o, some many, x4, x5] = .rt .none
  | [], l, many, x4, x5, hm, _, hb => by
    refine (hb ⟨[], by simp only [Tm.ds], by simp only [Tm.wfs], ?_⟩).elim
    rcases hm with rfl | ⟨m, rfl⟩
    · exact ⟨0, by simp, .inl rfl⟩
    · exact ⟨m, by simp, .inr rfl⟩
  | d :: is, l, many, x4, x5, hm, ht, hb => by
    have stepE : ∀ t : Tm, callF ds n po [d, .int (l : Nat)] = ok (.tuple [.int t.ar, .int ((l - t.sz : Nat) : Int)]) → (stepF (.one 4) fun ρ => exS (callF ds n) (places_put_L0 po) ρ) d [some th, some (.int (l : Nat)), some o, some many, x4, x5] =
        (open Classical in if many = .none ∨ many = .int t.ar then Out.nx [some th, some (.int ((l - t.sz : Nat) : Int)), some o, some (.int t.ar), some d, some (.tuple [.int t.ar, .int ((l - t.sz : Nat) : Int)])] else Out.rt .none) := by
      intro t e
      rcases hm with rfl | ⟨m, rfl⟩
      · simp [x_raise, x_raiseX, x_try, h_none, h_some, h_nil, e_slf, e_slt, e_slb, e_exf, x_nil, x_cons, x_doc, x_pass, x_brk, x_cont, x_set, x_unpack, x_par, x_app, x_ext, x_aug, x_expr, x_ite, x_ret, e_nil, e_var, e_cst, e_glob, e_tup, e_lst, e_call, e_bin, e_neg, e_not, e_cmp, e_chain, e_and, e_or, e_ife, e_f1, e_isi, e_idx, es_nil, es_cons, stepF, places_put_L0, e, setTg, setAll]
      · by_cases hh : t.ar = m
        · subst hh
          simp [x_raise, x_raiseX, x_try, h_none, h_some, h_nil, e_slf, e_slt, e_slb, e_exf, x_nil, x_cons, x_doc, x_pass, x_brk, x_cont, x_set, x_unpack, x_par, x_app, x_ext, x_aug, x_expr, x_ite, x_ret, e_nil, e_var, e_cst, e_glob, e_tup, e_lst, e_call, e_bin, e_neg, e_not, e_cmp, e_chain, e_and, e_or, e_ife, e_f1, e_isi, e_idx, es_nil, es_cons, stepF, places_put_L0, e, setTg, setAll]
        · have h1 : ¬ ((m : Int) = (t.ar : Int)) := by omega
          have h3 : ¬ ((t.ar : Int) = (m : Int)) := by omega
          have h2 : ¬ (m = t.ar) := by omega
          simp [x_raise, x_raiseX, x_try, h_none, h_some, h_nil, e_slf, e_slt, e_slb, e_exf, x_nil, x_cons, x_doc, x_pass, x_brk, x_cont, x_set, x_unpack, x_par, x_app, x_ext, x_aug, x_expr, x_ite, x_ret, e_nil, e_var, e_cst, e_glob, e_tup, e_lst, e_call, e_bin, e_neg, e_not, e_cmp, e_chain, e_and, e_or, e_ife, e_f1, e_isi, e_idx, es_nil, es_cons, stepF, places_put_L0, e, setTg, setAll, hh, h1, h2, h3]
    rcases (ht d List.mem_cons_self).none_or l with e | ⟨t, hw, rfl, hs, e⟩
    · have : (stepF (.one 4) fun ρ => exS (callF ds n) (places_put_L0 po) ρ) d [some th, some (.int (l : Nat)), some o, some many, x4, x5] = .rt .none := by
        simp [x_raise, x_raiseX, x_try, h_none, h_some, h_nil, e_slf, e_slt, e_slb, e_exf, x_nil, x_cons, x_doc, x_pass, x_brk, x_cont, x_set, x_unpack, x_par, x_app, x_ext, x_aug, x_expr, x_ite, x_ret, e_nil, e_var, e_cst, e_glob, e_tup, e_lst, e_call, e_bin, e_neg, e_not, e_cmp, e_chain, e_and, e_or, e_ife, e_f1, e_isi, e_idx, es_nil, es_cons, stepF, places_put_L0, e, setTg, setAll]
      simp only [forL, this]
    · have st := stepE t e
      by_cases hc : many = .none ∨ many = .int t.ar
      · rw [if_pos hc] at st
        have ih := bad_loop n th o is (l - t.sz) (.int t.ar) (some t.d) (some (.tuple [.int t.ar, .int ((l - t.sz : Nat) : Int)])) (.inr ⟨_, rfl⟩) (fun x hx => ht x (List.mem_cons_of_mem _ hx)) (by
          rintro ⟨ts, rfl, h2, m, h3, h4⟩
          have hm' : m = t.ar := by
            rcases h4 with h4 | h4
            · cases h4
            · have : ((t.ar : Nat) : Int) = (m : Int) := by injection h4
              omega
          subst hm'
          refine hb ⟨t :: ts, by simp only [Tm.ds], by simp only [Tm.wfs]; exact ⟨hw, h2⟩, t.ar, ?_, hc⟩
          intro u hu
          rcases List.mem_cons.mp hu with rfl | hu
          · rfl
          · exact h3 u hu)
        simp only [forL, st, ih]
      · rw [if_neg hc] at st
        simp only [forL, st]
include hpp in
theorem put_no (n left : Nat) (a : D) (is : List D) (ha : Told ds po n a) (hi : ∀ d ∈ is, Told ds po n d) (hno : ¬ IsTm (.tuple [.str w_put, a, .tuple is])) : callF ds (n + 1) pp [.tuple [.str w_put, a, .tuple is], .int left] = ok .none := by
  rw [run_at hpp _ _ rfl]
  rcases ha.none_or left with e | ⟨t, hw, rfl, hs, e⟩
  · simp [x_raise, x_raiseX, x_try, h_none, h_some, h_nil, e_slf, e_slt, e_slb, e_exf, x_nil, x_cons, x_doc, x_pass, x_brk, x_cont, x_set, x_unpack, x_par, x_app, x_ext, x_aug, x_expr, x_ite, x_ret, e_nil, e_var, e_cst, e_glob, e_tup, e_lst, e_call, e_bin, e_neg, e_not, e_cmp, e_chain, e_and, e_or, e_ife, e_f1, e_isi, e_idx, es_nil, es_cons, e]
  · by_cases h0 : t.ar = 0
    · simp [x_raise, x_raiseX, x_try, h_none, h_some, h_nil, e_slf, e_slt, e_slb, e_exf, x_nil, x_cons, x_doc, x_pass, x_brk, x_cont, x_set, x_unpack, x_par, x_app, x_ext, x_aug, x_expr, x_ite, x_ret, e_nil, e_var, e_cst, e_glob, e_tup, e_lst, e_call, e_bin, e_neg, e_not, e_cmp, e_chain, e_and, e_or, e_ife, e_f1, e_isi, e_idx, es_nil, es_cons, e, h0]
    · by_cases hl : t.ar = is.length
      · have bl := bad_loop n (.tuple [.str w_put, t.d, .tuple is]) (.tuple [.int t.ar, .int ((left - t.sz : Nat) : Int)]) is (left - t.sz) .none none none (.inl rfl) hi (by
          rintro ⟨ts, rfl, h2, m, h3, _⟩
          rw [Tm.ds_len] at hl
          have hne : ts ≠ [] := by intro z; rw [z] at hl; simp at hl; omega
          refine hno ⟨.put t ts, ?_, by simp only [Tm.d]⟩
          simp only [Tm.wf]
          exact ⟨hw, hne, hl, h2, fun u hu => by rw [put_ar, headAr_of hne h3]; exact h3 u hu⟩)
        have hl' : ((is.length : Nat) : Int) = (t.ar : Int) := by omega
        have hl2 : ¬ ((t.ar : Nat) : Int) = 0 := by omega
        have hl3 : ¬ is.length = 0 := by omega
        have hl4 : ¬ is = [] := fun z => hl3 (by rw [z]; rfl)
        simp [x_raise, x_raiseX, x_try, h_none, h_some, h_nil, e_slf, e_slt, e_slb, e_exf, x_nil, x_cons, x_doc, x_pass, x_brk, x_cont, x_set, x_unpack, x_par, x_app, x_ext, x_aug, x_expr, x_ite, x_ret, e_nil, e_var, e_cst, e_glob, e_tup, e_lst, e_call, e_bin, e_neg, e_not, e_cmp, e_chain, e_and, e_or, e_ife, e_f1, e_isi, e_idx, es_nil, es_cons, e, h0, hl, hl3, hl4, x_for]
        rw [hl] at bl
        simp [bl]
      · have hl' : ¬ ((t.ar : Nat) : Int) = ((is.length : Nat) : Int) := by omega
        simp [x_raise, x_raiseX, x_try, h_none, h_some, h_nil, e_slf, e_slt, e_slb, e_exf, x_nil, x_cons, x_doc, x_pass, x_brk, x_cont, x_set, x_unpack, x_par, x_app, x_ext, x_aug, x_expr, x_ite, x_ret, e_nil, e_var, e_cst, e_glob, e_tup, e_lst, e_call, e_bin, e_neg, e_not, e_cmp, e_chain, e_and, e_or, e_ife, e_f1, e_isi, e_idx, es_nil, es_cons, e, h0, hl, hl']
include hpq in
theorem round_no (n left : Nat) (a b : D) (ha : Told ds po n a) (hb : Told ds po n b) (hno : ¬ IsTm (.tuple [.str w_round, a, b])) : callF ds (n + 1) pq [.tuple [.str w_round, a, b], .int left] = ok .none := by
  rw [run_at hpq _ _ rfl]
  rcases ha.none_or left with e | ⟨t, hw, rfl, hs, e⟩
  · simp [x_raise, x_raiseX, x_try, h_none, h_some, h_nil, e_slf, e_slt, e_slb, e_exf, x_nil, x_cons, x_doc, x_pass, x_brk, x_cont, x_set, x_unpack, x_par, x_app, x_ext, x_aug, x_expr, x_ite, x_ret, e_nil, e_var, e_cst, e_glob, e_tup, e_lst, e_call, e_bin, e_neg, e_not, e_cmp, e_chain, e_and, e_or, e_ife, e_f1, e_isi, e_idx, es_nil, es_cons, e]
  · by_cases h3 : t.ar ≤ 3
    · have h3' : ¬ (4 : Int) ≤ t.ar := by omega
      rcases hb.none_or (left - t.sz) with e2 | ⟨u, hu, rfl, hs2, e2⟩
      · simp [x_raise, x_raiseX, x_try, h_none, h_some, h_nil, e_slf, e_slt, e_slb, e_exf, x_nil, x_cons, x_doc, x_pass, x_brk, x_cont, x_set, x_unpack, x_par, x_app, x_ext, x_aug, x_expr, x_ite, x_ret, e_nil, e_var, e_cst, e_glob, e_tup, e_lst, e_call, e_bin, e_neg, e_not, e_cmp, e_chain, e_and, e_or, e_ife, e_f1, e_isi, e_idx, es_nil, es_cons, e, e2, h3']
      · have hne : ¬ u.ar = t.ar + 2 := fun z => hno ⟨.round t u, by simp only [Tm.wf]; exact ⟨hw, hu, h3, z⟩, by simp only [Tm.d]⟩
        have hne' : ¬ ((u.ar : Nat) : Int) = (t.ar : Int) + 2 := by omega
        simp [x_raise, x_raiseX, x_try, h_none, h_some, h_nil, e_slf, e_slt, e_slb, e_exf, x_nil, x_cons, x_doc, x_pass, x_brk, x_cont, x_set, x_unpack, x_par, x_app, x_ext, x_aug, x_expr, x_ite, x_ret, e_nil, e_var, e_cst, e_glob, e_tup, e_lst, e_call, e_bin, e_neg, e_not, e_cmp, e_chain, e_and, e_or, e_ife, e_f1, e_isi, e_idx, es_nil, es_cons, e, e2, h3', hne']
    · have h3' : (4 : Int) ≤ t.ar := by omega
      simp [x_raise, x_raiseX, x_try, h_none, h_some, h_nil, e_slf, e_slt, e_slb, e_exf, x_nil, x_cons, x_doc, x_pass, x_brk, x_cont, x_set, x_unpack, x_par, x_app, x_ext, x_aug, x_expr, x_ite, x_ret, e_nil, e_var, e_cst, e_glob, e_tup, e_lst, e_call, e_bin, e_neg, e_not, e_cmp, e_chain, e_and, e_or, e_ife, e_f1, e_isi, e_idx, es_nil, es_cons, e, h3']
include hpo in
theorem po_one (n l : Nat) (w : Str) (h : ¬ IsTm (.tuple [.str w])) : callF ds (n + 1) po [.tuple [.str w], .int l] = ok .none := by
  have h1 : ¬ w = w_next := fun z => h (by rw [z]; exact is_next)
  rw [run_at hpo _ _ rfl]
  by_cases hl : l = 0
  · simp [x_raise, x_raiseX, x_try, h_none, h_some, h_nil, e_slf, e_slt, e_slb, e_exf, x_nil, x_cons, x_doc, x_pass, x_brk, x_cont, x_set, x_unpack, x_par, x_app, x_ext, x_aug, x_expr, x_ite, x_ret, e_nil, e_var, e_cst, e_glob, e_tup, e_lst, e_call, e_bin, e_neg, e_not, e_cmp, e_chain, e_and, e_or, e_ife, e_f1, e_isi, e_idx, es_nil, es_cons, hl]
  · by_cases e1 : w = w_nought
    · subst e1; simp [x_raise, x_raiseX, x_try, h_none, h_some, h_nil, e_slf, e_slt, e_slb, e_exf, x_nil, x_cons, x_doc, x_pass, x_brk, x_cont, x_set, x_unpack, x_par, x_app, x_ext, x_aug, x_expr, x_ite, x_ret, e_nil, e_var, e_cst, e_glob, e_tup, e_lst, e_call, e_bin, e_neg, e_not, e_cmp, e_chain, e_and, e_or, e_ife, e_f1, e_isi, e_idx, es_nil, es_cons, hl, w1, w2, w3, w4, w5, w6, w7, w8, w9, w10, w11, w12, w13, w14, w15, w16, w17, w18, w19, w20, eqR_d, PyData.depth, PyData.depthAll]
    · by_cases e2 : w = w_place
      · subst e2; simp [x_raise, x_raiseX, x_try, h_none, h_some, h_nil, e_slf, e_slt, e_slb, e_exf, x_nil, x_cons, x_doc, x_pass, x_brk, x_cont, x_set, x_unpack, x_par, x_app, x_ext, x_aug, x_expr, x_ite, x_ret, e_nil, e_var, e_cst, e_glob, e_tup, e_lst, e_call, e_bin, e_neg, e_not, e_cmp, e_chain, e_and, e_or, e_ife, e_f1, e_isi, e_idx, es_nil, es_cons, hl, w1, w2, w3, w4, w5, w6, w7, w8, w9, w10, w11, w12, w13, w14, w15, w16, w17, w18, w19, w20, eqR_d, PyData.depth, PyData.depthAll]
      · by_cases e3 : w = w_put
        · subst e3; simp [x_raise, x_raiseX, x_try, h_none, h_some, h_nil, e_slf, e_slt, e_slb, e_exf, x_nil, x_cons, x_doc, x_pass, x_brk, x_cont, x_set, x_unpack, x_par, x_app, x_ext, x_aug, x_expr, x_ite, x_ret, e_nil, e_var, e_cst, e_glob, e_tup, e_lst, e_call, e_bin, e_neg, e_not, e_cmp, e_chain, e_and, e_or, e_ife, e_f1, e_isi, e_idx, es_nil, es_cons, hl, w1, w2, w3, w4, w5, w6, w7, w8, w9, w10, w11, w12, w13, w14, w15, w16, w17, w18, w19, w20, eqR_d, PyData.depth, PyData.depthAll]
        · by_cases e4 : w = w_round
          · subst e4; simp [x_raise, x_raiseX, x_try, h_none, h_some, h_nil, e_slf, e_slt, e_slb, e_exf, x_nil, x_cons, x_doc, x_pass, x_brk, x_cont, x_set, x_unpack, x_par, x_app, x_ext, x_aug, x_expr, x_ite, x_ret, e_nil, e_var, e_cst, e_glob, e_tup, e_lst, e_call, e_bin, e_neg, e_not, e_cmp, e_chain, e_and, e_or, e_ife, e_f1, e_isi, e_idx, es_nil, es_cons, hl, w1, w2, w3, w4, w5, w6, w7, w8, w9, w10, w11, w12, w13, w14, w15, w16, w17, w18, w19, w20, eqR_d, PyData.depth, PyData.depthAll]
          · simp [x_raise, x_raiseX, x_try, h_none, h_some, h_nil, e_slf, e_slt, e_slb, e_exf, x_nil, x_cons, x_doc, x_pass, x_brk, x_cont, x_set, x_unpack, x_par, x_app, x_ext, x_aug, x_expr, x_ite, x_ret, e_nil, e_var, e_cst, e_glob, e_tup, e_lst, e_call, e_bin, e_neg, e_not, e_cmp, e_chain, e_and, e_or, e_ife, e_f1, e_isi, e_idx, es_nil, es_cons, hl, h1, e1, e2, e3, e4, eqR_d, PyData.depth, PyData.depthAll]
include hpo hiw in
theorem po_two (n l : Nat) (w : Str) (a : D) (ha : plainD a = true) (h : ¬ IsTm (.tuple [.str w, a])) : callF ds (n + 2) po [.tuple [.str w, a], .int l] = ok .none := by
  rw [run_at hpo _ _ rfl]
  have hw := is_within_any hiw n a ha 0 4
  have en : ∀ v : Str, eqR (.tuple [.str v, a]) (.tuple [.str w_next]) = ok false := fun v => by
    rw [eqR_d _ _ (.inr (by decide))]
    simp
  by_cases hl : l = 0
  · simp [x_raise, x_raiseX, x_try, h_none, h_some, h_nil, e_slf, e_slt, e_slb, e_exf, x_nil, x_cons, x_doc, x_pass, x_brk, x_cont, x_set, x_unpack, x_par, x_app, x_ext, x_aug, x_expr, x_ite, x_ret, e_nil, e_var, e_cst, e_glob, e_tup, e_lst, e_call, e_bin, e_neg, e_not, e_cmp, e_chain, e_and, e_or, e_ife, e_f1, e_isi, e_idx, es_nil, es_cons, hl]
  · by_cases e1 : w = w_nought
    · subst e1
      have : withinB 0 4 a = false := by
        cases e : withinB 0 4 a
        · rfl
        · exact (h (is_nought e)).elim
      rw [this] at hw
      simp [x_raise, x_raiseX, x_try, h_none, h_some, h_nil, e_slf, e_slt, e_slb, e_exf, x_nil, x_cons, x_doc, x_pass, x_brk, x_cont, x_set, x_unpack, x_par, x_app, x_ext, x_aug, x_expr, x_ite, x_ret, e_nil, e_var, e_cst, e_glob, e_tup, e_lst, e_call, e_bin, e_neg, e_not, e_cmp, e_chain, e_and, e_or, e_ife, e_f1, e_isi, e_idx, es_nil, es_cons, hl, w1, w2, w3, w4, w5, w6, w7, w8, w9, w10, w11, w12, w13, w14, w15, w16, w17, w18, w19, w20, hw, en]
    · by_cases e2 : w = w_place
      · subst e2; simp [x_raise, x_raiseX, x_try, h_none, h_some, h_nil, e_slf, e_slt, e_slb, e_exf, x_nil, x_cons, x_doc, x_pass, x_brk, x_cont, x_set, x_unpack, x_par, x_app, x_ext, x_aug, x_expr, x_ite, x_ret, e_nil, e_var, e_cst, e_glob, e_tup, e_lst, e_call, e_bin, e_neg, e_not, e_cmp, e_chain, e_and, e_or, e_ife, e_f1, e_isi, e_idx, es_nil, es_cons, hl, w1, w2, w3, w4, w5, w6, w7, w8, w9, w10, w11, w12, w13, w14, w15, w16, w17, w18, w19, w20, en]
      · by_cases e3 : w = w_put
        · subst e3; simp [x_raise, x_raiseX, x_try, h_none, h_some, h_nil, e_slf, e_slt, e_slb, e_exf, x_nil, x_cons, x_doc, x_pass, x_brk, x_cont, x_set, x_unpack, x_par, x_app, x_ext, x_aug, x_expr, x_ite, x_ret, e_nil, e_var, e_cst, e_glob, e_tup, e_lst, e_call, e_bin, e_neg, e_not, e_cmp, e_chain, e_and, e_or, e_ife, e_f1, e_isi, e_idx, es_nil, es_cons, hl, w1, w2, w3, w4, w5, w6, w7, w8, w9, w10, w11, w12, w13, w14, w15, w16, w17, w18, w19, w20, en]
        · by_cases e4 : w = w_round
          · subst e4; simp [x_raise, x_raiseX, x_try, h_none, h_some, h_nil, e_slf, e_slt, e_slb, e_exf, x_nil, x_cons, x_doc, x_pass, x_brk, x_cont, x_set, x_unpack, x_par, x_app, x_ext, x_aug, x_expr, x_ite, x_ret, e_nil, e_var, e_cst, e_glob, e_tup, e_lst, e_call, e_bin, e_neg, e_not, e_cmp, e_chain, e_and, e_or, e_ife, e_f1, e_isi, e_idx, es_nil, es_cons, hl, w1, w2, w3, w4, w5, w6, w7, w8, w9, w10, w11, w12, w13, w14, w15, w16, w17, w18, w19, w20, en]
          · simp [x_raise, x_raiseX, x_try, h_none, h_some, h_nil, e_slf, e_slt, e_slb, e_exf, x_nil, x_cons, x_doc, x_pass, x_brk, x_cont, x_set, x_unpack, x_par, x_app, x_ext, x_aug, x_expr, x_ite, x_ret, e_nil, e_var, e_cst, e_glob, e_tup, e_lst, e_call, e_bin, e_neg, e_not, e_cmp, e_chain, e_and, e_or, e_ife, e_f1, e_isi, e_idx, es_nil, es_cons, hl, e1, e2, e3, e4, en]
include hpo hpp hpq hiw in
theorem po_three (n l : Nat) (w : Str) (a b : D) (pa : plainD a = true) (pb : plainD b = true) (h : ¬ IsTm (.tuple [.str w, a, b])) (ha : w = w_put ∨ w = w_round → Told ds po n a) (hb : w = w_round → Told ds po n b) (hi : ∀ is, w = w_put → b = .tuple is → ∀ x ∈ is, Told ds po n x) : callF ds (n + 2) po [.tuple [.str w, a, b], .int l] = ok .none := by
  rw [run_at hpo _ _ rfl]
  have en : ∀ v : Str, eqR (.tuple [.str v, a, b]) (.tuple [.str w_next]) = ok false := fun v => by
    rw [eqR_d _ _ (.inr (by decide))]
    simp
  by_cases hl : l = 0
  · simp [x_raise, x_raiseX, x_try, h_none, h_some, h_nil, e_slf, e_slt, e_slb, e_exf, x_nil, x_cons, x_doc, x_pass, x_brk, x_cont, x_set, x_unpack, x_par, x_app, x_ext, x_aug, x_expr, x_ite, x_ret, e_nil, e_var, e_cst, e_glob, e_tup, e_lst, e_call, e_bin, e_neg, e_not, e_cmp, e_chain, e_and, e_or, e_ife, e_f1, e_isi, e_idx, es_nil, es_cons, hl]
  · have hl' : (l : Int) - 1 = ((l - 1 : Nat) : Int) := by omega
    by_cases e1 : w = w_nought
    · subst e1; simp [x_raise, x_raiseX, x_try, h_none, h_some, h_nil, e_slf, e_slt, e_slb, e_exf, x_nil, x_cons, x_doc, x_pass, x_brk, x_cont, x_set, x_unpack, x_par, x_app, x_ext, x_aug, x_expr, x_ite, x_ret, e_nil, e_var, e_cst, e_glob, e_tup, e_lst, e_call, e_bin, e_neg, e_not, e_cmp, e_chain, e_and, e_or, e_ife, e_f1, e_isi, e_idx, es_nil, es_cons, hl, w1, w2, w3, w4, w5, w6, w7, w8, w9, w10, w11, w12, w13, w14, w15, w16, w17, w18, w19, w20, en]
    · by_cases e2 : w = w_place
      · subst e2
        have hw := is_within_any hiw n a pa 1 4
        cases e : withinB 1 4 a with
        | false =>
          rw [e] at hw
          simp [x_raise, x_raiseX, x_try, h_none, h_some, h_nil, e_slf, e_slt, e_slb, e_exf, x_nil, x_cons, x_doc, x_pass, x_brk, x_cont, x_set, x_unpack, x_par, x_app, x_ext, x_aug, x_expr, x_ite, x_ret, e_nil, e_var, e_cst, e_glob, e_tup, e_lst, e_call, e_bin, e_neg, e_not, e_cmp, e_chain, e_and, e_or, e_ife, e_f1, e_isi, e_idx, es_nil, es_cons, hl, w1, w2, w3, w4, w5, w6, w7, w8, w9, w10, w11, w12, w13, w14, w15, w16, w17, w18, w19, w20, en, hw]
        | true =>
          rw [e] at hw
          cases a with
          | int i =>
            have hw2 := is_within_any hiw n b pb 0 (i - 1)
            have : withinB 0 (i - 1) b = false := by
              cases e2 : withinB 0 (i - 1) b
              · rfl
              · exact (h (is_place e (fun j ej => by injection ej with ej; subst ej; exact e2))).elim
            rw [this] at hw2
            simp [x_raise, x_raiseX, x_try, h_none, h_some, h_nil, e_slf, e_slt, e_slb, e_exf, x_nil, x_cons, x_doc, x_pass, x_brk, x_cont, x_set, x_unpack, x_par, x_app, x_ext, x_aug, x_expr, x_ite, x_ret, e_nil, e_var, e_cst, e_glob, e_tup, e_lst, e_call, e_bin, e_neg, e_not, e_cmp, e_chain, e_and, e_or, e_ife, e_f1, e_isi, e_idx, es_nil, es_cons, hl, w1, w2, w3, w4, w5, w6, w7, w8, w9, w10, w11, w12, w13, w14, w15, w16, w17, w18, w19, w20, en, hw, hw2]
          | _ => simp [withinB] at e
      · by_cases e3 : w = w_put
        · subst e3
          cases b with
          | tuple is =>
            have := put_no hpp n (l - 1) a is (ha (.inl rfl)) (hi is rfl rfl) h
            simp [x_raise, x_raiseX, x_try, h_none, h_some, h_nil, e_slf, e_slt, e_slb, e_exf, x_nil, x_cons, x_doc, x_pass, x_brk, x_cont, x_set, x_unpack, x_par, x_app, x_ext, x_aug, x_expr, x_ite, x_ret, e_nil, e_var, e_cst, e_glob, e_tup, e_lst, e_call, e_bin, e_neg, e_not, e_cmp, e_chain, e_and, e_or, e_ife, e_f1, e_isi, e_idx, es_nil, es_cons, hl, w1, w2, w3, w4, w5, w6, w7, w8, w9, w10, w11, w12, w13, w14, w15, w16, w17, w18, w19, w20, en, hl', this]
          | dict _ => cases pb
          | _ => simp [x_raise, x_raiseX, x_try, h_none, h_some, h_nil, e_slf, e_slt, e_slb, e_exf, x_nil, x_cons, x_doc, x_pass, x_brk, x_cont, x_set, x_unpack, x_par, x_app, x_ext, x_aug, x_expr, x_ite, x_ret, e_nil, e_var, e_cst, e_glob, e_tup, e_lst, e_call, e_bin, e_neg, e_not, e_cmp, e_chain, e_and, e_or, e_ife, e_f1, e_isi, e_idx, es_nil, es_cons, hl, w1, w2, w3, w4, w5, w6, w7, w8, w9, w10, w11, w12, w13, w14, w15, w16, w17, w18, w19, w20, en]
        · by_cases e4 : w = w_round
          · subst e4
            have := round_no hpq n (l - 1) a b (ha (.inr rfl)) (hb rfl) h
            simp [x_raise, x_raiseX, x_try, h_none, h_some, h_nil, e_slf, e_slt, e_slb, e_exf, x_nil, x_cons, x_doc, x_pass, x_brk, x_cont, x_set, x_unpack, x_par, x_app, x_ext, x_aug, x_expr, x_ite, x_ret, e_nil, e_var, e_cst, e_glob, e_tup, e_lst, e_call, e_bin, e_neg, e_not, e_cmp, e_chain, e_and, e_or, e_ife, e_f1, e_isi, e_idx, es_nil, es_cons, hl, w1, w2, w3, w4, w5, w6, w7, w8, w9, w10, w11, w12, w13, w14, w15, w16, w17, w18, w19, w20, en, hl', this]
          · simp [x_raise, x_raiseX, x_try, h_none, h_some, h_nil, e_slf, e_slt, e_slb, e_exf, x_nil, x_cons, x_doc, x_pass, x_brk, x_cont, x_set, x_unpack, x_par, x_app, x_ext, x_aug, x_expr, x_ite, x_ret, e_nil, e_var, e_cst, e_glob, e_tup, e_lst, e_call, e_bin, e_neg, e_not, e_cmp, e_chain, e_and, e_or, e_ife, e_f1, e_isi, e_idx, es_nil, es_cons, hl, e1, e2, e3, e4, en]
include hpo in
theorem po_more (n l : Nat) (w : Str) (a b c : D) (r : List D) : callF ds (n + 1) po [.tuple (.str w :: a :: b :: c :: r), .int l] = ok .none := by
  rw [run_at hpo _ _ rfl]
  have en : ∀ v : Str, eqR (.tuple (.str v :: a :: b :: c :: r)) (.tuple [.str w_next]) = ok false := fun v => by
    rw [eqR_d _ _ (.inr (by decide))]
    simp
  have h2 : ¬ ((r.length : Int) + 1 + 1 + 1 + 1 = 2) := by omega
  have h3 : ¬ ((r.length : Int) + 1 + 1 + 1 + 1 = 3) := by omega
  by_cases hl : l = 0
  · simp [x_raise, x_raiseX, x_try, h_none, h_some, h_nil, e_slf, e_slt, e_slb, e_exf, x_nil, x_cons, x_doc, x_pass, x_brk, x_cont, x_set, x_unpack, x_par, x_app, x_ext, x_aug, x_expr, x_ite, x_ret, e_nil, e_var, e_cst, e_glob, e_tup, e_lst, e_call, e_bin, e_neg, e_not, e_cmp, e_chain, e_and, e_or, e_ife, e_f1, e_isi, e_idx, es_nil, es_cons, hl]
  · by_cases e1 : w = w_nought
    · subst e1; simp [x_raise, x_raiseX, x_try, h_none, h_some, h_nil, e_slf, e_slt, e_slb, e_exf, x_nil, x_cons, x_doc, x_pass, x_brk, x_cont, x_set, x_unpack, x_par, x_app, x_ext, x_aug, x_expr, x_ite, x_ret, e_nil, e_var, e_cst, e_glob, e_tup, e_lst, e_call, e_bin, e_neg, e_not, e_cmp, e_chain, e_and, e_or, e_ife, e_f1, e_isi, e_idx, es_nil, es_cons, hl, w1, w2, w3, w4, w5, w6, w7, w8, w9, w10, w11, w12, w13, w14, w15, w16, w17, w18, w19, w20, en, h2, h3]
    · by_cases e2 : w = w_place
      · subst e2; simp [x_raise, x_raiseX, x_try, h_none, h_some, h_nil, e_slf, e_slt, e_slb, e_exf, x_nil, x_cons, x_doc, x_pass, x_brk, x_cont, x_set, x_unpack, x_par, x_app, x_ext, x_aug, x_expr, x_ite, x_ret, e_nil, e_var, e_cst, e_glob, e_tup, e_lst, e_call, e_bin, e_neg, e_not, e_cmp, e_chain, e_and, e_or, e_ife, e_f1, e_isi, e_idx, es_nil, es_cons, hl, w1, w2, w3, w4, w5, w6, w7, w8, w9, w10, w11, w12, w13, w14, w15, w16, w17, w18, w19, w20, en, h2, h3]
      · by_cases e3 : w = w_put
        · subst e3; simp [x_raise, x_raiseX, x_try, h_none, h_some, h_nil, e_slf, e_slt, e_slb, e_exf, x_nil, x_cons, x_doc, x_pass, x_brk, x_cont, x_set, x_unpack, x_par, x_app, x_ext, x_aug, x_expr, x_ite, x_ret, e_nil, e_var, e_cst, e_glob, e_tup, e_lst, e_call, e_bin, e_neg, e_not, e_cmp, e_chain, e_and, e_or, e_ife, e_f1, e_isi, e_idx, es_nil, es_cons, hl, w1, w2, w3, w4, w5, w6, w7, w8, w9, w10, w11, w12, w13, w14, w15, w16, w17, w18, w19, w20, en, h2, h3]
        · by_cases e4 : w = w_round
          · subst e4; simp [x_raise, x_raiseX, x_try, h_none, h_some, h_nil, e_slf, e_slt, e_slb, e_exf, x_nil, x_cons, x_doc, x_pass, x_brk, x_cont, x_set, x_unpack, x_par, x_app, x_ext, x_aug, x_expr, x_ite, x_ret, e_nil, e_var, e_cst, e_glob, e_tup, e_lst, e_call, e_bin, e_neg, e_not, e_cmp, e_chain, e_and, e_or, e_ife, e_f1, e_isi, e_idx, es_nil, es_cons, hl, w1, w2, w3, w4, w5, w6, w7, w8, w9, w10, w11, w12, w13, w14, w15, w16, w17, w18, w19, w20, en, h2, h3]
          · simp [x_raise, x_raiseX, x_try, h_none, h_some, h_nil, e_slf, e_slt, e_slb, e_exf, x_nil, x_cons, x_doc, x_pass, x_brk, x_cont, x_set, x_unpack, x_par, x_app, x_ext, x_aug, x_expr, x_ite, x_ret, e_nil, e_var, e_cst, e_glob, e_tup, e_lst, e_call, e_bin, e_neg, e_not, e_cmp, e_chain, e_and, e_or, e_ife, e_f1, e_isi, e_idx, es_nil, es_cons, hl, e1, e2, e3, e4, en, h2, h3]
include hpo in
theorem po_odd (n l : Nat) (d : D) (pd : plainD d = true) (pa : ∀ xs, d = .tuple xs → ∀ x ∈ xs, plainD x = true) (h : ∀ w r, d ≠ .tuple (.str w :: r)) : callF ds (n + 1) po [d, .int l] = ok .none := by
  rw [run_at hpo _ _ rfl]
  by_cases hl : l = 0
  · cases d <;> simp [x_raise, x_raiseX, x_try, h_none, h_some, h_nil, e_slf, e_slt, e_slb, e_exf, x_nil, x_cons, x_doc, x_pass, x_brk, x_cont, x_set, x_unpack, x_par, x_app, x_ext, x_aug, x_expr, x_ite, x_ret, e_nil, e_var, e_cst, e_glob, e_tup, e_lst, e_call, e_bin, e_neg, e_not, e_cmp, e_chain, e_and, e_or, e_ife, e_f1, e_isi, e_idx, es_nil, es_cons, hl]
  cases d with
  | tuple xs =>
    cases xs with
    | nil => simp [x_raise, x_raiseX, x_try, h_none, h_some, h_nil, e_slf, e_slt, e_slb, e_exf, x_nil, x_cons, x_doc, x_pass, x_brk, x_cont, x_set, x_unpack, x_par, x_app, x_ext, x_aug, x_expr, x_ite, x_ret, e_nil, e_var, e_cst, e_glob, e_tup, e_lst, e_call, e_bin, e_neg, e_not, e_cmp, e_chain, e_and, e_or, e_ife, e_f1, e_isi, e_idx, es_nil, es_cons, hl]
    | cons x xs =>
      have px := pa _ rfl x List.mem_cons_self
      have hs : isiR .str x = ok false := by
        cases x with
        | str w => exact (h w xs rfl).elim
        | dict _ => cases px
        | _ => rfl
      simp [x_raise, x_raiseX, x_try, h_none, h_some, h_nil, e_slf, e_slt, e_slb, e_exf, x_nil, x_cons, x_doc, x_pass, x_brk, x_cont, x_set, x_unpack, x_par, x_app, x_ext, x_aug, x_expr, x_ite, x_ret, e_nil, e_var, e_cst, e_glob, e_tup, e_lst, e_call, e_bin, e_neg, e_not, e_cmp, e_chain, e_and, e_or, e_ife, e_f1, e_isi, e_idx, es_nil, es_cons, hl, hs]
  | dict _ => cases pd
  | _ => simp [x_raise, x_raiseX, x_try, h_none, h_some, h_nil, e_slf, e_slt, e_slb, e_exf, x_nil, x_cons, x_doc, x_pass, x_brk, x_cont, x_set, x_unpack, x_par, x_app, x_ext, x_aug, x_expr, x_ite, x_ret, e_nil, e_var, e_cst, e_glob, e_tup, e_lst, e_call, e_bin, e_neg, e_not, e_cmp, e_chain, e_and, e_or, e_ife, e_f1, e_isi, e_idx, es_nil, es_cons, hl]
include hpo hpp hpq hiw in
/-- places_of, of anything -/
theorem told : ∀ (k : Nat) (d : D), Dk k d → ∀ n, 2 * k + 2 ≤ n → Told ds po n d := by
  intro k
  induction k with
  | zero =>
    intro d hk n hn
    by_cases h : IsTm d
    · obtain ⟨t, hw, rfl⟩ := h
      have := Tm.dk 0 t hw hk
      exact .inl ⟨t, hw, rfl, fun l => places_ok hiw hpo hpp hpq t hw n l (by omega)⟩
    · refine .inr ⟨h, fun l => ?_⟩
      obtain ⟨n, rfl⟩ : ∃ m, n = m + 2 := ⟨n - 2, by omega⟩
      by_cases hs : ∃ w r, d = .tuple (.str w :: r)
      · obtain ⟨w, r, rfl⟩ := hs
        match r, h, hk with
        | [], h, hk => exact po_one hpo (n + 1) l w h
        | [a], h, hk => exact po_two hiw hpo n l w a (hk.all _ rfl a (by simp)) h
        | [a, b], h, hk =>
          obtain ⟨h1, h2⟩ := hk.2.2 _ _ _ rfl
          exact po_three hiw hpo hpp hpq n l w a b (hk.all _ rfl a (by simp)) (hk.all _ rfl b (by simp)) h (fun z => (by rcases z with rfl | rfl; exact (h1 rfl).elim; exact (h2 rfl).elim)) (fun z => (by subst z; exact (h2 rfl).elim)) (fun is z => (by subst z; exact (h1 rfl).elim))
        | a :: b :: c :: r, h, hk => exact po_more hpo (n + 1) l w a b c r
      · exact po_odd hpo (n + 1) l d hk.plain hk.all fun w r z => hs ⟨w, r, z⟩
  | succ k ih =>
    intro d hk n hn
    by_cases h : IsTm d
    · obtain ⟨t, hw, rfl⟩ := h
      have := Tm.dk (k + 1) t hw hk
      exact .inl ⟨t, hw, rfl, fun l => places_ok hiw hpo hpp hpq t hw n l (by omega)⟩
    · refine .inr ⟨h, fun l => ?_⟩
      obtain ⟨n, rfl⟩ : ∃ m, n = m + 2 := ⟨n - 2, by omega⟩
      by_cases hs : ∃ w r, d = .tuple (.str w :: r)
      · obtain ⟨w, r, rfl⟩ := hs
        match r, h, hk with
        | [], h, hk => exact po_one hpo (n + 1) l w h
        | [a], h, hk => exact po_two hiw hpo n l w a (hk.all _ rfl a (by simp)) h
        | [a, b], h, hk =>
          obtain ⟨h1, h2, h3⟩ := hk.2.2 _ _ _ rfl
          exact po_three hiw hpo hpp hpq n l w a b (hk.all _ rfl a (by simp)) (hk.all _ rfl b (by simp)) h (fun z => ih a (h1 (by rcases z with rfl | rfl; exact .inl rfl; exact .inr rfl)) n (by omega)) (fun z => ih b (h2 (by rw [z])) n (by omega)) (fun is z e x hx => ih x ((h3 (by rw [z]) is e).2 x hx) n (by omega))
        | a :: b :: c :: r, h, hk => exact po_more hpo (n + 1) l w a b c r
      · exact po_odd hpo (n + 1) l d hk.plain hk.all fun w r z => hs ⟨w, r, z⟩
include hpo hpp hpq hiw in
theorem told_no (k : Nat) (d : D) (hk : Dk k d) (h : ¬ IsTm d) (n l : Nat) (hn : 2 * k + 2 ≤ n) : callF ds n po [d, .int l] = ok .none := by
  rcases told hiw hpo hpp hpq k d hk n hn with ⟨t, hw, e, _⟩ | ⟨_, e⟩
  · exact (h ⟨t, hw, e⟩).elim
  · exact e l
end
end Pyr

namespace B01
open PySem Pyr B
def w_other : Str := "other"
def law_L0 : S := (.cons (.set 2 (.tup (.cons (.cst (.str w_put)) (.cons (.tup (.cons (.cst (.str w_next)) .nil)) (.cons (.tup (.cons (.var 2) .nil)) .nil))))) .nil)
def _law_whole : Def := ⟨1, 1, (.cons (.ret (.and (.isi .int (.var 0)) (.not (.isi .bool (.var 0))))) .nil)⟩
def _law_is (f__law_whole : Nat) (f__law_is : Nat) : Def := ⟨1, 7, (.cons (.ite (.or (.not (.isi .tuple (.var 0))) (.cmp .notin (.f1 .len (.var 0)) (.tup (.cons (.cst (.int 1)) (.cons (.cst (.int 2)) (.cons (.cst (.int 3)) .nil)))))) (.cons (.ret (.neg (.cst (.int 1)))) .nil) .nil) (.cons (.set 1 (.idx (.var 0) (.cst (.int 0)))) (.cons (.ite (.cmp .eq (.f1 .len (.var 0)) (.cst (.int 1))) (.cons (.ret (.ife (.cmp .eq (.var 1) (.cst (.str w_next))) (.cst (.int 1)) (.neg (.cst (.int 1))))) .nil) .nil) (.cons (.ite (.cmp .eq (.f1 .len (.var 0)) (.cst (.int 2))) (.cons (.ret (.ife (.and (.cmp .eq (.var 1) (.cst (.str w_nought))) (.and (.call f__law_whole (.cons (.idx (.var 0) (.cst (.int 1))) .nil)) (.chain .le .le (.cst (.int 0)) (.idx (.var 0) (.cst (.int 1))) (.cst (.int 4))))) (.idx (.var 0) (.cst (.int 1))) (.neg (.cst (.int 1))))) .nil) .nil) (.cons (.ite (.cmp .eq (.var 1) (.cst (.str w_place))) (.cons (.set 2 (.and (.call f__law_whole (.cons (.idx (.var 0) (.cst (.int 1))) .nil)) (.and (.call f__law_whole (.cons (.idx (.var 0) (.cst (.int 2))) .nil)) (.chain3 .le .lt .le (.cst (.int 0)) (.idx (.var 0) (.cst (.int 2))) (.idx (.var 0) (.cst (.int 1))) (.cst (.int 4)))))) (.cons (.ret (.ife (.var 2) (.idx (.var 0) (.cst (.int 1))) (.neg (.cst (.int 1))))) .nil)) .nil) (.cons (.ite (.and (.cmp .eq (.var 1) (.cst (.str w_put))) (.and (.isi .tuple (.idx (.var 0) (.cst (.int 2)))) (.cmp .ne (.idx (.var 0) (.cst (.int 2))) (.tup .nil)))) (.cons (.set 3 (.comp (.one 6) (.idx (.var 0) (.cst (.int 2))) .nil (.call f__law_is (.cons (.var 6) .nil)))) (.cons (.set 4 (.cmp .eq (.var 3) (.rep (.slt (.var 3) (.cst (.int 1))) (.f1 .len (.var 3))))) (.cons (.ret (.ife (.and (.var 4) (.cmp .eq (.call f__law_is (.cons (.idx (.var 0) (.cst (.int 1))) .nil)) (.f1 .len (.var 3)))) (.idx (.var 3) (.cst (.int 0))) (.neg (.cst (.int 1))))) .nil))) .nil) (.cons (.ite (.cmp .eq (.var 1) (.cst (.str w_round))) (.cons (.set 5 (.call f__law_is (.cons (.idx (.var 0) (.cst (.int 1))) .nil))) (.cons (.ret (.ife (.and (.chain .le .le (.cst (.int 0)) (.var 5) (.cst (.int 3))) (.cmp .eq (.call f__law_is (.cons (.idx (.var 0) (.cst (.int 2))) .nil)) (.bin .add (.var 5) (.cst (.int 2))))) (.bin .add (.var 5) (.cst (.int 1))) (.neg (.cst (.int 1))))) .nil)) .nil) (.cons (.ret (.neg (.cst (.int 1)))) .nil))))))))⟩
def _law_spoilt_term (f__law_ways : Nat) (f__law_with : Nat) : Def := ⟨3, 6, (.cons (.set 3 (.tup (.cons (.cst (.str w_next)) .nil))) (.cons (.set 4 (.lst (.cons (.cst .none) (.cons (.cst (.int 7)) (.cons (.cst (.str w_next)) (.cons (.tup .nil) (.cons (.lst (.cons (.cst (.str w_next)) .nil)) (.cons (.tup (.cons (.cst (.str w_next)) (.cons (.cst (.int 1)) .nil))) (.cons (.tup (.cons (.cst (.str w_nought)) .nil)) (.cons (.tup (.cons (.cst (.str w_nought)) (.cons (.cst (.int 5)) .nil))) (.cons (.tup (.cons (.cst (.str w_nought)) (.cons (.neg (.cst (.int 1))) .nil))) .nil))))))))))) (.cons (.set 4 (.bin .add (.var 4) (.lst (.cons (.tup (.cons (.cst (.str w_nought)) (.cons (.cst (.bool true)) .nil))) (.cons (.tup (.cons (.cst (.str w_place)) (.cons (.cst (.int 2)) .nil))) (.cons (.tup (.cons (.cst (.str w_place)) (.cons (.cst (.int 0)) (.cons (.cst (.int 0)) .nil)))) (.cons (.tup (.cons (.cst (.str w_place)) (.cons (.cst (.int 2)) (.cons (.cst (.int 2)) .nil)))) (.cons (.tup (.cons (.cst (.str w_place)) (.cons (.cst (.int 5)) (.cons (.cst (.int 0)) .nil)))) .nil)))))))) (.cons (.set 4 (.bin .add (.var 4) (.lst (.cons (.tup (.cons (.cst (.str w_place)) (.cons (.cst (.int 1)) (.cons (.cst (.bool false)) .nil)))) (.cons (.tup (.cons (.cst (.str w_put)) (.cons (.var 3) .nil))) (.cons (.tup (.cons (.cst (.str w_put)) (.cons (.var 3) (.cons (.tup .nil) .nil)))) (.cons (.tup (.cons (.cst (.str w_put)) (.cons (.var 3) (.cons (.lst (.cons (.var 3) .nil)) .nil)))) .nil))))))) (.cons (.set 4 (.bin .add (.var 4) (.lst (.cons (.tup (.cons (.cst (.str w_put)) (.cons (.var 3) (.cons (.tup (.cons (.var 3) (.cons (.var 3) .nil))) .nil)))) (.cons (.tup (.cons (.cst (.str w_put)) (.cons (.tup (.cons (.cst (.str w_nought)) (.cons (.cst (.int 0)) .nil))) (.cons (.tup .nil) .nil)))) (.cons (.tup (.cons (.cst (.str w_round)) (.cons (.var 3) .nil))) .nil)))))) (.cons (.set 4 (.bin .add (.var 4) (.lst (.cons (.tup (.cons (.cst (.str w_round)) (.cons (.var 3) (.cons (.tup (.cons (.cst (.str w_nought)) (.cons (.cst (.int 2)) .nil))) .nil)))) (.cons (.tup (.cons (.cst (.str w_other)) (.cons (.cst (.int 1)) .nil))) (.cons (.tup (.cons (.cst (.str w_round)) (.cons (.tup (.cons (.cst (.str w_nought)) (.cons (.cst (.int 4)) .nil))) (.cons (.tup (.cons (.cst (.str w_nought)) (.cons (.cst (.int 6)) .nil))) .nil)))) .nil)))))) (.cons (.set 4 (.bin .add (.var 4) (.lst (.cons (.tup (.cons (.cst (.str w_nought)) (.cons (.cst (.int 2)) .nil))) (.cons (.tup (.cons (.cst (.str w_place)) (.cons (.cst (.int 3)) (.cons (.cst (.int 1)) .nil)))) (.cons (.var 3) (.cons (.cst (.int 0)) (.cons (.tup (.cons (.var 3) .nil)) (.cons (.tup (.cons (.cst (.str w_nought)) (.cons (.cst (.int 0)) .nil))) (.cons (.tup (.cons (.cst (.str w_nought)) (.cons (.cst (.int 1)) .nil))) (.cons (.tup (.cons (.cst (.str w_nought)) (.cons (.cst (.int 3)) .nil))) .nil))))))))))) (.cons (.set 4 (.bin .add (.var 4) (.lst (.cons (.tup (.cons (.cst (.str w_nought)) (.cons (.cst (.int 4)) .nil))) (.cons (.tup (.cons (.cst (.str w_place)) (.cons (.cst (.int 1)) (.cons (.cst (.int 0)) .nil)))) (.cons (.tup (.cons (.cst (.str w_place)) (.cons (.cst (.int 2)) (.cons (.cst (.int 1)) .nil)))) (.cons (.tup (.cons (.cst (.str w_place)) (.cons (.cst (.int 4)) (.cons (.cst (.int 2)) .nil)))) .nil))))))) (.cons (.set 5 (.call f__law_ways (.cons (.var 0) .nil))) (.cons (.ret (.call f__law_with (.cons (.var 0) (.cons (.idx (.var 5) (.bin .mod (.idx (.var 1) (.var 2)) (.f1 .len (.var 5)))) (.cons (.idx (.var 4) (.bin .mod (.idx (.var 1) (.bin .add (.var 2) (.cst (.int 1)))) (.f1 .len (.var 4)))) .nil))))) .nil))))))))))⟩
def _law_looked (f_checked : Nat) (f_arity : Nat) (f_size : Nat) : Def := ⟨2, 4, (.cons (.try (.cons (.ite (.cmp .eq (.var 0) (.cst (.int 0))) (.cons (.ret (.call f_checked (.cons (.var 1) .nil))) .nil) .nil) (.cons (.ite (.cmp .eq (.var 0) (.cst (.int 1))) (.cons (.ret (.call f_arity (.cons (.var 1) .nil))) .nil) .nil) (.cons (.ret (.call f_size (.cons (.var 1) .nil))) .nil))) (.hcons 1 (some 2) (.cons (.set 3 (.lst (.cons (.isi (.exc 0) (.var 2)) (.cons (.isi .valueError (.var 2)) .nil)))) (.cons (.ret (.bin .add (.var 3) (.lst (.cons (.isi (.exc 2) (.var 2)) (.cons (.isi (.exc 3) (.var 2)) .nil))))) .nil)) .nil)) .nil)⟩
def law_T4 (f__law_size : Nat) (f__law_is : Nat) (f__law_looked : Nat) : S := (.cons (.set 3 (.call f__law_is (.cons (.var 2) .nil))) (.cons (.ite (.or (.cmp .lt (.var 3) (.cst (.int 0))) (.cmp .gt (.call f__law_size (.cons (.var 2) .nil)) (.cst (.int 60)))) (.cons (.ret (.cmp .eq (.comp (.one 5) (.rng1 (.cst (.int 3))) .nil (.call f__law_looked (.cons (.var 5) (.cons (.var 2) .nil)))) (.rep (.lst (.cons (.lst (.cons (.cst (.bool true)) (.cons (.cst (.bool true)) (.cons (.cst (.bool false)) (.cons (.cst (.bool false)) .nil))))) .nil)) (.cst (.int 3))))) .nil) .nil) (.cons (.ret (.cmp .eq (.comp (.one 5) (.rng1 (.cst (.int 3))) .nil (.call f__law_looked (.cons (.var 5) (.cons (.var 2) .nil)))) (.lst (.cons (.var 2) (.cons (.var 3) (.cons (.call f__law_size (.cons (.var 2) .nil)) .nil)))))) .nil)))
def law_L1 : S := (.cons (.set 2 (.tup (.cons (.cst (.str w_put)) (.cons (.tup (.cons (.cst (.str w_next)) .nil)) (.cons (.tup (.cons (.var 2) .nil)) .nil))))) .nil)
def law_T3 (f__law_size : Nat) (f__law_is : Nat) (f__law_looked : Nat) : S := (.cons (.ite (.and (.cmp .eq (.bin .mod (.idx (.var 1) (.cst (.int 3))) (.cst (.int 3))) (.cst (.int 0))) (.cmp .ge (.call f__law_is (.cons (.var 2) .nil)) (.cst (.int 0)))) (.cons (.for (.one 4) (.rng1 (.bin .fdiv (.bin .add (.bin .sub (.cst (.int 56)) (.call f__law_size (.cons (.var 2) .nil))) (.bin .mod (.idx (.var 1) (.cst (.int 4))) (.cst (.int 12)))) (.cst (.int 2)))) law_L1) .nil) .nil) (law_T4 f__law_size f__law_is f__law_looked))
def law_T2 (f__law_size : Nat) (f__law_is : Nat) (f__law_spoilt_term : Nat) (f__law_looked : Nat) : S := (.cons (.ite (.cmp .eq (.bin .mod (.idx (.var 1) (.cst (.int 0))) (.cst (.int 2))) (.cst (.int 0))) (.cons (.set 2 (.call f__law_spoilt_term (.cons (.var 2) (.cons (.var 1) (.cons (.cst (.int 1)) .nil))))) .nil) .nil) (law_T3 f__law_size f__law_is f__law_looked))
def law (f__law_row : Nat) (f__law_drawn : Nat) (f__law_size : Nat) (f__law_is : Nat) (f__law_spoilt_term : Nat) (f__law_looked : Nat) : Def := ⟨1, 6, (.cons (.set 1 (.call f__law_row (.cons (.var 0) (.cons (.cst (.int 3)) .nil)))) (.cons (.set 2 (.call f__law_drawn (.cons (.var 0) (.cons (.cst (.int 2)) .nil)))) (law_T2 f__law_size f__law_is f__law_spoilt_term f__law_looked)))⟩
end B01
namespace Pyr
open PySem B
open R (ok exc stuck)
theorem Tm.inj {t u : Tm} (h : t.d = u.d) : t = u := by
  have := Tm.eqv t u
  rw [h, Tm.eqv u u, Tm.eq_refl] at this
  exact (Tm.eq_iff t u).mp this.symm
open Classical in
/-- how many places, or -1 -/
noncomputable def lv (d : D) : Int := if h : IsTm d then (Classical.choose h).ar else -1
theorem lv_tm {t : Tm} (h : t.wf) : lv t.d = t.ar := by
  have hi : IsTm t.d := ⟨t, h, rfl⟩
  unfold lv
  rw [dif_pos hi]
  have := (Classical.choose_spec hi).2
  rw [← Tm.inj this]
theorem lv_no {d : D} (h : ¬ IsTm d) : lv d = -1 := dif_neg h
theorem lv_yes {d : D} (h : lv d ≠ -1) : ∃ t : Tm, t.wf ∧ d = t.d ∧ lv d = t.ar := by
  by_cases hi : IsTm d
  · obtain ⟨t, hw, rfl⟩ := hi
    exact ⟨t, hw, rfl, lv_tm hw⟩
  · exact (h (lv_no hi)).elim
theorem eqvAll_ints : ∀ xs ys : List Int, PyData.eqvAll (xs.map .int) (ys.map .int) = decide (xs = ys)
  | [], [] => by simp
  | [], y :: ys => by simp
  | x :: xs, [] => by simp
  | x :: xs, y :: ys => by simp only [List.map_cons, eqvAll_cc, eqvAll_ints xs ys, eqv_ii]; simp
theorem eqR_ints (xs ys : List Int) : eqR (.list (xs.map .int)) (.list (ys.map .int)) = ok (decide (xs = ys)) := by
  have := depthAll_le (f := PyData.int) (k := 1) xs fun t _ => by simp [PyData.depth]
  rw [eqR_d _ _ (.inl (by simp only [PyData.depth]; omega)), eqv_ll, eqvAll_ints]
theorem rep_ints (x : Int) (n : Nat) (h : n ≤ 1000) : repD (.list [.int x]) (.int (n : Int)) = ok (.list ((List.replicate n x).map .int)) := by
  have h1 : -(2 ^ 63) ≤ (n : Int) ∧ (n : Int) < 2 ^ 63 ∧ [PyData.int x].length * ((n : Int)).toNat ≤ Line := ⟨by omega, by omega, by simp; exact Nat.le_trans h (by decide)⟩
  simp only [repD]
  rw [if_pos h1, Int.toNat_natCast]
  congr 2
  have : ∀ n : Nat, (List.replicate n [PyData.int x]).flatten = (List.replicate n x).map .int := by
    intro n
    induction n with
    | zero => rfl
    | succ n ih => rw [List.replicate_succ, List.flatten_cons, ih]; rfl
  exact this n
theorem take1_ints (x : Int) (xs : List Int) : cutL ((x :: xs).map PyData.int) none (some 1) = [.int x] := by
  have := cut_to ((x :: xs).map PyData.int) 1
  exact this
theorem in_123 (k : Nat) : inR (.int (k : Int)) (.tuple [.int 1, .int 2, .int 3]) = ok (decide (k = 1 ∨ k = 2 ∨ k = 3)) := by
  have : PyData.depth (.int (k : Int)) ≤ 150 := by simp [PyData.depth]
  simp only [inR, if_pos this, List.any_cons, List.any_nil, eqv_ii]
  congr 1
  rw [Bool.eq_iff_iff]
  simp
  omega
theorem e_chain3 {C : Nat → List D → R D} {c1 c2 c3 : Cm} {a b c d : E} {ρ : Env} : evE C (.chain3 c1 c2 c3 a b c d) ρ = (evE C a ρ).bind fun x => (evE C b ρ).bind fun y => (cmpR c1 x y).bind fun k =>
      if k then (evE C c ρ).bind fun z => (cmpR c2 y z).bind fun k2 => if k2 then (evE C d ρ).bind fun u => (cmpR c3 z u).bind fun k3 => ok (.bool k3) else ok (.bool false) else ok (.bool false) := (rfl)
theorem cmp_notin {a b : D} : cmpR .notin a b = (inR a b).map fun k => !k := (rfl)
section
variable {ds : List Def} {lw lis iw po pp pq te ck ar sz lk ce ro le gr dr lpa lsz lwa lwi sp la : Nat} (hlw : ds[lw]? = some B01._law_whole) (hlis : ds[lis]? = some (B01._law_is lw lis))
def isWhole : D → Bool
  | .int _ => true
  | _ => false
include hlw in
theorem whole_ok (n : Nat) (x : D) (hx : plainD x = true) : callF ds (n + 1) lw [x] = ok (.bool (isWhole x)) := by
  rw [run_at hlw _ _ rfl]
  cases x with
  | dict _ => cases hx
  | _ => simp [x_raise, x_raiseX, x_try, h_none, h_some, h_nil, e_slf, e_slt, e_slb, e_exf, x_nil, x_cons, x_doc, x_pass, x_brk, x_cont, x_set, x_unpack, x_par, x_app, x_ext, x_aug, x_expr, x_ite, x_ret, e_nil, e_var, e_cst, e_glob, e_tup, e_lst, e_call, e_bin, e_neg, e_not, e_cmp, e_chain, e_and, e_or, e_ife, e_f1, e_isi, e_idx, es_nil, es_cons, isWhole]
/-- of what is put together -/
noncomputable def putV (a : D) (is : List D) : Int := if is.map lv = List.replicate is.length (lv (is.headD .none)) ∧ lv a = (is.length : Int) then lv (is.headD .none) else -1
theorem lis_nil (C : Nat → List D → R D) (ρ : Env) (is : List D) (h : ∀ x ∈ is, C lis [x] = ok (.int (lv x))) : compK C (.one 6) .nil (.call lis (.cons (.var 6) .nil)) [ρ.getD 0 none, ρ.getD 1 none, ρ.getD 2 none, ρ.getD 3 none, ρ.getD 4 none, ρ.getD 5 none, ρ.getD 6 none] is = ok (.list ((is.map lv).map .int)) := by
  have := compK_one (C := C) (i := 6) (e := .call lis (.cons (.var 6) .nil)) (ρ := [ρ.getD 0 none, ρ.getD 1 none, ρ.getD 2 none, ρ.getD 3 none, ρ.getD 4 none, ρ.getD 5 none, ρ.getD 6 none]) (enc := fun d : D => d) (out := fun d => .int (lv d)) is (fun x hx => by
    have := h x hx
    simp only [x_raise, x_raiseX, x_try, h_none, h_some, h_nil, e_slf, e_slt, e_slb, e_exf, x_nil, x_cons, x_doc, x_pass, x_brk, x_cont, x_set, x_unpack, x_par, x_app, x_ext, x_aug, x_expr, x_ite, x_ret, e_nil, e_var, e_cst, e_glob, e_tup, e_lst, e_call, e_bin, e_neg, e_not, e_cmp, e_chain, e_and, e_or, e_ife, e_f1, e_isi, e_idx, es_nil, es_cons, tryK_exc, tryK_rt, tryK_nx, clK_t, clK_f, leaveS_rt, leaveS_nx, Out.calm_rt, Out.calm_nx, part_i, isi_x, isi_v, cut1, cutR_l, cutR_t, List.drop, out_rt_seq, ofOut_out_rt, R.bind_ok, R.bind_exc, R.bind_stuck, R.calm_ok, R.calm_exc, R.calm_stuck, R.map_ok, R.map_exc, R.map_stuck, R.out_ok, R.out_exc, R.out_stuck, Out.seq_nx, Out.seq_rt, Out.seq_bk, Out.seq_ct, Out.seq_exc, Out.seq_stuck, eqv_ii, eqv_ss, eqv_tt, eqv_ll, eqv_bb, eqv_it, eqv_ti, eqv_is, eqv_si, eqv_ts, eqv_st, eqv_tn, eqv_nt, eqv_tl, eqv_lt, eqvAll_nn, eqvAll_cc, eqvAll_nc, eqvAll_cn, eqR_ii, eqR_ss, eqR_bb, nth0, nth1, nth2, nth3, truthy_b, truthy_t, truthy_l, truthy_n, truthy_i, cmp_eq, cmp_ne, cmp_lt, cmp_le, cmp_gt, cmp_ge, cmp_is_nn, cmp_is_tn, cmp_is_ln, cmp_is_in, cmp_is_sn, cmp_isnot_nn, cmp_isnot_tn, cmp_isnot_ln, cmp_isnot_in, cmp_isnot_sn, isi_tt, isi_tl, isi_ti, isi_tb, isi_ts, isi_tn, isi_ii, isi_ib, isi_it, isi_il, isi_is, isi_in, isi_bb, isi_bi, isi_ss, isi_st, isi_si, isi_ll, isi_lt, len_t, len_l, tup_l, tup_t, list_l, list_t, sub_ii, add_ii, idx_t, idx_l, walk_t, walk_l, iteF_t, iteF_f, andK_t, andK_f, orK_t, orK_f, ifeK_t, ifeK_f, chK_t, chK_f, setO_some, getS_0, getS_s, ofOut_rt, ofOut_nx, ofOut_exc, List.set, List.map_cons, List.map_nil, List.cons_append, List.nil_append, List.replicate, decide_true, decide_false, Nat.reduceSub, Nat.reduceAdd, List.length_cons, List.length_nil, Bool.not_true, Bool.not_false, Bool.and_true, Bool.and_false, Bool.true_and, Bool.false_and, List.isEmpty_cons, List.isEmpty_nil, reduceIte, Bool.false_eq_true, if_false, if_true, true_and, and_true, this])
  rw [List.map_id'] at this
  rw [this, List.map_map]
  rfl
include hlis in
theorem lis_put (n : Nat) (a : D) (is : List D) (hne : is ≠ []) (hl : is.length ≤ 1000) (ha : callF ds n lis [a] = ok (.int (lv a))) (hi : ∀ x ∈ is, callF ds n lis [x] = ok (.int (lv x))) : callF ds (n + 1) lis [.tuple [.str w_put, a, .tuple is]] = ok (.int (putV a is)) := by
  obtain ⟨x, xs, rfl⟩ : ∃ x xs, is = x :: xs := by cases is with
    | nil => exact (hne rfl).elim
    | cons x xs => exact ⟨x, xs, rfl⟩
  have hc := lis_nil (lis := lis) (callF ds n) [some (.tuple [.str w_put, a, .tuple (x :: xs)]), some (.str w_put)] (x :: xs) hi
  have hc : compK (callF ds n) (.one 6) .nil (.call lis (.cons (.var 6) .nil)) [some (.tuple [.str w_put, a, .tuple (x :: xs)]), some (.str w_put), none, none, none, none, none] (x :: xs) = ok (.list (((x :: xs).map lv).map .int)) := hc
  have he : eqR (.tuple (x :: xs)) (.tuple []) = ok false := by
    rw [eqR_d _ _ (.inr (by decide))]; simp
  have t1 : cutL (((x :: xs).map lv).map PyData.int) none (some 1) = [.int (lv x)] := take1_ints (lv x) (xs.map lv)
  have r1 := rep_ints (lv x) (x :: xs).length hl
  have q1 := eqR_ints ((x :: xs).map lv) (List.replicate (x :: xs).length (lv x))
  have i3 : inR (.int 3) (.tuple [.int 1, .int 2, .int 3]) = ok true := in_123 3
  have len : (((x :: xs).map lv).map PyData.int).length = (x :: xs).length := by simp
  have hd : L2.atI (((x :: xs).map lv).map PyData.int) 0 = some (.int (lv x)) := by simp
  have hp : putV a (x :: xs) = if (x :: xs).map lv = List.replicate (x :: xs).length (lv x) ∧ lv a = ((x :: xs).length : Int) then lv x else -1 := rfl
  have l0 : L2.atI (((x :: xs).map lv).map PyData.int) 0 = some (.int (lv x)) := by simp
  have tw : f1R .len (.tuple [.str w_put, a, .tuple (x :: xs)]) = ok (.int 3) := rfl
  generalize x :: xs = ys at *
  rw [run_at hlis _ _ rfl, hp]
  by_cases c1 : ys.map lv = List.replicate ys.length (lv x)
  · by_cases c2 : lv a = (ys.length : Int)
    · rw [if_pos ⟨c1, c2⟩]
      rw [decide_eq_true c1] at q1
      simp only [x_raise, x_raiseX, x_try, h_none, h_some, h_nil, e_slf, e_slt, e_slb, e_exf, x_nil, x_cons, x_doc, x_pass, x_brk, x_cont, x_set, x_unpack, x_par, x_app, x_ext, x_aug, x_expr, x_ite, x_ret, e_nil, e_var, e_cst, e_glob, e_tup, e_lst, e_call, e_bin, e_neg, e_not, e_cmp, e_chain, e_and, e_or, e_ife, e_f1, e_isi, e_idx, es_nil, es_cons, tryK_exc, tryK_rt, tryK_nx, clK_t, clK_f, leaveS_rt, leaveS_nx, Out.calm_rt, Out.calm_nx, part_i, isi_x, isi_v, cut1, cutR_l, cutR_t, List.drop, out_rt_seq, ofOut_out_rt, R.bind_ok, R.bind_exc, R.bind_stuck, R.calm_ok, R.calm_exc, R.calm_stuck, R.map_ok, R.map_exc, R.map_stuck, R.out_ok, R.out_exc, R.out_stuck, Out.seq_nx, Out.seq_rt, Out.seq_bk, Out.seq_ct, Out.seq_exc, Out.seq_stuck, eqv_ii, eqv_ss, eqv_tt, eqv_ll, eqv_bb, eqv_it, eqv_ti, eqv_is, eqv_si, eqv_ts, eqv_st, eqv_tn, eqv_nt, eqv_tl, eqv_lt, eqvAll_nn, eqvAll_cc, eqvAll_nc, eqvAll_cn, eqR_ii, eqR_ss, eqR_bb, nth0, nth1, nth2, nth3, truthy_b, truthy_t, truthy_l, truthy_n, truthy_i, cmp_eq, cmp_ne, cmp_lt, cmp_le, cmp_gt, cmp_ge, cmp_is_nn, cmp_is_tn, cmp_is_ln, cmp_is_in, cmp_is_sn, cmp_isnot_nn, cmp_isnot_tn, cmp_isnot_ln, cmp_isnot_in, cmp_isnot_sn, isi_tt, isi_tl, isi_ti, isi_tb, isi_ts, isi_tn, isi_ii, isi_ib, isi_it, isi_il, isi_is, isi_in, isi_bb, isi_bi, isi_ss, isi_st, isi_si, isi_ll, isi_lt, len_t, len_l, tup_l, tup_t, list_l, list_t, sub_ii, add_ii, idx_t, idx_l, walk_t, walk_l, iteF_t, iteF_f, andK_t, andK_f, orK_t, orK_f, ifeK_t, ifeK_f, chK_t, chK_f, setO_some, getS_0, getS_s, ofOut_rt, ofOut_nx, ofOut_exc, List.set, List.map_cons, List.map_nil, List.cons_append, List.nil_append, List.replicate, decide_true, decide_false, Nat.reduceSub, Nat.reduceAdd, List.length_cons, List.length_nil, Bool.not_true, Bool.not_false, Bool.and_true, Bool.and_false, Bool.true_and, Bool.false_and, List.isEmpty_cons, List.isEmpty_nil, reduceIte, Bool.false_eq_true, if_false, if_true, true_and, and_true, Int.reduceEq, Int.reduceLT, Int.reduceLE, Int.reduceNeg, Int.cast_ofNat_Int, Int.reduceAdd, Int.reduceSub, w1, w2, w3, w4, w5, w6, w7, w8, w9, w10, w11, w12, w13, w14, w15, w16, w17, w18, w19, w20, cmp_notin, Int.cast_ofNat_Int, i3, e_comp, eqR_ii, he, hc, e_rep, t1, len, r1, q1, ha, c2, l0]
    · rw [if_neg fun z => c2 z.2]
      rw [decide_eq_true c1] at q1
      simp only [x_raise, x_raiseX, x_try, h_none, h_some, h_nil, e_slf, e_slt, e_slb, e_exf, x_nil, x_cons, x_doc, x_pass, x_brk, x_cont, x_set, x_unpack, x_par, x_app, x_ext, x_aug, x_expr, x_ite, x_ret, e_nil, e_var, e_cst, e_glob, e_tup, e_lst, e_call, e_bin, e_neg, e_not, e_cmp, e_chain, e_and, e_or, e_ife, e_f1, e_isi, e_idx, es_nil, es_cons, tryK_exc, tryK_rt, tryK_nx, clK_t, clK_f, leaveS_rt, leaveS_nx, Out.calm_rt, Out.calm_nx, part_i, isi_x, isi_v, cut1, cutR_l, cutR_t, List.drop, out_rt_seq, ofOut_out_rt, R.bind_ok, R.bind_exc, R.bind_stuck, R.calm_ok, R.calm_exc, R.calm_stuck, R.map_ok, R.map_exc, R.map_stuck, R.out_ok, R.out_exc, R.out_stuck, Out.seq_nx, Out.seq_rt, Out.seq_bk, Out.seq_ct, Out.seq_exc, Out.seq_stuck, eqv_ii, eqv_ss, eqv_tt, eqv_ll, eqv_bb, eqv_it, eqv_ti, eqv_is, eqv_si, eqv_ts, eqv_st, eqv_tn, eqv_nt, eqv_tl, eqv_lt, eqvAll_nn, eqvAll_cc, eqvAll_nc, eqvAll_cn, eqR_ii, eqR_ss, eqR_bb, nth0, nth1, nth2, nth3, truthy_b, truthy_t, truthy_l, truthy_n, truthy_i, cmp_eq, cmp_ne, cmp_lt, cmp_le, cmp_gt, cmp_ge, cmp_is_nn, cmp_is_tn, cmp_is_ln, cmp_is_in, cmp_is_sn, cmp_isnot_nn, cmp_isnot_tn, cmp_isnot_ln, cmp_isnot_in, cmp_isnot_sn, isi_tt, isi_tl, isi_ti, isi_tb, isi_ts, isi_tn, isi_ii, isi_ib, isi_it, isi_il, isi_is, isi_in, isi_bb, isi_bi, isi_ss, isi_st, isi_si, isi_ll, isi_lt, len_t, len_l, tup_l, tup_t, list_l, list_t, sub_ii, add_ii, idx_t, idx_l, walk_t, walk_l, iteF_t, iteF_f, andK_t, andK_f, orK_t, orK_f, ifeK_t, ifeK_f, chK_t, chK_f, setO_some, getS_0, getS_s, ofOut_rt, ofOut_nx, ofOut_exc, List.set, List.map_cons, List.map_nil, List.cons_append, List.nil_append, List.replicate, decide_true, decide_false, Nat.reduceSub, Nat.reduceAdd, List.length_cons, List.length_nil, Bool.not_true, Bool.not_false, Bool.and_true, Bool.and_false, Bool.true_and, Bool.false_and, List.isEmpty_cons, List.isEmpty_nil, reduceIte, Bool.false_eq_true, if_false, if_true, true_and, and_true, Int.reduceEq, Int.reduceLT, Int.reduceLE, Int.reduceNeg, Int.cast_ofNat_Int, Int.reduceAdd, Int.reduceSub, w1, w2, w3, w4, w5, w6, w7, w8, w9, w10, w11, w12, w13, w14, w15, w16, w17, w18, w19, w20, cmp_notin, Int.cast_ofNat_Int, i3, e_comp, eqR_ii, he, hc, e_rep, t1, len, r1, q1, ha, c2, l0]
  · rw [if_neg fun z => c1 z.1]
    rw [decide_eq_false c1] at q1
    simp only [x_raise, x_raiseX, x_try, h_none, h_some, h_nil, e_slf, e_slt, e_slb, e_exf, x_nil, x_cons, x_doc, x_pass, x_brk, x_cont, x_set, x_unpack, x_par, x_app, x_ext, x_aug, x_expr, x_ite, x_ret, e_nil, e_var, e_cst, e_glob, e_tup, e_lst, e_call, e_bin, e_neg, e_not, e_cmp, e_chain, e_and, e_or, e_ife, e_f1, e_isi, e_idx, es_nil, es_cons, tryK_exc, tryK_rt, tryK_nx, clK_t, clK_f, leaveS_rt, leaveS_nx, Out.calm_rt, Out.calm_nx, part_i, isi_x, isi_v, cut1, cutR_l, cutR_t, List.drop, out_rt_seq, ofOut_out_rt, R.bind_ok, R.bind_exc, R.bind_stuck, R.calm_ok, R.calm_exc, R.calm_stuck, R.map_ok, R.map_exc, R.map_stuck, R.out_ok, R.out_exc, R.out_stuck, Out.seq_nx, Out.seq_rt, Out.seq_bk, Out.seq_ct, Out.seq_exc, Out.seq_stuck, eqv_ii, eqv_ss, eqv_tt, eqv_ll, eqv_bb, eqv_it, eqv_ti, eqv_is, eqv_si, eqv_ts, eqv_st, eqv_tn, eqv_nt, eqv_tl, eqv_lt, eqvAll_nn, eqvAll_cc, eqvAll_nc, eqvAll_cn, eqR_ii, eqR_ss, eqR_bb, nth0, nth1, nth2, nth3, truthy_b, truthy_t, truthy_l, truthy_n, truthy_i, cmp_eq, cmp_ne, cmp_lt, cmp_le, cmp_gt, cmp_ge, cmp_is_nn, cmp_is_tn, cmp_is_ln, cmp_is_in, cmp_is_sn, cmp_isnot_nn, cmp_isnot_tn, cmp_isnot_ln, cmp_isnot_in, cmp_isnot_sn, isi_tt, isi_tl, isi_ti, isi_tb, isi_ts, isi_tn, isi_ii, isi_ib, isi_it, isi_il, isi_is, isi_in, isi_bb, isi_bi, isi_ss, isi_st, isi_si, isi_ll, isi_lt, len_t, len_l, tup_l, tup_t, list_l, list_t, sub_ii, add_ii, idx_t, idx_l, walk_t, walk_l, iteF_t, iteF_f, andK_t, andK_f, orK_t, orK_f, ifeK_t, ifeK_f, chK_t, chK_f, setO_some, getS_0, getS_s, ofOut_rt, ofOut_nx, ofOut_exc, List.set, List.map_cons, List.map_nil, List.cons_append, List.nil_append, List.replicate, decide_true, decide_false, Nat.reduceSub, Nat.reduceAdd, List.length_cons, List.length_nil, Bool.not_true, Bool.not_false, Bool.and_true, Bool.and_false, Bool.true_and, Bool.false_and, List.isEmpty_cons, List.isEmpty_nil, reduceIte, Bool.false_eq_true, if_false, if_true, true_and, and_true, Int.reduceEq, Int.reduceLT, Int.reduceLE, Int.reduceNeg, Int.cast_ofNat_Int, Int.reduceAdd, Int.reduceSub, w1, w2, w3, w4, w5, w6, w7, w8, w9, w10, w11, w12, w13, w14, w15, w16, w17, w18, w19, w20, cmp_notin, Int.cast_ofNat_Int, i3, e_comp, eqR_ii, he, hc, e_rep, t1, len, r1, q1, ha, l0]
theorem rep_eq {α : Type} {xs : List α} {y : α} (h : xs = List.replicate xs.length y) : ∀ x ∈ xs, x = y := by
  intro x hx
  rw [h] at hx
  exact List.eq_of_mem_replicate hx
theorem putV_no {a : D} {is : List D} (hne : is ≠ []) (hno : ¬ IsTm (.tuple [.str w_put, a, .tuple is])) : putV a is = -1 := by
  unfold putV
  generalize hm : lv (is.headD .none) = m
  by_cases h : is.map lv = List.replicate is.length m ∧ lv a = (is.length : Int)
  · rw [if_pos h]
    by_cases e : m = -1
    · exact e
    · exfalso
      have hlen : 0 < is.length := List.length_pos_iff.mpr hne
      obtain ⟨t, hw, rfl, ht⟩ := lv_yes (d := a) (by rw [h.2]; omega)
      have all : ∀ x ∈ is, lv x = m := fun x hx => rep_eq (by rw [List.length_map]; exact h.1) (lv x) (List.mem_map_of_mem hx)
      obtain ⟨ts, rfl, hts⟩ := all_tm (xs := is) fun x hx => by
        obtain ⟨u, hu, e2, _⟩ := lv_yes (d := x) (by rw [all x hx]; exact e)
        exact ⟨u, hu, e2⟩
      have hne' : ts ≠ [] := by
        rintro rfl
        exact hne rfl
      have har : ∀ u ∈ ts, (u.ar : Int) = m := fun u hu => by
        rw [← lv_tm (Tm.wf_of hts u hu)]
        exact all _ (by rw [Tm.ds_map]; exact List.mem_map_of_mem hu)
      obtain ⟨v, hv⟩ : ∃ v : Nat, m = v := by
        obtain ⟨u, us, rfl⟩ : ∃ u us, ts = u :: us := by
          cases ts with
          | nil => exact (hne' rfl).elim
          | cons u us => exact ⟨u, us, rfl⟩
        exact ⟨u.ar, (har u List.mem_cons_self).symm⟩
      have h2 := h.2
      rw [ht, Tm.ds_len] at h2
      refine hno ⟨.put t ts, ?_, by simp only [Tm.d]⟩
      simp only [Tm.wf]
      refine ⟨hw, hne', by omega, hts, fun u hu => ?_⟩
      rw [put_ar, headAr_of (m := v) hne' fun u hu => by have := har u hu; omega]
      have := har u hu
      omega
  · rw [if_neg h]
theorem putV_tm {o : Tm} {ts : List Tm} (h : (Tm.put o ts).wf) : putV o.d (Tm.ds ts) = (Tm.put o ts).ar := by
  obtain ⟨h1, h2, h3, h4, h5⟩ := put_facts h
  obtain ⟨u, us, rfl⟩ : ∃ u us, ts = u :: us := by
    cases ts with
    | nil => exact (h2 rfl).elim
    | cons u us => exact ⟨u, us, rfl⟩
  have hu := h5 u List.mem_cons_self
  have hd : lv ((Tm.ds (u :: us)).headD .none) = (Tm.put o (u :: us)).ar := by
    simp only [Tm.ds, List.headD_cons]
    rw [lv_tm (Tm.wf_of h4 u List.mem_cons_self), hu]
  unfold putV
  rw [hd, if_pos]
  refine ⟨?_, by rw [lv_tm h1, Tm.ds_len, h3]⟩
  rw [Tm.ds_len, Tm.ds_map, List.map_map]
  refine List.eq_replicate_iff.mpr ⟨by simp, fun x hx => ?_⟩
  obtain ⟨v, hv, rfl⟩ := List.mem_map.mp hx
  show lv v.d = _
  rw [lv_tm (Tm.wf_of h4 v hv), h5 v hv]
theorem in_not (k : Int) (h : k ≠ 1 ∧ k ≠ 2 ∧ k ≠ 3) : inR (.int k) (.tuple [.int 1, .int 2, .int 3]) = ok false := by
  have : PyData.depth (.int k) ≤ 150 := by simp [PyData.depth]
  simp only [inR, if_pos this, List.any_cons, List.any_nil, eqv_ii]
  congr 1
  rw [Bool.eq_false_iff]
  simp
  omega
include hlis in
theorem lis_one (n : Nat) (x : D) (hx : eqR x (.str w_next) = ok false) : callF ds (n + 1) lis [.tuple [x]] = ok (.int (-1)) := by
  have i1 : inR (.int 1) (.tuple [.int 1, .int 2, .int 3]) = ok true := in_123 1
  rw [run_at hlis _ _ rfl]
  simp only [x_raise, x_raiseX, x_try, h_none, h_some, h_nil, e_slf, e_slt, e_slb, e_exf, x_nil, x_cons, x_doc, x_pass, x_brk, x_cont, x_set, x_unpack, x_par, x_app, x_ext, x_aug, x_expr, x_ite, x_ret, e_nil, e_var, e_cst, e_glob, e_tup, e_lst, e_call, e_bin, e_neg, e_not, e_cmp, e_chain, e_and, e_or, e_ife, e_f1, e_isi, e_idx, es_nil, es_cons, tryK_exc, tryK_rt, tryK_nx, clK_t, clK_f, leaveS_rt, leaveS_nx, Out.calm_rt, Out.calm_nx, part_i, isi_x, isi_v, cut1, cutR_l, cutR_t, List.drop, out_rt_seq, ofOut_out_rt, R.bind_ok, R.bind_exc, R.bind_stuck, R.calm_ok, R.calm_exc, R.calm_stuck, R.map_ok, R.map_exc, R.map_stuck, R.out_ok, R.out_exc, R.out_stuck, Out.seq_nx, Out.seq_rt, Out.seq_bk, Out.seq_ct, Out.seq_exc, Out.seq_stuck, eqv_ii, eqv_ss, eqv_tt, eqv_ll, eqv_bb, eqv_it, eqv_ti, eqv_is, eqv_si, eqv_ts, eqv_st, eqv_tn, eqv_nt, eqv_tl, eqv_lt, eqvAll_nn, eqvAll_cc, eqvAll_nc, eqvAll_cn, eqR_ii, eqR_ss, eqR_bb, nth0, nth1, nth2, nth3, truthy_b, truthy_t, truthy_l, truthy_n, truthy_i, cmp_eq, cmp_ne, cmp_lt, cmp_le, cmp_gt, cmp_ge, cmp_is_nn, cmp_is_tn, cmp_is_ln, cmp_is_in, cmp_is_sn, cmp_isnot_nn, cmp_isnot_tn, cmp_isnot_ln, cmp_isnot_in, cmp_isnot_sn, isi_tt, isi_tl, isi_ti, isi_tb, isi_ts, isi_tn, isi_ii, isi_ib, isi_it, isi_il, isi_is, isi_in, isi_bb, isi_bi, isi_ss, isi_st, isi_si, isi_ll, isi_lt, len_t, len_l, tup_l, tup_t, list_l, list_t, sub_ii, add_ii, idx_t, idx_l, walk_t, walk_l, iteF_t, iteF_f, andK_t, andK_f, orK_t, orK_f, ifeK_t, ifeK_f, chK_t, chK_f, setO_some, getS_0, getS_s, ofOut_rt, ofOut_nx, ofOut_exc, List.set, List.map_cons, List.map_nil, List.cons_append, List.nil_append, List.replicate, decide_true, decide_false, Nat.reduceSub, Nat.reduceAdd, List.length_cons, List.length_nil, Bool.not_true, Bool.not_false, Bool.and_true, Bool.and_false, Bool.true_and, Bool.false_and, List.isEmpty_cons, List.isEmpty_nil, reduceIte, Bool.false_eq_true, if_false, if_true, true_and, and_true, Int.reduceEq, Int.reduceLT, Int.reduceLE, Int.reduceNeg, Int.cast_ofNat_Int, Int.reduceAdd, Int.reduceSub, cmp_notin, i1, hx]
include hlis in
theorem lis_next (n : Nat) : callF ds (n + 1) lis [.tuple [.str w_next]] = ok (.int 1) := by
  have i1 : inR (.int 1) (.tuple [.int 1, .int 2, .int 3]) = ok true := in_123 1
  rw [run_at hlis _ _ rfl]
  simp only [x_raise, x_raiseX, x_try, h_none, h_some, h_nil, e_slf, e_slt, e_slb, e_exf, x_nil, x_cons, x_doc, x_pass, x_brk, x_cont, x_set, x_unpack, x_par, x_app, x_ext, x_aug, x_expr, x_ite, x_ret, e_nil, e_var, e_cst, e_glob, e_tup, e_lst, e_call, e_bin, e_neg, e_not, e_cmp, e_chain, e_and, e_or, e_ife, e_f1, e_isi, e_idx, es_nil, es_cons, tryK_exc, tryK_rt, tryK_nx, clK_t, clK_f, leaveS_rt, leaveS_nx, Out.calm_rt, Out.calm_nx, part_i, isi_x, isi_v, cut1, cutR_l, cutR_t, List.drop, out_rt_seq, ofOut_out_rt, R.bind_ok, R.bind_exc, R.bind_stuck, R.calm_ok, R.calm_exc, R.calm_stuck, R.map_ok, R.map_exc, R.map_stuck, R.out_ok, R.out_exc, R.out_stuck, Out.seq_nx, Out.seq_rt, Out.seq_bk, Out.seq_ct, Out.seq_exc, Out.seq_stuck, eqv_ii, eqv_ss, eqv_tt, eqv_ll, eqv_bb, eqv_it, eqv_ti, eqv_is, eqv_si, eqv_ts, eqv_st, eqv_tn, eqv_nt, eqv_tl, eqv_lt, eqvAll_nn, eqvAll_cc, eqvAll_nc, eqvAll_cn, eqR_ii, eqR_ss, eqR_bb, nth0, nth1, nth2, nth3, truthy_b, truthy_t, truthy_l, truthy_n, truthy_i, cmp_eq, cmp_ne, cmp_lt, cmp_le, cmp_gt, cmp_ge, cmp_is_nn, cmp_is_tn, cmp_is_ln, cmp_is_in, cmp_is_sn, cmp_isnot_nn, cmp_isnot_tn, cmp_isnot_ln, cmp_isnot_in, cmp_isnot_sn, isi_tt, isi_tl, isi_ti, isi_tb, isi_ts, isi_tn, isi_ii, isi_ib, isi_it, isi_il, isi_is, isi_in, isi_bb, isi_bi, isi_ss, isi_st, isi_si, isi_ll, isi_lt, len_t, len_l, tup_l, tup_t, list_l, list_t, sub_ii, add_ii, idx_t, idx_l, walk_t, walk_l, iteF_t, iteF_f, andK_t, andK_f, orK_t, orK_f, ifeK_t, ifeK_f, chK_t, chK_f, setO_some, getS_0, getS_s, ofOut_rt, ofOut_nx, ofOut_exc, List.set, List.map_cons, List.map_nil, List.cons_append, List.nil_append, List.replicate, decide_true, decide_false, Nat.reduceSub, Nat.reduceAdd, List.length_cons, List.length_nil, Bool.not_true, Bool.not_false, Bool.and_true, Bool.and_false, Bool.true_and, Bool.false_and, List.isEmpty_cons, List.isEmpty_nil, reduceIte, Bool.false_eq_true, if_false, if_true, true_and, and_true, Int.reduceEq, Int.reduceLT, Int.reduceLE, Int.reduceNeg, Int.cast_ofNat_Int, Int.reduceAdd, Int.reduceSub, cmp_notin, i1]
include hlis hlw in
theorem lis_two (n : Nat) (x a : D) (pa : plainD a = true) (hx : eqR x (.str w_nought) = ok false ∨ (x = .str w_nought ∧ withinB 0 4 a = false)) : callF ds (n + 2) lis [.tuple [x, a]] = ok (.int (-1)) := by
  have i1 : inR (.int 2) (.tuple [.int 1, .int 2, .int 3]) = ok true := in_123 2
  have w := whole_ok hlw n a pa
  rw [run_at hlis _ _ rfl]
  rcases hx with hx | ⟨rfl, hx⟩
  · simp only [x_raise, x_raiseX, x_try, h_none, h_some, h_nil, e_slf, e_slt, e_slb, e_exf, x_nil, x_cons, x_doc, x_pass, x_brk, x_cont, x_set, x_unpack, x_par, x_app, x_ext, x_aug, x_expr, x_ite, x_ret, e_nil, e_var, e_cst, e_glob, e_tup, e_lst, e_call, e_bin, e_neg, e_not, e_cmp, e_chain, e_and, e_or, e_ife, e_f1, e_isi, e_idx, es_nil, es_cons, tryK_exc, tryK_rt, tryK_nx, clK_t, clK_f, leaveS_rt, leaveS_nx, Out.calm_rt, Out.calm_nx, part_i, isi_x, isi_v, cut1, cutR_l, cutR_t, List.drop, out_rt_seq, ofOut_out_rt, R.bind_ok, R.bind_exc, R.bind_stuck, R.calm_ok, R.calm_exc, R.calm_stuck, R.map_ok, R.map_exc, R.map_stuck, R.out_ok, R.out_exc, R.out_stuck, Out.seq_nx, Out.seq_rt, Out.seq_bk, Out.seq_ct, Out.seq_exc, Out.seq_stuck, eqv_ii, eqv_ss, eqv_tt, eqv_ll, eqv_bb, eqv_it, eqv_ti, eqv_is, eqv_si, eqv_ts, eqv_st, eqv_tn, eqv_nt, eqv_tl, eqv_lt, eqvAll_nn, eqvAll_cc, eqvAll_nc, eqvAll_cn, eqR_ii, eqR_ss, eqR_bb, nth0, nth1, nth2, nth3, truthy_b, truthy_t, truthy_l, truthy_n, truthy_i, cmp_eq, cmp_ne, cmp_lt, cmp_le, cmp_gt, cmp_ge, cmp_is_nn, cmp_is_tn, cmp_is_ln, cmp_is_in, cmp_is_sn, cmp_isnot_nn, cmp_isnot_tn, cmp_isnot_ln, cmp_isnot_in, cmp_isnot_sn, isi_tt, isi_tl, isi_ti, isi_tb, isi_ts, isi_tn, isi_ii, isi_ib, isi_it, isi_il, isi_is, isi_in, isi_bb, isi_bi, isi_ss, isi_st, isi_si, isi_ll, isi_lt, len_t, len_l, tup_l, tup_t, list_l, list_t, sub_ii, add_ii, idx_t, idx_l, walk_t, walk_l, iteF_t, iteF_f, andK_t, andK_f, orK_t, orK_f, ifeK_t, ifeK_f, chK_t, chK_f, setO_some, getS_0, getS_s, ofOut_rt, ofOut_nx, ofOut_exc, List.set, List.map_cons, List.map_nil, List.cons_append, List.nil_append, List.replicate, decide_true, decide_false, Nat.reduceSub, Nat.reduceAdd, List.length_cons, List.length_nil, Bool.not_true, Bool.not_false, Bool.and_true, Bool.and_false, Bool.true_and, Bool.false_and, List.isEmpty_cons, List.isEmpty_nil, reduceIte, Bool.false_eq_true, if_false, if_true, true_and, and_true, Int.reduceEq, Int.reduceLT, Int.reduceLE, Int.reduceNeg, Int.cast_ofNat_Int, Int.reduceAdd, Int.reduceSub, cmp_notin, i1, hx]
  · cases a with
    | int i =>
      simp only [withinB, Bool.and_eq_false_iff, decide_eq_false_iff_not] at hx
      simp only [isWhole] at w
      by_cases h0 : (0 : Int) ≤ i
      · have h4 : ¬ i ≤ 4 := by rcases hx with h | h; exact absurd h0 h; exact h
        simp only [x_raise, x_raiseX, x_try, h_none, h_some, h_nil, e_slf, e_slt, e_slb, e_exf, x_nil, x_cons, x_doc, x_pass, x_brk, x_cont, x_set, x_unpack, x_par, x_app, x_ext, x_aug, x_expr, x_ite, x_ret, e_nil, e_var, e_cst, e_glob, e_tup, e_lst, e_call, e_bin, e_neg, e_not, e_cmp, e_chain, e_and, e_or, e_ife, e_f1, e_isi, e_idx, es_nil, es_cons, tryK_exc, tryK_rt, tryK_nx, clK_t, clK_f, leaveS_rt, leaveS_nx, Out.calm_rt, Out.calm_nx, part_i, isi_x, isi_v, cut1, cutR_l, cutR_t, List.drop, out_rt_seq, ofOut_out_rt, R.bind_ok, R.bind_exc, R.bind_stuck, R.calm_ok, R.calm_exc, R.calm_stuck, R.map_ok, R.map_exc, R.map_stuck, R.out_ok, R.out_exc, R.out_stuck, Out.seq_nx, Out.seq_rt, Out.seq_bk, Out.seq_ct, Out.seq_exc, Out.seq_stuck, eqv_ii, eqv_ss, eqv_tt, eqv_ll, eqv_bb, eqv_it, eqv_ti, eqv_is, eqv_si, eqv_ts, eqv_st, eqv_tn, eqv_nt, eqv_tl, eqv_lt, eqvAll_nn, eqvAll_cc, eqvAll_nc, eqvAll_cn, eqR_ii, eqR_ss, eqR_bb, nth0, nth1, nth2, nth3, truthy_b, truthy_t, truthy_l, truthy_n, truthy_i, cmp_eq, cmp_ne, cmp_lt, cmp_le, cmp_gt, cmp_ge, cmp_is_nn, cmp_is_tn, cmp_is_ln, cmp_is_in, cmp_is_sn, cmp_isnot_nn, cmp_isnot_tn, cmp_isnot_ln, cmp_isnot_in, cmp_isnot_sn, isi_tt, isi_tl, isi_ti, isi_tb, isi_ts, isi_tn, isi_ii, isi_ib, isi_it, isi_il, isi_is, isi_in, isi_bb, isi_bi, isi_ss, isi_st, isi_si, isi_ll, isi_lt, len_t, len_l, tup_l, tup_t, list_l, list_t, sub_ii, add_ii, idx_t, idx_l, walk_t, walk_l, iteF_t, iteF_f, andK_t, andK_f, orK_t, orK_f, ifeK_t, ifeK_f, chK_t, chK_f, setO_some, getS_0, getS_s, ofOut_rt, ofOut_nx, ofOut_exc, List.set, List.map_cons, List.map_nil, List.cons_append, List.nil_append, List.replicate, decide_true, decide_false, Nat.reduceSub, Nat.reduceAdd, List.length_cons, List.length_nil, Bool.not_true, Bool.not_false, Bool.and_true, Bool.and_false, Bool.true_and, Bool.false_and, List.isEmpty_cons, List.isEmpty_nil, reduceIte, Bool.false_eq_true, if_false, if_true, true_and, and_true, Int.reduceEq, Int.reduceLT, Int.reduceLE, Int.reduceNeg, Int.cast_ofNat_Int, Int.reduceAdd, Int.reduceSub, cmp_notin, i1, w, h0, h4]
      · simp only [x_raise, x_raiseX, x_try, h_none, h_some, h_nil, e_slf, e_slt, e_slb, e_exf, x_nil, x_cons, x_doc, x_pass, x_brk, x_cont, x_set, x_unpack, x_par, x_app, x_ext, x_aug, x_expr, x_ite, x_ret, e_nil, e_var, e_cst, e_glob, e_tup, e_lst, e_call, e_bin, e_neg, e_not, e_cmp, e_chain, e_and, e_or, e_ife, e_f1, e_isi, e_idx, es_nil, es_cons, tryK_exc, tryK_rt, tryK_nx, clK_t, clK_f, leaveS_rt, leaveS_nx, Out.calm_rt, Out.calm_nx, part_i, isi_x, isi_v, cut1, cutR_l, cutR_t, List.drop, out_rt_seq, ofOut_out_rt, R.bind_ok, R.bind_exc, R.bind_stuck, R.calm_ok, R.calm_exc, R.calm_stuck, R.map_ok, R.map_exc, R.map_stuck, R.out_ok, R.out_exc, R.out_stuck, Out.seq_nx, Out.seq_rt, Out.seq_bk, Out.seq_ct, Out.seq_exc, Out.seq_stuck, eqv_ii, eqv_ss, eqv_tt, eqv_ll, eqv_bb, eqv_it, eqv_ti, eqv_is, eqv_si, eqv_ts, eqv_st, eqv_tn, eqv_nt, eqv_tl, eqv_lt, eqvAll_nn, eqvAll_cc, eqvAll_nc, eqvAll_cn, eqR_ii, eqR_ss, eqR_bb, nth0, nth1, nth2, nth3, truthy_b, truthy_t, truthy_l, truthy_n, truthy_i, cmp_eq, cmp_ne, cmp_lt, cmp_le, cmp_gt, cmp_ge, cmp_is_nn, cmp_is_tn, cmp_is_ln, cmp_is_in, cmp_is_sn, cmp_isnot_nn, cmp_isnot_tn, cmp_isnot_ln, cmp_isnot_in, cmp_isnot_sn, isi_tt, isi_tl, isi_ti, isi_tb, isi_ts, isi_tn, isi_ii, isi_ib, isi_it, isi_il, isi_is, isi_in, isi_bb, isi_bi, isi_ss, isi_st, isi_si, isi_ll, isi_lt, len_t, len_l, tup_l, tup_t, list_l, list_t, sub_ii, add_ii, idx_t, idx_l, walk_t, walk_l, iteF_t, iteF_f, andK_t, andK_f, orK_t, orK_f, ifeK_t, ifeK_f, chK_t, chK_f, setO_some, getS_0, getS_s, ofOut_rt, ofOut_nx, ofOut_exc, List.set, List.map_cons, List.map_nil, List.cons_append, List.nil_append, List.replicate, decide_true, decide_false, Nat.reduceSub, Nat.reduceAdd, List.length_cons, List.length_nil, Bool.not_true, Bool.not_false, Bool.and_true, Bool.and_false, Bool.true_and, Bool.false_and, List.isEmpty_cons, List.isEmpty_nil, reduceIte, Bool.false_eq_true, if_false, if_true, true_and, and_true, Int.reduceEq, Int.reduceLT, Int.reduceLE, Int.reduceNeg, Int.cast_ofNat_Int, Int.reduceAdd, Int.reduceSub, cmp_notin, i1, w, h0]
    | dict _ => cases pa
    | _ => simp only [isWhole] at w; simp only [x_raise, x_raiseX, x_try, h_none, h_some, h_nil, e_slf, e_slt, e_slb, e_exf, x_nil, x_cons, x_doc, x_pass, x_brk, x_cont, x_set, x_unpack, x_par, x_app, x_ext, x_aug, x_expr, x_ite, x_ret, e_nil, e_var, e_cst, e_glob, e_tup, e_lst, e_call, e_bin, e_neg, e_not, e_cmp, e_chain, e_and, e_or, e_ife, e_f1, e_isi, e_idx, es_nil, es_cons, tryK_exc, tryK_rt, tryK_nx, clK_t, clK_f, leaveS_rt, leaveS_nx, Out.calm_rt, Out.calm_nx, part_i, isi_x, isi_v, cut1, cutR_l, cutR_t, List.drop, out_rt_seq, ofOut_out_rt, R.bind_ok, R.bind_exc, R.bind_stuck, R.calm_ok, R.calm_exc, R.calm_stuck, R.map_ok, R.map_exc, R.map_stuck, R.out_ok, R.out_exc, R.out_stuck, Out.seq_nx, Out.seq_rt, Out.seq_bk, Out.seq_ct, Out.seq_exc, Out.seq_stuck, eqv_ii, eqv_ss, eqv_tt, eqv_ll, eqv_bb, eqv_it, eqv_ti, eqv_is, eqv_si, eqv_ts, eqv_st, eqv_tn, eqv_nt, eqv_tl, eqv_lt, eqvAll_nn, eqvAll_cc, eqvAll_nc, eqvAll_cn, eqR_ii, eqR_ss, eqR_bb, nth0, nth1, nth2, nth3, truthy_b, truthy_t, truthy_l, truthy_n, truthy_i, cmp_eq, cmp_ne, cmp_lt, cmp_le, cmp_gt, cmp_ge, cmp_is_nn, cmp_is_tn, cmp_is_ln, cmp_is_in, cmp_is_sn, cmp_isnot_nn, cmp_isnot_tn, cmp_isnot_ln, cmp_isnot_in, cmp_isnot_sn, isi_tt, isi_tl, isi_ti, isi_tb, isi_ts, isi_tn, isi_ii, isi_ib, isi_it, isi_il, isi_is, isi_in, isi_bb, isi_bi, isi_ss, isi_st, isi_si, isi_ll, isi_lt, len_t, len_l, tup_l, tup_t, list_l, list_t, sub_ii, add_ii, idx_t, idx_l, walk_t, walk_l, iteF_t, iteF_f, andK_t, andK_f, orK_t, orK_f, ifeK_t, ifeK_f, chK_t, chK_f, setO_some, getS_0, getS_s, ofOut_rt, ofOut_nx, ofOut_exc, List.set, List.map_cons, List.map_nil, List.cons_append, List.nil_append, List.replicate, decide_true, decide_false, Nat.reduceSub, Nat.reduceAdd, List.length_cons, List.length_nil, Bool.not_true, Bool.not_false, Bool.and_true, Bool.and_false, Bool.true_and, Bool.false_and, List.isEmpty_cons, List.isEmpty_nil, reduceIte, Bool.false_eq_true, if_false, if_true, true_and, and_true, Int.reduceEq, Int.reduceLT, Int.reduceLE, Int.reduceNeg, Int.cast_ofNat_Int, Int.reduceAdd, Int.reduceSub, cmp_notin, i1, w]
include hlis in
theorem lis_more (n : Nat) (x a b c : D) (r : List D) : callF ds (n + 1) lis [.tuple (x :: a :: b :: c :: r)] = ok (.int (-1)) := by
  rw [run_at hlis _ _ rfl]
  have i1 := in_not ((r.length + 1 + 1 + 1 + 1 : Nat) : Int) (by omega)
  simp only [x_raise, x_raiseX, x_try, h_none, h_some, h_nil, e_slf, e_slt, e_slb, e_exf, x_nil, x_cons, x_doc, x_pass, x_brk, x_cont, x_set, x_unpack, x_par, x_app, x_ext, x_aug, x_expr, x_ite, x_ret, e_nil, e_var, e_cst, e_glob, e_tup, e_lst, e_call, e_bin, e_neg, e_not, e_cmp, e_chain, e_and, e_or, e_ife, e_f1, e_isi, e_idx, es_nil, es_cons, tryK_exc, tryK_rt, tryK_nx, clK_t, clK_f, leaveS_rt, leaveS_nx, Out.calm_rt, Out.calm_nx, part_i, isi_x, isi_v, cut1, cutR_l, cutR_t, List.drop, out_rt_seq, ofOut_out_rt, R.bind_ok, R.bind_exc, R.bind_stuck, R.calm_ok, R.calm_exc, R.calm_stuck, R.map_ok, R.map_exc, R.map_stuck, R.out_ok, R.out_exc, R.out_stuck, Out.seq_nx, Out.seq_rt, Out.seq_bk, Out.seq_ct, Out.seq_exc, Out.seq_stuck, eqv_ii, eqv_ss, eqv_tt, eqv_ll, eqv_bb, eqv_it, eqv_ti, eqv_is, eqv_si, eqv_ts, eqv_st, eqv_tn, eqv_nt, eqv_tl, eqv_lt, eqvAll_nn, eqvAll_cc, eqvAll_nc, eqvAll_cn, eqR_ii, eqR_ss, eqR_bb, nth0, nth1, nth2, nth3, truthy_b, truthy_t, truthy_l, truthy_n, truthy_i, cmp_eq, cmp_ne, cmp_lt, cmp_le, cmp_gt, cmp_ge, cmp_is_nn, cmp_is_tn, cmp_is_ln, cmp_is_in, cmp_is_sn, cmp_isnot_nn, cmp_isnot_tn, cmp_isnot_ln, cmp_isnot_in, cmp_isnot_sn, isi_tt, isi_tl, isi_ti, isi_tb, isi_ts, isi_tn, isi_ii, isi_ib, isi_it, isi_il, isi_is, isi_in, isi_bb, isi_bi, isi_ss, isi_st, isi_si, isi_ll, isi_lt, len_t, len_l, tup_l, tup_t, list_l, list_t, sub_ii, add_ii, idx_t, idx_l, walk_t, walk_l, iteF_t, iteF_f, andK_t, andK_f, orK_t, orK_f, ifeK_t, ifeK_f, chK_t, chK_f, setO_some, getS_0, getS_s, ofOut_rt, ofOut_nx, ofOut_exc, List.set, List.map_cons, List.map_nil, List.cons_append, List.nil_append, List.replicate, decide_true, decide_false, Nat.reduceSub, Nat.reduceAdd, List.length_cons, List.length_nil, Bool.not_true, Bool.not_false, Bool.and_true, Bool.and_false, Bool.true_and, Bool.false_and, List.isEmpty_cons, List.isEmpty_nil, reduceIte, Bool.false_eq_true, if_false, if_true, true_and, and_true, Int.reduceEq, Int.reduceLT, Int.reduceLE, Int.reduceNeg, Int.cast_ofNat_Int, Int.reduceAdd, Int.reduceSub, cmp_notin, i1]
include hlis in
theorem lis_empty (n : Nat) : callF ds (n + 1) lis [.tuple []] = ok (.int (-1)) := by
  rw [run_at hlis _ _ rfl]
  have i1 : inR (.int 0) (.tuple [.int 1, .int 2, .int 3]) = ok false := in_not 0 (by decide)
  simp only [x_raise, x_raiseX, x_try, h_none, h_some, h_nil, e_slf, e_slt, e_slb, e_exf, x_nil, x_cons, x_doc, x_pass, x_brk, x_cont, x_set, x_unpack, x_par, x_app, x_ext, x_aug, x_expr, x_ite, x_ret, e_nil, e_var, e_cst, e_glob, e_tup, e_lst, e_call, e_bin, e_neg, e_not, e_cmp, e_chain, e_and, e_or, e_ife, e_f1, e_isi, e_idx, es_nil, es_cons, tryK_exc, tryK_rt, tryK_nx, clK_t, clK_f, leaveS_rt, leaveS_nx, Out.calm_rt, Out.calm_nx, part_i, isi_x, isi_v, cut1, cutR_l, cutR_t, List.drop, out_rt_seq, ofOut_out_rt, R.bind_ok, R.bind_exc, R.bind_stuck, R.calm_ok, R.calm_exc, R.calm_stuck, R.map_ok, R.map_exc, R.map_stuck, R.out_ok, R.out_exc, R.out_stuck, Out.seq_nx, Out.seq_rt, Out.seq_bk, Out.seq_ct, Out.seq_exc, Out.seq_stuck, eqv_ii, eqv_ss, eqv_tt, eqv_ll, eqv_bb, eqv_it, eqv_ti, eqv_is, eqv_si, eqv_ts, eqv_st, eqv_tn, eqv_nt, eqv_tl, eqv_lt, eqvAll_nn, eqvAll_cc, eqvAll_nc, eqvAll_cn, eqR_ii, eqR_ss, eqR_bb, nth0, nth1, nth2, nth3, truthy_b, truthy_t, truthy_l, truthy_n, truthy_i, cmp_eq, cmp_ne, cmp_lt, cmp_le, cmp_gt, cmp_ge, cmp_is_nn, cmp_is_tn, cmp_is_ln, cmp_is_in, cmp_is_sn, cmp_isnot_nn, cmp_isnot_tn, cmp_isnot_ln, cmp_isnot_in, cmp_isnot_sn, isi_tt, isi_tl, isi_ti, isi_tb, isi_ts, isi_tn, isi_ii, isi_ib, isi_it, isi_il, isi_is, isi_in, isi_bb, isi_bi, isi_ss, isi_st, isi_si, isi_ll, isi_lt, len_t, len_l, tup_l, tup_t, list_l, list_t, sub_ii, add_ii, idx_t, idx_l, walk_t, walk_l, iteF_t, iteF_f, andK_t, andK_f, orK_t, orK_f, ifeK_t, ifeK_f, chK_t, chK_f, setO_some, getS_0, getS_s, ofOut_rt, ofOut_nx, ofOut_exc, List.set, List.map_cons, List.map_nil, List.cons_append, List.nil_append, List.replicate, decide_true, decide_false, Nat.reduceSub, Nat.reduceAdd, List.length_cons, List.length_nil, Bool.not_true, Bool.not_false, Bool.and_true, Bool.and_false, Bool.true_and, Bool.false_and, List.isEmpty_cons, List.isEmpty_nil, reduceIte, Bool.false_eq_true, if_false, if_true, true_and, and_true, Int.reduceEq, Int.reduceLT, Int.reduceLE, Int.reduceNeg, Int.cast_ofNat_Int, Int.reduceAdd, Int.reduceSub, cmp_notin, i1]
include hlis in
theorem lis_flat (n : Nat) (d : D) (h : isiR .tuple d = ok false) : callF ds (n + 1) lis [d] = ok (.int (-1)) := by
  rw [run_at hlis _ _ rfl]
  simp only [x_raise, x_raiseX, x_try, h_none, h_some, h_nil, e_slf, e_slt, e_slb, e_exf, x_nil, x_cons, x_doc, x_pass, x_brk, x_cont, x_set, x_unpack, x_par, x_app, x_ext, x_aug, x_expr, x_ite, x_ret, e_nil, e_var, e_cst, e_glob, e_tup, e_lst, e_call, e_bin, e_neg, e_not, e_cmp, e_chain, e_and, e_or, e_ife, e_f1, e_isi, e_idx, es_nil, es_cons, tryK_exc, tryK_rt, tryK_nx, clK_t, clK_f, leaveS_rt, leaveS_nx, Out.calm_rt, Out.calm_nx, part_i, isi_x, isi_v, cut1, cutR_l, cutR_t, List.drop, out_rt_seq, ofOut_out_rt, R.bind_ok, R.bind_exc, R.bind_stuck, R.calm_ok, R.calm_exc, R.calm_stuck, R.map_ok, R.map_exc, R.map_stuck, R.out_ok, R.out_exc, R.out_stuck, Out.seq_nx, Out.seq_rt, Out.seq_bk, Out.seq_ct, Out.seq_exc, Out.seq_stuck, eqv_ii, eqv_ss, eqv_tt, eqv_ll, eqv_bb, eqv_it, eqv_ti, eqv_is, eqv_si, eqv_ts, eqv_st, eqv_tn, eqv_nt, eqv_tl, eqv_lt, eqvAll_nn, eqvAll_cc, eqvAll_nc, eqvAll_cn, eqR_ii, eqR_ss, eqR_bb, nth0, nth1, nth2, nth3, truthy_b, truthy_t, truthy_l, truthy_n, truthy_i, cmp_eq, cmp_ne, cmp_lt, cmp_le, cmp_gt, cmp_ge, cmp_is_nn, cmp_is_tn, cmp_is_ln, cmp_is_in, cmp_is_sn, cmp_isnot_nn, cmp_isnot_tn, cmp_isnot_ln, cmp_isnot_in, cmp_isnot_sn, isi_tt, isi_tl, isi_ti, isi_tb, isi_ts, isi_tn, isi_ii, isi_ib, isi_it, isi_il, isi_is, isi_in, isi_bb, isi_bi, isi_ss, isi_st, isi_si, isi_ll, isi_lt, len_t, len_l, tup_l, tup_t, list_l, list_t, sub_ii, add_ii, idx_t, idx_l, walk_t, walk_l, iteF_t, iteF_f, andK_t, andK_f, orK_t, orK_f, ifeK_t, ifeK_f, chK_t, chK_f, setO_some, getS_0, getS_s, ofOut_rt, ofOut_nx, ofOut_exc, List.set, List.map_cons, List.map_nil, List.cons_append, List.nil_append, List.replicate, decide_true, decide_false, Nat.reduceSub, Nat.reduceAdd, List.length_cons, List.length_nil, Bool.not_true, Bool.not_false, Bool.and_true, Bool.and_false, Bool.true_and, Bool.false_and, List.isEmpty_cons, List.isEmpty_nil, reduceIte, Bool.false_eq_true, if_false, if_true, true_and, and_true, Int.reduceEq, Int.reduceLT, Int.reduceLE, Int.reduceNeg, Int.cast_ofNat_Int, Int.reduceAdd, Int.reduceSub, h]
include hlis in
/-- three, of another word -/
theorem lis_other (n : Nat) (x a b : D) (h1 : eqR x (.str w_place) = ok false) (h2 : eqR x (.str w_put) = ok false) (h3 : eqR x (.str w_round) = ok false) : callF ds (n + 1) lis [.tuple [x, a, b]] = ok (.int (-1)) := by
  have i1 : inR (.int 3) (.tuple [.int 1, .int 2, .int 3]) = ok true := in_123 3
  rw [run_at hlis _ _ rfl]
  simp only [x_raise, x_raiseX, x_try, h_none, h_some, h_nil, e_slf, e_slt, e_slb, e_exf, x_nil, x_cons, x_doc, x_pass, x_brk, x_cont, x_set, x_unpack, x_par, x_app, x_ext, x_aug, x_expr, x_ite, x_ret, e_nil, e_var, e_cst, e_glob, e_tup, e_lst, e_call, e_bin, e_neg, e_not, e_cmp, e_chain, e_and, e_or, e_ife, e_f1, e_isi, e_idx, es_nil, es_cons, tryK_exc, tryK_rt, tryK_nx, clK_t, clK_f, leaveS_rt, leaveS_nx, Out.calm_rt, Out.calm_nx, part_i, isi_x, isi_v, cut1, cutR_l, cutR_t, List.drop, out_rt_seq, ofOut_out_rt, R.bind_ok, R.bind_exc, R.bind_stuck, R.calm_ok, R.calm_exc, R.calm_stuck, R.map_ok, R.map_exc, R.map_stuck, R.out_ok, R.out_exc, R.out_stuck, Out.seq_nx, Out.seq_rt, Out.seq_bk, Out.seq_ct, Out.seq_exc, Out.seq_stuck, eqv_ii, eqv_ss, eqv_tt, eqv_ll, eqv_bb, eqv_it, eqv_ti, eqv_is, eqv_si, eqv_ts, eqv_st, eqv_tn, eqv_nt, eqv_tl, eqv_lt, eqvAll_nn, eqvAll_cc, eqvAll_nc, eqvAll_cn, eqR_ii, eqR_ss, eqR_bb, nth0, nth1, nth2, nth3, truthy_b, truthy_t, truthy_l, truthy_n, truthy_i, cmp_eq, cmp_ne, cmp_lt, cmp_le, cmp_gt, cmp_ge, cmp_is_nn, cmp_is_tn, cmp_is_ln, cmp_is_in, cmp_is_sn, cmp_isnot_nn, cmp_isnot_tn, cmp_isnot_ln, cmp_isnot_in, cmp_isnot_sn, isi_tt, isi_tl, isi_ti, isi_tb, isi_ts, isi_tn, isi_ii, isi_ib, isi_it, isi_il, isi_is, isi_in, isi_bb, isi_bi, isi_ss, isi_st, isi_si, isi_ll, isi_lt, len_t, len_l, tup_l, tup_t, list_l, list_t, sub_ii, add_ii, idx_t, idx_l, walk_t, walk_l, iteF_t, iteF_f, andK_t, andK_f, orK_t, orK_f, ifeK_t, ifeK_f, chK_t, chK_f, setO_some, getS_0, getS_s, ofOut_rt, ofOut_nx, ofOut_exc, List.set, List.map_cons, List.map_nil, List.cons_append, List.nil_append, List.replicate, decide_true, decide_false, Nat.reduceSub, Nat.reduceAdd, List.length_cons, List.length_nil, Bool.not_true, Bool.not_false, Bool.and_true, Bool.and_false, Bool.true_and, Bool.false_and, List.isEmpty_cons, List.isEmpty_nil, reduceIte, Bool.false_eq_true, if_false, if_true, true_and, and_true, Int.reduceEq, Int.reduceLT, Int.reduceLE, Int.reduceNeg, Int.cast_ofNat_Int, Int.reduceAdd, Int.reduceSub, cmp_notin, i1, h1, h2, h3]
include hlis hlw in
theorem lis_place (n : Nat) (a b : D) (pa : plainD a = true) (pb : plainD b = true) (h : ¬ IsTm (.tuple [.str w_place, a, b])) : callF ds (n + 2) lis [.tuple [.str w_place, a, b]] = ok (.int (-1)) := by
  have i1 : inR (.int 3) (.tuple [.int 1, .int 2, .int 3]) = ok true := in_123 3
  have wa := whole_ok hlw n a pa
  have wb := whole_ok hlw n b pb
  rw [run_at hlis _ _ rfl]
  cases a with
  | int i =>
    cases b with
    | int j =>
      simp only [isWhole] at wa wb
      by_cases c1 : (0 : Int) ≤ j
      · by_cases c2 : j < i
        · by_cases c3 : i ≤ 4
          · refine (h (is_place (by simp [withinB]; omega) fun k e => ?_)).elim
            injection e with e
            subst e
            simp [withinB]; omega
          · simp only [x_raise, x_raiseX, x_try, h_none, h_some, h_nil, e_slf, e_slt, e_slb, e_exf, x_nil, x_cons, x_doc, x_pass, x_brk, x_cont, x_set, x_unpack, x_par, x_app, x_ext, x_aug, x_expr, x_ite, x_ret, e_nil, e_var, e_cst, e_glob, e_tup, e_lst, e_call, e_bin, e_neg, e_not, e_cmp, e_chain, e_and, e_or, e_ife, e_f1, e_isi, e_idx, es_nil, es_cons, tryK_exc, tryK_rt, tryK_nx, clK_t, clK_f, leaveS_rt, leaveS_nx, Out.calm_rt, Out.calm_nx, part_i, isi_x, isi_v, cut1, cutR_l, cutR_t, List.drop, out_rt_seq, ofOut_out_rt, R.bind_ok, R.bind_exc, R.bind_stuck, R.calm_ok, R.calm_exc, R.calm_stuck, R.map_ok, R.map_exc, R.map_stuck, R.out_ok, R.out_exc, R.out_stuck, Out.seq_nx, Out.seq_rt, Out.seq_bk, Out.seq_ct, Out.seq_exc, Out.seq_stuck, eqv_ii, eqv_ss, eqv_tt, eqv_ll, eqv_bb, eqv_it, eqv_ti, eqv_is, eqv_si, eqv_ts, eqv_st, eqv_tn, eqv_nt, eqv_tl, eqv_lt, eqvAll_nn, eqvAll_cc, eqvAll_nc, eqvAll_cn, eqR_ii, eqR_ss, eqR_bb, nth0, nth1, nth2, nth3, truthy_b, truthy_t, truthy_l, truthy_n, truthy_i, cmp_eq, cmp_ne, cmp_lt, cmp_le, cmp_gt, cmp_ge, cmp_is_nn, cmp_is_tn, cmp_is_ln, cmp_is_in, cmp_is_sn, cmp_isnot_nn, cmp_isnot_tn, cmp_isnot_ln, cmp_isnot_in, cmp_isnot_sn, isi_tt, isi_tl, isi_ti, isi_tb, isi_ts, isi_tn, isi_ii, isi_ib, isi_it, isi_il, isi_is, isi_in, isi_bb, isi_bi, isi_ss, isi_st, isi_si, isi_ll, isi_lt, len_t, len_l, tup_l, tup_t, list_l, list_t, sub_ii, add_ii, idx_t, idx_l, walk_t, walk_l, iteF_t, iteF_f, andK_t, andK_f, orK_t, orK_f, ifeK_t, ifeK_f, chK_t, chK_f, setO_some, getS_0, getS_s, ofOut_rt, ofOut_nx, ofOut_exc, List.set, List.map_cons, List.map_nil, List.cons_append, List.nil_append, List.replicate, decide_true, decide_false, Nat.reduceSub, Nat.reduceAdd, List.length_cons, List.length_nil, Bool.not_true, Bool.not_false, Bool.and_true, Bool.and_false, Bool.true_and, Bool.false_and, List.isEmpty_cons, List.isEmpty_nil, reduceIte, Bool.false_eq_true, if_false, if_true, true_and, and_true, Int.reduceEq, Int.reduceLT, Int.reduceLE, Int.reduceNeg, Int.cast_ofNat_Int, Int.reduceAdd, Int.reduceSub, w1, w2, w3, w4, w5, w6, w7, w8, w9, w10, w11, w12, w13, w14, w15, w16, w17, w18, w19, w20, cmp_notin, i1, wa, wb, e_chain3, c1, c2, c3]
        · simp only [x_raise, x_raiseX, x_try, h_none, h_some, h_nil, e_slf, e_slt, e_slb, e_exf, x_nil, x_cons, x_doc, x_pass, x_brk, x_cont, x_set, x_unpack, x_par, x_app, x_ext, x_aug, x_expr, x_ite, x_ret, e_nil, e_var, e_cst, e_glob, e_tup, e_lst, e_call, e_bin, e_neg, e_not, e_cmp, e_chain, e_and, e_or, e_ife, e_f1, e_isi, e_idx, es_nil, es_cons, tryK_exc, tryK_rt, tryK_nx, clK_t, clK_f, leaveS_rt, leaveS_nx, Out.calm_rt, Out.calm_nx, part_i, isi_x, isi_v, cut1, cutR_l, cutR_t, List.drop, out_rt_seq, ofOut_out_rt, R.bind_ok, R.bind_exc, R.bind_stuck, R.calm_ok, R.calm_exc, R.calm_stuck, R.map_ok, R.map_exc, R.map_stuck, R.out_ok, R.out_exc, R.out_stuck, Out.seq_nx, Out.seq_rt, Out.seq_bk, Out.seq_ct, Out.seq_exc, Out.seq_stuck, eqv_ii, eqv_ss, eqv_tt, eqv_ll, eqv_bb, eqv_it, eqv_ti, eqv_is, eqv_si, eqv_ts, eqv_st, eqv_tn, eqv_nt, eqv_tl, eqv_lt, eqvAll_nn, eqvAll_cc, eqvAll_nc, eqvAll_cn, eqR_ii, eqR_ss, eqR_bb, nth0, nth1, nth2, nth3, truthy_b, truthy_t, truthy_l, truthy_n, truthy_i, cmp_eq, cmp_ne, cmp_lt, cmp_le, cmp_gt, cmp_ge, cmp_is_nn, cmp_is_tn, cmp_is_ln, cmp_is_in, cmp_is_sn, cmp_isnot_nn, cmp_isnot_tn, cmp_isnot_ln, cmp_isnot_in, cmp_isnot_sn, isi_tt, isi_tl, isi_ti, isi_tb, isi_ts, isi_tn, isi_ii, isi_ib, isi_it, isi_il, isi_is, isi_in, isi_bb, isi_bi, isi_ss, isi_st, isi_si, isi_ll, isi_lt, len_t, len_l, tup_l, tup_t, list_l, list_t, sub_ii, add_ii, idx_t, idx_l, walk_t, walk_l, iteF_t, iteF_f, andK_t, andK_f, orK_t, orK_f, ifeK_t, ifeK_f, chK_t, chK_f, setO_some, getS_0, getS_s, ofOut_rt, ofOut_nx, ofOut_exc, List.set, List.map_cons, List.map_nil, List.cons_append, List.nil_append, List.replicate, decide_true, decide_false, Nat.reduceSub, Nat.reduceAdd, List.length_cons, List.length_nil, Bool.not_true, Bool.not_false, Bool.and_true, Bool.and_false, Bool.true_and, Bool.false_and, List.isEmpty_cons, List.isEmpty_nil, reduceIte, Bool.false_eq_true, if_false, if_true, true_and, and_true, Int.reduceEq, Int.reduceLT, Int.reduceLE, Int.reduceNeg, Int.cast_ofNat_Int, Int.reduceAdd, Int.reduceSub, w1, w2, w3, w4, w5, w6, w7, w8, w9, w10, w11, w12, w13, w14, w15, w16, w17, w18, w19, w20, cmp_notin, i1, wa, wb, e_chain3, c1, c2]
      · simp only [x_raise, x_raiseX, x_try, h_none, h_some, h_nil, e_slf, e_slt, e_slb, e_exf, x_nil, x_cons, x_doc, x_pass, x_brk, x_cont, x_set, x_unpack, x_par, x_app, x_ext, x_aug, x_expr, x_ite, x_ret, e_nil, e_var, e_cst, e_glob, e_tup, e_lst, e_call, e_bin, e_neg, e_not, e_cmp, e_chain, e_and, e_or, e_ife, e_f1, e_isi, e_idx, es_nil, es_cons, tryK_exc, tryK_rt, tryK_nx, clK_t, clK_f, leaveS_rt, leaveS_nx, Out.calm_rt, Out.calm_nx, part_i, isi_x, isi_v, cut1, cutR_l, cutR_t, List.drop, out_rt_seq, ofOut_out_rt, R.bind_ok, R.bind_exc, R.bind_stuck, R.calm_ok, R.calm_exc, R.calm_stuck, R.map_ok, R.map_exc, R.map_stuck, R.out_ok, R.out_exc, R.out_stuck, Out.seq_nx, Out.seq_rt, Out.seq_bk, Out.seq_ct, Out.seq_exc, Out.seq_stuck, eqv_ii, eqv_ss, eqv_tt, eqv_ll, eqv_bb, eqv_it, eqv_ti, eqv_is, eqv_si, eqv_ts, eqv_st, eqv_tn, eqv_nt, eqv_tl, eqv_lt, eqvAll_nn, eqvAll_cc, eqvAll_nc, eqvAll_cn, eqR_ii, eqR_ss, eqR_bb, nth0, nth1, nth2, nth3, truthy_b, truthy_t, truthy_l, truthy_n, truthy_i, cmp_eq, cmp_ne, cmp_lt, cmp_le, cmp_gt, cmp_ge, cmp_is_nn, cmp_is_tn, cmp_is_ln, cmp_is_in, cmp_is_sn, cmp_isnot_nn, cmp_isnot_tn, cmp_isnot_ln, cmp_isnot_in, cmp_isnot_sn, isi_tt, isi_tl, isi_ti, isi_tb, isi_ts, isi_tn, isi_ii, isi_ib, isi_it, isi_il, isi_is, isi_in, isi_bb, isi_bi, isi_ss, isi_st, isi_si, isi_ll, isi_lt, len_t, len_l, tup_l, tup_t, list_l, list_t, sub_ii, add_ii, idx_t, idx_l, walk_t, walk_l, iteF_t, iteF_f, andK_t, andK_f, orK_t, orK_f, ifeK_t, ifeK_f, chK_t, chK_f, setO_some, getS_0, getS_s, ofOut_rt, ofOut_nx, ofOut_exc, List.set, List.map_cons, List.map_nil, List.cons_append, List.nil_append, List.replicate, decide_true, decide_false, Nat.reduceSub, Nat.reduceAdd, List.length_cons, List.length_nil, Bool.not_true, Bool.not_false, Bool.and_true, Bool.and_false, Bool.true_and, Bool.false_and, List.isEmpty_cons, List.isEmpty_nil, reduceIte, Bool.false_eq_true, if_false, if_true, true_and, and_true, Int.reduceEq, Int.reduceLT, Int.reduceLE, Int.reduceNeg, Int.cast_ofNat_Int, Int.reduceAdd, Int.reduceSub, w1, w2, w3, w4, w5, w6, w7, w8, w9, w10, w11, w12, w13, w14, w15, w16, w17, w18, w19, w20, cmp_notin, i1, wa, wb, e_chain3, c1]
    | dict _ => cases pb
    | _ => simp only [isWhole] at wa wb; simp only [x_raise, x_raiseX, x_try, h_none, h_some, h_nil, e_slf, e_slt, e_slb, e_exf, x_nil, x_cons, x_doc, x_pass, x_brk, x_cont, x_set, x_unpack, x_par, x_app, x_ext, x_aug, x_expr, x_ite, x_ret, e_nil, e_var, e_cst, e_glob, e_tup, e_lst, e_call, e_bin, e_neg, e_not, e_cmp, e_chain, e_and, e_or, e_ife, e_f1, e_isi, e_idx, es_nil, es_cons, tryK_exc, tryK_rt, tryK_nx, clK_t, clK_f, leaveS_rt, leaveS_nx, Out.calm_rt, Out.calm_nx, part_i, isi_x, isi_v, cut1, cutR_l, cutR_t, List.drop, out_rt_seq, ofOut_out_rt, R.bind_ok, R.bind_exc, R.bind_stuck, R.calm_ok, R.calm_exc, R.calm_stuck, R.map_ok, R.map_exc, R.map_stuck, R.out_ok, R.out_exc, R.out_stuck, Out.seq_nx, Out.seq_rt, Out.seq_bk, Out.seq_ct, Out.seq_exc, Out.seq_stuck, eqv_ii, eqv_ss, eqv_tt, eqv_ll, eqv_bb, eqv_it, eqv_ti, eqv_is, eqv_si, eqv_ts, eqv_st, eqv_tn, eqv_nt, eqv_tl, eqv_lt, eqvAll_nn, eqvAll_cc, eqvAll_nc, eqvAll_cn, eqR_ii, eqR_ss, eqR_bb, nth0, nth1, nth2, nth3, truthy_b, truthy_t, truthy_l, truthy_n, truthy_i, cmp_eq, cmp_ne, cmp_lt, cmp_le, cmp_gt, cmp_ge, cmp_is_nn, cmp_is_tn, cmp_is_ln, cmp_is_in, cmp_is_sn, cmp_isnot_nn, cmp_isnot_tn, cmp_isnot_ln, cmp_isnot_in, cmp_isnot_sn, isi_tt, isi_tl, isi_ti, isi_tb, isi_ts, isi_tn, isi_ii, isi_ib, isi_it, isi_il, isi_is, isi_in, isi_bb, isi_bi, isi_ss, isi_st, isi_si, isi_ll, isi_lt, len_t, len_l, tup_l, tup_t, list_l, list_t, sub_ii, add_ii, idx_t, idx_l, walk_t, walk_l, iteF_t, iteF_f, andK_t, andK_f, orK_t, orK_f, ifeK_t, ifeK_f, chK_t, chK_f, setO_some, getS_0, getS_s, ofOut_rt, ofOut_nx, ofOut_exc, List.set, List.map_cons, List.map_nil, List.cons_append, List.nil_append, List.replicate, decide_true, decide_false, Nat.reduceSub, Nat.reduceAdd, List.length_cons, List.length_nil, Bool.not_true, Bool.not_false, Bool.and_true, Bool.and_false, Bool.true_and, Bool.false_and, List.isEmpty_cons, List.isEmpty_nil, reduceIte, Bool.false_eq_true, if_false, if_true, true_and, and_true, Int.reduceEq, Int.reduceLT, Int.reduceLE, Int.reduceNeg, Int.cast_ofNat_Int, Int.reduceAdd, Int.reduceSub, w1, w2, w3, w4, w5, w6, w7, w8, w9, w10, w11, w12, w13, w14, w15, w16, w17, w18, w19, w20, cmp_notin, i1, wa, wb]
  | dict _ => cases pa
  | _ => simp only [isWhole] at wa; simp only [x_raise, x_raiseX, x_try, h_none, h_some, h_nil, e_slf, e_slt, e_slb, e_exf, x_nil, x_cons, x_doc, x_pass, x_brk, x_cont, x_set, x_unpack, x_par, x_app, x_ext, x_aug, x_expr, x_ite, x_ret, e_nil, e_var, e_cst, e_glob, e_tup, e_lst, e_call, e_bin, e_neg, e_not, e_cmp, e_chain, e_and, e_or, e_ife, e_f1, e_isi, e_idx, es_nil, es_cons, tryK_exc, tryK_rt, tryK_nx, clK_t, clK_f, leaveS_rt, leaveS_nx, Out.calm_rt, Out.calm_nx, part_i, isi_x, isi_v, cut1, cutR_l, cutR_t, List.drop, out_rt_seq, ofOut_out_rt, R.bind_ok, R.bind_exc, R.bind_stuck, R.calm_ok, R.calm_exc, R.calm_stuck, R.map_ok, R.map_exc, R.map_stuck, R.out_ok, R.out_exc, R.out_stuck, Out.seq_nx, Out.seq_rt, Out.seq_bk, Out.seq_ct, Out.seq_exc, Out.seq_stuck, eqv_ii, eqv_ss, eqv_tt, eqv_ll, eqv_bb, eqv_it, eqv_ti, eqv_is, eqv_si, eqv_ts, eqv_st, eqv_tn, eqv_nt, eqv_tl, eqv_lt, eqvAll_nn, eqvAll_cc, eqvAll_nc, eqvAll_cn, eqR_ii, eqR_ss, eqR_bb, nth0, nth1, nth2, nth3, truthy_b, truthy_t, truthy_l, truthy_n, truthy_i, cmp_eq, cmp_ne, cmp_lt, cmp_le, cmp_gt, cmp_ge, cmp_is_nn, cmp_is_tn, cmp_is_ln, cmp_is_in, cmp_is_sn, cmp_isnot_nn, cmp_isnot_tn, cmp_isnot_ln, cmp_isnot_in, cmp_isnot_sn, isi_tt, isi_tl, isi_ti, isi_tb, isi_ts, isi_tn, isi_ii, isi_ib, isi_it, isi_il, isi_is, isi_in, isi_bb, isi_bi, isi_ss, isi_st, isi_si, isi_ll, isi_lt, len_t, len_l, tup_l, tup_t, list_l, list_t, sub_ii, add_ii, idx_t, idx_l, walk_t, walk_l, iteF_t, iteF_f, andK_t, andK_f, orK_t, orK_f, ifeK_t, ifeK_f, chK_t, chK_f, setO_some, getS_0, getS_s, ofOut_rt, ofOut_nx, ofOut_exc, List.set, List.map_cons, List.map_nil, List.cons_append, List.nil_append, List.replicate, decide_true, decide_false, Nat.reduceSub, Nat.reduceAdd, List.length_cons, List.length_nil, Bool.not_true, Bool.not_false, Bool.and_true, Bool.and_false, Bool.true_and, Bool.false_and, List.isEmpty_cons, List.isEmpty_nil, reduceIte, Bool.false_eq_true, if_false, if_true, true_and, and_true, Int.reduceEq, Int.reduceLT, Int.reduceLE, Int.reduceNeg, Int.cast_ofNat_Int, Int.reduceAdd, Int.reduceSub, w1, w2, w3, w4, w5, w6, w7, w8, w9, w10, w11, w12, w13, w14, w15, w16, w17, w18, w19, w20, cmp_notin, i1, wa]
include hlis in
theorem lis_put0 (n : Nat) (a b : D) (h : isiR .tuple b = ok false ∨ b = .tuple []) : callF ds (n + 1) lis [.tuple [.str w_put, a, b]] = ok (.int (-1)) := by
  have i1 : inR (.int 3) (.tuple [.int 1, .int 2, .int 3]) = ok true := in_123 3
  have he : eqR (.tuple []) (.tuple []) = ok true := by
    rw [eqR_d _ _ (.inr (by decide))]
    simp
  rw [run_at hlis _ _ rfl]
  rcases h with h | rfl
  · simp only [x_raise, x_raiseX, x_try, h_none, h_some, h_nil, e_slf, e_slt, e_slb, e_exf, x_nil, x_cons, x_doc, x_pass, x_brk, x_cont, x_set, x_unpack, x_par, x_app, x_ext, x_aug, x_expr, x_ite, x_ret, e_nil, e_var, e_cst, e_glob, e_tup, e_lst, e_call, e_bin, e_neg, e_not, e_cmp, e_chain, e_and, e_or, e_ife, e_f1, e_isi, e_idx, es_nil, es_cons, tryK_exc, tryK_rt, tryK_nx, clK_t, clK_f, leaveS_rt, leaveS_nx, Out.calm_rt, Out.calm_nx, part_i, isi_x, isi_v, cut1, cutR_l, cutR_t, List.drop, out_rt_seq, ofOut_out_rt, R.bind_ok, R.bind_exc, R.bind_stuck, R.calm_ok, R.calm_exc, R.calm_stuck, R.map_ok, R.map_exc, R.map_stuck, R.out_ok, R.out_exc, R.out_stuck, Out.seq_nx, Out.seq_rt, Out.seq_bk, Out.seq_ct, Out.seq_exc, Out.seq_stuck, eqv_ii, eqv_ss, eqv_tt, eqv_ll, eqv_bb, eqv_it, eqv_ti, eqv_is, eqv_si, eqv_ts, eqv_st, eqv_tn, eqv_nt, eqv_tl, eqv_lt, eqvAll_nn, eqvAll_cc, eqvAll_nc, eqvAll_cn, eqR_ii, eqR_ss, eqR_bb, nth0, nth1, nth2, nth3, truthy_b, truthy_t, truthy_l, truthy_n, truthy_i, cmp_eq, cmp_ne, cmp_lt, cmp_le, cmp_gt, cmp_ge, cmp_is_nn, cmp_is_tn, cmp_is_ln, cmp_is_in, cmp_is_sn, cmp_isnot_nn, cmp_isnot_tn, cmp_isnot_ln, cmp_isnot_in, cmp_isnot_sn, isi_tt, isi_tl, isi_ti, isi_tb, isi_ts, isi_tn, isi_ii, isi_ib, isi_it, isi_il, isi_is, isi_in, isi_bb, isi_bi, isi_ss, isi_st, isi_si, isi_ll, isi_lt, len_t, len_l, tup_l, tup_t, list_l, list_t, sub_ii, add_ii, idx_t, idx_l, walk_t, walk_l, iteF_t, iteF_f, andK_t, andK_f, orK_t, orK_f, ifeK_t, ifeK_f, chK_t, chK_f, setO_some, getS_0, getS_s, ofOut_rt, ofOut_nx, ofOut_exc, List.set, List.map_cons, List.map_nil, List.cons_append, List.nil_append, List.replicate, decide_true, decide_false, Nat.reduceSub, Nat.reduceAdd, List.length_cons, List.length_nil, Bool.not_true, Bool.not_false, Bool.and_true, Bool.and_false, Bool.true_and, Bool.false_and, List.isEmpty_cons, List.isEmpty_nil, reduceIte, Bool.false_eq_true, if_false, if_true, true_and, and_true, Int.reduceEq, Int.reduceLT, Int.reduceLE, Int.reduceNeg, Int.cast_ofNat_Int, Int.reduceAdd, Int.reduceSub, w1, w2, w3, w4, w5, w6, w7, w8, w9, w10, w11, w12, w13, w14, w15, w16, w17, w18, w19, w20, cmp_notin, i1, h]
  · simp only [x_raise, x_raiseX, x_try, h_none, h_some, h_nil, e_slf, e_slt, e_slb, e_exf, x_nil, x_cons, x_doc, x_pass, x_brk, x_cont, x_set, x_unpack, x_par, x_app, x_ext, x_aug, x_expr, x_ite, x_ret, e_nil, e_var, e_cst, e_glob, e_tup, e_lst, e_call, e_bin, e_neg, e_not, e_cmp, e_chain, e_and, e_or, e_ife, e_f1, e_isi, e_idx, es_nil, es_cons, tryK_exc, tryK_rt, tryK_nx, clK_t, clK_f, leaveS_rt, leaveS_nx, Out.calm_rt, Out.calm_nx, part_i, isi_x, isi_v, cut1, cutR_l, cutR_t, List.drop, out_rt_seq, ofOut_out_rt, R.bind_ok, R.bind_exc, R.bind_stuck, R.calm_ok, R.calm_exc, R.calm_stuck, R.map_ok, R.map_exc, R.map_stuck, R.out_ok, R.out_exc, R.out_stuck, Out.seq_nx, Out.seq_rt, Out.seq_bk, Out.seq_ct, Out.seq_exc, Out.seq_stuck, eqv_ii, eqv_ss, eqv_tt, eqv_ll, eqv_bb, eqv_it, eqv_ti, eqv_is, eqv_si, eqv_ts, eqv_st, eqv_tn, eqv_nt, eqv_tl, eqv_lt, eqvAll_nn, eqvAll_cc, eqvAll_nc, eqvAll_cn, eqR_ii, eqR_ss, eqR_bb, nth0, nth1, nth2, nth3, truthy_b, truthy_t, truthy_l, truthy_n, truthy_i, cmp_eq, cmp_ne, cmp_lt, cmp_le, cmp_gt, cmp_ge, cmp_is_nn, cmp_is_tn, cmp_is_ln, cmp_is_in, cmp_is_sn, cmp_isnot_nn, cmp_isnot_tn, cmp_isnot_ln, cmp_isnot_in, cmp_isnot_sn, isi_tt, isi_tl, isi_ti, isi_tb, isi_ts, isi_tn, isi_ii, isi_ib, isi_it, isi_il, isi_is, isi_in, isi_bb, isi_bi, isi_ss, isi_st, isi_si, isi_ll, isi_lt, len_t, len_l, tup_l, tup_t, list_l, list_t, sub_ii, add_ii, idx_t, idx_l, walk_t, walk_l, iteF_t, iteF_f, andK_t, andK_f, orK_t, orK_f, ifeK_t, ifeK_f, chK_t, chK_f, setO_some, getS_0, getS_s, ofOut_rt, ofOut_nx, ofOut_exc, List.set, List.map_cons, List.map_nil, List.cons_append, List.nil_append, List.replicate, decide_true, decide_false, Nat.reduceSub, Nat.reduceAdd, List.length_cons, List.length_nil, Bool.not_true, Bool.not_false, Bool.and_true, Bool.and_false, Bool.true_and, Bool.false_and, List.isEmpty_cons, List.isEmpty_nil, reduceIte, Bool.false_eq_true, if_false, if_true, true_and, and_true, Int.reduceEq, Int.reduceLT, Int.reduceLE, Int.reduceNeg, Int.cast_ofNat_Int, Int.reduceAdd, Int.reduceSub, w1, w2, w3, w4, w5, w6, w7, w8, w9, w10, w11, w12, w13, w14, w15, w16, w17, w18, w19, w20, cmp_notin, i1, he]
include hlis in
theorem lis_round (n : Nat) (a b : D) (ha : callF ds n lis [a] = ok (.int (lv a))) (hb : callF ds n lis [b] = ok (.int (lv b))) : callF ds (n + 1) lis [.tuple [.str w_round, a, b]] = ok (.int (if 0 ≤ lv a ∧ lv a ≤ 3 ∧ lv b = lv a + 2 then lv a + 1 else -1)) := by
  have i1 : inR (.int 3) (.tuple [.int 1, .int 2, .int 3]) = ok true := in_123 3
  rw [run_at hlis _ _ rfl]
  by_cases c1 : 0 ≤ lv a
  · by_cases c2 : lv a ≤ 3
    · by_cases c3 : lv b = lv a + 2
      · rw [if_pos ⟨c1, c2, c3⟩]
        simp only [x_raise, x_raiseX, x_try, h_none, h_some, h_nil, e_slf, e_slt, e_slb, e_exf, x_nil, x_cons, x_doc, x_pass, x_brk, x_cont, x_set, x_unpack, x_par, x_app, x_ext, x_aug, x_expr, x_ite, x_ret, e_nil, e_var, e_cst, e_glob, e_tup, e_lst, e_call, e_bin, e_neg, e_not, e_cmp, e_chain, e_and, e_or, e_ife, e_f1, e_isi, e_idx, es_nil, es_cons, tryK_exc, tryK_rt, tryK_nx, clK_t, clK_f, leaveS_rt, leaveS_nx, Out.calm_rt, Out.calm_nx, part_i, isi_x, isi_v, cut1, cutR_l, cutR_t, List.drop, out_rt_seq, ofOut_out_rt, R.bind_ok, R.bind_exc, R.bind_stuck, R.calm_ok, R.calm_exc, R.calm_stuck, R.map_ok, R.map_exc, R.map_stuck, R.out_ok, R.out_exc, R.out_stuck, Out.seq_nx, Out.seq_rt, Out.seq_bk, Out.seq_ct, Out.seq_exc, Out.seq_stuck, eqv_ii, eqv_ss, eqv_tt, eqv_ll, eqv_bb, eqv_it, eqv_ti, eqv_is, eqv_si, eqv_ts, eqv_st, eqv_tn, eqv_nt, eqv_tl, eqv_lt, eqvAll_nn, eqvAll_cc, eqvAll_nc, eqvAll_cn, eqR_ii, eqR_ss, eqR_bb, nth0, nth1, nth2, nth3, truthy_b, truthy_t, truthy_l, truthy_n, truthy_i, cmp_eq, cmp_ne, cmp_lt, cmp_le, cmp_gt, cmp_ge, cmp_is_nn, cmp_is_tn, cmp_is_ln, cmp_is_in, cmp_is_sn, cmp_isnot_nn, cmp_isnot_tn, cmp_isnot_ln, cmp_isnot_in, cmp_isnot_sn, isi_tt, isi_tl, isi_ti, isi_tb, isi_ts, isi_tn, isi_ii, isi_ib, isi_it, isi_il, isi_is, isi_in, isi_bb, isi_bi, isi_ss, isi_st, isi_si, isi_ll, isi_lt, len_t, len_l, tup_l, tup_t, list_l, list_t, sub_ii, add_ii, idx_t, idx_l, walk_t, walk_l, iteF_t, iteF_f, andK_t, andK_f, orK_t, orK_f, ifeK_t, ifeK_f, chK_t, chK_f, setO_some, getS_0, getS_s, ofOut_rt, ofOut_nx, ofOut_exc, List.set, List.map_cons, List.map_nil, List.cons_append, List.nil_append, List.replicate, decide_true, decide_false, Nat.reduceSub, Nat.reduceAdd, List.length_cons, List.length_nil, Bool.not_true, Bool.not_false, Bool.and_true, Bool.and_false, Bool.true_and, Bool.false_and, List.isEmpty_cons, List.isEmpty_nil, reduceIte, Bool.false_eq_true, if_false, if_true, true_and, and_true, Int.reduceEq, Int.reduceLT, Int.reduceLE, Int.reduceNeg, Int.cast_ofNat_Int, Int.reduceAdd, Int.reduceSub, w1, w2, w3, w4, w5, w6, w7, w8, w9, w10, w11, w12, w13, w14, w15, w16, w17, w18, w19, w20, cmp_notin, i1, ha, hb, c1, c2, c3]
      · rw [if_neg fun z => c3 z.2.2]
        simp only [x_raise, x_raiseX, x_try, h_none, h_some, h_nil, e_slf, e_slt, e_slb, e_exf, x_nil, x_cons, x_doc, x_pass, x_brk, x_cont, x_set, x_unpack, x_par, x_app, x_ext, x_aug, x_expr, x_ite, x_ret, e_nil, e_var, e_cst, e_glob, e_tup, e_lst, e_call, e_bin, e_neg, e_not, e_cmp, e_chain, e_and, e_or, e_ife, e_f1, e_isi, e_idx, es_nil, es_cons, tryK_exc, tryK_rt, tryK_nx, clK_t, clK_f, leaveS_rt, leaveS_nx, Out.calm_rt, Out.calm_nx, part_i, isi_x, isi_v, cut1, cutR_l, cutR_t, List.drop, out_rt_seq, ofOut_out_rt, R.bind_ok, R.bind_exc, R.bind_stuck, R.calm_ok, R.calm_exc, R.calm_stuck, R.map_ok, R.map_exc, R.map_stuck, R.out_ok, R.out_exc, R.out_stuck, Out.seq_nx, Out.seq_rt, Out.seq_bk, Out.seq_ct, Out.seq_exc, Out.seq_stuck, eqv_ii, eqv_ss, eqv_tt, eqv_ll, eqv_bb, eqv_it, eqv_ti, eqv_is, eqv_si, eqv_ts, eqv_st, eqv_tn, eqv_nt, eqv_tl, eqv_lt, eqvAll_nn, eqvAll_cc, eqvAll_nc, eqvAll_cn, eqR_ii, eqR_ss, eqR_bb, nth0, nth1, nth2, nth3, truthy_b, truthy_t, truthy_l, truthy_n, truthy_i, cmp_eq, cmp_ne, cmp_lt, cmp_le, cmp_gt, cmp_ge, cmp_is_nn, cmp_is_tn, cmp_is_ln, cmp_is_in, cmp_is_sn, cmp_isnot_nn, cmp_isnot_tn, cmp_isnot_ln, cmp_isnot_in, cmp_isnot_sn, isi_tt, isi_tl, isi_ti, isi_tb, isi_ts, isi_tn, isi_ii, isi_ib, isi_it, isi_il, isi_is, isi_in, isi_bb, isi_bi, isi_ss, isi_st, isi_si, isi_ll, isi_lt, len_t, len_l, tup_l, tup_t, list_l, list_t, sub_ii, add_ii, idx_t, idx_l, walk_t, walk_l, iteF_t, iteF_f, andK_t, andK_f, orK_t, orK_f, ifeK_t, ifeK_f, chK_t, chK_f, setO_some, getS_0, getS_s, ofOut_rt, ofOut_nx, ofOut_exc, List.set, List.map_cons, List.map_nil, List.cons_append, List.nil_append, List.replicate, decide_true, decide_false, Nat.reduceSub, Nat.reduceAdd, List.length_cons, List.length_nil, Bool.not_true, Bool.not_false, Bool.and_true, Bool.and_false, Bool.true_and, Bool.false_and, List.isEmpty_cons, List.isEmpty_nil, reduceIte, Bool.false_eq_true, if_false, if_true, true_and, and_true, Int.reduceEq, Int.reduceLT, Int.reduceLE, Int.reduceNeg, Int.cast_ofNat_Int, Int.reduceAdd, Int.reduceSub, w1, w2, w3, w4, w5, w6, w7, w8, w9, w10, w11, w12, w13, w14, w15, w16, w17, w18, w19, w20, cmp_notin, i1, ha, hb, c1, c2, c3]
    · rw [if_neg fun z => c2 z.2.1]
      simp only [x_raise, x_raiseX, x_try, h_none, h_some, h_nil, e_slf, e_slt, e_slb, e_exf, x_nil, x_cons, x_doc, x_pass, x_brk, x_cont, x_set, x_unpack, x_par, x_app, x_ext, x_aug, x_expr, x_ite, x_ret, e_nil, e_var, e_cst, e_glob, e_tup, e_lst, e_call, e_bin, e_neg, e_not, e_cmp, e_chain, e_and, e_or, e_ife, e_f1, e_isi, e_idx, es_nil, es_cons, tryK_exc, tryK_rt, tryK_nx, clK_t, clK_f, leaveS_rt, leaveS_nx, Out.calm_rt, Out.calm_nx, part_i, isi_x, isi_v, cut1, cutR_l, cutR_t, List.drop, out_rt_seq, ofOut_out_rt, R.bind_ok, R.bind_exc, R.bind_stuck, R.calm_ok, R.calm_exc, R.calm_stuck, R.map_ok, R.map_exc, R.map_stuck, R.out_ok, R.out_exc, R.out_stuck, Out.seq_nx, Out.seq_rt, Out.seq_bk, Out.seq_ct, Out.seq_exc, Out.seq_stuck, eqv_ii, eqv_ss, eqv_tt, eqv_ll, eqv_bb, eqv_it, eqv_ti, eqv_is, eqv_si, eqv_ts, eqv_st, eqv_tn, eqv_nt, eqv_tl, eqv_lt, eqvAll_nn, eqvAll_cc, eqvAll_nc, eqvAll_cn, eqR_ii, eqR_ss, eqR_bb, nth0, nth1, nth2, nth3, truthy_b, truthy_t, truthy_l, truthy_n, truthy_i, cmp_eq, cmp_ne, cmp_lt, cmp_le, cmp_gt, cmp_ge, cmp_is_nn, cmp_is_tn, cmp_is_ln, cmp_is_in, cmp_is_sn, cmp_isnot_nn, cmp_isnot_tn, cmp_isnot_ln, cmp_isnot_in, cmp_isnot_sn, isi_tt, isi_tl, isi_ti, isi_tb, isi_ts, isi_tn, isi_ii, isi_ib, isi_it, isi_il, isi_is, isi_in, isi_bb, isi_bi, isi_ss, isi_st, isi_si, isi_ll, isi_lt, len_t, len_l, tup_l, tup_t, list_l, list_t, sub_ii, add_ii, idx_t, idx_l, walk_t, walk_l, iteF_t, iteF_f, andK_t, andK_f, orK_t, orK_f, ifeK_t, ifeK_f, chK_t, chK_f, setO_some, getS_0, getS_s, ofOut_rt, ofOut_nx, ofOut_exc, List.set, List.map_cons, List.map_nil, List.cons_append, List.nil_append, List.replicate, decide_true, decide_false, Nat.reduceSub, Nat.reduceAdd, List.length_cons, List.length_nil, Bool.not_true, Bool.not_false, Bool.and_true, Bool.and_false, Bool.true_and, Bool.false_and, List.isEmpty_cons, List.isEmpty_nil, reduceIte, Bool.false_eq_true, if_false, if_true, true_and, and_true, Int.reduceEq, Int.reduceLT, Int.reduceLE, Int.reduceNeg, Int.cast_ofNat_Int, Int.reduceAdd, Int.reduceSub, w1, w2, w3, w4, w5, w6, w7, w8, w9, w10, w11, w12, w13, w14, w15, w16, w17, w18, w19, w20, cmp_notin, i1, ha, hb, c1, c2]
  · rw [if_neg fun z => c1 z.1]
    simp only [x_raise, x_raiseX, x_try, h_none, h_some, h_nil, e_slf, e_slt, e_slb, e_exf, x_nil, x_cons, x_doc, x_pass, x_brk, x_cont, x_set, x_unpack, x_par, x_app, x_ext, x_aug, x_expr, x_ite, x_ret, e_nil, e_var, e_cst, e_glob, e_tup, e_lst, e_call, e_bin, e_neg, e_not, e_cmp, e_chain, e_and, e_or, e_ife, e_f1, e_isi, e_idx, es_nil, es_cons, tryK_exc, tryK_rt, tryK_nx, clK_t, clK_f, leaveS_rt, leaveS_nx, Out.calm_rt, Out.calm_nx, part_i, isi_x, isi_v, cut1, cutR_l, cutR_t, List.drop, out_rt_seq, ofOut_out_rt, R.bind_ok, R.bind_exc, R.bind_stuck, R.calm_ok, R.calm_exc, R.calm_stuck, R.map_ok, R.map_exc, R.map_stuck, R.out_ok, R.out_exc, R.out_stuck, Out.seq_nx, Out.seq_rt, Out.seq_bk, Out.seq_ct, Out.seq_exc, Out.seq_stuck, eqv_ii, eqv_ss, eqv_tt, eqv_ll, eqv_bb, eqv_it, eqv_ti, eqv_is, eqv_si, eqv_ts, eqv_st, eqv_tn, eqv_nt, eqv_tl, eqv_lt, eqvAll_nn, eqvAll_cc, eqvAll_nc, eqvAll_cn, eqR_ii, eqR_ss, eqR_bb, nth0, nth1, nth2, nth3, truthy_b, truthy_t, truthy_l, truthy_n, truthy_i, cmp_eq, cmp_ne, cmp_lt, cmp_le, cmp_gt, cmp_ge, cmp_is_nn, cmp_is_tn, cmp_is_ln, cmp_is_in, cmp_is_sn, cmp_isnot_nn, cmp_isnot_tn, cmp_isnot_ln, cmp_isnot_in, cmp_isnot_sn, isi_tt, isi_tl, isi_ti, isi_tb, isi_ts, isi_tn, isi_ii, isi_ib, isi_it, isi_il, isi_is, isi_in, isi_bb, isi_bi, isi_ss, isi_st, isi_si, isi_ll, isi_lt, len_t, len_l, tup_l, tup_t, list_l, list_t, sub_ii, add_ii, idx_t, idx_l, walk_t, walk_l, iteF_t, iteF_f, andK_t, andK_f, orK_t, orK_f, ifeK_t, ifeK_f, chK_t, chK_f, setO_some, getS_0, getS_s, ofOut_rt, ofOut_nx, ofOut_exc, List.set, List.map_cons, List.map_nil, List.cons_append, List.nil_append, List.replicate, decide_true, decide_false, Nat.reduceSub, Nat.reduceAdd, List.length_cons, List.length_nil, Bool.not_true, Bool.not_false, Bool.and_true, Bool.and_false, Bool.true_and, Bool.false_and, List.isEmpty_cons, List.isEmpty_nil, reduceIte, Bool.false_eq_true, if_false, if_true, true_and, and_true, Int.reduceEq, Int.reduceLT, Int.reduceLE, Int.reduceNeg, Int.cast_ofNat_Int, Int.reduceAdd, Int.reduceSub, w1, w2, w3, w4, w5, w6, w7, w8, w9, w10, w11, w12, w13, w14, w15, w16, w17, w18, w19, w20, cmp_notin, i1, ha, hb, c1]
include hlis hlw in
theorem lis_nought (n m : Nat) (h : m ≤ 4) : callF ds (n + 2) lis [.tuple [.str w_nought, .int (m : Int)]] = ok (.int m) := by
  have i1 : inR (.int 2) (.tuple [.int 1, .int 2, .int 3]) = ok true := in_123 2
  have w := whole_ok hlw n (.int (m : Int)) rfl
  simp only [isWhole] at w
  have h0 : (0 : Int) ≤ (m : Int) := by omega
  have h4 : (m : Int) ≤ 4 := by omega
  rw [run_at hlis _ _ rfl]
  simp only [x_raise, x_raiseX, x_try, h_none, h_some, h_nil, e_slf, e_slt, e_slb, e_exf, x_nil, x_cons, x_doc, x_pass, x_brk, x_cont, x_set, x_unpack, x_par, x_app, x_ext, x_aug, x_expr, x_ite, x_ret, e_nil, e_var, e_cst, e_glob, e_tup, e_lst, e_call, e_bin, e_neg, e_not, e_cmp, e_chain, e_and, e_or, e_ife, e_f1, e_isi, e_idx, es_nil, es_cons, tryK_exc, tryK_rt, tryK_nx, clK_t, clK_f, leaveS_rt, leaveS_nx, Out.calm_rt, Out.calm_nx, part_i, isi_x, isi_v, cut1, cutR_l, cutR_t, List.drop, out_rt_seq, ofOut_out_rt, R.bind_ok, R.bind_exc, R.bind_stuck, R.calm_ok, R.calm_exc, R.calm_stuck, R.map_ok, R.map_exc, R.map_stuck, R.out_ok, R.out_exc, R.out_stuck, Out.seq_nx, Out.seq_rt, Out.seq_bk, Out.seq_ct, Out.seq_exc, Out.seq_stuck, eqv_ii, eqv_ss, eqv_tt, eqv_ll, eqv_bb, eqv_it, eqv_ti, eqv_is, eqv_si, eqv_ts, eqv_st, eqv_tn, eqv_nt, eqv_tl, eqv_lt, eqvAll_nn, eqvAll_cc, eqvAll_nc, eqvAll_cn, eqR_ii, eqR_ss, eqR_bb, nth0, nth1, nth2, nth3, truthy_b, truthy_t, truthy_l, truthy_n, truthy_i, cmp_eq, cmp_ne, cmp_lt, cmp_le, cmp_gt, cmp_ge, cmp_is_nn, cmp_is_tn, cmp_is_ln, cmp_is_in, cmp_is_sn, cmp_isnot_nn, cmp_isnot_tn, cmp_isnot_ln, cmp_isnot_in, cmp_isnot_sn, isi_tt, isi_tl, isi_ti, isi_tb, isi_ts, isi_tn, isi_ii, isi_ib, isi_it, isi_il, isi_is, isi_in, isi_bb, isi_bi, isi_ss, isi_st, isi_si, isi_ll, isi_lt, len_t, len_l, tup_l, tup_t, list_l, list_t, sub_ii, add_ii, idx_t, idx_l, walk_t, walk_l, iteF_t, iteF_f, andK_t, andK_f, orK_t, orK_f, ifeK_t, ifeK_f, chK_t, chK_f, setO_some, getS_0, getS_s, ofOut_rt, ofOut_nx, ofOut_exc, List.set, List.map_cons, List.map_nil, List.cons_append, List.nil_append, List.replicate, decide_true, decide_false, Nat.reduceSub, Nat.reduceAdd, List.length_cons, List.length_nil, Bool.not_true, Bool.not_false, Bool.and_true, Bool.and_false, Bool.true_and, Bool.false_and, List.isEmpty_cons, List.isEmpty_nil, reduceIte, Bool.false_eq_true, if_false, if_true, true_and, and_true, Int.reduceEq, Int.reduceLT, Int.reduceLE, Int.reduceNeg, Int.cast_ofNat_Int, Int.reduceAdd, Int.reduceSub, cmp_notin, i1, w, h0, h4]
include hlis hlw in
theorem lis_place_yes (n m j : Nat) (h : m ≤ 4) (hj : j < m) : callF ds (n + 2) lis [.tuple [.str w_place, .int (m : Int), .int (j : Int)]] = ok (.int m) := by
  have i1 : inR (.int 3) (.tuple [.int 1, .int 2, .int 3]) = ok true := in_123 3
  have wa := whole_ok hlw n (.int (m : Int)) rfl
  have wb := whole_ok hlw n (.int (j : Int)) rfl
  simp only [isWhole] at wa wb
  have h0 : (0 : Int) ≤ (j : Int) := by omega
  have h4 : (m : Int) ≤ 4 := by omega
  have h5 : (j : Int) < (m : Int) := by omega
  rw [run_at hlis _ _ rfl]
  simp only [x_raise, x_raiseX, x_try, h_none, h_some, h_nil, e_slf, e_slt, e_slb, e_exf, x_nil, x_cons, x_doc, x_pass, x_brk, x_cont, x_set, x_unpack, x_par, x_app, x_ext, x_aug, x_expr, x_ite, x_ret, e_nil, e_var, e_cst, e_glob, e_tup, e_lst, e_call, e_bin, e_neg, e_not, e_cmp, e_chain, e_and, e_or, e_ife, e_f1, e_isi, e_idx, es_nil, es_cons, tryK_exc, tryK_rt, tryK_nx, clK_t, clK_f, leaveS_rt, leaveS_nx, Out.calm_rt, Out.calm_nx, part_i, isi_x, isi_v, cut1, cutR_l, cutR_t, List.drop, out_rt_seq, ofOut_out_rt, R.bind_ok, R.bind_exc, R.bind_stuck, R.calm_ok, R.calm_exc, R.calm_stuck, R.map_ok, R.map_exc, R.map_stuck, R.out_ok, R.out_exc, R.out_stuck, Out.seq_nx, Out.seq_rt, Out.seq_bk, Out.seq_ct, Out.seq_exc, Out.seq_stuck, eqv_ii, eqv_ss, eqv_tt, eqv_ll, eqv_bb, eqv_it, eqv_ti, eqv_is, eqv_si, eqv_ts, eqv_st, eqv_tn, eqv_nt, eqv_tl, eqv_lt, eqvAll_nn, eqvAll_cc, eqvAll_nc, eqvAll_cn, eqR_ii, eqR_ss, eqR_bb, nth0, nth1, nth2, nth3, truthy_b, truthy_t, truthy_l, truthy_n, truthy_i, cmp_eq, cmp_ne, cmp_lt, cmp_le, cmp_gt, cmp_ge, cmp_is_nn, cmp_is_tn, cmp_is_ln, cmp_is_in, cmp_is_sn, cmp_isnot_nn, cmp_isnot_tn, cmp_isnot_ln, cmp_isnot_in, cmp_isnot_sn, isi_tt, isi_tl, isi_ti, isi_tb, isi_ts, isi_tn, isi_ii, isi_ib, isi_it, isi_il, isi_is, isi_in, isi_bb, isi_bi, isi_ss, isi_st, isi_si, isi_ll, isi_lt, len_t, len_l, tup_l, tup_t, list_l, list_t, sub_ii, add_ii, idx_t, idx_l, walk_t, walk_l, iteF_t, iteF_f, andK_t, andK_f, orK_t, orK_f, ifeK_t, ifeK_f, chK_t, chK_f, setO_some, getS_0, getS_s, ofOut_rt, ofOut_nx, ofOut_exc, List.set, List.map_cons, List.map_nil, List.cons_append, List.nil_append, List.replicate, decide_true, decide_false, Nat.reduceSub, Nat.reduceAdd, List.length_cons, List.length_nil, Bool.not_true, Bool.not_false, Bool.and_true, Bool.and_false, Bool.true_and, Bool.false_and, List.isEmpty_cons, List.isEmpty_nil, reduceIte, Bool.false_eq_true, if_false, if_true, true_and, and_true, Int.reduceEq, Int.reduceLT, Int.reduceLE, Int.reduceNeg, Int.cast_ofNat_Int, Int.reduceAdd, Int.reduceSub, cmp_notin, i1, wa, wb, h0, h4, h5, e_chain3]
theorem eqR_str {x : D} (hx : plainD x = true) (v : Str) (h : ∀ w, x = .str w → w ≠ v) : eqR x (.str v) = ok false := by
  have : PyData.depth (.str v) ≤ 150 := by simp [PyData.depth]
  rw [eqR_d _ _ (.inr this)]
  cases x with
  | str w => simp [h w rfl]
  | dict _ => cases hx
  | none => rfl
  | bool _ => rfl
  | int _ => rfl
  | list _ => rfl
  | tuple _ => rfl
include hlis hlw in
/-- _law_is, of anything -/
theorem lis_ok : ∀ (k : Nat) (d : D), Dk k d → ∀ n, k + 3 ≤ n → callF ds n lis [d] = ok (.int (lv d)) := by
  intro k
  induction k with
  | zero =>
    intro d hk n hn
    obtain ⟨n, rfl⟩ : ∃ m, n = m + 2 := ⟨n - 2, by omega⟩
    by_cases h : IsTm d
    · obtain ⟨t, hw, rfl⟩ := h
      rw [lv_tm hw]
      cases t with
      | next => exact lis_next hlis (n + 1)
      | nought m => simp only [Tm.wf] at hw; exact lis_nought hlw hlis n m hw
      | place m j => simp only [Tm.wf] at hw; exact lis_place_yes hlw hlis n m j hw.1 hw.2
      | put o is => exact ((hk.2.2 (.str w_put) o.d (.tuple (Tm.ds is)) (by simp only [Tm.d])).1 rfl).elim
      | round a b => exact ((hk.2.2 (.str w_round) a.d b.d (by simp only [Tm.d])).2 rfl).elim
    · rw [lv_no h]
      cases ht : d with
      | tuple xs =>
        subst ht
        match xs, hk, h with
        | [], hk, h => exact lis_empty hlis (n + 1)
        | [x], hk, h => exact lis_one hlis (n + 1) x (eqR_str (hk.all _ rfl x (by simp)) _ (by rintro w rfl rfl; exact h is_next))
        | [x, a], hk, h =>
          refine lis_two hlw hlis n x a (hk.all _ rfl a (by simp)) ?_
          by_cases hx : x = .str w_nought
          · subst hx
            refine .inr ⟨rfl, ?_⟩
            cases e : withinB 0 4 a
            · rfl
            · exact (h (is_nought e)).elim
          · exact .inl (eqR_str (hk.all _ rfl x (by simp)) _ (by rintro w rfl rfl; exact hx rfl))
        | [x, a, b], hk, h =>
          obtain ⟨h1, h2⟩ := hk.2.2 _ _ _ rfl
          have px := hk.all _ rfl x (by simp)
          have pa := hk.all _ rfl a (by simp)
          have pb := hk.all _ rfl b (by simp)
          by_cases c1 : x = .str w_place
          · subst c1; exact lis_place hlw hlis n a b pa pb h
          · exact lis_other hlis (n + 1) x a b (eqR_str px _ (by rintro w rfl rfl; exact c1 rfl)) (eqR_str px _ (by rintro w rfl rfl; exact h1 rfl)) (eqR_str px _ (by rintro w rfl rfl; exact h2 rfl))
        | x :: a :: b :: c :: r, hk, h => exact lis_more hlis (n + 1) x a b c r
      | dict _ => subst ht; exact absurd hk.plain (by simp [plainD])
      | _ => exact lis_flat hlis (n + 1) _ rfl
  | succ k ih =>
    intro d hk n hn
    obtain ⟨n, rfl⟩ : ∃ m, n = m + 2 := ⟨n - 2, by omega⟩
    by_cases h : IsTm d
    · obtain ⟨t, hw, rfl⟩ := h
      rw [lv_tm hw]
      cases t with
      | next => exact lis_next hlis (n + 1)
      | nought m => simp only [Tm.wf] at hw; exact lis_nought hlw hlis n m hw
      | place m j => simp only [Tm.wf] at hw; exact lis_place_yes hlw hlis n m j hw.1 hw.2
      | put o is =>
        obtain ⟨h1, h2, h3⟩ := hk.2.2 (.str w_put) o.d (.tuple (Tm.ds is)) (by simp only [Tm.d])
        obtain ⟨h4, h5⟩ := h3 rfl _ rfl
        have := lis_put hlis (n + 1) o.d (Tm.ds is) (by
          intro z
          have := (put_facts hw).2.1
          cases is with
          | nil => exact this rfl
          | cons _ _ => simp [Tm.ds] at z) h4 (ih _ (h1 (.inl rfl)) (n + 1) (by omega)) (fun x hx => ih x (h5 x hx) (n + 1) (by omega))
        rw [putV_tm hw] at this
        simp only [Tm.d]
        exact this
      | round a b =>
        obtain ⟨h1, h2, h3⟩ := hk.2.2 (.str w_round) a.d b.d (by simp only [Tm.d])
        have := lis_round hlis (n + 1) a.d b.d (ih _ (h1 (.inr rfl)) (n + 1) (by omega)) (ih _ (h2 rfl) (n + 1) (by omega))
        have hw' : a.wf ∧ b.wf ∧ a.ar ≤ 3 ∧ b.ar = a.ar + 2 := by simpa only [Tm.wf] using hw
        rw [lv_tm hw'.1, lv_tm hw'.2.1, if_pos ⟨by omega, by omega, by omega⟩] at this
        simp only [Tm.d, Tm.ar]
        rw [this]
        congr 2
    · rw [lv_no h]
      cases ht : d with
      | tuple xs =>
        subst ht
        match xs, hk, h with
        | [], hk, h => exact lis_empty hlis (n + 1)
        | [x], hk, h => exact lis_one hlis (n + 1) x (eqR_str (hk.all _ rfl x (by simp)) _ (by rintro w rfl rfl; exact h is_next))
        | [x, a], hk, h =>
          refine lis_two hlw hlis n x a (hk.all _ rfl a (by simp)) ?_
          by_cases hx : x = .str w_nought
          · subst hx
            refine .inr ⟨rfl, ?_⟩
            cases e : withinB 0 4 a
            · rfl
            · exact (h (is_nought e)).elim
          · exact .inl (eqR_str (hk.all _ rfl x (by simp)) _ (by rintro w rfl rfl; exact hx rfl))
        | [x, a, b], hk, h =>
          obtain ⟨h1, h2, h3⟩ := hk.2.2 _ _ _ rfl
          have px := hk.all _ rfl x (by simp)
          have pa := hk.all _ rfl a (by simp)
          have pb := hk.all _ rfl b (by simp)
          by_cases c1 : x = .str w_place
          · subst c1; exact lis_place hlw hlis n a b pa pb h
          · by_cases c2 : x = .str w_put
            · subst c2
              by_cases c4 : ∃ is, b = .tuple is ∧ is ≠ []
              · obtain ⟨is, rfl, hne⟩ := c4
                obtain ⟨h4, h5⟩ := h3 rfl _ rfl
                have := lis_put hlis (n + 1) a is hne h4 (ih _ (h1 (.inl rfl)) (n + 1) (by omega)) (fun x hx => ih x (h5 x hx) (n + 1) (by omega))
                rw [putV_no hne h] at this
                exact this
              · refine lis_put0 hlis (n + 1) a b ?_
                cases b with
                | tuple is =>
                  right
                  cases is with
                  | nil => rfl
                  | cons y ys => exact (c4 ⟨_, rfl, by simp⟩).elim
                | dict _ => cases pb
                | _ => exact .inl rfl
            · by_cases c3 : x = .str w_round
              · subst c3
                have := lis_round hlis (n + 1) a b (ih _ (h1 (.inr rfl)) (n + 1) (by omega)) (ih _ (h2 rfl) (n + 1) (by omega))
                rw [if_neg] at this
                · exact this
                · rintro ⟨g1, g2, g3⟩
                  obtain ⟨t, ht, rfl, e1⟩ := lv_yes (d := a) (by omega)
                  obtain ⟨u, hu, rfl, e2⟩ := lv_yes (d := b) (by omega)
                  exact h ⟨.round t u, by simp only [Tm.wf]; exact ⟨ht, hu, by omega, by omega⟩, by simp only [Tm.d]⟩
              · exact lis_other hlis (n + 1) x a b (eqR_str px _ (by rintro w rfl rfl; exact c1 rfl)) (eqR_str px _ (by rintro w rfl rfl; exact c2 rfl)) (eqR_str px _ (by rintro w rfl rfl; exact c3 rfl))
        | x :: a :: b :: c :: r, hk, h => exact lis_more hlis (n + 1) x a b c r
      | dict _ => subst ht; exact absurd hk.plain (by simp [plainD])
      | _ => exact lis_flat hlis (n + 1) _ rfl
end
/-! ## spoilt -/
mutual
def cnt : D → Nat
  | .tuple xs => 1 + cnts xs
  | _ => 1
def cnts : List D → Nat
  | [] => 0
  | x :: xs => cnt x + cnts xs
end
mutual
theorem cnt_lo : ∀ t : Tm, t.sz ≤ cnt t.d
  | .next => by simp [Tm.sz, Tm.d, cnt, cnts]
  | .nought _ => by simp [Tm.sz, Tm.d, cnt, cnts]
  | .place _ _ => by simp [Tm.sz, Tm.d, cnt, cnts]
  | .put o is => by
    have := cnt_lo o
    have := cnts_lo is
    simp only [Tm.sz, Tm.d, cnt, cnts]; omega
  | .round a b => by
    have := cnt_lo a
    have := cnt_lo b
    simp only [Tm.sz, Tm.d, cnt, cnts]; omega
theorem cnts_lo : ∀ ts : List Tm, Tm.szs ts ≤ cnts (Tm.ds ts)
  | [] => by simp [Tm.szs]
  | t :: ts => by
    have := cnt_lo t
    have := cnts_lo ts
    simp only [Tm.szs, Tm.ds, cnts]; omega
end
mutual
theorem cnt_hi : ∀ t : Tm, cnt t.d ≤ 4 * t.sz
  | .next => by simp [Tm.sz, Tm.d, cnt, cnts]
  | .nought _ => by simp [Tm.sz, Tm.d, cnt, cnts]
  | .place _ _ => by simp [Tm.sz, Tm.d, cnt, cnts]
  | .put o is => by
    have := cnt_hi o
    have := cnts_hi is
    simp only [Tm.sz, Tm.d, cnt, cnts]; omega
  | .round a b => by
    have := cnt_hi a
    have := cnt_hi b
    simp only [Tm.sz, Tm.d, cnt, cnts]; omega
theorem cnts_hi : ∀ ts : List Tm, cnts (Tm.ds ts) ≤ 4 * Tm.szs ts
  | [] => by simp [Tm.ds, cnts]
  | t :: ts => by
    have := cnt_hi t
    have := cnts_hi ts
    simp only [Tm.szs, Tm.ds, cnts]; omega
end
theorem cnts_set : ∀ (ts : List Tm) (k : Nat) (u : Tm) (x : D), ts[k]? = some u → cnts ((Tm.ds ts).set k x) + cnt u.d = cnts (Tm.ds ts) + cnt x
  | [], k, u, x, h => by simp at h
  | t :: ts, 0, u, x, h => by
    have : t = u := by simpa using h
    subst this
    simp only [Tm.ds, List.set, cnts]; omega
  | t :: ts, k + 1, u, x, h => by
    have := cnts_set ts k u x (by simpa using h)
    simp only [Tm.ds, List.set, cnts]; omega
theorem cnt_made (t : Tm) (k : Nat) (u : Tm) (x : D) (h : t.parts[k]? = some u) : cnt (madeD t ((Tm.ds t.parts).set k x)) + cnt u.d = cnt t.d + cnt x := by
  have hs := cnts_set t.parts k u x h
  cases t with
  | put o is =>
    cases k with
    | zero =>
      simp only [Tm.parts, Tm.ds, List.set, madeD, Tm.d, cnt, cnts] at hs ⊢; omega
    | succ k =>
      simp only [Tm.parts, Tm.ds, List.set, madeD, Tm.d, cnt, cnts] at hs ⊢; omega
  | round a b =>
    match k, h with
    | 0, h => simp only [Tm.parts, Tm.ds, List.set, madeD, Tm.d, cnt, cnts] at hs ⊢; omega
    | 1, h => simp only [Tm.parts, Tm.ds, List.set, madeD, Tm.d, cnt, cnts] at hs ⊢; omega
    | k + 2, h => simp [Tm.parts] at h
  | next => simp [Tm.parts] at h
  | nought _ => simp [Tm.parts] at h
  | place _ _ => simp [Tm.parts] at h
theorem cnt_with : ∀ (w : List Nat) (t : Tm) (x : D), (atT w t).isSome = true → cnt (withD w t x) ≤ cnt t.d + cnt x
  | [], t, x, _ => by simp only [withD]; omega
  | k :: w, t, x, h => by
    simp only [atT] at h
    cases e : t.parts[k]? with
    | none => rw [e] at h; cases h
    | some p =>
      rw [e] at h
      have hg : t.parts.getD k .next = p := by rw [List.getD_eq_getElem?_getD, e]; rfl
      have := cnt_with w p x h
      have h2 := cnt_made t k p (withD w p x) e
      simp only [withD, hg]
      omega
theorem dk_ds {k : Nat} {ts : List Tm} (h : ∀ t ∈ ts, Dk k t.d) : ∀ x ∈ Tm.ds ts, Dk k x := by
  intro x hx
  rw [Tm.ds_map] at hx
  obtain ⟨t, ht, rfl⟩ := List.mem_map.mp hx
  exact h t ht
theorem dk_str (w : Str) : plainD (.str w) = true := rfl
theorem dk_put {k : Nat} {a : D} {is : List D} (ha : Dk k a) (hl : is.length ≤ 1000) (hi : ∀ x ∈ is, Dk k x) : Dk (k + 1) (.tuple [.str w_put, a, .tuple is]) := by
  refine ⟨rfl, ?_, ?_⟩
  · intro xs e x hx
    injection e with e
    subst e
    simp at hx
    rcases hx with rfl | rfl | rfl
    · rfl
    · exact ha.plain
    · rfl
  · intro w a' b e
    injection e with e
    injection e with e0 e
    injection e with e1 e
    injection e with e2 _
    subst e1 e2 e0
    refine ⟨fun _ => ha, fun z => ?_, fun _ is' e => ?_⟩
    · injection z with z
      simp [w1, w2, w3, w4, w5, w6, w7, w8, w9, w10, w11, w12, w13, w14, w15, w16, w17, w18, w19, w20] at z
    · injection e with e
      subst e
      exact ⟨hl, hi⟩
theorem dk_round {k : Nat} {a b : D} (ha : Dk k a) (hb : Dk k b) : Dk (k + 1) (.tuple [.str w_round, a, b]) := by
  refine ⟨rfl, ?_, ?_⟩
  · intro xs e x hx
    injection e with e
    subst e
    simp at hx
    rcases hx with rfl | rfl | rfl
    · rfl
    · exact ha.plain
    · exact hb.plain
  · intro w a' b' e
    injection e with e
    injection e with e0 e
    injection e with e1 e
    injection e with e2 _
    subst e1 e2 e0
    refine ⟨fun _ => ha, fun _ => hb, fun z => ?_⟩
    injection z with z
    simp [w1, w2, w3, w4, w5, w6, w7, w8, w9, w10, w11, w12, w13, w14, w15, w16, w17, w18, w19, w20] at z
theorem Tm.dk_of : ∀ (k : Nat) (t : Tm), t.dp ≤ k → t.sz ≤ 1000 → Dk k t.d := by
  intro k
  induction k with
  | zero =>
    intro t h hs
    cases t with
    | next => refine ⟨rfl, fun xs e x hx => ?_, fun w a b e => ?_⟩ <;> simp only [Tm.d] at e
              · injection e with e; subst e; simp at hx; subst hx; rfl
              · injection e with e; simp at e
    | nought m => refine ⟨rfl, fun xs e x hx => ?_, fun w a b e => ?_⟩ <;> simp only [Tm.d] at e
                  · injection e with e; subst e; simp at hx; rcases hx with rfl | rfl <;> rfl
                  · injection e with e; simp at e
    | place m j => refine ⟨rfl, fun xs e x hx => ?_, fun w a b e => ?_⟩ <;> simp only [Tm.d] at e
                   · injection e with e; subst e; simp at hx; rcases hx with rfl | rfl | rfl <;> rfl
                   · injection e with e; injection e with e0 e; subst e0; simp [w1, w2, w3, w4, w5, w6, w7, w8, w9, w10, w11, w12, w13, w14, w15, w16, w17, w18, w19, w20]
    | put o is => simp [Tm.dp] at h
    | round a b => simp [Tm.dp] at h
  | succ k ih =>
    intro t h hs
    cases t with
    | next => exact (ih .next (by simp [Tm.dp]) hs).up
    | nought m => exact (ih (.nought m) (by simp [Tm.dp]) hs).up
    | place m j => exact (ih (.place m j) (by simp [Tm.dp]) hs).up
    | put o is =>
      simp only [Tm.dp, Tm.sz] at h hs
      simp only [Tm.d]
      have h1 := szs_len is
      refine dk_put (ih o (by omega) (by omega)) (by rw [Tm.ds_len]; omega) (dk_ds fun t ht => ?_)
      have := Tm.dp_of ht
      have := szs_of ht
      exact ih t (by omega) (by omega)
    | round a b =>
      simp only [Tm.dp, Tm.sz] at h hs
      simp only [Tm.d]
      exact dk_round (ih a (by omega) (by omega)) (ih b (by omega) (by omega))
theorem dk_made {t : Tm} {k : Nat} {ps : List D} (h : t.parts ≠ []) (hl : ps.length = t.parts.length) (hl2 : ps.length ≤ 1000) (hp : ∀ x ∈ ps, Dk k x) : Dk (k + 1) (madeD t ps) := by
  cases t with
  | put o is =>
    cases ps with
    | nil => simp [Tm.parts] at hl
    | cons p ps =>
      simp only [madeD]
      simp only [List.length_cons] at hl2
      exact dk_put (hp p List.mem_cons_self) (by omega) fun x hx => hp x (List.mem_cons_of_mem _ hx)
  | round a b =>
    match ps, hl with
    | [p, q], _ => exact dk_round (hp p (by simp)) (hp q (by simp))
  | next => simp [Tm.parts] at h
  | nought _ => simp [Tm.parts] at h
  | place _ _ => simp [Tm.parts] at h
theorem dk_with (j : Nat) (x : D) (hx : Dk j x) : ∀ (w : List Nat) (t : Tm), t.sz ≤ 1000 → (atT w t).isSome = true → Dk (t.dp + j) (withD w t x)
  | [], t, _, _ => by simp only [withD]; exact hx.mono (by omega)
  | k :: w, t, hs, h => by
    simp only [atT] at h
    cases e : t.parts[k]? with
    | none => rw [e] at h; cases h
    | some p =>
      rw [e] at h
      have hg : t.parts.getD k .next = p := by rw [List.getD_eq_getElem?_getD, e]; rfl
      have hm := List.mem_of_getElem? e
      have s1 := szs_of hm
      have s2 := parts_sz t
      have hd := parts_dp hm
      have s3 := szs_len t.parts
      have ih := dk_with j x hx w p (by omega) h
      simp only [withD, hg]
      obtain ⟨m, hm'⟩ : ∃ m, t.dp = m + 1 := ⟨t.dp - 1, by omega⟩
      rw [hm', show m + 1 + j = m + j + 1 by omega]
      refine dk_made (fun z => by rw [z] at hm; cases hm) (by rw [List.length_set, Tm.ds_len]) (by rw [List.length_set, Tm.ds_len]; omega) fun y hy => ?_
      rcases List.mem_or_eq_of_mem_set hy with h1 | h1
      · refine dk_ds (fun u hu => ?_) y h1
        have := parts_dp hu
        have := szs_of hu
        exact Tm.dk_of (m + j) u (by omega) (by omega)
      · rw [h1]; exact ih.mono (by omega)
def isW : D → Bool
  | .str w => decide (w = w_put) || decide (w = w_round)
  | _ => false
def three : List D → Option (D × D × D)
  | [w, a, b] => some (w, a, b)
  | _ => none
def inner : D → List D
  | .tuple is => is
  | _ => []
def items' : D → List D
  | .tuple xs => xs
  | _ => []
def dkB : Nat → D → Bool
  | 0, d => plainD d && (items' d).all plainD && (match three (items' d) with
    | some (w, _, _) => !isW w
    | none => true)
  | k + 1, d => plainD d && (items' d).all plainD && (match three (items' d) with
    | some (_, a, b) => dkB k a && dkB k b && decide ((inner b).length ≤ 1000) && (inner b).all (dkB k)
    | none => true)
theorem dkB_ok : ∀ (k : Nat) (d : D), dkB k d = true → Dk k d
  | 0, d, h => by
    simp only [dkB, Bool.and_eq_true, List.all_eq_true] at h
    refine ⟨h.1.1, fun xs e x hx => h.1.2 x (by subst e; exact hx), fun w a b e => ?_⟩
    subst e
    have h2 := h.2
    simp only [items', three, Bool.not_eq_true'] at h2
    constructor <;> (rintro rfl; simp [isW] at h2)
  | k + 1, d, h => by
    simp only [dkB, Bool.and_eq_true, List.all_eq_true] at h
    refine ⟨h.1.1, fun xs e x hx => h.1.2 x (by subst e; exact hx), fun w a b e => ?_⟩
    subst e
    have h2 := h.2
    simp only [items', three, Bool.and_eq_true, List.all_eq_true, decide_eq_true_eq] at h2
    refine ⟨fun _ => dkB_ok k a h2.1.1.1, fun _ => dkB_ok k b h2.1.1.2, fun _ is e => ?_⟩
    subst e
    exact ⟨h2.1.2, fun x hx => dkB_ok k x (h2.2 x hx)⟩
def some36 : List D := [.none, .int 7, .str w_next, .tuple [], .list [.str w_next], .tuple [.str w_next, .int 1], .tuple [.str w_nought], .tuple [.str w_nought, .int 5], .tuple [.str w_nought, .int (-1)],
  .tuple [.str w_nought, .bool true], .tuple [.str w_place, .int 2], .tuple [.str w_place, .int 0, .int 0], .tuple [.str w_place, .int 2, .int 2], .tuple [.str w_place, .int 5, .int 0],
  .tuple [.str w_place, .int 1, .bool false], .tuple [.str w_put, .tuple [.str w_next]], .tuple [.str w_put, .tuple [.str w_next], .tuple []], .tuple [.str w_put, .tuple [.str w_next], .list [.tuple [.str w_next]]],
  .tuple [.str w_put, .tuple [.str w_next], .tuple [.tuple [.str w_next], .tuple [.str w_next]]], .tuple [.str w_put, .tuple [.str w_nought, .int 0], .tuple []], .tuple [.str w_round, .tuple [.str w_next]],
  .tuple [.str w_round, .tuple [.str w_next], .tuple [.str w_nought, .int 2]], .tuple [.str B01.w_other, .int 1], .tuple [.str w_round, .tuple [.str w_nought, .int 4], .tuple [.str w_nought, .int 6]],
  .tuple [.str w_nought, .int 2], .tuple [.str w_place, .int 3, .int 1], .tuple [.str w_next], .int 0, .tuple [.tuple [.str w_next]], .tuple [.str w_nought, .int 0], .tuple [.str w_nought, .int 1], .tuple [.str w_nought, .int 3],
  .tuple [.str w_nought, .int 4], .tuple [.str w_place, .int 1, .int 0], .tuple [.str w_place, .int 2, .int 1], .tuple [.str w_place, .int 4, .int 2]]
theorem some_ok : ∀ x ∈ some36, dkB 1 x = true ∧ cnt x ≤ 20 := by decide
theorem add_ll5 {xs ys : List D} (h : xs.length + ys.length ≤ 5000) : binD .add (.list xs) (.list ys) = ok (.list (xs ++ ys)) := add_ll _ _ (small_line h)
/-- not too big, and not too deep -/
structure Fit (d : D) : Prop where
  dk : Dk 4 d
  sz : ∀ t : Tm, d = t.d → t.sz ≤ 600
section
variable {ds : List Def} {lw lis iw po pp pq te ck ar sz lk ce ro le gr dr lpa lsz lwa lwi sp la : Nat} (hlw : ds[lw]? = some B01._law_whole) (hlis : ds[lis]? = some (B01._law_is lw lis))
  (hlpa : ds[lpa]? = some _law_parts) (hlwa : ds[lwa]? = some (_law_ways lpa lwa)) (hlwi : ds[lwi]? = some (_law_with lpa lwi)) (hsp : ds[sp]? = some (B01._law_spoilt_term lwa lwi))
include hlpa hlwa hlwi hsp in
theorem spoilt_ok (n : Nat) (t : Tm) (hw : t.wf) (hs : t.sz ≤ 60) (hd : t.dp ≤ 3) (hn : 6 ≤ n) (ns : List Nat) (hl : ns.length = 60) : ∃ d, Fit d ∧ callF ds (n + 1) sp [t.d, natsD ns, .int 1] = ok d := by
  have a1 := law_ways_ok hlpa hlwa t.dp t (Nat.le_refl _) (by omega) (by omega) n (by omega)
  have r1 : idxR (natsD ns) (.int 1) = ok (.int ((ns.getD 1 0 : Nat) : Int)) := row_get 1 (by omega)
  have r2 : idxR (natsD ns) (.int 2) = ok (.int ((ns.getD 2 0 : Nat) : Int)) := row_get 2 (by omega)
  have wl := ways_len t
  have wp := t.sz_pos
  obtain ⟨k, hk, ek⟩ := cell_mod ((ns.getD 1 0 : Nat) : Int) t.ways.length (by omega)
  obtain ⟨j, hj, ej⟩ := cell_mod ((ns.getD 2 0 : Nat) : Int) 36 (by decide)
  have ej : binD .mod (.int ((ns.getD 2 0 : Nat) : Int)) (.int 36) = ok (.int (j : Int)) := ej
  have hg : (waysD t.ways)[k]? = some (wayD t.ways[k]) := by simp [waysD, hk]
  have eg := at_get hg
  have el : (waysD t.ways).length = t.ways.length := by simp [waysD]
  have hat := (way_iff _ t).mp (List.getElem_mem hk)
  generalize t.ways[k] = w at hat eg hg
  have h36 : some36.length = 36 := rfl
  have hx : some36[j]? = some (some36[j]'(by omega)) := List.getElem?_eq_getElem _
  have hm := List.getElem_mem (show j < some36.length by omega)
  obtain ⟨f1, f2⟩ := some_ok _ hm
  generalize some36[j]'(by omega) = x at hx f1 f2
  have ex := at_get hx
  have a2 := law_with_ok hlpa hlwi x w t hat (by omega) n (by
    obtain ⟨u, hu⟩ := Option.isSome_iff_exists.mp hat
    have := (at_ok _ _ _ hu).dp
    omega)
  refine ⟨withD w t x, ⟨(dk_with 1 x (dkB_ok 1 x f1) w t (by omega) hat).mono (by omega), fun r e => ?_⟩, ?_⟩
  · have c1 := cnt_with w t x hat
    have c2 := cnt_hi t
    have c3 := cnt_lo r
    rw [← e] at c3
    omega
  · unfold some36 at ex
    rw [run_at hsp _ _ rfl]
    simp only [x_raise, x_raiseX, x_try, h_none, h_some, h_nil, e_slf, e_slt, e_slb, e_exf, x_nil, x_cons, x_doc, x_pass, x_brk, x_cont, x_set, x_unpack, x_par, x_app, x_ext, x_aug, x_expr, x_ite, x_ret, e_nil, e_var, e_cst, e_glob, e_tup, e_lst, e_call, e_bin, e_neg, e_not, e_cmp, e_chain, e_and, e_or, e_ife, e_f1, e_isi, e_idx, es_nil, es_cons, tryK_exc, tryK_rt, tryK_nx, clK_t, clK_f, leaveS_rt, leaveS_nx, Out.calm_rt, Out.calm_nx, part_i, isi_x, isi_v, cut1, cutR_l, cutR_t, List.drop, out_rt_seq, ofOut_out_rt, R.bind_ok, R.bind_exc, R.bind_stuck, R.calm_ok, R.calm_exc, R.calm_stuck, R.map_ok, R.map_exc, R.map_stuck, R.out_ok, R.out_exc, R.out_stuck, Out.seq_nx, Out.seq_rt, Out.seq_bk, Out.seq_ct, Out.seq_exc, Out.seq_stuck, eqv_ii, eqv_ss, eqv_tt, eqv_ll, eqv_bb, eqv_it, eqv_ti, eqv_is, eqv_si, eqv_ts, eqv_st, eqv_tn, eqv_nt, eqv_tl, eqv_lt, eqvAll_nn, eqvAll_cc, eqvAll_nc, eqvAll_cn, eqR_ii, eqR_ss, eqR_bb, nth0, nth1, nth2, nth3, truthy_b, truthy_t, truthy_l, truthy_n, truthy_i, cmp_eq, cmp_ne, cmp_lt, cmp_le, cmp_gt, cmp_ge, cmp_is_nn, cmp_is_tn, cmp_is_ln, cmp_is_in, cmp_is_sn, cmp_isnot_nn, cmp_isnot_tn, cmp_isnot_ln, cmp_isnot_in, cmp_isnot_sn, isi_tt, isi_tl, isi_ti, isi_tb, isi_ts, isi_tn, isi_ii, isi_ib, isi_it, isi_il, isi_is, isi_in, isi_bb, isi_bi, isi_ss, isi_st, isi_si, isi_ll, isi_lt, len_t, len_l, tup_l, tup_t, list_l, list_t, sub_ii, add_ii, idx_t, idx_l, walk_t, walk_l, iteF_t, iteF_f, andK_t, andK_f, orK_t, orK_f, ifeK_t, ifeK_f, chK_t, chK_f, setO_some, getS_0, getS_s, ofOut_rt, ofOut_nx, ofOut_exc, List.set, List.map_cons, List.map_nil, List.cons_append, List.nil_append, List.replicate, decide_true, decide_false, Nat.reduceSub, Nat.reduceAdd, List.length_cons, List.length_nil, Bool.not_true, Bool.not_false, Bool.and_true, Bool.and_false, Bool.true_and, Bool.false_and, List.isEmpty_cons, List.isEmpty_nil, reduceIte, Bool.false_eq_true, if_false, if_true, true_and, and_true, Int.reduceEq, Int.reduceLT, Int.reduceLE, Int.reduceNeg, Int.cast_ofNat_Int, Int.reduceAdd, Int.reduceSub, add_ll5, Nat.reduceLeDiff, a1, r1, r2, el, ek, eg, ej, ex, a2]
variable (hiw : ds[iw]? = some is_within) (hpo : ds[po]? = some (places_of iw pp pq)) (hpp : ds[pp]? = some (places_put po)) (hpq : ds[pq]? = some (places_round po)) (hte : ds[te]? = some (is_term po)) (hck : ds[ck]? = some (checked te (.raise 1 .nil))) (har : ds[ar]? = some (arity po ck)) (hsz : ds[sz]? = some (size po ck)) (hlk : ds[lk]? = some (B01._law_looked ck ar sz))
def refD : D := .list [.bool true, .bool true, .bool false, .bool false]
include hte hck har hsz hlk in
theorem lk_no (n k : Nat) (d : D) (hk : k < 3) (h : ∀ m, n ≤ m → callF ds m po [d, .int 60] = ok .none) : callF ds (n + 4) lk [.int (0 + (k : Int)), d] = ok refD := by
  have c1 := checked_no hte hck (n + 1) (h (n + 1) (by omega))
  have c2 := arity_no hte hck har n (h n (by omega))
  have c0 := checked_no hte hck n (h n (by omega))
  have c3 : callF ds (n + 3) sz [d] = exc 1 (.dict []) := by
    rw [run_at hsz _ _ rfl]
    simp only [x_raise, x_raiseX, x_try, h_none, h_some, h_nil, e_slf, e_slt, e_slb, e_exf, x_nil, x_cons, x_doc, x_pass, x_brk, x_cont, x_set, x_unpack, x_par, x_app, x_ext, x_aug, x_expr, x_ite, x_ret, e_nil, e_var, e_cst, e_glob, e_tup, e_lst, e_call, e_bin, e_neg, e_not, e_cmp, e_chain, e_and, e_or, e_ife, e_f1, e_isi, e_idx, es_nil, es_cons, tryK_exc, tryK_rt, tryK_nx, clK_t, clK_f, leaveS_rt, leaveS_nx, Out.calm_rt, Out.calm_nx, part_i, isi_x, isi_v, cut1, cutR_l, cutR_t, List.drop, out_rt_seq, ofOut_out_rt, R.bind_ok, R.bind_exc, R.bind_stuck, R.calm_ok, R.calm_exc, R.calm_stuck, R.map_ok, R.map_exc, R.map_stuck, R.out_ok, R.out_exc, R.out_stuck, Out.seq_nx, Out.seq_rt, Out.seq_bk, Out.seq_ct, Out.seq_exc, Out.seq_stuck, eqv_ii, eqv_ss, eqv_tt, eqv_ll, eqv_bb, eqv_it, eqv_ti, eqv_is, eqv_si, eqv_ts, eqv_st, eqv_tn, eqv_nt, eqv_tl, eqv_lt, eqvAll_nn, eqvAll_cc, eqvAll_nc, eqvAll_cn, eqR_ii, eqR_ss, eqR_bb, nth0, nth1, nth2, nth3, truthy_b, truthy_t, truthy_l, truthy_n, truthy_i, cmp_eq, cmp_ne, cmp_lt, cmp_le, cmp_gt, cmp_ge, cmp_is_nn, cmp_is_tn, cmp_is_ln, cmp_is_in, cmp_is_sn, cmp_isnot_nn, cmp_isnot_tn, cmp_isnot_ln, cmp_isnot_in, cmp_isnot_sn, isi_tt, isi_tl, isi_ti, isi_tb, isi_ts, isi_tn, isi_ii, isi_ib, isi_it, isi_il, isi_is, isi_in, isi_bb, isi_bi, isi_ss, isi_st, isi_si, isi_ll, isi_lt, len_t, len_l, tup_l, tup_t, list_l, list_t, sub_ii, add_ii, idx_t, idx_l, walk_t, walk_l, iteF_t, iteF_f, andK_t, andK_f, orK_t, orK_f, ifeK_t, ifeK_f, chK_t, chK_f, setO_some, getS_0, getS_s, ofOut_rt, ofOut_nx, ofOut_exc, List.set, List.map_cons, List.map_nil, List.cons_append, List.nil_append, List.replicate, decide_true, decide_false, Nat.reduceSub, Nat.reduceAdd, List.length_cons, List.length_nil, Bool.not_true, Bool.not_false, Bool.and_true, Bool.and_false, Bool.true_and, Bool.false_and, List.isEmpty_cons, List.isEmpty_nil, reduceIte, Bool.false_eq_true, if_false, if_true, true_and, and_true, Int.reduceEq, Int.reduceLT, Int.reduceLE, Int.reduceNeg, Int.cast_ofNat_Int, Int.reduceAdd, Int.reduceSub, c0]
  have t0 : takesC 0 1 = true := rfl
  have t1 : takesC 1 1 = true := rfl
  have t2 : takesC 2 1 = false := rfl
  have t3 : takesC 3 1 = false := rfl
  have al : binD .add (.list [.bool true, .bool true]) (.list [.bool false, .bool false]) = ok refD := add_ll _ _ (small_line (by decide))
  have c1 : callF ds (n + 3) ck [d] = exc 1 (.dict []) := c1
  rw [run_at hlk _ _ rfl]
  match k, hk with
  | 0, _ =>
    have e0 : (0 : Int) + ((0 : Nat) : Int) = 0 := rfl
    rw [e0]
    simp only [x_raise, x_raiseX, x_try, h_none, h_some, h_nil, e_slf, e_slt, e_slb, e_exf, x_nil, x_cons, x_doc, x_pass, x_brk, x_cont, x_set, x_unpack, x_par, x_app, x_ext, x_aug, x_expr, x_ite, x_ret, e_nil, e_var, e_cst, e_glob, e_tup, e_lst, e_call, e_bin, e_neg, e_not, e_cmp, e_chain, e_and, e_or, e_ife, e_f1, e_isi, e_idx, es_nil, es_cons, tryK_exc, tryK_rt, tryK_nx, clK_t, clK_f, leaveS_rt, leaveS_nx, Out.calm_rt, Out.calm_nx, part_i, isi_x, isi_v, cut1, cutR_l, cutR_t, List.drop, out_rt_seq, ofOut_out_rt, R.bind_ok, R.bind_exc, R.bind_stuck, R.calm_ok, R.calm_exc, R.calm_stuck, R.map_ok, R.map_exc, R.map_stuck, R.out_ok, R.out_exc, R.out_stuck, Out.seq_nx, Out.seq_rt, Out.seq_bk, Out.seq_ct, Out.seq_exc, Out.seq_stuck, eqv_ii, eqv_ss, eqv_tt, eqv_ll, eqv_bb, eqv_it, eqv_ti, eqv_is, eqv_si, eqv_ts, eqv_st, eqv_tn, eqv_nt, eqv_tl, eqv_lt, eqvAll_nn, eqvAll_cc, eqvAll_nc, eqvAll_cn, eqR_ii, eqR_ss, eqR_bb, nth0, nth1, nth2, nth3, truthy_b, truthy_t, truthy_l, truthy_n, truthy_i, cmp_eq, cmp_ne, cmp_lt, cmp_le, cmp_gt, cmp_ge, cmp_is_nn, cmp_is_tn, cmp_is_ln, cmp_is_in, cmp_is_sn, cmp_isnot_nn, cmp_isnot_tn, cmp_isnot_ln, cmp_isnot_in, cmp_isnot_sn, isi_tt, isi_tl, isi_ti, isi_tb, isi_ts, isi_tn, isi_ii, isi_ib, isi_it, isi_il, isi_is, isi_in, isi_bb, isi_bi, isi_ss, isi_st, isi_si, isi_ll, isi_lt, len_t, len_l, tup_l, tup_t, list_l, list_t, sub_ii, add_ii, idx_t, idx_l, walk_t, walk_l, iteF_t, iteF_f, andK_t, andK_f, orK_t, orK_f, ifeK_t, ifeK_f, chK_t, chK_f, setO_some, getS_0, getS_s, ofOut_rt, ofOut_nx, ofOut_exc, List.set, List.map_cons, List.map_nil, List.cons_append, List.nil_append, List.replicate, decide_true, decide_false, Nat.reduceSub, Nat.reduceAdd, List.length_cons, List.length_nil, Bool.not_true, Bool.not_false, Bool.and_true, Bool.and_false, Bool.true_and, Bool.false_and, List.isEmpty_cons, List.isEmpty_nil, reduceIte, Bool.false_eq_true, if_false, if_true, true_and, and_true, Int.reduceEq, Int.reduceLT, Int.reduceLE, Int.reduceNeg, Int.cast_ofNat_Int, Int.reduceAdd, Int.reduceSub, c1, t0, t1, t2, t3, al]
  | 1, _ =>
    have e0 : (0 : Int) + ((1 : Nat) : Int) = 1 := rfl
    rw [e0]
    simp only [x_raise, x_raiseX, x_try, h_none, h_some, h_nil, e_slf, e_slt, e_slb, e_exf, x_nil, x_cons, x_doc, x_pass, x_brk, x_cont, x_set, x_unpack, x_par, x_app, x_ext, x_aug, x_expr, x_ite, x_ret, e_nil, e_var, e_cst, e_glob, e_tup, e_lst, e_call, e_bin, e_neg, e_not, e_cmp, e_chain, e_and, e_or, e_ife, e_f1, e_isi, e_idx, es_nil, es_cons, tryK_exc, tryK_rt, tryK_nx, clK_t, clK_f, leaveS_rt, leaveS_nx, Out.calm_rt, Out.calm_nx, part_i, isi_x, isi_v, cut1, cutR_l, cutR_t, List.drop, out_rt_seq, ofOut_out_rt, R.bind_ok, R.bind_exc, R.bind_stuck, R.calm_ok, R.calm_exc, R.calm_stuck, R.map_ok, R.map_exc, R.map_stuck, R.out_ok, R.out_exc, R.out_stuck, Out.seq_nx, Out.seq_rt, Out.seq_bk, Out.seq_ct, Out.seq_exc, Out.seq_stuck, eqv_ii, eqv_ss, eqv_tt, eqv_ll, eqv_bb, eqv_it, eqv_ti, eqv_is, eqv_si, eqv_ts, eqv_st, eqv_tn, eqv_nt, eqv_tl, eqv_lt, eqvAll_nn, eqvAll_cc, eqvAll_nc, eqvAll_cn, eqR_ii, eqR_ss, eqR_bb, nth0, nth1, nth2, nth3, truthy_b, truthy_t, truthy_l, truthy_n, truthy_i, cmp_eq, cmp_ne, cmp_lt, cmp_le, cmp_gt, cmp_ge, cmp_is_nn, cmp_is_tn, cmp_is_ln, cmp_is_in, cmp_is_sn, cmp_isnot_nn, cmp_isnot_tn, cmp_isnot_ln, cmp_isnot_in, cmp_isnot_sn, isi_tt, isi_tl, isi_ti, isi_tb, isi_ts, isi_tn, isi_ii, isi_ib, isi_it, isi_il, isi_is, isi_in, isi_bb, isi_bi, isi_ss, isi_st, isi_si, isi_ll, isi_lt, len_t, len_l, tup_l, tup_t, list_l, list_t, sub_ii, add_ii, idx_t, idx_l, walk_t, walk_l, iteF_t, iteF_f, andK_t, andK_f, orK_t, orK_f, ifeK_t, ifeK_f, chK_t, chK_f, setO_some, getS_0, getS_s, ofOut_rt, ofOut_nx, ofOut_exc, List.set, List.map_cons, List.map_nil, List.cons_append, List.nil_append, List.replicate, decide_true, decide_false, Nat.reduceSub, Nat.reduceAdd, List.length_cons, List.length_nil, Bool.not_true, Bool.not_false, Bool.and_true, Bool.and_false, Bool.true_and, Bool.false_and, List.isEmpty_cons, List.isEmpty_nil, reduceIte, Bool.false_eq_true, if_false, if_true, true_and, and_true, Int.reduceEq, Int.reduceLT, Int.reduceLE, Int.reduceNeg, Int.cast_ofNat_Int, Int.reduceAdd, Int.reduceSub, c2, t0, t1, t2, t3, al]
  | 2, _ =>
    have e0 : (0 : Int) + ((2 : Nat) : Int) = 2 := rfl
    rw [e0]
    simp only [x_raise, x_raiseX, x_try, h_none, h_some, h_nil, e_slf, e_slt, e_slb, e_exf, x_nil, x_cons, x_doc, x_pass, x_brk, x_cont, x_set, x_unpack, x_par, x_app, x_ext, x_aug, x_expr, x_ite, x_ret, e_nil, e_var, e_cst, e_glob, e_tup, e_lst, e_call, e_bin, e_neg, e_not, e_cmp, e_chain, e_and, e_or, e_ife, e_f1, e_isi, e_idx, es_nil, es_cons, tryK_exc, tryK_rt, tryK_nx, clK_t, clK_f, leaveS_rt, leaveS_nx, Out.calm_rt, Out.calm_nx, part_i, isi_x, isi_v, cut1, cutR_l, cutR_t, List.drop, out_rt_seq, ofOut_out_rt, R.bind_ok, R.bind_exc, R.bind_stuck, R.calm_ok, R.calm_exc, R.calm_stuck, R.map_ok, R.map_exc, R.map_stuck, R.out_ok, R.out_exc, R.out_stuck, Out.seq_nx, Out.seq_rt, Out.seq_bk, Out.seq_ct, Out.seq_exc, Out.seq_stuck, eqv_ii, eqv_ss, eqv_tt, eqv_ll, eqv_bb, eqv_it, eqv_ti, eqv_is, eqv_si, eqv_ts, eqv_st, eqv_tn, eqv_nt, eqv_tl, eqv_lt, eqvAll_nn, eqvAll_cc, eqvAll_nc, eqvAll_cn, eqR_ii, eqR_ss, eqR_bb, nth0, nth1, nth2, nth3, truthy_b, truthy_t, truthy_l, truthy_n, truthy_i, cmp_eq, cmp_ne, cmp_lt, cmp_le, cmp_gt, cmp_ge, cmp_is_nn, cmp_is_tn, cmp_is_ln, cmp_is_in, cmp_is_sn, cmp_isnot_nn, cmp_isnot_tn, cmp_isnot_ln, cmp_isnot_in, cmp_isnot_sn, isi_tt, isi_tl, isi_ti, isi_tb, isi_ts, isi_tn, isi_ii, isi_ib, isi_it, isi_il, isi_is, isi_in, isi_bb, isi_bi, isi_ss, isi_st, isi_si, isi_ll, isi_lt, len_t, len_l, tup_l, tup_t, list_l, list_t, sub_ii, add_ii, idx_t, idx_l, walk_t, walk_l, iteF_t, iteF_f, andK_t, andK_f, orK_t, orK_f, ifeK_t, ifeK_f, chK_t, chK_f, setO_some, getS_0, getS_s, ofOut_rt, ofOut_nx, ofOut_exc, List.set, List.map_cons, List.map_nil, List.cons_append, List.nil_append, List.replicate, decide_true, decide_false, Nat.reduceSub, Nat.reduceAdd, List.length_cons, List.length_nil, Bool.not_true, Bool.not_false, Bool.and_true, Bool.and_false, Bool.true_and, Bool.false_and, List.isEmpty_cons, List.isEmpty_nil, reduceIte, Bool.false_eq_true, if_false, if_true, true_and, and_true, Int.reduceEq, Int.reduceLT, Int.reduceLE, Int.reduceNeg, Int.cast_ofNat_Int, Int.reduceAdd, Int.reduceSub, c3, t0, t1, t2, t3, al]
def yesD (t : Tm) : Nat → D
  | 0 => t.d
  | 1 => .int t.ar
  | _ => .int t.sz
include hiw hpo hpp hpq hte hck har hsz hlk in
theorem lk_yes (n k : Nat) (t : Tm) (hk : k < 3) (hw : t.wf) (hs : t.sz ≤ 60) (hn : 2 * t.dp + 6 ≤ n) : callF ds n lk [.int (0 + (k : Int)), t.d] = ok (yesD t k) := by
  obtain ⟨n, rfl⟩ : ∃ m, n = m + 1 := ⟨n - 1, by omega⟩
  have c1 := checked_ok hiw hpo hpp hpq hte hck t hw hs n (by omega)
  have c2 := arity_ok hiw hpo hpp hpq hte hck har t hw hs n (by omega)
  have c3 := size_ok hiw hpo hpp hpq hte hck hsz t hw hs n (by omega)
  rw [run_at hlk _ _ rfl]
  match k, hk with
  | 0, _ =>
    have e0 : (0 : Int) + ((0 : Nat) : Int) = 0 := rfl
    rw [e0]
    simp only [x_raise, x_raiseX, x_try, h_none, h_some, h_nil, e_slf, e_slt, e_slb, e_exf, x_nil, x_cons, x_doc, x_pass, x_brk, x_cont, x_set, x_unpack, x_par, x_app, x_ext, x_aug, x_expr, x_ite, x_ret, e_nil, e_var, e_cst, e_glob, e_tup, e_lst, e_call, e_bin, e_neg, e_not, e_cmp, e_chain, e_and, e_or, e_ife, e_f1, e_isi, e_idx, es_nil, es_cons, tryK_exc, tryK_rt, tryK_nx, clK_t, clK_f, leaveS_rt, leaveS_nx, Out.calm_rt, Out.calm_nx, part_i, isi_x, isi_v, cut1, cutR_l, cutR_t, List.drop, out_rt_seq, ofOut_out_rt, R.bind_ok, R.bind_exc, R.bind_stuck, R.calm_ok, R.calm_exc, R.calm_stuck, R.map_ok, R.map_exc, R.map_stuck, R.out_ok, R.out_exc, R.out_stuck, Out.seq_nx, Out.seq_rt, Out.seq_bk, Out.seq_ct, Out.seq_exc, Out.seq_stuck, eqv_ii, eqv_ss, eqv_tt, eqv_ll, eqv_bb, eqv_it, eqv_ti, eqv_is, eqv_si, eqv_ts, eqv_st, eqv_tn, eqv_nt, eqv_tl, eqv_lt, eqvAll_nn, eqvAll_cc, eqvAll_nc, eqvAll_cn, eqR_ii, eqR_ss, eqR_bb, nth0, nth1, nth2, nth3, truthy_b, truthy_t, truthy_l, truthy_n, truthy_i, cmp_eq, cmp_ne, cmp_lt, cmp_le, cmp_gt, cmp_ge, cmp_is_nn, cmp_is_tn, cmp_is_ln, cmp_is_in, cmp_is_sn, cmp_isnot_nn, cmp_isnot_tn, cmp_isnot_ln, cmp_isnot_in, cmp_isnot_sn, isi_tt, isi_tl, isi_ti, isi_tb, isi_ts, isi_tn, isi_ii, isi_ib, isi_it, isi_il, isi_is, isi_in, isi_bb, isi_bi, isi_ss, isi_st, isi_si, isi_ll, isi_lt, len_t, len_l, tup_l, tup_t, list_l, list_t, sub_ii, add_ii, idx_t, idx_l, walk_t, walk_l, iteF_t, iteF_f, andK_t, andK_f, orK_t, orK_f, ifeK_t, ifeK_f, chK_t, chK_f, setO_some, getS_0, getS_s, ofOut_rt, ofOut_nx, ofOut_exc, List.set, List.map_cons, List.map_nil, List.cons_append, List.nil_append, List.replicate, decide_true, decide_false, Nat.reduceSub, Nat.reduceAdd, List.length_cons, List.length_nil, Bool.not_true, Bool.not_false, Bool.and_true, Bool.and_false, Bool.true_and, Bool.false_and, List.isEmpty_cons, List.isEmpty_nil, reduceIte, Bool.false_eq_true, if_false, if_true, true_and, and_true, Int.reduceEq, Int.reduceLT, Int.reduceLE, Int.reduceNeg, Int.cast_ofNat_Int, Int.reduceAdd, Int.reduceSub, c1, yesD]
  | 1, _ =>
    have e0 : (0 : Int) + ((1 : Nat) : Int) = 1 := rfl
    rw [e0]
    simp only [x_raise, x_raiseX, x_try, h_none, h_some, h_nil, e_slf, e_slt, e_slb, e_exf, x_nil, x_cons, x_doc, x_pass, x_brk, x_cont, x_set, x_unpack, x_par, x_app, x_ext, x_aug, x_expr, x_ite, x_ret, e_nil, e_var, e_cst, e_glob, e_tup, e_lst, e_call, e_bin, e_neg, e_not, e_cmp, e_chain, e_and, e_or, e_ife, e_f1, e_isi, e_idx, es_nil, es_cons, tryK_exc, tryK_rt, tryK_nx, clK_t, clK_f, leaveS_rt, leaveS_nx, Out.calm_rt, Out.calm_nx, part_i, isi_x, isi_v, cut1, cutR_l, cutR_t, List.drop, out_rt_seq, ofOut_out_rt, R.bind_ok, R.bind_exc, R.bind_stuck, R.calm_ok, R.calm_exc, R.calm_stuck, R.map_ok, R.map_exc, R.map_stuck, R.out_ok, R.out_exc, R.out_stuck, Out.seq_nx, Out.seq_rt, Out.seq_bk, Out.seq_ct, Out.seq_exc, Out.seq_stuck, eqv_ii, eqv_ss, eqv_tt, eqv_ll, eqv_bb, eqv_it, eqv_ti, eqv_is, eqv_si, eqv_ts, eqv_st, eqv_tn, eqv_nt, eqv_tl, eqv_lt, eqvAll_nn, eqvAll_cc, eqvAll_nc, eqvAll_cn, eqR_ii, eqR_ss, eqR_bb, nth0, nth1, nth2, nth3, truthy_b, truthy_t, truthy_l, truthy_n, truthy_i, cmp_eq, cmp_ne, cmp_lt, cmp_le, cmp_gt, cmp_ge, cmp_is_nn, cmp_is_tn, cmp_is_ln, cmp_is_in, cmp_is_sn, cmp_isnot_nn, cmp_isnot_tn, cmp_isnot_ln, cmp_isnot_in, cmp_isnot_sn, isi_tt, isi_tl, isi_ti, isi_tb, isi_ts, isi_tn, isi_ii, isi_ib, isi_it, isi_il, isi_is, isi_in, isi_bb, isi_bi, isi_ss, isi_st, isi_si, isi_ll, isi_lt, len_t, len_l, tup_l, tup_t, list_l, list_t, sub_ii, add_ii, idx_t, idx_l, walk_t, walk_l, iteF_t, iteF_f, andK_t, andK_f, orK_t, orK_f, ifeK_t, ifeK_f, chK_t, chK_f, setO_some, getS_0, getS_s, ofOut_rt, ofOut_nx, ofOut_exc, List.set, List.map_cons, List.map_nil, List.cons_append, List.nil_append, List.replicate, decide_true, decide_false, Nat.reduceSub, Nat.reduceAdd, List.length_cons, List.length_nil, Bool.not_true, Bool.not_false, Bool.and_true, Bool.and_false, Bool.true_and, Bool.false_and, List.isEmpty_cons, List.isEmpty_nil, reduceIte, Bool.false_eq_true, if_false, if_true, true_and, and_true, Int.reduceEq, Int.reduceLT, Int.reduceLE, Int.reduceNeg, Int.cast_ofNat_Int, Int.reduceAdd, Int.reduceSub, c2, yesD]
  | 2, _ =>
    have e0 : (0 : Int) + ((2 : Nat) : Int) = 2 := rfl
    rw [e0]
    simp only [x_raise, x_raiseX, x_try, h_none, h_some, h_nil, e_slf, e_slt, e_slb, e_exf, x_nil, x_cons, x_doc, x_pass, x_brk, x_cont, x_set, x_unpack, x_par, x_app, x_ext, x_aug, x_expr, x_ite, x_ret, e_nil, e_var, e_cst, e_glob, e_tup, e_lst, e_call, e_bin, e_neg, e_not, e_cmp, e_chain, e_and, e_or, e_ife, e_f1, e_isi, e_idx, es_nil, es_cons, tryK_exc, tryK_rt, tryK_nx, clK_t, clK_f, leaveS_rt, leaveS_nx, Out.calm_rt, Out.calm_nx, part_i, isi_x, isi_v, cut1, cutR_l, cutR_t, List.drop, out_rt_seq, ofOut_out_rt, R.bind_ok, R.bind_exc, R.bind_stuck, R.calm_ok, R.calm_exc, R.calm_stuck, R.map_ok, R.map_exc, R.map_stuck, R.out_ok, R.out_exc, R.out_stuck, Out.seq_nx, Out.seq_rt, Out.seq_bk, Out.seq_ct, Out.seq_exc, Out.seq_stuck, eqv_ii, eqv_ss, eqv_tt, eqv_ll, eqv_bb, eqv_it, eqv_ti, eqv_is, eqv_si, eqv_ts, eqv_st, eqv_tn, eqv_nt, eqv_tl, eqv_lt, eqvAll_nn, eqvAll_cc, eqvAll_nc, eqvAll_cn, eqR_ii, eqR_ss, eqR_bb, nth0, nth1, nth2, nth3, truthy_b, truthy_t, truthy_l, truthy_n, truthy_i, cmp_eq, cmp_ne, cmp_lt, cmp_le, cmp_gt, cmp_ge, cmp_is_nn, cmp_is_tn, cmp_is_ln, cmp_is_in, cmp_is_sn, cmp_isnot_nn, cmp_isnot_tn, cmp_isnot_ln, cmp_isnot_in, cmp_isnot_sn, isi_tt, isi_tl, isi_ti, isi_tb, isi_ts, isi_tn, isi_ii, isi_ib, isi_it, isi_il, isi_is, isi_in, isi_bb, isi_bi, isi_ss, isi_st, isi_si, isi_ll, isi_lt, len_t, len_l, tup_l, tup_t, list_l, list_t, sub_ii, add_ii, idx_t, idx_l, walk_t, walk_l, iteF_t, iteF_f, andK_t, andK_f, orK_t, orK_f, ifeK_t, ifeK_f, chK_t, chK_f, setO_some, getS_0, getS_s, ofOut_rt, ofOut_nx, ofOut_exc, List.set, List.map_cons, List.map_nil, List.cons_append, List.nil_append, List.replicate, decide_true, decide_false, Nat.reduceSub, Nat.reduceAdd, List.length_cons, List.length_nil, Bool.not_true, Bool.not_false, Bool.and_true, Bool.and_false, Bool.true_and, Bool.false_and, List.isEmpty_cons, List.isEmpty_nil, reduceIte, Bool.false_eq_true, if_false, if_true, true_and, and_true, Int.reduceEq, Int.reduceLT, Int.reduceLE, Int.reduceNeg, Int.cast_ofNat_Int, Int.reduceAdd, Int.reduceSub, c3, yesD]
theorem nexts_loop (C : Nat → List D → R D) (b : Tm) (K : Nat) (r0 r1 r3 r5 : Option D) : ∃ r4, forL (stepF (.one 4) fun ρ => exS C B01.law_L1 ρ) ((List.range K).map fun (k : Nat) => PyData.int (0 + (k : Int))) [r0, r1, some b.d, r3, none, r5] = .nx [r0, r1, some (nextsT b K).d, r3, r4, r5] := by
  obtain ⟨ρ', e, r4, rfl⟩ := forL_inv0 (step := stepF (.one 4) fun ρ => exS C B01.law_L1 ρ) (fun k ρ => ∃ r4, ρ = [r0, r1, some (nextsT b k).d, r3, r4, r5]) ((List.range K).map fun (k : Nat) => PyData.int (0 + (k : Int))) [r0, r1, some b.d, r3, none, r5] ⟨none, by simp only [nextsT]⟩ (fun i hi ρ h => by
    obtain ⟨r4, rfl⟩ := h
    refine ⟨_, ?_, some ((List.range K).map fun (k : Nat) => PyData.int (0 + (k : Int)))[i], rfl⟩
    simp only [B01.law_L1, stepF, setTg, x_raise, x_raiseX, x_try, h_none, h_some, h_nil, e_slf, e_slt, e_slb, e_exf, x_nil, x_cons, x_doc, x_pass, x_brk, x_cont, x_set, x_unpack, x_par, x_app, x_ext, x_aug, x_expr, x_ite, x_ret, e_nil, e_var, e_cst, e_glob, e_tup, e_lst, e_call, e_bin, e_neg, e_not, e_cmp, e_chain, e_and, e_or, e_ife, e_f1, e_isi, e_idx, es_nil, es_cons, tryK_exc, tryK_rt, tryK_nx, clK_t, clK_f, leaveS_rt, leaveS_nx, Out.calm_rt, Out.calm_nx, part_i, isi_x, isi_v, cut1, cutR_l, cutR_t, List.drop, out_rt_seq, ofOut_out_rt, R.bind_ok, R.bind_exc, R.bind_stuck, R.calm_ok, R.calm_exc, R.calm_stuck, R.map_ok, R.map_exc, R.map_stuck, R.out_ok, R.out_exc, R.out_stuck, Out.seq_nx, Out.seq_rt, Out.seq_bk, Out.seq_ct, Out.seq_exc, Out.seq_stuck, eqv_ii, eqv_ss, eqv_tt, eqv_ll, eqv_bb, eqv_it, eqv_ti, eqv_is, eqv_si, eqv_ts, eqv_st, eqv_tn, eqv_nt, eqv_tl, eqv_lt, eqvAll_nn, eqvAll_cc, eqvAll_nc, eqvAll_cn, eqR_ii, eqR_ss, eqR_bb, nth0, nth1, nth2, nth3, truthy_b, truthy_t, truthy_l, truthy_n, truthy_i, cmp_eq, cmp_ne, cmp_lt, cmp_le, cmp_gt, cmp_ge, cmp_is_nn, cmp_is_tn, cmp_is_ln, cmp_is_in, cmp_is_sn, cmp_isnot_nn, cmp_isnot_tn, cmp_isnot_ln, cmp_isnot_in, cmp_isnot_sn, isi_tt, isi_tl, isi_ti, isi_tb, isi_ts, isi_tn, isi_ii, isi_ib, isi_it, isi_il, isi_is, isi_in, isi_bb, isi_bi, isi_ss, isi_st, isi_si, isi_ll, isi_lt, len_t, len_l, tup_l, tup_t, list_l, list_t, sub_ii, add_ii, idx_t, idx_l, walk_t, walk_l, iteF_t, iteF_f, andK_t, andK_f, orK_t, orK_f, ifeK_t, ifeK_f, chK_t, chK_f, setO_some, getS_0, getS_s, ofOut_rt, ofOut_nx, ofOut_exc, List.set, List.map_cons, List.map_nil, List.cons_append, List.nil_append, List.replicate, decide_true, decide_false, Nat.reduceSub, Nat.reduceAdd, List.length_cons, List.length_nil, Bool.not_true, Bool.not_false, Bool.and_true, Bool.and_false, Bool.true_and, Bool.false_and, List.isEmpty_cons, List.isEmpty_nil, reduceIte, Bool.false_eq_true, if_false, if_true, true_and, and_true, nextsT, Tm.d, Tm.ds])
  refine ⟨r4, ?_⟩
  rw [e]
  simp
/-- a thing at the end: a function, or none -/
def Last (d : D) : Prop := (∃ t : Tm, t.wf ∧ d = t.d ∧ t.sz ≤ 1000 ∧ t.dp ≤ 40) ∨ (¬ IsTm d ∧ Dk 4 d)
variable (hlsz : ds[lsz]? = some (_law_size lpa lsz))
include hlw hlis hiw hpo hpp hpq hte hck har hsz hlk hlsz hlpa in
theorem law_T4_ok (n : Nat) (hn : 88 ≤ n) (d : D) (h : Last d) (r0 r1 r4 : Option D) : exS (callF ds n) (B01.law_T4 lsz lis lk) [r0, r1, some d, none, r4, none] = .rt (.bool true) := by
  have hr : rng1R (.int 3) = ok (.list ((List.range 3).map fun (k : Nat) => .int (0 + (k : Int)))) := rng_nat 3 (by decide)
  have er : eqR (.list [refD, refD, refD]) (.list [refD, refD, refD]) = ok true := by
    rw [eqR_d _ _ (.inr (by decide))]
    simp [refD]
  have rr : repD (.list [refD]) (.int 3) = ok (.list [refD, refD, refD]) := by
    simp only [repD]
    rw [if_pos (by decide)]
    rfl
  have no : (∀ m, n - 4 ≤ m → callF ds m po [d, .int 60] = ok .none) → ∀ x, compK (callF ds n) (.one 5) .nil (.call lk (.cons (.var 5) (.cons (.var 2) .nil))) [r0, r1, some d, x, r4, none] ((List.range 3).map fun (k : Nat) => .int (0 + (k : Int))) = ok (.list [refD, refD, refD]) := by
    intro hh x
    refine compK_one (enc := fun (k : Nat) => PyData.int (0 + (k : Int))) (out := fun _ => refD) (List.range 3) fun k hk => ?_
    have := lk_no hte hck har hsz hlk (n - 4) k d (List.mem_range.mp hk) hh
    rw [show n - 4 + 4 = n by omega] at this
    simp only [x_raise, x_raiseX, x_try, h_none, h_some, h_nil, e_slf, e_slt, e_slb, e_exf, x_nil, x_cons, x_doc, x_pass, x_brk, x_cont, x_set, x_unpack, x_par, x_app, x_ext, x_aug, x_expr, x_ite, x_ret, e_nil, e_var, e_cst, e_glob, e_tup, e_lst, e_call, e_bin, e_neg, e_not, e_cmp, e_chain, e_and, e_or, e_ife, e_f1, e_isi, e_idx, es_nil, es_cons, tryK_exc, tryK_rt, tryK_nx, clK_t, clK_f, leaveS_rt, leaveS_nx, Out.calm_rt, Out.calm_nx, part_i, isi_x, isi_v, cut1, cutR_l, cutR_t, List.drop, out_rt_seq, ofOut_out_rt, R.bind_ok, R.bind_exc, R.bind_stuck, R.calm_ok, R.calm_exc, R.calm_stuck, R.map_ok, R.map_exc, R.map_stuck, R.out_ok, R.out_exc, R.out_stuck, Out.seq_nx, Out.seq_rt, Out.seq_bk, Out.seq_ct, Out.seq_exc, Out.seq_stuck, eqv_ii, eqv_ss, eqv_tt, eqv_ll, eqv_bb, eqv_it, eqv_ti, eqv_is, eqv_si, eqv_ts, eqv_st, eqv_tn, eqv_nt, eqv_tl, eqv_lt, eqvAll_nn, eqvAll_cc, eqvAll_nc, eqvAll_cn, eqR_ii, eqR_ss, eqR_bb, nth0, nth1, nth2, nth3, truthy_b, truthy_t, truthy_l, truthy_n, truthy_i, cmp_eq, cmp_ne, cmp_lt, cmp_le, cmp_gt, cmp_ge, cmp_is_nn, cmp_is_tn, cmp_is_ln, cmp_is_in, cmp_is_sn, cmp_isnot_nn, cmp_isnot_tn, cmp_isnot_ln, cmp_isnot_in, cmp_isnot_sn, isi_tt, isi_tl, isi_ti, isi_tb, isi_ts, isi_tn, isi_ii, isi_ib, isi_it, isi_il, isi_is, isi_in, isi_bb, isi_bi, isi_ss, isi_st, isi_si, isi_ll, isi_lt, len_t, len_l, tup_l, tup_t, list_l, list_t, sub_ii, add_ii, idx_t, idx_l, walk_t, walk_l, iteF_t, iteF_f, andK_t, andK_f, orK_t, orK_f, ifeK_t, ifeK_f, chK_t, chK_f, setO_some, getS_0, getS_s, ofOut_rt, ofOut_nx, ofOut_exc, List.set, List.map_cons, List.map_nil, List.cons_append, List.nil_append, List.replicate, decide_true, decide_false, Nat.reduceSub, Nat.reduceAdd, List.length_cons, List.length_nil, Bool.not_true, Bool.not_false, Bool.and_true, Bool.and_false, Bool.true_and, Bool.false_and, List.isEmpty_cons, List.isEmpty_nil, reduceIte, Bool.false_eq_true, if_false, if_true, true_and, and_true, this]
  unfold refD at rr er no
  rcases h with ⟨t, hw, rfl, hs, hd⟩ | ⟨hno, hk⟩
  · have l1 := lis_ok hlw hlis t.dp t.d (Tm.dk_of t.dp t (Nat.le_refl _) hs) n (by omega)
    rw [lv_tm hw] at l1
    have l2 := law_size_ok hlpa hlsz t.dp t (Nat.le_refl _) (by omega) n (by omega)
    have hlt : ((t.ar : Int) < 0) = False := eq_false (by omega)
    by_cases h60 : t.sz ≤ 60
    · have g : ((60 : Int) < (t.sz : Int)) = False := eq_false (by omega)
      have yes : ∀ x, compK (callF ds n) (.one 5) .nil (.call lk (.cons (.var 5) (.cons (.var 2) .nil))) [r0, r1, some t.d, x, r4, none] ((List.range 3).map fun (k : Nat) => .int (0 + (k : Int))) = ok (.list [t.d, .int t.ar, .int t.sz]) := by
        intro x
        refine compK_one (enc := fun (k : Nat) => PyData.int (0 + (k : Int))) (out := yesD t) (List.range 3) fun k hk => ?_
        have := lk_yes hiw hpo hpp hpq hte hck har hsz hlk n k t (List.mem_range.mp hk) hw h60 (by omega)
        simp only [x_raise, x_raiseX, x_try, h_none, h_some, h_nil, e_slf, e_slt, e_slb, e_exf, x_nil, x_cons, x_doc, x_pass, x_brk, x_cont, x_set, x_unpack, x_par, x_app, x_ext, x_aug, x_expr, x_ite, x_ret, e_nil, e_var, e_cst, e_glob, e_tup, e_lst, e_call, e_bin, e_neg, e_not, e_cmp, e_chain, e_and, e_or, e_ife, e_f1, e_isi, e_idx, es_nil, es_cons, tryK_exc, tryK_rt, tryK_nx, clK_t, clK_f, leaveS_rt, leaveS_nx, Out.calm_rt, Out.calm_nx, part_i, isi_x, isi_v, cut1, cutR_l, cutR_t, List.drop, out_rt_seq, ofOut_out_rt, R.bind_ok, R.bind_exc, R.bind_stuck, R.calm_ok, R.calm_exc, R.calm_stuck, R.map_ok, R.map_exc, R.map_stuck, R.out_ok, R.out_exc, R.out_stuck, Out.seq_nx, Out.seq_rt, Out.seq_bk, Out.seq_ct, Out.seq_exc, Out.seq_stuck, eqv_ii, eqv_ss, eqv_tt, eqv_ll, eqv_bb, eqv_it, eqv_ti, eqv_is, eqv_si, eqv_ts, eqv_st, eqv_tn, eqv_nt, eqv_tl, eqv_lt, eqvAll_nn, eqvAll_cc, eqvAll_nc, eqvAll_cn, eqR_ii, eqR_ss, eqR_bb, nth0, nth1, nth2, nth3, truthy_b, truthy_t, truthy_l, truthy_n, truthy_i, cmp_eq, cmp_ne, cmp_lt, cmp_le, cmp_gt, cmp_ge, cmp_is_nn, cmp_is_tn, cmp_is_ln, cmp_is_in, cmp_is_sn, cmp_isnot_nn, cmp_isnot_tn, cmp_isnot_ln, cmp_isnot_in, cmp_isnot_sn, isi_tt, isi_tl, isi_ti, isi_tb, isi_ts, isi_tn, isi_ii, isi_ib, isi_it, isi_il, isi_is, isi_in, isi_bb, isi_bi, isi_ss, isi_st, isi_si, isi_ll, isi_lt, len_t, len_l, tup_l, tup_t, list_l, list_t, sub_ii, add_ii, idx_t, idx_l, walk_t, walk_l, iteF_t, iteF_f, andK_t, andK_f, orK_t, orK_f, ifeK_t, ifeK_f, chK_t, chK_f, setO_some, getS_0, getS_s, ofOut_rt, ofOut_nx, ofOut_exc, List.set, List.map_cons, List.map_nil, List.cons_append, List.nil_append, List.replicate, decide_true, decide_false, Nat.reduceSub, Nat.reduceAdd, List.length_cons, List.length_nil, Bool.not_true, Bool.not_false, Bool.and_true, Bool.and_false, Bool.true_and, Bool.false_and, List.isEmpty_cons, List.isEmpty_nil, reduceIte, Bool.false_eq_true, if_false, if_true, true_and, and_true, this]
      have ey : eqR (.list [t.d, .int t.ar, .int t.sz]) (.list [t.d, .int t.ar, .int t.sz]) = ok true := by
        have := t.depth_le
        rw [eqR_d _ _ (.inr (by simp only [PyData.depth, PyData.depthAll]; omega))]
        simp [Tm.eqv, Tm.eq_refl]
      simp only [B01.law_T4, x_raise, x_raiseX, x_try, h_none, h_some, h_nil, e_slf, e_slt, e_slb, e_exf, x_nil, x_cons, x_doc, x_pass, x_brk, x_cont, x_set, x_unpack, x_par, x_app, x_ext, x_aug, x_expr, x_ite, x_ret, e_nil, e_var, e_cst, e_glob, e_tup, e_lst, e_call, e_bin, e_neg, e_not, e_cmp, e_chain, e_and, e_or, e_ife, e_f1, e_isi, e_idx, es_nil, es_cons, tryK_exc, tryK_rt, tryK_nx, clK_t, clK_f, leaveS_rt, leaveS_nx, Out.calm_rt, Out.calm_nx, part_i, isi_x, isi_v, cut1, cutR_l, cutR_t, List.drop, out_rt_seq, ofOut_out_rt, R.bind_ok, R.bind_exc, R.bind_stuck, R.calm_ok, R.calm_exc, R.calm_stuck, R.map_ok, R.map_exc, R.map_stuck, R.out_ok, R.out_exc, R.out_stuck, Out.seq_nx, Out.seq_rt, Out.seq_bk, Out.seq_ct, Out.seq_exc, Out.seq_stuck, eqv_ii, eqv_ss, eqv_tt, eqv_ll, eqv_bb, eqv_it, eqv_ti, eqv_is, eqv_si, eqv_ts, eqv_st, eqv_tn, eqv_nt, eqv_tl, eqv_lt, eqvAll_nn, eqvAll_cc, eqvAll_nc, eqvAll_cn, eqR_ii, eqR_ss, eqR_bb, nth0, nth1, nth2, nth3, truthy_b, truthy_t, truthy_l, truthy_n, truthy_i, cmp_eq, cmp_ne, cmp_lt, cmp_le, cmp_gt, cmp_ge, cmp_is_nn, cmp_is_tn, cmp_is_ln, cmp_is_in, cmp_is_sn, cmp_isnot_nn, cmp_isnot_tn, cmp_isnot_ln, cmp_isnot_in, cmp_isnot_sn, isi_tt, isi_tl, isi_ti, isi_tb, isi_ts, isi_tn, isi_ii, isi_ib, isi_it, isi_il, isi_is, isi_in, isi_bb, isi_bi, isi_ss, isi_st, isi_si, isi_ll, isi_lt, len_t, len_l, tup_l, tup_t, list_l, list_t, sub_ii, add_ii, idx_t, idx_l, walk_t, walk_l, iteF_t, iteF_f, andK_t, andK_f, orK_t, orK_f, ifeK_t, ifeK_f, chK_t, chK_f, setO_some, getS_0, getS_s, ofOut_rt, ofOut_nx, ofOut_exc, List.set, List.map_cons, List.map_nil, List.cons_append, List.nil_append, List.replicate, decide_true, decide_false, Nat.reduceSub, Nat.reduceAdd, List.length_cons, List.length_nil, Bool.not_true, Bool.not_false, Bool.and_true, Bool.and_false, Bool.true_and, Bool.false_and, List.isEmpty_cons, List.isEmpty_nil, reduceIte, Bool.false_eq_true, if_false, if_true, true_and, and_true, Int.reduceEq, Int.reduceLT, Int.reduceLE, Int.reduceNeg, Int.cast_ofNat_Int, Int.reduceAdd, Int.reduceSub, l1, l2, hlt, g, e_rng1, hr, e_comp, yes, ey]
    · have g : ((60 : Int) < (t.sz : Int)) = True := eq_true (by omega)
      have no := no fun m hm => by
        have := places_ok hiw hpo hpp hpq t hw m 60 (by omega)
        unfold found at this
        rw [if_neg h60] at this
        exact this
      simp only [B01.law_T4, x_raise, x_raiseX, x_try, h_none, h_some, h_nil, e_slf, e_slt, e_slb, e_exf, x_nil, x_cons, x_doc, x_pass, x_brk, x_cont, x_set, x_unpack, x_par, x_app, x_ext, x_aug, x_expr, x_ite, x_ret, e_nil, e_var, e_cst, e_glob, e_tup, e_lst, e_call, e_bin, e_neg, e_not, e_cmp, e_chain, e_and, e_or, e_ife, e_f1, e_isi, e_idx, es_nil, es_cons, tryK_exc, tryK_rt, tryK_nx, clK_t, clK_f, leaveS_rt, leaveS_nx, Out.calm_rt, Out.calm_nx, part_i, isi_x, isi_v, cut1, cutR_l, cutR_t, List.drop, out_rt_seq, ofOut_out_rt, R.bind_ok, R.bind_exc, R.bind_stuck, R.calm_ok, R.calm_exc, R.calm_stuck, R.map_ok, R.map_exc, R.map_stuck, R.out_ok, R.out_exc, R.out_stuck, Out.seq_nx, Out.seq_rt, Out.seq_bk, Out.seq_ct, Out.seq_exc, Out.seq_stuck, eqv_ii, eqv_ss, eqv_tt, eqv_ll, eqv_bb, eqv_it, eqv_ti, eqv_is, eqv_si, eqv_ts, eqv_st, eqv_tn, eqv_nt, eqv_tl, eqv_lt, eqvAll_nn, eqvAll_cc, eqvAll_nc, eqvAll_cn, eqR_ii, eqR_ss, eqR_bb, nth0, nth1, nth2, nth3, truthy_b, truthy_t, truthy_l, truthy_n, truthy_i, cmp_eq, cmp_ne, cmp_lt, cmp_le, cmp_gt, cmp_ge, cmp_is_nn, cmp_is_tn, cmp_is_ln, cmp_is_in, cmp_is_sn, cmp_isnot_nn, cmp_isnot_tn, cmp_isnot_ln, cmp_isnot_in, cmp_isnot_sn, isi_tt, isi_tl, isi_ti, isi_tb, isi_ts, isi_tn, isi_ii, isi_ib, isi_it, isi_il, isi_is, isi_in, isi_bb, isi_bi, isi_ss, isi_st, isi_si, isi_ll, isi_lt, len_t, len_l, tup_l, tup_t, list_l, list_t, sub_ii, add_ii, idx_t, idx_l, walk_t, walk_l, iteF_t, iteF_f, andK_t, andK_f, orK_t, orK_f, ifeK_t, ifeK_f, chK_t, chK_f, setO_some, getS_0, getS_s, ofOut_rt, ofOut_nx, ofOut_exc, List.set, List.map_cons, List.map_nil, List.cons_append, List.nil_append, List.replicate, decide_true, decide_false, Nat.reduceSub, Nat.reduceAdd, List.length_cons, List.length_nil, Bool.not_true, Bool.not_false, Bool.and_true, Bool.and_false, Bool.true_and, Bool.false_and, List.isEmpty_cons, List.isEmpty_nil, reduceIte, Bool.false_eq_true, if_false, if_true, true_and, and_true, Int.reduceEq, Int.reduceLT, Int.reduceLE, Int.reduceNeg, Int.cast_ofNat_Int, Int.reduceAdd, Int.reduceSub, l1, l2, hlt, g, e_rng1, hr, e_comp, no, e_rep, rr, er]
  · have l1 := lis_ok hlw hlis 4 d hk n (by omega)
    rw [lv_no hno] at l1
    have no := no fun m hm => told_no hiw hpo hpp hpq 4 d hk hno m 60 (by omega)
    simp only [B01.law_T4, x_raise, x_raiseX, x_try, h_none, h_some, h_nil, e_slf, e_slt, e_slb, e_exf, x_nil, x_cons, x_doc, x_pass, x_brk, x_cont, x_set, x_unpack, x_par, x_app, x_ext, x_aug, x_expr, x_ite, x_ret, e_nil, e_var, e_cst, e_glob, e_tup, e_lst, e_call, e_bin, e_neg, e_not, e_cmp, e_chain, e_and, e_or, e_ife, e_f1, e_isi, e_idx, es_nil, es_cons, tryK_exc, tryK_rt, tryK_nx, clK_t, clK_f, leaveS_rt, leaveS_nx, Out.calm_rt, Out.calm_nx, part_i, isi_x, isi_v, cut1, cutR_l, cutR_t, List.drop, out_rt_seq, ofOut_out_rt, R.bind_ok, R.bind_exc, R.bind_stuck, R.calm_ok, R.calm_exc, R.calm_stuck, R.map_ok, R.map_exc, R.map_stuck, R.out_ok, R.out_exc, R.out_stuck, Out.seq_nx, Out.seq_rt, Out.seq_bk, Out.seq_ct, Out.seq_exc, Out.seq_stuck, eqv_ii, eqv_ss, eqv_tt, eqv_ll, eqv_bb, eqv_it, eqv_ti, eqv_is, eqv_si, eqv_ts, eqv_st, eqv_tn, eqv_nt, eqv_tl, eqv_lt, eqvAll_nn, eqvAll_cc, eqvAll_nc, eqvAll_cn, eqR_ii, eqR_ss, eqR_bb, nth0, nth1, nth2, nth3, truthy_b, truthy_t, truthy_l, truthy_n, truthy_i, cmp_eq, cmp_ne, cmp_lt, cmp_le, cmp_gt, cmp_ge, cmp_is_nn, cmp_is_tn, cmp_is_ln, cmp_is_in, cmp_is_sn, cmp_isnot_nn, cmp_isnot_tn, cmp_isnot_ln, cmp_isnot_in, cmp_isnot_sn, isi_tt, isi_tl, isi_ti, isi_tb, isi_ts, isi_tn, isi_ii, isi_ib, isi_it, isi_il, isi_is, isi_in, isi_bb, isi_bi, isi_ss, isi_st, isi_si, isi_ll, isi_lt, len_t, len_l, tup_l, tup_t, list_l, list_t, sub_ii, add_ii, idx_t, idx_l, walk_t, walk_l, iteF_t, iteF_f, andK_t, andK_f, orK_t, orK_f, ifeK_t, ifeK_f, chK_t, chK_f, setO_some, getS_0, getS_s, ofOut_rt, ofOut_nx, ofOut_exc, List.set, List.map_cons, List.map_nil, List.cons_append, List.nil_append, List.replicate, decide_true, decide_false, Nat.reduceSub, Nat.reduceAdd, List.length_cons, List.length_nil, Bool.not_true, Bool.not_false, Bool.and_true, Bool.and_false, Bool.true_and, Bool.false_and, List.isEmpty_cons, List.isEmpty_nil, reduceIte, Bool.false_eq_true, if_false, if_true, true_and, and_true, Int.reduceEq, Int.reduceLT, Int.reduceLE, Int.reduceNeg, Int.cast_ofNat_Int, Int.reduceAdd, Int.reduceSub, l1, e_rng1, hr, e_comp, no, e_rep, rr, er]
variable (hce : ds[ce]? = some _law_cell) (hro : ds[ro]? = some (_law_row ce)) (hle : ds[le]? = some _law_leaf) (hgr : ds[gr]? = some (_law_grown le gr)) (hdr : ds[dr]? = some (_law_drawn ro gr)) (hla : ds[la]? = some (B01.law ro dr lsz lis sp lk))
theorem rng_any (i : Int) (h : i ≤ 1000) (h2 : -1000000 ≤ i) : rng1R (.int i) = ok (.list ((List.range i.toNat).map fun (k : Nat) => .int (0 + (k : Int)))) := by
  have hb : (big62 0 && big62 i && decide ((i - 0).toNat ≤ Line)) = true := by
    simp only [big62, Bool.and_eq_true, decide_eq_true_eq]
    refine ⟨⟨by omega, by omega⟩, ?_⟩
    exact Nat.le_trans (show (i - 0).toNat ≤ 1000 by omega) (by decide)
  show rngR 0 i = _
  unfold rngR
  rw [if_pos hb]
  have : (i - 0).toNat = i.toNat := by omega
  rw [this]
include hlw hlis hiw hpo hpp hpq hte hck har hsz hlk hlsz hlpa in
theorem law_T3_ok (n : Nat) (hn : 88 ≤ n) (d : D) (h : Fit d) (r0 : Option D) (ns : List Nat) (hl : ns.length = 60) : exS (callF ds n) (B01.law_T3 lsz lis lk) [r0, some (natsD ns), some d, none, none, none] = .rt (.bool true) := by
  have r3 : idxR (natsD ns) (.int 3) = ok (.int ((ns.getD 3 0 : Nat) : Int)) := row_get 3 (by omega)
  have r4 : idxR (natsD ns) (.int 4) = ok (.int ((ns.getD 4 0 : Nat) : Int)) := row_get 4 (by omega)
  generalize ns.getD 3 0 = x3 at r3
  generalize ns.getD 4 0 = x4 at r4
  have m3 : binD .mod (.int (x3 : Int)) (.int 3) = ok (.int ((x3 : Int) % 3)) := mod_ii _ _ (by decide)
  have m4 : binD .mod (.int (x4 : Int)) (.int 12) = ok (.int ((x4 : Int) % 12)) := mod_ii _ _ (by decide)
  have l1 := lis_ok hlw hlis 4 d h.dk n (by omega)
  have stay : ∀ {c : Bool}, Last d → exS (callF ds n) (B01.law_T4 lsz lis lk) [r0, some (natsD ns), some d, none, none, none] = .rt (.bool true) := fun {c} hl => law_T4_ok hlw hlis hlpa hiw hpo hpp hpq hte hck har hsz hlk hlsz n hn d hl _ _ _
  have ld : Last d := by
    by_cases hi : IsTm d
    · obtain ⟨t, hw, rfl⟩ := hi
      have := h.sz t rfl
      have := Tm.dk 4 t hw h.dk
      exact .inl ⟨t, hw, rfl, by omega, by omega⟩
    · exact .inr ⟨hi, h.dk⟩
  have st := stay (c := true) ld
  by_cases c3 : (x3 : Int) % 3 = 0
  · by_cases hi : IsTm d
    · obtain ⟨t, hw, rfl⟩ := hi
      have hs := h.sz t rfl
      have hd := Tm.dk 4 t hw h.dk
      have l2 := law_size_ok hlpa hlsz t.dp t (Nat.le_refl _) (by omega) n (by omega)
      rw [lv_tm hw] at l1
      have g : ((0 : Int) ≤ (t.ar : Int)) = True := eq_true (by omega)
      have hdv := fdiv_ii ((56 : Int) - (t.sz : Int) + (x4 : Int) % 12) 2 ⟨by decide, by decide⟩
      have b1 : (x4 : Int) % 12 < 12 := Int.emod_lt_of_pos _ (by decide)
      have b0 : 0 ≤ (x4 : Int) % 12 := Int.emod_nonneg _ (by decide)
      have hr := rng_any (((56 : Int) - (t.sz : Int) + (x4 : Int) % 12) / 2) (by omega) (by omega)
      generalize hK : (((56 : Int) - (t.sz : Int) + (x4 : Int) % 12) / 2).toNat = K at hr
      obtain ⟨y4, hf⟩ := nexts_loop (callF ds n) t K r0 (some (natsD ns)) none none
      obtain ⟨f1, _, f2, f3, f4⟩ := nexts_facts t hw K
      have hp := t.sz_pos
      have := law_T4_ok hlw hlis hlpa hiw hpo hpp hpq hte hck har hsz hlk hlsz n hn (nextsT t K).d (.inl ⟨_, f1, rfl, by omega, by omega⟩) r0 (some (natsD ns)) y4
      simp only [B01.law_T3, x_raise, x_raiseX, x_try, h_none, h_some, h_nil, e_slf, e_slt, e_slb, e_exf, x_nil, x_cons, x_doc, x_pass, x_brk, x_cont, x_set, x_unpack, x_par, x_app, x_ext, x_aug, x_expr, x_ite, x_ret, e_nil, e_var, e_cst, e_glob, e_tup, e_lst, e_call, e_bin, e_neg, e_not, e_cmp, e_chain, e_and, e_or, e_ife, e_f1, e_isi, e_idx, es_nil, es_cons, tryK_exc, tryK_rt, tryK_nx, clK_t, clK_f, leaveS_rt, leaveS_nx, Out.calm_rt, Out.calm_nx, part_i, isi_x, isi_v, cut1, cutR_l, cutR_t, List.drop, out_rt_seq, ofOut_out_rt, R.bind_ok, R.bind_exc, R.bind_stuck, R.calm_ok, R.calm_exc, R.calm_stuck, R.map_ok, R.map_exc, R.map_stuck, R.out_ok, R.out_exc, R.out_stuck, Out.seq_nx, Out.seq_rt, Out.seq_bk, Out.seq_ct, Out.seq_exc, Out.seq_stuck, eqv_ii, eqv_ss, eqv_tt, eqv_ll, eqv_bb, eqv_it, eqv_ti, eqv_is, eqv_si, eqv_ts, eqv_st, eqv_tn, eqv_nt, eqv_tl, eqv_lt, eqvAll_nn, eqvAll_cc, eqvAll_nc, eqvAll_cn, eqR_ii, eqR_ss, eqR_bb, nth0, nth1, nth2, nth3, truthy_b, truthy_t, truthy_l, truthy_n, truthy_i, cmp_eq, cmp_ne, cmp_lt, cmp_le, cmp_gt, cmp_ge, cmp_is_nn, cmp_is_tn, cmp_is_ln, cmp_is_in, cmp_is_sn, cmp_isnot_nn, cmp_isnot_tn, cmp_isnot_ln, cmp_isnot_in, cmp_isnot_sn, isi_tt, isi_tl, isi_ti, isi_tb, isi_ts, isi_tn, isi_ii, isi_ib, isi_it, isi_il, isi_is, isi_in, isi_bb, isi_bi, isi_ss, isi_st, isi_si, isi_ll, isi_lt, len_t, len_l, tup_l, tup_t, list_l, list_t, sub_ii, add_ii, idx_t, idx_l, walk_t, walk_l, iteF_t, iteF_f, andK_t, andK_f, orK_t, orK_f, ifeK_t, ifeK_f, chK_t, chK_f, setO_some, getS_0, getS_s, ofOut_rt, ofOut_nx, ofOut_exc, List.set, List.map_cons, List.map_nil, List.cons_append, List.nil_append, List.replicate, decide_true, decide_false, Nat.reduceSub, Nat.reduceAdd, List.length_cons, List.length_nil, Bool.not_true, Bool.not_false, Bool.and_true, Bool.and_false, Bool.true_and, Bool.false_and, List.isEmpty_cons, List.isEmpty_nil, reduceIte, Bool.false_eq_true, if_false, if_true, true_and, and_true, Int.reduceEq, Int.reduceLT, Int.reduceLE, Int.reduceNeg, Int.cast_ofNat_Int, Int.reduceAdd, Int.reduceSub, r3, r4, m3, m4, c3, l1, g, x_for, e_rng1, l2, hdv, hr, hf, this]
    · rw [lv_no hi] at l1
      simp only [B01.law_T3, x_raise, x_raiseX, x_try, h_none, h_some, h_nil, e_slf, e_slt, e_slb, e_exf, x_nil, x_cons, x_doc, x_pass, x_brk, x_cont, x_set, x_unpack, x_par, x_app, x_ext, x_aug, x_expr, x_ite, x_ret, e_nil, e_var, e_cst, e_glob, e_tup, e_lst, e_call, e_bin, e_neg, e_not, e_cmp, e_chain, e_and, e_or, e_ife, e_f1, e_isi, e_idx, es_nil, es_cons, tryK_exc, tryK_rt, tryK_nx, clK_t, clK_f, leaveS_rt, leaveS_nx, Out.calm_rt, Out.calm_nx, part_i, isi_x, isi_v, cut1, cutR_l, cutR_t, List.drop, out_rt_seq, ofOut_out_rt, R.bind_ok, R.bind_exc, R.bind_stuck, R.calm_ok, R.calm_exc, R.calm_stuck, R.map_ok, R.map_exc, R.map_stuck, R.out_ok, R.out_exc, R.out_stuck, Out.seq_nx, Out.seq_rt, Out.seq_bk, Out.seq_ct, Out.seq_exc, Out.seq_stuck, eqv_ii, eqv_ss, eqv_tt, eqv_ll, eqv_bb, eqv_it, eqv_ti, eqv_is, eqv_si, eqv_ts, eqv_st, eqv_tn, eqv_nt, eqv_tl, eqv_lt, eqvAll_nn, eqvAll_cc, eqvAll_nc, eqvAll_cn, eqR_ii, eqR_ss, eqR_bb, nth0, nth1, nth2, nth3, truthy_b, truthy_t, truthy_l, truthy_n, truthy_i, cmp_eq, cmp_ne, cmp_lt, cmp_le, cmp_gt, cmp_ge, cmp_is_nn, cmp_is_tn, cmp_is_ln, cmp_is_in, cmp_is_sn, cmp_isnot_nn, cmp_isnot_tn, cmp_isnot_ln, cmp_isnot_in, cmp_isnot_sn, isi_tt, isi_tl, isi_ti, isi_tb, isi_ts, isi_tn, isi_ii, isi_ib, isi_it, isi_il, isi_is, isi_in, isi_bb, isi_bi, isi_ss, isi_st, isi_si, isi_ll, isi_lt, len_t, len_l, tup_l, tup_t, list_l, list_t, sub_ii, add_ii, idx_t, idx_l, walk_t, walk_l, iteF_t, iteF_f, andK_t, andK_f, orK_t, orK_f, ifeK_t, ifeK_f, chK_t, chK_f, setO_some, getS_0, getS_s, ofOut_rt, ofOut_nx, ofOut_exc, List.set, List.map_cons, List.map_nil, List.cons_append, List.nil_append, List.replicate, decide_true, decide_false, Nat.reduceSub, Nat.reduceAdd, List.length_cons, List.length_nil, Bool.not_true, Bool.not_false, Bool.and_true, Bool.and_false, Bool.true_and, Bool.false_and, List.isEmpty_cons, List.isEmpty_nil, reduceIte, Bool.false_eq_true, if_false, if_true, true_and, and_true, Int.reduceEq, Int.reduceLT, Int.reduceLE, Int.reduceNeg, Int.cast_ofNat_Int, Int.reduceAdd, Int.reduceSub, r3, m3, c3, l1, st]
  · simp only [B01.law_T3, x_raise, x_raiseX, x_try, h_none, h_some, h_nil, e_slf, e_slt, e_slb, e_exf, x_nil, x_cons, x_doc, x_pass, x_brk, x_cont, x_set, x_unpack, x_par, x_app, x_ext, x_aug, x_expr, x_ite, x_ret, e_nil, e_var, e_cst, e_glob, e_tup, e_lst, e_call, e_bin, e_neg, e_not, e_cmp, e_chain, e_and, e_or, e_ife, e_f1, e_isi, e_idx, es_nil, es_cons, tryK_exc, tryK_rt, tryK_nx, clK_t, clK_f, leaveS_rt, leaveS_nx, Out.calm_rt, Out.calm_nx, part_i, isi_x, isi_v, cut1, cutR_l, cutR_t, List.drop, out_rt_seq, ofOut_out_rt, R.bind_ok, R.bind_exc, R.bind_stuck, R.calm_ok, R.calm_exc, R.calm_stuck, R.map_ok, R.map_exc, R.map_stuck, R.out_ok, R.out_exc, R.out_stuck, Out.seq_nx, Out.seq_rt, Out.seq_bk, Out.seq_ct, Out.seq_exc, Out.seq_stuck, eqv_ii, eqv_ss, eqv_tt, eqv_ll, eqv_bb, eqv_it, eqv_ti, eqv_is, eqv_si, eqv_ts, eqv_st, eqv_tn, eqv_nt, eqv_tl, eqv_lt, eqvAll_nn, eqvAll_cc, eqvAll_nc, eqvAll_cn, eqR_ii, eqR_ss, eqR_bb, nth0, nth1, nth2, nth3, truthy_b, truthy_t, truthy_l, truthy_n, truthy_i, cmp_eq, cmp_ne, cmp_lt, cmp_le, cmp_gt, cmp_ge, cmp_is_nn, cmp_is_tn, cmp_is_ln, cmp_is_in, cmp_is_sn, cmp_isnot_nn, cmp_isnot_tn, cmp_isnot_ln, cmp_isnot_in, cmp_isnot_sn, isi_tt, isi_tl, isi_ti, isi_tb, isi_ts, isi_tn, isi_ii, isi_ib, isi_it, isi_il, isi_is, isi_in, isi_bb, isi_bi, isi_ss, isi_st, isi_si, isi_ll, isi_lt, len_t, len_l, tup_l, tup_t, list_l, list_t, sub_ii, add_ii, idx_t, idx_l, walk_t, walk_l, iteF_t, iteF_f, andK_t, andK_f, orK_t, orK_f, ifeK_t, ifeK_f, chK_t, chK_f, setO_some, getS_0, getS_s, ofOut_rt, ofOut_nx, ofOut_exc, List.set, List.map_cons, List.map_nil, List.cons_append, List.nil_append, List.replicate, decide_true, decide_false, Nat.reduceSub, Nat.reduceAdd, List.length_cons, List.length_nil, Bool.not_true, Bool.not_false, Bool.and_true, Bool.and_false, Bool.true_and, Bool.false_and, List.isEmpty_cons, List.isEmpty_nil, reduceIte, Bool.false_eq_true, if_false, if_true, true_and, and_true, Int.reduceEq, Int.reduceLT, Int.reduceLE, Int.reduceNeg, Int.cast_ofNat_Int, Int.reduceAdd, Int.reduceSub, r3, m3, c3, st]
include hlw hlis hiw hpo hpp hpq hte hck har hsz hlk hlsz hlpa hsp hlwa hlwi hce hro hle hgr hdr hla in
theorem law01_ok (n : Nat) (hn : 89 ≤ n) (ss : List Int) : callF ds (n + 1) la [intsD ss] = ok (.bool true) := by
  obtain ⟨n', rfl⟩ : ∃ m, n = m + 2 := ⟨n - 2, by omega⟩
  obtain ⟨t, hw, hs, hd, ht⟩ := drawn_ok hce hro hle hgr hdr (n' + 1) 2 ss (by omega)
  have ht : callF ds (n' + 2) dr [intsD ss, .int 2] = ok t.d := ht
  obtain ⟨ns, l60, _, hr⟩ := row_ok hce hro n' 3 ss
  have hr : callF ds (n' + 2) ro [intsD ss, .int 3] = ok (natsD ns) := hr
  have r0 : idxR (natsD ns) (.int 0) = ok (.int ((ns.getD 0 0 : Nat) : Int)) := row_get 0 (by omega)
  generalize ns.getD 0 0 = x0 at r0
  have m0 : binD .mod (.int (x0 : Int)) (.int 2) = ok (.int ((x0 : Int) % 2)) := mod_ii _ _ (by decide)
  rw [run_at hla _ _ rfl]
  by_cases c : (x0 : Int) % 2 = 0
  · obtain ⟨d, hf, hc⟩ := spoilt_ok hlpa hlwa hlwi hsp (n' + 1) t hw hs hd (by omega) ns l60
    have hc : callF ds (n' + 2) sp [t.d, natsD ns, .int 1] = ok d := hc
    have st := law_T3_ok hlw hlis hlpa hiw hpo hpp hpq hte hck har hsz hlk hlsz (n' + 2) (by omega) d hf (some (intsD ss)) ns l60
    simp only [x_raise, x_raiseX, x_try, h_none, h_some, h_nil, e_slf, e_slt, e_slb, e_exf, x_nil, x_cons, x_doc, x_pass, x_brk, x_cont, x_set, x_unpack, x_par, x_app, x_ext, x_aug, x_expr, x_ite, x_ret, e_nil, e_var, e_cst, e_glob, e_tup, e_lst, e_call, e_bin, e_neg, e_not, e_cmp, e_chain, e_and, e_or, e_ife, e_f1, e_isi, e_idx, es_nil, es_cons, tryK_exc, tryK_rt, tryK_nx, clK_t, clK_f, leaveS_rt, leaveS_nx, Out.calm_rt, Out.calm_nx, part_i, isi_x, isi_v, cut1, cutR_l, cutR_t, List.drop, out_rt_seq, ofOut_out_rt, R.bind_ok, R.bind_exc, R.bind_stuck, R.calm_ok, R.calm_exc, R.calm_stuck, R.map_ok, R.map_exc, R.map_stuck, R.out_ok, R.out_exc, R.out_stuck, Out.seq_nx, Out.seq_rt, Out.seq_bk, Out.seq_ct, Out.seq_exc, Out.seq_stuck, eqv_ii, eqv_ss, eqv_tt, eqv_ll, eqv_bb, eqv_it, eqv_ti, eqv_is, eqv_si, eqv_ts, eqv_st, eqv_tn, eqv_nt, eqv_tl, eqv_lt, eqvAll_nn, eqvAll_cc, eqvAll_nc, eqvAll_cn, eqR_ii, eqR_ss, eqR_bb, nth0, nth1, nth2, nth3, truthy_b, truthy_t, truthy_l, truthy_n, truthy_i, cmp_eq, cmp_ne, cmp_lt, cmp_le, cmp_gt, cmp_ge, cmp_is_nn, cmp_is_tn, cmp_is_ln, cmp_is_in, cmp_is_sn, cmp_isnot_nn, cmp_isnot_tn, cmp_isnot_ln, cmp_isnot_in, cmp_isnot_sn, isi_tt, isi_tl, isi_ti, isi_tb, isi_ts, isi_tn, isi_ii, isi_ib, isi_it, isi_il, isi_is, isi_in, isi_bb, isi_bi, isi_ss, isi_st, isi_si, isi_ll, isi_lt, len_t, len_l, tup_l, tup_t, list_l, list_t, sub_ii, add_ii, idx_t, idx_l, walk_t, walk_l, iteF_t, iteF_f, andK_t, andK_f, orK_t, orK_f, ifeK_t, ifeK_f, chK_t, chK_f, setO_some, getS_0, getS_s, ofOut_rt, ofOut_nx, ofOut_exc, List.set, List.map_cons, List.map_nil, List.cons_append, List.nil_append, List.replicate, decide_true, decide_false, Nat.reduceSub, Nat.reduceAdd, List.length_cons, List.length_nil, Bool.not_true, Bool.not_false, Bool.and_true, Bool.and_false, Bool.true_and, Bool.false_and, List.isEmpty_cons, List.isEmpty_nil, reduceIte, Bool.false_eq_true, if_false, if_true, true_and, and_true, Int.reduceEq, Int.reduceLT, Int.reduceLE, Int.reduceNeg, Int.cast_ofNat_Int, Int.reduceAdd, Int.reduceSub, hr, ht, B01.law_T2, r0, m0, c, hc, st]
  · have st := law_T3_ok hlw hlis hlpa hiw hpo hpp hpq hte hck har hsz hlk hlsz (n' + 2) (by omega) t.d ⟨(Tm.dk_of 4 t (by omega) (by omega)), fun u e => by rw [← Tm.inj e]; omega⟩ (some (intsD ss)) ns l60
    simp only [x_raise, x_raiseX, x_try, h_none, h_some, h_nil, e_slf, e_slt, e_slb, e_exf, x_nil, x_cons, x_doc, x_pass, x_brk, x_cont, x_set, x_unpack, x_par, x_app, x_ext, x_aug, x_expr, x_ite, x_ret, e_nil, e_var, e_cst, e_glob, e_tup, e_lst, e_call, e_bin, e_neg, e_not, e_cmp, e_chain, e_and, e_or, e_ife, e_f1, e_isi, e_idx, es_nil, es_cons, tryK_exc, tryK_rt, tryK_nx, clK_t, clK_f, leaveS_rt, leaveS_nx, Out.calm_rt, Out.calm_nx, part_i, isi_x, isi_v, cut1, cutR_l, cutR_t, List.drop, out_rt_seq, ofOut_out_rt, R.bind_ok, R.bind_exc, R.bind_stuck, R.calm_ok, R.calm_exc, R.calm_stuck, R.map_ok, R.map_exc, R.map_stuck, R.out_ok, R.out_exc, R.out_stuck, Out.seq_nx, Out.seq_rt, Out.seq_bk, Out.seq_ct, Out.seq_exc, Out.seq_stuck, eqv_ii, eqv_ss, eqv_tt, eqv_ll, eqv_bb, eqv_it, eqv_ti, eqv_is, eqv_si, eqv_ts, eqv_st, eqv_tn, eqv_nt, eqv_tl, eqv_lt, eqvAll_nn, eqvAll_cc, eqvAll_nc, eqvAll_cn, eqR_ii, eqR_ss, eqR_bb, nth0, nth1, nth2, nth3, truthy_b, truthy_t, truthy_l, truthy_n, truthy_i, cmp_eq, cmp_ne, cmp_lt, cmp_le, cmp_gt, cmp_ge, cmp_is_nn, cmp_is_tn, cmp_is_ln, cmp_is_in, cmp_is_sn, cmp_isnot_nn, cmp_isnot_tn, cmp_isnot_ln, cmp_isnot_in, cmp_isnot_sn, isi_tt, isi_tl, isi_ti, isi_tb, isi_ts, isi_tn, isi_ii, isi_ib, isi_it, isi_il, isi_is, isi_in, isi_bb, isi_bi, isi_ss, isi_st, isi_si, isi_ll, isi_lt, len_t, len_l, tup_l, tup_t, list_l, list_t, sub_ii, add_ii, idx_t, idx_l, walk_t, walk_l, iteF_t, iteF_f, andK_t, andK_f, orK_t, orK_f, ifeK_t, ifeK_f, chK_t, chK_f, setO_some, getS_0, getS_s, ofOut_rt, ofOut_nx, ofOut_exc, List.set, List.map_cons, List.map_nil, List.cons_append, List.nil_append, List.replicate, decide_true, decide_false, Nat.reduceSub, Nat.reduceAdd, List.length_cons, List.length_nil, Bool.not_true, Bool.not_false, Bool.and_true, Bool.and_false, Bool.true_and, Bool.false_and, List.isEmpty_cons, List.isEmpty_nil, reduceIte, Bool.false_eq_true, if_false, if_true, true_and, and_true, Int.reduceEq, Int.reduceLT, Int.reduceLE, Int.reduceNeg, Int.cast_ofNat_Int, Int.reduceAdd, Int.reduceSub, hr, ht, B01.law_T2, r0, m0, c, st]
end
end Pyr

namespace K01
open PySem Pyr
def w_round : Str := "round"
def w_put : Str := "put"
def w_77_79_83_84_95_80_76_65_67_69_83 : Str := "MOST_PLACES"
def w_place : Str := "place"
def w_next : Str := "next"
def w_nought : Str := "nought"
def w_77_79_83_84_95_80_65_82_84_83 : Str := "MOST_PARTS"
def w_other : Str := "other"
abbrev f_is_within : Nat := 0
abbrev f_places_of : Nat := 1
abbrev f_places_put : Nat := 2
abbrev f_places_round : Nat := 3
abbrev f_is_term : Nat := 4
abbrev f_checked : Nat := 5
abbrev f_arity : Nat := 6
abbrev f_size : Nat := 7
abbrev f__law_cell : Nat := 8
abbrev f__law_whole : Nat := 9
abbrev f__law_row : Nat := 10
abbrev f__law_leaf : Nat := 11
abbrev f__law_grown : Nat := 12
abbrev f__law_drawn : Nat := 13
abbrev f__law_parts : Nat := 14
abbrev f__law_size : Nat := 15
abbrev f__law_ways : Nat := 16
abbrev f__law_with : Nat := 17
abbrev f__law_is : Nat := 18
abbrev f__law_spoilt_term : Nat := 19
abbrev f__law_looked : Nat := 20
abbrev f_law : Nat := 21
def g_MOST_PARTS : D := (.int 60)
def g_MOST_PLACES : D := (.int 4)
def b_is_within : S := (.cons (.ret (.and (.isi .int (.var 0)) (.and (.not (.isi .bool (.var 0))) (.chain .le .le (.var 1) (.var 0) (.var 2))))) .nil)
def b_places_of : S := (.cons (.ite (.or (.cmp .eq (.var 1) (.cst (.int 0))) (.or (.not (.isi .tuple (.var 0))) (.or (.not (.var 0)) (.not (.isi .str (.idx (.var 0) (.cst (.int 0)))))))) (.cons (.ret (.cst .none)) .nil) .nil) (.cons (.ite (.and (.cmp .eq (.idx (.var 0) (.cst (.int 0))) (.cst (.str w_nought))) (.and (.cmp .eq (.f1 .len (.var 0)) (.cst (.int 2))) (.call f_is_within (.cons (.idx (.var 0) (.cst (.int 1))) (.cons (.cst (.int 0)) (.cons (.glob w_77_79_83_84_95_80_76_65_67_69_83 g_MOST_PLACES) .nil)))))) (.cons (.ret (.tup (.cons (.idx (.var 0) (.cst (.int 1))) (.cons (.bin .sub (.var 1) (.cst (.int 1))) .nil)))) .nil) .nil) (.cons (.ite (.cmp .eq (.var 0) (.tup (.cons (.cst (.str w_next)) .nil))) (.cons (.ret (.tup (.cons (.cst (.int 1)) (.cons (.bin .sub (.var 1) (.cst (.int 1))) .nil)))) .nil) .nil) (.cons (.ite (.and (.cmp .eq (.idx (.var 0) (.cst (.int 0))) (.cst (.str w_place))) (.and (.cmp .eq (.f1 .len (.var 0)) (.cst (.int 3))) (.call f_is_within (.cons (.idx (.var 0) (.cst (.int 1))) (.cons (.cst (.int 1)) (.cons (.glob w_77_79_83_84_95_80_76_65_67_69_83 g_MOST_PLACES) .nil)))))) (.cons (.ret (.ife (.call f_is_within (.cons (.idx (.var 0) (.cst (.int 2))) (.cons (.cst (.int 0)) (.cons (.bin .sub (.idx (.var 0) (.cst (.int 1))) (.cst (.int 1))) .nil)))) (.tup (.cons (.idx (.var 0) (.cst (.int 1))) (.cons (.bin .sub (.var 1) (.cst (.int 1))) .nil))) (.cst .none))) .nil) .nil) (.cons (.ite (.and (.cmp .eq (.idx (.var 0) (.cst (.int 0))) (.cst (.str w_put))) (.and (.cmp .eq (.f1 .len (.var 0)) (.cst (.int 3))) (.isi .tuple (.idx (.var 0) (.cst (.int 2)))))) (.cons (.ret (.call f_places_put (.cons (.var 0) (.cons (.bin .sub (.var 1) (.cst (.int 1))) .nil)))) .nil) .nil) (.cons (.ite (.and (.cmp .eq (.idx (.var 0) (.cst (.int 0))) (.cst (.str w_round))) (.cmp .eq (.f1 .len (.var 0)) (.cst (.int 3)))) (.cons (.ret (.call f_places_round (.cons (.var 0) (.cons (.bin .sub (.var 1) (.cst (.int 1))) .nil)))) .nil) .nil) (.cons (.ret (.cst .none)) .nil)))))))
def b_places_put : S := (.cons (.set 2 (.call f_places_of (.cons (.idx (.var 0) (.cst (.int 1))) (.cons (.var 1) .nil)))) (.cons (.ite (.or (.cmp .is (.var 2) (.cst .none)) (.or (.cmp .eq (.idx (.var 2) (.cst (.int 0))) (.cst (.int 0))) (.cmp .ne (.idx (.var 2) (.cst (.int 0))) (.f1 .len (.idx (.var 0) (.cst (.int 2))))))) (.cons (.ret (.cst .none)) .nil) .nil) (.cons (.set 1 (.idx (.var 2) (.cst (.int 1)))) (.cons (.set 3 (.cst .none)) (.cons (.for (.one 4) (.idx (.var 0) (.cst (.int 2))) (.cons (.set 5 (.call f_places_of (.cons (.var 4) (.cons (.var 1) .nil)))) (.cons (.ite (.or (.cmp .is (.var 5) (.cst .none)) (.and (.cmp .isnot (.var 3) (.cst .none)) (.cmp .ne (.idx (.var 5) (.cst (.int 0))) (.var 3)))) (.cons (.ret (.cst .none)) .nil) .nil) (.cons (.unpack [3, 1] (.var 5)) .nil)))) (.cons (.ret (.tup (.cons (.var 3) (.cons (.var 1) .nil)))) .nil))))))
def b_places_round : S := (.cons (.set 2 (.call f_places_of (.cons (.idx (.var 0) (.cst (.int 1))) (.cons (.var 1) .nil)))) (.cons (.ite (.or (.cmp .is (.var 2) (.cst .none)) (.cmp .ge (.idx (.var 2) (.cst (.int 0))) (.glob w_77_79_83_84_95_80_76_65_67_69_83 g_MOST_PLACES))) (.cons (.ret (.cst .none)) .nil) .nil) (.cons (.set 3 (.call f_places_of (.cons (.idx (.var 0) (.cst (.int 2))) (.cons (.idx (.var 2) (.cst (.int 1))) .nil)))) (.cons (.ite (.or (.cmp .is (.var 3) (.cst .none)) (.cmp .ne (.idx (.var 3) (.cst (.int 0))) (.bin .add (.idx (.var 2) (.cst (.int 0))) (.cst (.int 2))))) (.cons (.ret (.cst .none)) .nil) .nil) (.cons (.ret (.tup (.cons (.bin .add (.idx (.var 2) (.cst (.int 0))) (.cst (.int 1))) (.cons (.idx (.var 3) (.cst (.int 1))) .nil)))) .nil)))))
def b_is_term : S := (.cons (.ret (.cmp .isnot (.call f_places_of (.cons (.var 0) (.cons (.glob w_77_79_83_84_95_80_65_82_84_83 g_MOST_PARTS) .nil))) (.cst .none))) .nil)
def b_checked : S := (.cons (.ite (.not (.call f_is_term (.cons (.var 0) .nil))) (.cons (.raise 1 .nil) .nil) .nil) (.cons (.ret (.var 0)) .nil))
def b_arity : S := (.cons (.ret (.idx (.call f_places_of (.cons (.call f_checked (.cons (.var 0) .nil)) (.cons (.glob w_77_79_83_84_95_80_65_82_84_83 g_MOST_PARTS) .nil))) (.cst (.int 0)))) .nil)
def b_size : S := (.cons (.ret (.bin .sub (.glob w_77_79_83_84_95_80_65_82_84_83 g_MOST_PARTS) (.idx (.call f_places_of (.cons (.call f_checked (.cons (.var 0) .nil)) (.cons (.glob w_77_79_83_84_95_80_65_82_84_83 g_MOST_PARTS) .nil))) (.cst (.int 1))))) .nil)
def b__law_cell : S := (.cons (.ite (.cmp .lt (.var 1) (.f1 .len (.var 0))) (.cons (.ret (.idx (.var 0) (.var 1))) .nil) .nil) (.cons (.ret (.cst (.int 0))) .nil))
def b__law_whole : S := (.cons (.ret (.and (.isi .int (.var 0)) (.not (.isi .bool (.var 0))))) .nil)
def b__law_row : S := (.cons (.set 2 (.call f__law_cell (.cons (.var 0) (.cons (.var 1) .nil)))) (.cons (.set 3 (.lst .nil)) (.cons (.for (.one 4) (.rng1 (.cst (.int 60))) (.cons (.ite (.cmp .lt (.call f__law_cell (.cons (.var 0) (.cons (.var 1) .nil))) (.bin .pow (.cst (.int 10)) (.cst (.int 18)))) (.cons (.set 2 (.bin .mod (.bin .add (.bin .add (.bin .add (.bin .mul (.var 2) (.cst (.int 48271))) (.bin .mul (.cst (.int 131)) (.var 4))) (.cst (.int 7))) (.call f__law_cell (.cons (.var 0) (.cons (.bin .mod (.bin .add (.bin .add (.var 1) (.cst (.int 1))) (.var 4)) (.cst (.int 20))) .nil)))) (.cst (.int 2147483647)))) (.cons (.app 3 (.bin .mod (.bin .fdiv (.var 2) (.cst (.int 11))) (.cst (.int 1000)))) .nil)) (.cons (.app 3 (.bin .mod (.var 2) (.cst (.int 1000)))) (.cons (.set 2 (.bin .fdiv (.var 2) (.cst (.int 1000)))) .nil))) .nil)) (.cons (.ret (.var 3)) .nil))))
def b__law_leaf : S := (.cons (.ite (.and (.cmp .eq (.var 1) (.cst (.int 1))) (.cmp .eq (.bin .mod (.var 0) (.cst (.int 3))) (.cst (.int 2)))) (.cons (.ret (.tup (.cons (.cst (.str w_next)) .nil))) .nil) .nil) (.cons (.set 2 (.bin .mod (.bin .fdiv (.var 0) (.cst (.int 3))) (.bin .add (.var 1) (.cst (.int 1))))) (.cons (.ite (.cmp .eq (.var 2) (.var 1)) (.cons (.ret (.tup (.cons (.cst (.str w_nought)) (.cons (.var 1) .nil)))) .nil) .nil) (.cons (.ret (.tup (.cons (.cst (.str w_place)) (.cons (.var 1) (.cons (.var 2) .nil))))) .nil))))
def b__law_grown : S := (.cons (.set 4 (.ife (.cmp .lt (.var 1) (.f1 .len (.var 0))) (.idx (.var 0) (.var 1)) (.cst (.int 0)))) (.cons (.set 5 (.bin .mod (.var 4) (.cst (.int 10)))) (.cons (.set 6 (.bin .fdiv (.var 4) (.cst (.int 10)))) (.cons (.ite (.or (.cmp .eq (.var 3) (.cst (.int 0))) (.or (.cmp .lt (.var 5) (.cst (.int 2))) (.cmp .ge (.var 1) (.cst (.int 28))))) (.cons (.ret (.tup (.cons (.call f__law_leaf (.cons (.var 6) (.cons (.var 2) .nil))) (.cons (.bin .add (.var 1) (.cst (.int 1))) .nil)))) .nil) .nil) (.cons (.ite (.and (.cmp .lt (.var 5) (.cst (.int 6))) (.chain .le .le (.cst (.int 1)) (.var 2) (.cst (.int 3)))) (.cons (.set 12 (.call f__law_grown (.cons (.var 0) (.cons (.bin .add (.var 1) (.cst (.int 1))) (.cons (.bin .sub (.var 2) (.cst (.int 1))) (.cons (.bin .sub (.var 3) (.cst (.int 1))) .nil)))))) (.cons (.set 13 (.call f__law_grown (.cons (.var 0) (.cons (.idx (.var 12) (.cst (.int 1))) (.cons (.bin .add (.var 2) (.cst (.int 1))) (.cons (.bin .sub (.var 3) (.cst (.int 1))) .nil)))))) (.cons (.ret (.tup (.cons (.tup (.cons (.cst (.str w_round)) (.cons (.idx (.var 12) (.cst (.int 0))) (.cons (.idx (.var 13) (.cst (.int 0))) .nil)))) (.cons (.idx (.var 13) (.cst (.int 1))) .nil)))) .nil))) .nil) (.cons (.set 7 (.bin .add (.cst (.int 1)) (.bin .mod (.bin .mod (.var 6) (.cst (.int 7))) (.cst (.int 3))))) (.cons (.set 8 (.tup (.cons (.tup (.cons (.cst (.str w_next)) .nil)) (.cons (.bin .add (.var 1) (.cst (.int 1))) .nil)))) (.cons (.ite (.or (.cmp .gt (.var 7) (.cst (.int 1))) (.cmp .eq (.bin .mod (.bin .fdiv (.var 6) (.cst (.int 7))) (.cst (.int 2))) (.cst (.int 0)))) (.cons (.set 8 (.call f__law_grown (.cons (.var 0) (.cons (.bin .add (.var 1) (.cst (.int 1))) (.cons (.var 7) (.cons (.bin .sub (.var 3) (.cst (.int 1))) .nil)))))) .nil) .nil) (.cons (.set 9 (.lst .nil)) (.cons (.set 10 (.idx (.var 8) (.cst (.int 1)))) (.cons (.for (.one 11) (.rng1 (.var 7)) (.cons (.set 14 (.call f__law_grown (.cons (.var 0) (.cons (.var 10) (.cons (.var 2) (.cons (.bin .sub (.var 3) (.cst (.int 1))) .nil)))))) (.cons (.app 9 (.idx (.var 14) (.cst (.int 0)))) (.cons (.set 10 (.idx (.var 14) (.cst (.int 1)))) .nil)))) (.cons (.ret (.tup (.cons (.tup (.cons (.cst (.str w_put)) (.cons (.idx (.var 8) (.cst (.int 0))) (.cons (.f1 .tuple (.var 9)) .nil)))) (.cons (.var 10) .nil)))) .nil))))))))))))
def b__law_drawn : S := (.cons (.set 2 (.call f__law_row (.cons (.var 0) (.cons (.var 1) .nil)))) (.cons (.ret (.idx (.call f__law_grown (.cons (.var 2) (.cons (.cst (.int 1)) (.cons (.idx (.lst (.cons (.cst (.int 1)) (.cons (.cst (.int 2)) (.cons (.cst (.int 1)) (.cons (.cst (.int 3)) (.cons (.cst (.int 2)) (.cons (.cst (.int 0)) (.cons (.cst (.int 1)) (.cons (.cst (.int 2)) (.cons (.cst (.int 4)) (.cons (.cst (.int 3)) .nil))))))))))) (.bin .mod (.idx (.var 2) (.cst (.int 0))) (.cst (.int 10)))) (.cons (.bin .add (.cst (.int 1)) (.bin .mod (.bin .fdiv (.idx (.var 2) (.cst (.int 0))) (.cst (.int 10))) (.cst (.int 3)))) .nil))))) (.cst (.int 0)))) .nil))
def b__law_parts : S := (.cons (.ite (.cmp .eq (.idx (.var 0) (.cst (.int 0))) (.cst (.str w_put))) (.cons (.ret (.bin .add (.lst (.cons (.idx (.var 0) (.cst (.int 1))) .nil)) (.f1 .list (.idx (.var 0) (.cst (.int 2)))))) .nil) .nil) (.cons (.ite (.cmp .eq (.idx (.var 0) (.cst (.int 0))) (.cst (.str w_round))) (.cons (.ret (.lst (.cons (.idx (.var 0) (.cst (.int 1))) (.cons (.idx (.var 0) (.cst (.int 2))) .nil)))) .nil) .nil) (.cons (.ret (.lst .nil)) .nil)))
def b__law_size : S := (.cons (.ret (.bin .add (.cst (.int 1)) (.f1 .sum (.comp (.one 1) (.call f__law_parts (.cons (.var 0) .nil)) .nil (.call f__law_size (.cons (.var 1) .nil)))))) .nil)
def b__law_ways : S := (.cons (.set 1 (.lst (.cons (.tup .nil) .nil))) (.cons (.set 2 (.call f__law_parts (.cons (.var 0) .nil))) (.cons (.for (.one 3) (.rng1 (.f1 .len (.var 2))) (.cons (.set 1 (.bin .add (.var 1) (.comp (.one 4) (.call f__law_ways (.cons (.idx (.var 2) (.var 3)) .nil)) .nil (.bin .add (.tup (.cons (.var 3) .nil)) (.var 4))))) .nil)) (.cons (.ret (.var 1)) .nil))))
def b__law_with : S := (.cons (.ite (.cmp .eq (.var 1) (.tup .nil)) (.cons (.ret (.var 2)) .nil) .nil) (.cons (.set 3 (.call f__law_parts (.cons (.var 0) .nil))) (.cons (.setidx 3 (.idx (.var 1) (.cst (.int 0))) (.call f__law_with (.cons (.idx (.var 3) (.idx (.var 1) (.cst (.int 0)))) (.cons (.slf (.var 1) (.cst (.int 1))) (.cons (.var 2) .nil))))) (.cons (.ite (.cmp .eq (.idx (.var 0) (.cst (.int 0))) (.cst (.str w_put))) (.cons (.ret (.tup (.cons (.cst (.str w_put)) (.cons (.idx (.var 3) (.cst (.int 0))) (.cons (.f1 .tuple (.slf (.var 3) (.cst (.int 1)))) .nil))))) .nil) .nil) (.cons (.ret (.tup (.cons (.cst (.str w_round)) (.cons (.idx (.var 3) (.cst (.int 0))) (.cons (.idx (.var 3) (.cst (.int 1))) .nil))))) .nil)))))
def b__law_is : S := (.cons (.ite (.or (.not (.isi .tuple (.var 0))) (.cmp .notin (.f1 .len (.var 0)) (.tup (.cons (.cst (.int 1)) (.cons (.cst (.int 2)) (.cons (.cst (.int 3)) .nil)))))) (.cons (.ret (.neg (.cst (.int 1)))) .nil) .nil) (.cons (.set 1 (.idx (.var 0) (.cst (.int 0)))) (.cons (.ite (.cmp .eq (.f1 .len (.var 0)) (.cst (.int 1))) (.cons (.ret (.ife (.cmp .eq (.var 1) (.cst (.str w_next))) (.cst (.int 1)) (.neg (.cst (.int 1))))) .nil) .nil) (.cons (.ite (.cmp .eq (.f1 .len (.var 0)) (.cst (.int 2))) (.cons (.ret (.ife (.and (.cmp .eq (.var 1) (.cst (.str w_nought))) (.and (.call f__law_whole (.cons (.idx (.var 0) (.cst (.int 1))) .nil)) (.chain .le .le (.cst (.int 0)) (.idx (.var 0) (.cst (.int 1))) (.cst (.int 4))))) (.idx (.var 0) (.cst (.int 1))) (.neg (.cst (.int 1))))) .nil) .nil) (.cons (.ite (.cmp .eq (.var 1) (.cst (.str w_place))) (.cons (.set 2 (.and (.call f__law_whole (.cons (.idx (.var 0) (.cst (.int 1))) .nil)) (.and (.call f__law_whole (.cons (.idx (.var 0) (.cst (.int 2))) .nil)) (.chain3 .le .lt .le (.cst (.int 0)) (.idx (.var 0) (.cst (.int 2))) (.idx (.var 0) (.cst (.int 1))) (.cst (.int 4)))))) (.cons (.ret (.ife (.var 2) (.idx (.var 0) (.cst (.int 1))) (.neg (.cst (.int 1))))) .nil)) .nil) (.cons (.ite (.and (.cmp .eq (.var 1) (.cst (.str w_put))) (.and (.isi .tuple (.idx (.var 0) (.cst (.int 2)))) (.cmp .ne (.idx (.var 0) (.cst (.int 2))) (.tup .nil)))) (.cons (.set 3 (.comp (.one 6) (.idx (.var 0) (.cst (.int 2))) .nil (.call f__law_is (.cons (.var 6) .nil)))) (.cons (.set 4 (.cmp .eq (.var 3) (.rep (.slt (.var 3) (.cst (.int 1))) (.f1 .len (.var 3))))) (.cons (.ret (.ife (.and (.var 4) (.cmp .eq (.call f__law_is (.cons (.idx (.var 0) (.cst (.int 1))) .nil)) (.f1 .len (.var 3)))) (.idx (.var 3) (.cst (.int 0))) (.neg (.cst (.int 1))))) .nil))) .nil) (.cons (.ite (.cmp .eq (.var 1) (.cst (.str w_round))) (.cons (.set 5 (.call f__law_is (.cons (.idx (.var 0) (.cst (.int 1))) .nil))) (.cons (.ret (.ife (.and (.chain .le .le (.cst (.int 0)) (.var 5) (.cst (.int 3))) (.cmp .eq (.call f__law_is (.cons (.idx (.var 0) (.cst (.int 2))) .nil)) (.bin .add (.var 5) (.cst (.int 2))))) (.bin .add (.var 5) (.cst (.int 1))) (.neg (.cst (.int 1))))) .nil)) .nil) (.cons (.ret (.neg (.cst (.int 1)))) .nil))))))))
def b__law_spoilt_term : S := (.cons (.set 3 (.tup (.cons (.cst (.str w_next)) .nil))) (.cons (.set 4 (.lst (.cons (.cst .none) (.cons (.cst (.int 7)) (.cons (.cst (.str w_next)) (.cons (.tup .nil) (.cons (.lst (.cons (.cst (.str w_next)) .nil)) (.cons (.tup (.cons (.cst (.str w_next)) (.cons (.cst (.int 1)) .nil))) (.cons (.tup (.cons (.cst (.str w_nought)) .nil)) (.cons (.tup (.cons (.cst (.str w_nought)) (.cons (.cst (.int 5)) .nil))) (.cons (.tup (.cons (.cst (.str w_nought)) (.cons (.neg (.cst (.int 1))) .nil))) .nil))))))))))) (.cons (.set 4 (.bin .add (.var 4) (.lst (.cons (.tup (.cons (.cst (.str w_nought)) (.cons (.cst (.bool true)) .nil))) (.cons (.tup (.cons (.cst (.str w_place)) (.cons (.cst (.int 2)) .nil))) (.cons (.tup (.cons (.cst (.str w_place)) (.cons (.cst (.int 0)) (.cons (.cst (.int 0)) .nil)))) (.cons (.tup (.cons (.cst (.str w_place)) (.cons (.cst (.int 2)) (.cons (.cst (.int 2)) .nil)))) (.cons (.tup (.cons (.cst (.str w_place)) (.cons (.cst (.int 5)) (.cons (.cst (.int 0)) .nil)))) .nil)))))))) (.cons (.set 4 (.bin .add (.var 4) (.lst (.cons (.tup (.cons (.cst (.str w_place)) (.cons (.cst (.int 1)) (.cons (.cst (.bool false)) .nil)))) (.cons (.tup (.cons (.cst (.str w_put)) (.cons (.var 3) .nil))) (.cons (.tup (.cons (.cst (.str w_put)) (.cons (.var 3) (.cons (.tup .nil) .nil)))) (.cons (.tup (.cons (.cst (.str w_put)) (.cons (.var 3) (.cons (.lst (.cons (.var 3) .nil)) .nil)))) .nil))))))) (.cons (.set 4 (.bin .add (.var 4) (.lst (.cons (.tup (.cons (.cst (.str w_put)) (.cons (.var 3) (.cons (.tup (.cons (.var 3) (.cons (.var 3) .nil))) .nil)))) (.cons (.tup (.cons (.cst (.str w_put)) (.cons (.tup (.cons (.cst (.str w_nought)) (.cons (.cst (.int 0)) .nil))) (.cons (.tup .nil) .nil)))) (.cons (.tup (.cons (.cst (.str w_round)) (.cons (.var 3) .nil))) .nil)))))) (.cons (.set 4 (.bin .add (.var 4) (.lst (.cons (.tup (.cons (.cst (.str w_round)) (.cons (.var 3) (.cons (.tup (.cons (.cst (.str w_nought)) (.cons (.cst (.int 2)) .nil))) .nil)))) (.cons (.tup (.cons (.cst (.str w_other)) (.cons (.cst (.int 1)) .nil))) (.cons (.tup (.cons (.cst (.str w_round)) (.cons (.tup (.cons (.cst (.str w_nought)) (.cons (.cst (.int 4)) .nil))) (.cons (.tup (.cons (.cst (.str w_nought)) (.cons (.cst (.int 6)) .nil))) .nil)))) .nil)))))) (.cons (.set 4 (.bin .add (.var 4) (.lst (.cons (.tup (.cons (.cst (.str w_nought)) (.cons (.cst (.int 2)) .nil))) (.cons (.tup (.cons (.cst (.str w_place)) (.cons (.cst (.int 3)) (.cons (.cst (.int 1)) .nil)))) (.cons (.var 3) (.cons (.cst (.int 0)) (.cons (.tup (.cons (.var 3) .nil)) (.cons (.tup (.cons (.cst (.str w_nought)) (.cons (.cst (.int 0)) .nil))) (.cons (.tup (.cons (.cst (.str w_nought)) (.cons (.cst (.int 1)) .nil))) (.cons (.tup (.cons (.cst (.str w_nought)) (.cons (.cst (.int 3)) .nil))) .nil))))))))))) (.cons (.set 4 (.bin .add (.var 4) (.lst (.cons (.tup (.cons (.cst (.str w_nought)) (.cons (.cst (.int 4)) .nil))) (.cons (.tup (.cons (.cst (.str w_place)) (.cons (.cst (.int 1)) (.cons (.cst (.int 0)) .nil)))) (.cons (.tup (.cons (.cst (.str w_place)) (.cons (.cst (.int 2)) (.cons (.cst (.int 1)) .nil)))) (.cons (.tup (.cons (.cst (.str w_place)) (.cons (.cst (.int 4)) (.cons (.cst (.int 2)) .nil)))) .nil))))))) (.cons (.set 5 (.call f__law_ways (.cons (.var 0) .nil))) (.cons (.ret (.call f__law_with (.cons (.var 0) (.cons (.idx (.var 5) (.bin .mod (.idx (.var 1) (.var 2)) (.f1 .len (.var 5)))) (.cons (.idx (.var 4) (.bin .mod (.idx (.var 1) (.bin .add (.var 2) (.cst (.int 1)))) (.f1 .len (.var 4)))) .nil))))) .nil))))))))))
def b__law_looked : S := (.cons (.try (.cons (.ite (.cmp .eq (.var 0) (.cst (.int 0))) (.cons (.ret (.call f_checked (.cons (.var 1) .nil))) .nil) .nil) (.cons (.ite (.cmp .eq (.var 0) (.cst (.int 1))) (.cons (.ret (.call f_arity (.cons (.var 1) .nil))) .nil) .nil) (.cons (.ret (.call f_size (.cons (.var 1) .nil))) .nil))) (.hcons 1 (some 2) (.cons (.set 3 (.lst (.cons (.isi (.exc 0) (.var 2)) (.cons (.isi .valueError (.var 2)) .nil)))) (.cons (.ret (.bin .add (.var 3) (.lst (.cons (.isi (.exc 2) (.var 2)) (.cons (.isi (.exc 3) (.var 2)) .nil))))) .nil)) .nil)) .nil)
def b_law : S := (.cons (.set 1 (.call f__law_row (.cons (.var 0) (.cons (.cst (.int 3)) .nil)))) (.cons (.set 2 (.call f__law_drawn (.cons (.var 0) (.cons (.cst (.int 2)) .nil)))) (.cons (.ite (.cmp .eq (.bin .mod (.idx (.var 1) (.cst (.int 0))) (.cst (.int 2))) (.cst (.int 0))) (.cons (.set 2 (.call f__law_spoilt_term (.cons (.var 2) (.cons (.var 1) (.cons (.cst (.int 1)) .nil))))) .nil) .nil) (.cons (.ite (.and (.cmp .eq (.bin .mod (.idx (.var 1) (.cst (.int 3))) (.cst (.int 3))) (.cst (.int 0))) (.cmp .ge (.call f__law_is (.cons (.var 2) .nil)) (.cst (.int 0)))) (.cons (.for (.one 4) (.rng1 (.bin .fdiv (.bin .add (.bin .sub (.cst (.int 56)) (.call f__law_size (.cons (.var 2) .nil))) (.bin .mod (.idx (.var 1) (.cst (.int 4))) (.cst (.int 12)))) (.cst (.int 2)))) (.cons (.set 2 (.tup (.cons (.cst (.str w_put)) (.cons (.tup (.cons (.cst (.str w_next)) .nil)) (.cons (.tup (.cons (.var 2) .nil)) .nil))))) .nil)) .nil) .nil) (.cons (.set 3 (.call f__law_is (.cons (.var 2) .nil))) (.cons (.ite (.or (.cmp .lt (.var 3) (.cst (.int 0))) (.cmp .gt (.call f__law_size (.cons (.var 2) .nil)) (.cst (.int 60)))) (.cons (.ret (.cmp .eq (.comp (.one 5) (.rng1 (.cst (.int 3))) .nil (.call f__law_looked (.cons (.var 5) (.cons (.var 2) .nil)))) (.rep (.lst (.cons (.lst (.cons (.cst (.bool true)) (.cons (.cst (.bool true)) (.cons (.cst (.bool false)) (.cons (.cst (.bool false)) .nil))))) .nil)) (.cst (.int 3))))) .nil) .nil) (.cons (.ret (.cmp .eq (.comp (.one 5) (.rng1 (.cst (.int 3))) .nil (.call f__law_looked (.cons (.var 5) (.cons (.var 2) .nil)))) (.lst (.cons (.var 2) (.cons (.var 3) (.cons (.call f__law_size (.cons (.var 2) .nil)) .nil)))))) .nil)))))))
def defs : List Def := [⟨3, 3, b_is_within⟩, ⟨2, 2, b_places_of⟩, ⟨2, 6, b_places_put⟩, ⟨2, 4, b_places_round⟩, ⟨1, 1, b_is_term⟩, ⟨1, 1, b_checked⟩, ⟨1, 1, b_arity⟩, ⟨1, 1, b_size⟩, ⟨2, 2, b__law_cell⟩, ⟨1, 1, b__law_whole⟩, ⟨2, 5, b__law_row⟩, ⟨2, 3, b__law_leaf⟩, ⟨4, 15, b__law_grown⟩, ⟨2, 3, b__law_drawn⟩, ⟨1, 1, b__law_parts⟩, ⟨1, 2, b__law_size⟩, ⟨1, 5, b__law_ways⟩, ⟨3, 4, b__law_with⟩, ⟨1, 7, b__law_is⟩, ⟨3, 6, b__law_spoilt_term⟩, ⟨2, 4, b__law_looked⟩, ⟨1, 6, b_law⟩]
def n_is_within : List Str := [("thing" : Str), ("low" : Str), ("high" : Str)]
def n_places_of : List Str := [("thing" : Str), ("left" : Str)]
def n_places_put : List Str := [("thing" : Str), ("left" : Str), ("outer" : Str), ("many" : Str), ("inner" : Str), ("found" : Str)]
def n_places_round : List Str := [("thing" : Str), ("left" : Str), ("first" : Str), ("then" : Str)]
def n_is_term : List Str := [("thing" : Str)]
def n_checked : List Str := [("term" : Str)]
def n_arity : List Str := [("term" : Str)]
def n_size : List Str := [("term" : Str)]
def n__law_cell : List Str := [("_law_script" : Str), ("_law_k" : Str)]
def n__law_whole : List Str := [("_law_found" : Str)]
def n__law_row : List Str := [("_law_script" : Str), ("_law_at" : Str), ("_law_cell_here" : Str), ("_law_found" : Str), ("_law_time" : Str)]
def n__law_leaf : List Str := [("_law_number" : Str), ("_law_many" : Str), ("_law_pick" : Str)]
def n__law_grown : List Str := [("_law_row_here" : Str), ("_law_at" : Str), ("_law_many" : Str), ("_law_deep" : Str), ("_law_number" : Str), ("_law_way" : Str), ("_law_rest" : Str), ("_law_wide" : Str), ("_law_outer" : Str), ("_law_inner" : Str), ("_law_spot" : Str), ("_law_time" : Str), ("_law_first" : Str), ("_law_then" : Str), ("_law_found" : Str)]
def n__law_drawn : List Str := [("_law_script" : Str), ("_law_at" : Str), ("_law_row_here" : Str)]
def n__law_parts : List Str := [("_law_term" : Str)]
def n__law_size : List Str := [("_law_term" : Str), ("_law_piece" : Str)]
def n__law_ways : List Str := [("_law_term" : Str), ("_law_found" : Str), ("_law_parts_here" : Str), ("_law_at" : Str), ("_law_way" : Str)]
def n__law_with : List Str := [("_law_term" : Str), ("_law_way" : Str), ("_law_other" : Str), ("_law_parts_here" : Str)]
def n__law_is : List Str := [("_law_thing" : Str), ("_law_word" : Str), ("_law_good" : Str), ("_law_all_of" : Str), ("_law_same" : Str), ("_law_first" : Str), ("_law_piece" : Str)]
def n__law_spoilt_term : List Str := [("_law_term" : Str), ("_law_row_here" : Str), ("_law_at" : Str), ("_law_nxt" : Str), ("_law_some" : Str), ("_law_all_ways" : Str)]
def n__law_looked : List Str := [("_law_way" : Str), ("_law_thing" : Str), ("e" : Str), ("_law_under" : Str)]
def n_law : List Str := [("_law_script" : Str), ("_law_row_here" : Str), ("_law_thing" : Str), ("_law_many" : Str), ("_law_time" : Str), ("_law_way" : Str)]
end K01
namespace K01
open PySem Pyr
def top (i : Nat) : Stmt := PySem.Challenge.pw_roundproof_k01_functions.main.body.getD i (.Pass ⟨0, 0, 0, 0⟩)
def r_is_within : Row := ⟨"is_within", top 8, n_is_within, 3, true, []⟩
def r_places_of : Row := ⟨"places_of", top 9, n_places_of, 2, true, []⟩
def r_places_put : Row := ⟨"places_put", top 10, n_places_put, 2, true, []⟩
def r_places_round : Row := ⟨"places_round", top 11, n_places_round, 2, true, []⟩
def r_is_term : Row := ⟨"is_term", top 12, n_is_term, 1, true, []⟩
def r_checked : Row := ⟨"checked", top 13, n_checked, 1, false, []⟩
def r_arity : Row := ⟨"arity", top 14, n_arity, 1, false, []⟩
def r_size : Row := ⟨"size", top 15, n_size, 1, true, []⟩
def r__law_cell : Row := ⟨"_law_cell", top 17, n__law_cell, 2, false, []⟩
def r__law_whole : Row := ⟨"_law_whole", top 18, n__law_whole, 1, true, []⟩
def r__law_row : Row := ⟨"_law_row", top 19, n__law_row, 2, true, []⟩
def r__law_leaf : Row := ⟨"_law_leaf", top 20, n__law_leaf, 2, true, []⟩
def r__law_grown : Row := ⟨"_law_grown", top 21, n__law_grown, 4, true, []⟩
def r__law_drawn : Row := ⟨"_law_drawn", top 22, n__law_drawn, 2, false, []⟩
def r__law_parts : Row := ⟨"_law_parts", top 23, n__law_parts, 1, true, []⟩
def r__law_size : Row := ⟨"_law_size", top 24, n__law_size, 1, true, []⟩
def r__law_ways : Row := ⟨"_law_ways", top 25, n__law_ways, 1, true, []⟩
def r__law_with : Row := ⟨"_law_with", top 26, n__law_with, 3, false, []⟩
def r__law_is : Row := ⟨"_law_is", top 27, n__law_is, 1, false, []⟩
def r__law_spoilt_term : Row := ⟨"_law_spoilt_term", top 28, n__law_spoilt_term, 3, false, []⟩
def r__law_looked : Row := ⟨"_law_looked", top 29, n__law_looked, 2, false, [2]⟩
def r_law : Row := ⟨"law", top 30, n_law, 1, true, []⟩
def rows : List Row := [r_is_within, r_places_of, r_places_put, r_places_round, r_is_term, r_checked, r_arity, r_size, r__law_cell, r__law_whole, r__law_row, r__law_leaf, r__law_grown, r__law_drawn, r__law_parts, r__law_size, r__law_ways, r__law_with, r__law_is, r__law_spoilt_term, r__law_looked, r_law]
def globs : List (Str × D) := [(("MOST_PARTS" : Str), g_MOST_PARTS), (("MOST_PLACES" : Str), g_MOST_PLACES)]
def blt : List Str := [("len" : Str), ("tuple" : Str), ("list" : Str), ("str" : Str), ("int" : Str), ("sum" : Str), ("isinstance" : Str), ("bool" : Str), ("range" : Str), ("ValueError" : Str)]
def exs : XTab := [("PaperError", none), ("BadTerm", none), ("TooBig", none), ("BadPlace", none)]
def cts : List Nat := [1]
def its : List Nat := [0, 2, 3]
def xfs : List Str := []
def tab : Tab := ⟨rows, defs, globs, blt, exs, cts, its, true, xfs⟩
end K01

open Pyr in
theorem K01.tabOk : tabB K01.tab K01.rows K01.defs = true := by decide +kernel
namespace K01
open PySem Pyr
theorem plain (ns : List Int) (h : ns.length ≤ 63) : callF defs 100 f_law [.list (ns.map .int)] = R.ok (.bool true) :=
  law01_ok (ds := defs) (lw := f__law_whole) (lis := f__law_is) (lpa := f__law_parts) (lwa := f__law_ways) (lwi := f__law_with) (sp := f__law_spoilt_term) (iw := f_is_within) (po := f_places_of) (pp := f_places_put) (pq := f_places_round) (te := f_is_term) (ck := f_checked) (ar := f_arity) (sz := f_size) (lk := f__law_looked) (lsz := f__law_size) (ce := f__law_cell) (ro := f__law_row) (le := f__law_leaf) (gr := f__law_grown) (dr := f__law_drawn) (la := f_law)
    rfl rfl rfl rfl rfl rfl rfl rfl rfl rfl rfl rfl rfl rfl rfl rfl rfl rfl rfl rfl rfl rfl 99 (by decide) ns
end K01

namespace K01
open PySem L2 Pyr
theorem top_ok {l : PySem.W.OpenLaw} {w : World} {K : PySem.W.Frag} {h : Heap} {mg : Str → Option Value} {fa : Addr} (X : K.In h) (G : h.Ns mainGlobals mg) (hfa : mg "law" = some (.ref fa)) (hf : AllAt K mg rows ∧ (∀ p ∈ globs, GlobOk K mg p.1 p.2) ∧ (∀ x ∈ blt, mg x = none) ∧ XcAll K mg exs ∧ XmAll K mg exs cts ∧ ItAll K mg exs its tab.itv xfs ∧ IniAll K mg exs) :
    ∃ fd : FuncData, (∀ (s : Shared) (v : Value), BindsTo s fd ⟨[v], []⟩ [("_law_script", v)]) ∧ ∀ base : Heap, K.In base → base.Ns mainGlobals mg → FnOk l.prog w K mg base (L2.CX l.prog w) 203 fa fd ["_law_script"]
      (fun vs H Q E => ∃ (a : Addr) (ns : List Int), vs = [V.ref a] ∧ SqL K H a (ns.map V.int) ∧ callF defs 100 f_law [.list (ns.map .int)] = R.ok (.bool true) ∧ ∀ H', Q (.bl true) H') := by
  obtain ⟨hrows, hg, hb, hx, hm, hi, hn⟩ := hf
  obtain ⟨ads, fds, hr⟩ := all_split hrows
  obtain ⟨l1, l2⟩ := tabB_ok tabOk
  have Wd : World' tab K mg ads fds := ⟨hr, l2, l1, hg, hb, fun c x q => (hx _ (List.mem_of_getElem? q)).2 rfl, xm_ok hm, fun c p q => (hx _ (List.mem_of_getElem? q)).1, it_ok hi, ini_ok hn⟩
  have rl := hr f_law r_law rfl
  have e := hfa.symm.trans rl.2.1
  cases e
  refine ⟨fds f_law, fun s v => ?_, fun base _ _ => law_ok (fn_ok (base := base) Wd rfl 100 f_law r_law rfl)⟩
  obtain ⟨oc, od, kV, doc, pm, an, cdv, ct, osl, ef, lk, hcd⟩ := rl.1.ex
  rw [ef]
  exact .of_eq rfl
theorem walk {l : PySem.W.OpenLaw} {q : Program} {loose : List Str} {XP : (Str → Option Value) → Heap → Prop} {YP : World → Heap → Prop} {d : DefRec} {K : Params → PySem.W.Frag} (hn : l.most = some 63) (hdf : d.params.defaults = []) (hd : d.name = "law") (hY : ∀ (w : World) (h : Heap), YP w h → (K w.params).In h)
    (F : ∀ (w : World) (mg : Str → Option Value) (h : Heap), (K w.params).In h → h.Ns mainGlobals mg → AllAt (K w.params) mg rows ∧ (∀ p ∈ globs, GlobOk (K w.params) mg p.1 p.2) ∧ (∀ x ∈ blt, mg x = none) ∧ XcAll (K w.params) mg exs ∧ XmAll (K w.params) mg exs cts ∧ ItAll (K w.params) mg exs its tab.itv xfs ∧ IniAll (K w.params) mg exs) :
    PySem.W.WalkO q loose XP YP l.row.toRowW d [] (fun f vs => PySem.call f vs) :=
  L2.walk_of (n := 63) (k := 203) (x := "_law_script") (CX := fun w => L2.CX l.prog w) (sp := fun w vs H Q E => ∃ (a : Addr) (ns : List Int), vs = [V.ref a] ∧ SqL (K w.params) H a (ns.map V.int) ∧ callF defs 100 f_law [.list (ns.map .int)] = R.ok (.bool true) ∧ ∀ H', Q (.bl true) H') hn (by decide) hdf ⟨rfl, by decide, by decide⟩ hY
    (fun w mg fa h KX G hmg => by
      rw [hd] at hmg
      exact top_ok KX G hmg (F w mg h KX G))
    (fun w H a ns hl _ hS => ⟨a, ns, rfl, hS, plain ns hl, fun _ => rfl⟩)
    (fun w H s e s' z => by
      obtain ⟨_, _, _, _, _, _, _, _, _, _, _, _, q⟩ := z
      exact q)
end K01
open PySem PySem.W PyProof.Rows
set_option maxRecDepth 100000 in
set_option maxHeartbeats 0 in
theorem PySem.Challenge.cw_roundproof_k01_functions_holds : PySem.Challenge.rw_roundproof_k01_functions.Holds := by
  w_on; o_law; k_head; (case hw => w_witness2)
  k_fill
  refine K01.walk (l := PySem.Challenge.rw_roundproof_k01_functions) rfl rfl rfl (fun w h Y => PySem.W.kIn_of Y) ?F
  case F =>
    intro w mg h KX G
    refine ⟨?_, ?_, ?_, ?_, ?_, ?_, ?_⟩
    · repeat' (first | exact Pyr.all_nil | refine Pyr.all_cons ?_ ?_)
      · refine' Pyr.row_mk KX G K01.r_is_within ?a ?l ?c ?k (fun _ _ _ _ _ _ us hl => match us, hl with | [_, _, _], _ => rfl)
        (case a => k_is); (case l => k_is); (case c => k_is); (case k => k_is)
      · refine' Pyr.row_mk KX G K01.r_places_of ?a ?l ?c ?k (fun _ _ _ _ _ _ us hl => match us, hl with | [_, _], _ => rfl)
        (case a => k_is); (case l => k_is); (case c => k_is); (case k => k_is)
      · refine' Pyr.row_mk KX G K01.r_places_put ?a ?l ?c ?k (fun _ _ _ _ _ _ us hl => match us, hl with | [_, _], _ => rfl)
        (case a => k_is); (case l => k_is); (case c => k_is); (case k => k_is)
      · refine' Pyr.row_mk KX G K01.r_places_round ?a ?l ?c ?k (fun _ _ _ _ _ _ us hl => match us, hl with | [_, _], _ => rfl)
        (case a => k_is); (case l => k_is); (case c => k_is); (case k => k_is)
      · refine' Pyr.row_mk KX G K01.r_is_term ?a ?l ?c ?k (fun _ _ _ _ _ _ us hl => match us, hl with | [_], _ => rfl)
        (case a => k_is); (case l => k_is); (case c => k_is); (case k => k_is)
      · refine' Pyr.row_mk KX G K01.r_checked ?a ?l ?c ?k (fun _ _ _ _ _ _ us hl => match us, hl with | [_], _ => rfl)
        (case a => k_is); (case l => k_is); (case c => k_is); (case k => k_is)
      · refine' Pyr.row_mk KX G K01.r_arity ?a ?l ?c ?k (fun _ _ _ _ _ _ us hl => match us, hl with | [_], _ => rfl)
        (case a => k_is); (case l => k_is); (case c => k_is); (case k => k_is)
      · refine' Pyr.row_mk KX G K01.r_size ?a ?l ?c ?k (fun _ _ _ _ _ _ us hl => match us, hl with | [_], _ => rfl)
        (case a => k_is); (case l => k_is); (case c => k_is); (case k => k_is)
      · refine' Pyr.row_mk KX G K01.r__law_cell ?a ?l ?c ?k (fun _ _ _ _ _ _ us hl => match us, hl with | [_, _], _ => rfl)
        (case a => k_is); (case l => k_is); (case c => k_is); (case k => k_is)
      · refine' Pyr.row_mk KX G K01.r__law_whole ?a ?l ?c ?k (fun _ _ _ _ _ _ us hl => match us, hl with | [_], _ => rfl)
        (case a => k_is); (case l => k_is); (case c => k_is); (case k => k_is)
      · refine' Pyr.row_mk KX G K01.r__law_row ?a ?l ?c ?k (fun _ _ _ _ _ _ us hl => match us, hl with | [_, _], _ => rfl)
        (case a => k_is); (case l => k_is); (case c => k_is); (case k => k_is)
      · refine' Pyr.row_mk KX G K01.r__law_leaf ?a ?l ?c ?k (fun _ _ _ _ _ _ us hl => match us, hl with | [_, _], _ => rfl)
        (case a => k_is); (case l => k_is); (case c => k_is); (case k => k_is)
      · refine' Pyr.row_mk KX G K01.r__law_grown ?a ?l ?c ?k (fun _ _ _ _ _ _ us hl => match us, hl with | [_, _, _, _], _ => rfl)
        (case a => k_is); (case l => k_is); (case c => k_is); (case k => k_is)
      · refine' Pyr.row_mk KX G K01.r__law_drawn ?a ?l ?c ?k (fun _ _ _ _ _ _ us hl => match us, hl with | [_, _], _ => rfl)
        (case a => k_is); (case l => k_is); (case c => k_is); (case k => k_is)
      · refine' Pyr.row_mk KX G K01.r__law_parts ?a ?l ?c ?k (fun _ _ _ _ _ _ us hl => match us, hl with | [_], _ => rfl)
        (case a => k_is); (case l => k_is); (case c => k_is); (case k => k_is)
      · refine' Pyr.row_mk KX G K01.r__law_size ?a ?l ?c ?k (fun _ _ _ _ _ _ us hl => match us, hl with | [_], _ => rfl)
        (case a => k_is); (case l => k_is); (case c => k_is); (case k => k_is)
      · refine' Pyr.row_mk KX G K01.r__law_ways ?a ?l ?c ?k (fun _ _ _ _ _ _ us hl => match us, hl with | [_], _ => rfl)
        (case a => k_is); (case l => k_is); (case c => k_is); (case k => k_is)
      · refine' Pyr.row_mk KX G K01.r__law_with ?a ?l ?c ?k (fun _ _ _ _ _ _ us hl => match us, hl with | [_, _, _], _ => rfl)
        (case a => k_is); (case l => k_is); (case c => k_is); (case k => k_is)
      · refine' Pyr.row_mk KX G K01.r__law_is ?a ?l ?c ?k (fun _ _ _ _ _ _ us hl => match us, hl with | [_], _ => rfl)
        (case a => k_is); (case l => k_is); (case c => k_is); (case k => k_is)
      · refine' Pyr.row_mk KX G K01.r__law_spoilt_term ?a ?l ?c ?k (fun _ _ _ _ _ _ us hl => match us, hl with | [_, _, _], _ => rfl)
        (case a => k_is); (case l => k_is); (case c => k_is); (case k => k_is)
      · refine' Pyr.row_mk KX G K01.r__law_looked ?a ?l ?c ?k (fun _ _ _ _ _ _ us hl => match us, hl with | [_, _], _ => rfl)
        (case a => k_is); (case l => k_is); (case c => k_is); (case k => k_is)
      · refine' Pyr.row_mk KX G K01.r_law ?a ?l ?c ?k (fun _ _ _ _ _ _ us hl => match us, hl with | [_], _ => rfl)
        (case a => k_is); (case l => k_is); (case c => k_is); (case k => k_is)
    · intro p hp
      simp only [K01.globs, List.zipIdx, List.mem_cons, List.not_mem_nil, or_false] at hp
      rcases hp with rfl | rfl
      · refine' Pyr.glob_int KX G ?a
        (case a => k_is)
      · refine' Pyr.glob_int KX G ?a
        (case a => k_is)
    · intro x hx
      simp only [K01.blt, List.zipIdx, List.mem_cons, List.not_mem_nil, or_false] at hx
      rcases hx with rfl | rfl | rfl | rfl | rfl | rfl | rfl | rfl | rfl | rfl
      · refine' PySem.W.mg_none_of KX G ?a
        (case a => k_is)
      · refine' PySem.W.mg_none_of KX G ?a
        (case a => k_is)
      · refine' PySem.W.mg_none_of KX G ?a
        (case a => k_is)
      · refine' PySem.W.mg_none_of KX G ?a
        (case a => k_is)
      · refine' PySem.W.mg_none_of KX G ?a
        (case a => k_is)
      · refine' PySem.W.mg_none_of KX G ?a
        (case a => k_is)
      · refine' PySem.W.mg_none_of KX G ?a
        (case a => k_is)
      · refine' PySem.W.mg_none_of KX G ?a
        (case a => k_is)
      · refine' PySem.W.mg_none_of KX G ?a
        (case a => k_is)
      · refine' PySem.W.mg_none_of KX G ?a
        (case a => k_is)
    · intro p hp
      simp only [K01.exs, List.zipIdx, List.mem_cons, List.not_mem_nil, or_false] at hp
      rcases hp with rfl | rfl | rfl | rfl
      · refine' ⟨Pyr.mgs_at KX G ?a, fun _ => Pyr.exc_at KX G ?a ?b ?c ?d ?e⟩
        (case a => k_is); (case b => k_exc); (case c => k_is); (case d => k_is); (case e => k_is)
      · refine' ⟨Pyr.mgs_at KX G ?a, fun _ => Pyr.exc_at KX G ?a ?b ?c ?d ?e⟩
        (case a => k_is); (case b => k_exc); (case c => k_is); (case d => k_is); (case e => k_is)
      · refine' ⟨Pyr.mgs_at KX G ?a, fun _ => Pyr.exc_at KX G ?a ?b ?c ?d ?e⟩
        (case a => k_is); (case b => k_exc); (case c => k_is); (case d => k_is); (case e => k_is)
      · refine' ⟨Pyr.mgs_at KX G ?a, fun _ => Pyr.exc_at KX G ?a ?b ?c ?d ?e⟩
        (case a => k_is); (case b => k_exc); (case c => k_is); (case d => k_is); (case e => k_is)
    · intro c hc p hp q hq
      simp only [K01.cts, List.zipIdx, List.mem_cons, List.not_mem_nil, or_false] at hc
      rcases hc with rfl
      · cases hp
        simp only [K01.exs, List.zipIdx, List.mem_cons, List.not_mem_nil, or_false] at hq
        rcases hq with rfl | rfl | rfl | rfl
        · refine' Pyr.exm_at (b := false) KX G ?a ?b ?c ?d ?e ?f
          (case a => k_is); (case b => k_is); (case c => k_is); (case d => k_is); (case e => k_is); (case f => k_is)
        · refine' Pyr.exm_at (b := true) KX G ?a ?b ?c ?d ?e ?f
          (case a => k_is); (case b => k_is); (case c => k_is); (case d => k_is); (case e => k_is); (case f => k_is)
        · refine' Pyr.exm_at (b := false) KX G ?a ?b ?c ?d ?e ?f
          (case a => k_is); (case b => k_is); (case c => k_is); (case d => k_is); (case e => k_is); (case f => k_is)
        · refine' Pyr.exm_at (b := false) KX G ?a ?b ?c ?d ?e ?f
          (case a => k_is); (case b => k_is); (case c => k_is); (case d => k_is); (case e => k_is); (case f => k_is)
    · refine ⟨?_, ?_, ?_, ?_⟩
      · intro _ p hp
        simp only [K01.exs, List.zipIdx, List.mem_cons, List.not_mem_nil, or_false] at hp
        rcases hp with rfl | rfl | rfl | rfl
        · refine' Pyr.exk_at KX G ?a ?b ?c ?d ?e ?f ?g ?i ?j
          (case a => k_is); (case b => k_is); (case c => k_is); (case d => k_is); (case e => k_is); (case f => k_is); (case g => k_is); (case i => k_is); (case j => k_is)
        · refine' Pyr.exk_at KX G ?a ?b ?c ?d ?e ?f ?g ?i ?j
          (case a => k_is); (case b => k_is); (case c => k_is); (case d => k_is); (case e => k_is); (case f => k_is); (case g => k_is); (case i => k_is); (case j => k_is)
        · refine' Pyr.exk_at KX G ?a ?b ?c ?d ?e ?f ?g ?i ?j
          (case a => k_is); (case b => k_is); (case c => k_is); (case d => k_is); (case e => k_is); (case f => k_is); (case g => k_is); (case i => k_is); (case j => k_is)
        · refine' Pyr.exk_at KX G ?a ?b ?c ?d ?e ?f ?g ?i ?j
          (case a => k_is); (case b => k_is); (case c => k_is); (case d => k_is); (case e => k_is); (case f => k_is); (case g => k_is); (case i => k_is); (case j => k_is)
      · intro c hc p hp q hq
        simp only [K01.its, List.zipIdx, List.mem_cons, List.not_mem_nil, or_false] at hc
        rcases hc with rfl | rfl | rfl
        · cases hp
          simp only [K01.exs, List.zipIdx, List.mem_cons, List.not_mem_nil, or_false] at hq
          rcases hq with rfl | rfl | rfl | rfl
          · refine' Pyr.kit_at (b := true) KX G ?a ?b ?c ?d ?e ?f
            (case a => k_is); (case b => k_is); (case c => k_is); (case d => k_is); (case e => k_is); (case f => decide)
          · refine' Pyr.kit_at (b := true) KX G ?a ?b ?c ?d ?e ?f
            (case a => k_is); (case b => k_is); (case c => k_is); (case d => k_is); (case e => k_is); (case f => decide)
          · refine' Pyr.kit_at (b := true) KX G ?a ?b ?c ?d ?e ?f
            (case a => k_is); (case b => k_is); (case c => k_is); (case d => k_is); (case e => k_is); (case f => decide)
          · refine' Pyr.kit_at (b := true) KX G ?a ?b ?c ?d ?e ?f
            (case a => k_is); (case b => k_is); (case c => k_is); (case d => k_is); (case e => k_is); (case f => decide)
        · cases hp
          simp only [K01.exs, List.zipIdx, List.mem_cons, List.not_mem_nil, or_false] at hq
          rcases hq with rfl | rfl | rfl | rfl
          · refine' Pyr.kit_at (b := false) KX G ?a ?b ?c ?d ?e ?f
            (case a => k_is); (case b => k_is); (case c => k_is); (case d => k_is); (case e => k_is); (case f => decide)
          · refine' Pyr.kit_at (b := false) KX G ?a ?b ?c ?d ?e ?f
            (case a => k_is); (case b => k_is); (case c => k_is); (case d => k_is); (case e => k_is); (case f => decide)
          · refine' Pyr.kit_at (b := true) KX G ?a ?b ?c ?d ?e ?f
            (case a => k_is); (case b => k_is); (case c => k_is); (case d => k_is); (case e => k_is); (case f => decide)
          · refine' Pyr.kit_at (b := false) KX G ?a ?b ?c ?d ?e ?f
            (case a => k_is); (case b => k_is); (case c => k_is); (case d => k_is); (case e => k_is); (case f => decide)
        · cases hp
          simp only [K01.exs, List.zipIdx, List.mem_cons, List.not_mem_nil, or_false] at hq
          rcases hq with rfl | rfl | rfl | rfl
          · refine' Pyr.kit_at (b := false) KX G ?a ?b ?c ?d ?e ?f
            (case a => k_is); (case b => k_is); (case c => k_is); (case d => k_is); (case e => k_is); (case f => decide)
          · refine' Pyr.kit_at (b := false) KX G ?a ?b ?c ?d ?e ?f
            (case a => k_is); (case b => k_is); (case c => k_is); (case d => k_is); (case e => k_is); (case f => decide)
          · refine' Pyr.kit_at (b := false) KX G ?a ?b ?c ?d ?e ?f
            (case a => k_is); (case b => k_is); (case c => k_is); (case d => k_is); (case e => k_is); (case f => decide)
          · refine' Pyr.kit_at (b := true) KX G ?a ?b ?c ?d ?e ?f
            (case a => k_is); (case b => k_is); (case c => k_is); (case d => k_is); (case e => k_is); (case f => decide)
      · intro _ p hp
        simp only [K01.exs, List.zipIdx, List.mem_cons, List.not_mem_nil, or_false] at hp
        rcases hp with rfl | rfl | rfl | rfl
        · refine' Pyr.kiv_at KX G ?a ?b
          (case a => k_is); (case b => k_is)
        · refine' Pyr.kiv_at KX G ?a ?b
          (case a => k_is); (case b => k_is)
        · refine' Pyr.kiv_at KX G ?a ?b
          (case a => k_is); (case b => k_is)
        · refine' Pyr.kiv_at KX G ?a ?b
          (case a => k_is); (case b => k_is)
      · intro x hx p hp hf
        exact nomatch hx
    · intro p hp f hf
      simp only [K01.exs, List.zipIdx, List.mem_cons, List.not_mem_nil, or_false] at hp
      rcases hp with rfl | rfl | rfl | rfl
      · exact nomatch hf
      · exact nomatch hf
      · exact nomatch hf
      · exact nomatch hf

