import PyProof.Rows.All
import Wide.All
import OpenK.AllK
import Wide.FinOn
import HandS.ForMost
import HandS.Sort
import HandS.DictComp
import HandS.Zip
import HandS.Deep
import HandS.More
import HandS.Strs
import KE.KDictKeyed
import KE.KDictWalk
import KE.KDictPairs
import HandS.IsInst
import HandS.Defaults
import KE.KStateDown
import HandS.Ends
import HandS.Words
import HandS.WordsExc
import HandS.Codes
import HandS.Head0
import HandS.Head1
import HandS.Head2
import HandS.HeadEnd
import HandS.HeadHook1
import HandS.HeadHook2
import HandS.HeadHook4
import PySem.Challenge.RW_cellmoments_k65_whole_values_at_all_inst
set_option Elab.async false
set_option linter.all false
set_option maxRecDepth 100000
set_option maxHeartbeats 0
/-! EvA: plain data, the core language, its evaluator. -/
namespace Ev
open PySem PySem.Spec PyProof.Rows L2

/-- plain data; lists and dicts in it are frozen -/
inductive P where
  | non | bl (b : Bool) | int (i : Int) | str (x : Str)
  | tup (xs : List P) | lst (xs : List P)
  | dk (kvs : List (Key × P)) | dn (kvs : List (P × P))
  /-- a list of the world outside -/
  | ls (xs : List P)
  deriving Inhabited
/-- a mutable object, owned by one place -/
inductive MO where
  | lst (xs : List P) | dk (kvs : List (Key × P)) | dn (kvs : List (P × P)) | lo (ls : List (List P))
  deriving Inhabited
def MO.toP : MO → P
  | .lst xs => .lst xs
  | .dk kvs => .dk kvs
  | .dn kvs => .dn kvs
  | .lo ls => .lst (ls.map .lst)
/-- a slot's content -/
inductive Sl where
  | p (d : P) | own (m : MO) | rd (m : MO) | sref (k : Nat)
  deriving Inhabited
/-- a value in flight -/
inductive W where
  | p (d : P) | tmp (m : MO) | ref (k : Nat)
  deriving Inhabited
abbrev En := List (Option Sl)

inductive R (α : Type) where
  | fail | ok (a : α)
def R.bind {α β : Type} : R α → (α → R β) → R β
  | .fail, _ => .fail
  | .ok a, f => f a
instance : Monad R where
  pure := .ok
  bind := R.bind
def R.of {α : Type} : Option α → R α
  | some a => .ok a
  | none => .fail
def R.chk (b : Bool) : R Unit := if b then .ok () else .fail
@[simp] theorem bind_ok {α β : Type} (a : α) (f : α → R β) : (R.ok a >>= f) = f a := rfl
@[simp] theorem bind_fail {α β : Type} (f : α → R β) : (R.fail >>= f) = R.fail := rfl
@[simp] theorem pure_ok {α : Type} (a : α) : (pure a : R α) = R.ok a := rfl
@[simp] theorem of_some {α : Type} (a : α) : R.of (some a) = R.ok a := rfl
@[simp] theorem of_none {α : Type} : R.of (none : Option α) = R.fail := rfl
@[simp] theorem chk_true : R.chk true = R.ok () := rfl
@[simp] theorem chk_false : R.chk false = R.fail := rfl
theorem bind_eq_ok {α β : Type} {x : R α} {f : α → R β} {b : β} : (x >>= f) = R.ok b ↔ ∃ a, x = R.ok a ∧ f a = R.ok b := by
  cases x with
  | fail => exact ⟨(fun h => nomatch h), (fun ⟨_, h, _⟩ => nomatch h)⟩
  | ok a => exact ⟨fun h => ⟨a, rfl, h⟩, fun ⟨_, h, q⟩ => by cases h; exact q⟩
theorem of_eq_ok {α : Type} {x : Option α} {a : α} : R.of x = R.ok a ↔ x = some a := by
  cases x <;> simp [R.of]
theorem chk_eq_ok {b : Bool} {u : Unit} : R.chk b = R.ok u ↔ b = true := by
  cases b <;> simp [R.chk]

/-! ### keys -/
mutual
def nk : P → Option NestedKey
  | .non => some .none
  | .bl b => some (.num (if b then 1 else 0))
  | .int i => some (.num i)
  | .str x => some (.text x)
  | .tup xs => match nks xs with
    | some ks => some (.tup ks)
    | none => none
  | _ => none
def nks : List P → Option (List NestedKey)
  | [] => some []
  | x :: xs => match nk x, nks xs with
    | some k, some ks => some (k :: ks)
    | _, _ => none
end
def nkey (d : P) : Option NestedKey := match nk d with
  | some k => if k.depth ≤ 8 then some k else none
  | none => none
/-- a scalar key -/
def skey : P → Option Key
  | .int i => some (.inl i)
  | .str x => some (.inr x)
  | _ => none
def isTup : P → Bool
  | .tup _ => true
  | _ => false

section
variable {κ : Type} [DecidableEq κ]
def valP (kvs : List (κ × P)) (k : κ) : Option P := (kvs.find? fun kv => decide (kv.1 = k)).map (·.2)
def putP (kvs : List (κ × P)) (k : κ) (v : P) : List (κ × P) :=
  if (kvs.any fun kv => decide (kv.1 = k)) = true then kvs.map fun kv => if kv.1 = k then (kv.1, v) else kv else kvs ++ [(k, v)]
end
/-- dicts with tuple keys: by their nested keys -/
def valN (kvs : List (P × P)) (k : NestedKey) : Option P := (kvs.find? fun kv => decide (nkey kv.1 = some k)).map (·.2)
def putN (kvs : List (P × P)) (kd : P) (k : NestedKey) (v : P) : List (P × P) :=
  if (kvs.any fun kv => decide (nkey kv.1 = some k)) = true then kvs.map fun kv => if nkey kv.1 = some k then (kv.1, v) else kv else kvs ++ [(kd, v)]
/-- what a dict has under a key -/
def dLook : P → P → R (Option P)
  | .dk kvs, k => match skey k with
    | some k => .ok (valP kvs k)
    | none => if isTup k && kvs.isEmpty then (match nkey k with
      | some _ => .ok none
      | none => .fail) else .fail
  | .dn kvs, k => if isTup k then (match nkey k with
    | some k => .ok (valN kvs k)
    | none => .fail) else .fail
  | _, _ => .fail
def dPut : MO → P → P → R MO
  | .dk kvs, k, v => match skey k with
    | some k => do R.chk (decide (kvs.length < sizeLine)); .ok (.dk (putP kvs k v))
    | none => if isTup k && kvs.isEmpty then (match nkey k with
      | some _ => .ok (.dn [(k, v)])
      | none => .fail) else .fail
  | .dn kvs, kd, v => if isTup kd then (match nkey kd with
    | some k => do R.chk (decide (kvs.length < sizeLine)); .ok (.dn (putN kvs kd k v))
    | none => .fail) else .fail
  | _, _, _ => .fail

/-! ### the slots -/
def getMO (ρ : En) (k : Nat) : R MO := match ρ[k]? with
  | some (some (.own m)) => .ok m
  | some (some (.rd m)) => .ok m
  | _ => .fail
def getOwn (ρ : En) (k : Nat) : R MO := match ρ[k]? with
  | some (some (.own m)) => .ok m
  | _ => .fail
def MO.flat : MO → Bool
  | .lo _ => false
  | _ => true
def peek : W → En → R P
  | .p d, _ => .ok d
  | .tmp m, _ => do
    R.chk m.flat
    .ok m.toP
  | .ref k, ρ => do
    let m ← getMO ρ k
    R.chk m.flat
    .ok m.toP
def frz : W → En → R (P × En)
  | .p d, ρ => .ok (d, ρ)
  | .tmp m, ρ => .ok (m.toP, ρ)
  | .ref k, ρ => do
    let m ← getOwn ρ k
    .ok (m.toP, ρ.set k (some (.p m.toP)))
def frzs : List W → En → R (List P × En)
  | [], ρ => .ok ([], ρ)
  | w :: ws, ρ => do
    let (d, ρ) ← frz w ρ
    let (ds, ρ) ← frzs ws ρ
    .ok (d :: ds, ρ)

/-! ### operations on data -/
def truthP : P → R Bool
  | .non => .ok false
  | .bl b => .ok b
  | .int i => .ok (i != 0)
  | .str x => if x.length ≤ sizeLine then .ok ((x.length : Int) != 0) else .fail
  | .tup xs => .ok (!xs.isEmpty)
  | .lst xs => .ok (!xs.isEmpty)
  | .dk kvs => .ok (!kvs.isEmpty)
  | .dn _ => .fail
  | .ls _ => .fail
def binP : Operator → P → P → R W
  | .Add, .int i, .int j => .ok (.p (.int (i + j)))
  | .Add, .str x, .str y => if x.length + y.length ≤ sizeLine then .ok (.p (.str (x ++ y))) else .fail
  | .Add, .tup xs, .tup ys => if xs.length + ys.length ≤ sizeLine then .ok (.p (.tup (xs ++ ys))) else .fail
  | .Add, .lst xs, .lst ys => if xs.length + ys.length ≤ sizeLine then .ok (.tmp (.lst (xs ++ ys))) else .fail
  | .Sub, .int i, .int j => .ok (.p (.int (i - j)))
  | .Mult, .int i, .int j => if (-(2 ^ 64) < i ∧ i < 2 ^ 64) ∨ (-(2 ^ 64) < j ∧ j < 2 ^ 64) then .ok (.p (.int (i * j))) else .fail
  | .FloorDiv, .int i, .int j => if 0 < j ∧ j < 1073741824 then .ok (.p (.int (i / j))) else .fail
  | .Mod, .int i, .int j => if 0 < j then .ok (.p (.int (i % j))) else .fail
  | .Pow, .int i, .int j => if 0 ≤ j ∧ j ≤ 1000000 ∧ i.natAbs < 2 ^ 64 then .ok (.p (.int (i ^ j.toNat))) else .fail
  | _, _, _ => .fail
/-- == of data without lists and dicts -/
def eqP (a b : P) : R Bool := match nkey a, nkey b with
  | some x, some y => .ok (decide (x = y))
  | _, _ => .fail
def anyEq (x : NestedKey) : List P → R Bool
  | [] => .ok false
  | y :: ys => do
    let k ← R.of (nkey y)
    let r ← anyEq x ys
    .ok (decide (k = x) || r)
def inP (x : P) : P → R Bool
  | .tup ys => do let k ← R.of (nkey x); anyEq k ys
  | .lst ys => do let k ← R.of (nkey x); anyEq k ys
  | d => do let o ← dLook d x; .ok o.isSome
def cmpP : CmpOp → P → P → R Bool
  | .Eq, a, b => eqP a b
  | .NotEq, a, b => do let r ← eqP a b; .ok (!r)
  | .Lt, .int i, .int j => .ok (decide (i < j))
  | .LtE, .int i, .int j => .ok (decide (i ≤ j))
  | .Gt, .int i, .int j => .ok (decide (j < i))
  | .GtE, .int i, .int j => .ok (decide (j ≤ i))
  | .Lt, .str x, .str y => .ok (decide (x.cps.toList < y.cps.toList))
  | .In, a, b => inP a b
  | .NotIn, a, b => do let r ← inP a b; .ok (!r)
  | _, _, _ => .fail
/-- x is None, x is True, x is False -/
def isP : P → P → R Bool
  | .non, .non => .ok true
  | _, .non => .ok false
  | .bl a, .bl b => .ok (a == b)
  | .non, .bl _ => .ok false
  | .int _, .bl _ => .ok false
  | .str _, .bl _ => .ok false
  | .tup _, .bl _ => .ok false
  | .lst _, .bl _ => .ok false
  | .dk _, .bl _ => .ok false
  | .dn _, .bl _ => .ok false
  | .ls _, .bl _ => .ok false
  | _, _ => .fail
def ixP : P → P → R P
  | .tup xs, .int i => R.of (atI xs i)
  | .lst xs, .int i => R.of (atI xs i)
  | .str z, .int i => if z.length ≤ sizeLine then (match atI z.cps.toList i with
    | some c => .ok (.str ⟨#[c]⟩)
    | none => .fail) else .fail
  | .dk kvs, k => do let o ← dLook (.dk kvs) k; R.of o
  | .dn kvs, k => do let o ← dLook (.dn kvs) k; R.of o
  | _, _ => .fail
def cutP (xs : List P) (lo hi : Option Int) : List P := (xs.drop (HT.sIx xs.length 0 lo)).take (HT.sIx xs.length xs.length hi - HT.sIx xs.length 0 lo)
def slP : P → Option Int → Option Int → R W
  | .tup xs, lo, hi => .ok (.p (.tup (cutP xs lo hi)))
  | .lst xs, lo, hi => .ok (.tmp (.lst (cutP xs lo hi)))
  | _, _, _ => .fail
def partP : P → R Int
  | .int i => .ok i
  | _ => .fail

/-! ### built-ins -/
inductive Bl1 where
  | len | tuple | list | all | any | sorted | int | dict | sum
  deriving DecidableEq
inductive Ty where
  | int | bool | str | tuple | list
  deriving DecidableEq
def strLe (x y : Str) : Bool := !decide (y.cps.toList < x.cps.toList)
def insS (x : Str) : List Str → List Str
  | [] => [x]
  | y :: ys => if strLe x y then x :: y :: ys else y :: insS x ys
def sortS (xs : List Str) : List Str := xs.foldr insS []
def strs? : List P → Option (List Str)
  | [] => some []
  | .str x :: r => (strs? r).map (x :: ·)
  | _ :: _ => none
def bools? : List P → Option (List Bool)
  | [] => some []
  | .bl x :: r => (bools? r).map (x :: ·)
  | _ :: _ => none
def pair1 : P → Option (Key × P)
  | .tup xs => (match xs with
    | [a, b] => (skey a).map fun k => (k, b)
    | _ => none)
  | _ => none
def pairs? : List P → Option (List (Key × P))
  | [] => some []
  | d :: r => (match pair1 d, pairs? r with
    | some p, some ps => some (p :: ps)
    | _, _ => none)
def mergeP (kvs more : List (Key × P)) : List (Key × P) := more.foldl (fun acc kv => putP acc kv.1 kv.2) kvs
def lenP : P → R Int
  | .tup xs => .ok xs.length
  | .lst xs => .ok xs.length
  | .ls xs => .ok xs.length
  | .dk kvs => .ok kvs.length
  | .str x => if x.length ≤ sizeLine then .ok x.length else .fail
  | _ => .fail
def seqP : P → R (List P)
  | .tup xs => .ok xs
  | .lst xs => .ok xs
  | _ => .fail
def bl1 : Bl1 → P → R W
  | .len, d => do let n ← lenP d; .ok (.p (.int n))
  | .tuple, d => do let xs ← seqP d; .ok (.p (.tup xs))
  | .list, d => do let xs ← seqP d; .ok (.tmp (.lst xs))
  | .all, .lst xs => do let bs ← R.of (bools? xs); .ok (.p (.bl (bs.all id)))
  | .any, .lst xs => do let bs ← R.of (bools? xs); .ok (.p (.bl (bs.any id)))
  | .sorted, .lst xs => do
    let zs ← R.of (strs? xs)
    R.chk (decide (zs.length < 64))
    .ok (.tmp (.lst ((sortS zs).map .str)))
  | .int, .int i => .ok (.p (.int i))
  | .int, .bl b => .ok (.p (.int (b2i b)))
  | .dict, .tup xs => do
    let kvs ← R.of (pairs? xs)
    R.chk (decide (xs.length ≤ 10000))
    .ok (.tmp (.dk (mergeP [] kvs)))
  | _, _ => .fail
def isiP : P → Ty → R Bool
  | .int _, .int => .ok true
  | .bl _, .int => .ok true
  | .non, .int => .ok false
  | .str _, .int => .ok false
  | .tup _, .int => .ok false
  | .int _, .bool => .ok false
  | .bl _, .bool => .ok true
  | .str _, .bool => .ok false
  | .non, .bool => .ok false
  | .tup _, .bool => .ok false
  | .int _, .str => .ok false
  | .bl _, .str => .ok false
  | .non, .str => .ok false
  | .str _, .str => .ok true
  | .tup _, .str => .ok false
  | .int _, .tuple => .ok false
  | .bl _, .tuple => .ok false
  | .non, .tuple => .ok false
  | .str _, .tuple => .ok false
  | .tup _, .tuple => .ok true
  | .lst _, .tuple => .ok false
  | _, _ => .fail
def minP : P → P → R P
  | .int m, .int n => .ok (.int (if n < m then n else m))
  | _, _ => .fail
def maxP : P → P → R P
  | .int m, .int n => .ok (.int (if n > m then n else m))
  | _, _ => .fail
def joinP : P → P → R P
  | .str a, .lst xs => do
    let ys ← R.of (strs? xs)
    R.chk (decide ((ys.map (·.length)).sum + ys.length * a.length ≤ 16777216))
    .ok (.str (Txt.join a ys))
  | _, _ => .fail
def indexOf (k : NestedKey) : List P → R Nat
  | [] => .fail
  | y :: ys => do
    let q ← R.of (nkey y)
    if q = k then .ok 0 else do let n ← indexOf k ys; .ok (n + 1)
end Ev

/-! EvB: the core language and its evaluator. -/
namespace Ev
open PySem PySem.Spec PyProof.Rows L2

inductive TG where
  | one (i : Nat) | many (is : List Nat)
inductive IK where
  | plain | rng1 | rng2 | enum | zip
inductive CE where
  | c (d : P)
  | v (i : Nat)
  | tup (es : List CE)
  | lst (es : List CE)
  | dct (ks : List P) (vs : List CE)
  | bin (o : Operator) (a b : CE)
  | neg (a : CE)
  | not_ (a : CE)
  | notv (a : CE)
  | view (a : CE)
  | tst (a : CE)
  | bop (o : BoolOp) (a b : CE)
  | cmp (o : CmpOp) (a b : CE)
  | isn (neg : Bool) (a b : CE)
  | ife (c a b : CE)
  | ix (a i : CE)
  | sl (a : CE) (lo hi : Option CE)
  | call (f : Str) (es : List CE)
  | b1 (b : Bl1) (a : CE)
  | min2 (a b : CE)
  | max2 (a b : CE)
  | isi (a : CE) (t : Ty)
  | get (d k x : CE)
  | join (s a : CE)
  | index (l a : CE)
  | app (l a : CE)
  | appIx (s : Nat) (i a : CE)
  | popAt (l i : CE)
  | lc (deep : Bool) (elt : CE) (tg : TG) (ik : IK) (es : List CE) (cond : Option CE) (own : List Nat)
  | dc (k v : CE) (tg : TG) (ik : IK) (es : List CE) (own : List Nat)
inductive CS where
  | ex (e : CE)
  | set (i : Nat) (e : CE)
  | unp (is : List Nat) (e : CE)
  | par (i j : Nat) (a b : CE)
  | put (o k v : CE)
  | aug (i : Nat) (o : Operator) (e : CE)
  | ret (e : CE)
  | retN
  | ite (c : CE) (a b : List CS)
  | whl (c : CE) (b : List CS)
  | for_ (tg : TG) (ik : IK) (es : List CE) (b : List CS)
  | forTT (is : List Nat) (rows : List (List CE)) (b : List CS)
  | brk | cont | pass

/-- a def's call: the arguments' slots; the value, the slots behind -/
abbrev Call := Str → List Sl → R (W × List Sl)

def wipeS (ρ : En) : List Nat → En
  | [] => ρ
  | v :: vs => (wipeS ρ vs).set v none
/-- the slots vs as they were -/
def back (ρ ρ' : En) : List Nat → En
  | [] => ρ'
  | v :: vs => (back ρ ρ' vs).set v (ρ[v]?.join)
def noSref (ρ : En) (i : Nat) : Bool := ρ.all fun s => match s with
  | some (.sref k) => k != i
  | _ => true
/-- a name is bound -/
def bindS (lk : List Nat) (i : Nat) (w : W) (ρ : En) : R En := do
  R.chk (noSref ρ i && !lk.contains i && decide (i < ρ.length))
  match w with
  | .p d => .ok (ρ.set i (some (.p d)))
  | .tmp m => .ok (ρ.set i (some (.own m)))
  | _ => .fail
def bindAll (lk : List Nat) : List Nat → List P → En → R En
  | [], [], ρ => .ok ρ
  | i :: is, d :: ds, ρ => do let ρ ← bindS lk i (.p d) ρ; bindAll lk is ds ρ
  | _, _, _ => .fail
def bindT (lk : List Nat) : TG → P → En → R En
  | .one i, d, ρ => bindS lk i (.p d) ρ
  | .many is, .tup ds, ρ => bindAll lk is ds ρ
  | _, _, _ => .fail

/-- an argument's slot -/
def argS : W → En → R Sl
  | .p d, _ => .ok (.p d)
  | .tmp m, _ => .ok (.p m.toP)
  | .ref k, ρ => match ρ[k]? with
    | some (some (.own m)) => .ok (.own m)
    | some (some (.rd m)) => .ok (.rd m)
    | _ => .fail
def argSs : List W → En → R (List Sl)
  | [], _ => .ok []
  | w :: ws, ρ => do let s ← argS w ρ; let ss ← argSs ws ρ; .ok (s :: ss)
def refsOf : List W → List Nat
  | [] => []
  | .ref k :: ws => k :: refsOf ws
  | _ :: ws => refsOf ws
/-- behind a call the objects handed by reference are as the callee left them -/
def backS : List W → List Sl → En → R En
  | [], [], ρ => .ok ρ
  | .ref k :: ws, s :: ss, ρ => backS ws ss (ρ.set k (some s))
  | _ :: ws, _ :: ss, ρ => backS ws ss ρ
  | _, _, _ => .fail
def nodupB : List Nat → Bool
  | [] => true
  | x :: xs => !xs.contains x && nodupB xs
def noRef : W → R W
  | .ref _ => .fail
  | w => .ok w
def noSrefA : List Sl → Bool
  | [] => true
  | .sref _ :: _ => false
  | _ :: r => noSrefA r
def callW (call : Call) (f : Str) (ws : List W) (ρ : En) : R (W × En) := do
  R.chk (nodupB (refsOf ws))
  let ss ← argSs ws ρ
  let (w, ss') ← call f ss
  R.chk (noSrefA ss' && decide (ss'.length = ss.length))
  let w ← noRef w
  let ρ ← backS ws ss' ρ
  .ok (w, ρ)

def rngP (i j : Int) : List P := (List.range (j - i).toNat).map fun (k : Nat) => .int (i + k)
def enumFrom (n : Nat) : List P → List P
  | [] => []
  | x :: xs => .tup [.int n, x] :: enumFrom (n + 1) xs
def zipP : List P → List P → List P
  | x :: xs, y :: ys => .tup [x, y] :: zipP xs ys
  | _, _ => []
/-- what is walked: the items, the slots that are locked meanwhile -/
def lockW : W → En → En
  | .ref k, ρ => match ρ[k]? with
    | some (some (.own m)) => ρ.set k (some (.rd m))
    | _ => ρ
  | _, ρ => ρ
/-- behind the walk -/
def freeSl (lk : Bool) (r n : Option Sl) : R (Option Sl) := if lk = true then (match r with
  | some (.own m) => (match n with
    | some (.rd _) => if m.flat = true then .ok (some (.own m)) else .fail
    | _ => .fail)
  | _ => .ok n) else .ok n
def freeGo (lk : List Nat) : Nat → En → En → R En
  | _, [], [] => .ok []
  | i, r :: rs, n :: ns => do
    let s ← freeSl (lk.contains i) r n
    let ss ← freeGo lk (i + 1) rs ns
    .ok (s :: ss)
  | _, _, _ => .fail
def itemsP : P → R (List P)
  | .tup xs => .ok xs
  | .ls xs => .ok xs
  | .lst xs => .ok xs
  | _ => .fail
def lstP : P → R (List P)
  | .lst xs => .ok xs
  | _ => .fail
def inR (n : Int) : Bool := decide (-4611686018427387904 ≤ n) && decide (n < 4611686018427387904)
def items : IK → List W → En → R (List P)
  | .plain, [w], ρ => do
    let d ← peek w ρ
    itemsP d
  | .rng1, [w], ρ => do
    let d ← peek w ρ
    let n ← partP d
    R.chk (inR n)
    .ok (rngP 0 n)
  | .rng2, [w, u], ρ => do
    let d ← peek w ρ
    let e ← peek u ρ
    let m ← partP d
    let n ← partP e
    R.chk (inR m && inR n)
    .ok (rngP m n)
  | .enum, [w], ρ => do
    let d ← peek w ρ
    let xs ← lstP d
    .ok (enumFrom 0 xs)
  | .zip, [w, u], ρ => do
    let d ← peek w ρ
    let e ← peek u ρ
    let xs ← lstP d
    let ys ← lstP e
    .ok (zipP xs ys)
  | _, _, _ => .fail
def lockAll : List W → En → En
  | [], ρ => ρ
  | w :: ws, ρ => lockAll ws (lockW w ρ)
/-- a comprehension's loop -/
def lcLoop {α : Type} (step : P → En → R (Option α × En)) : List P → En → R (List α × En)
  | [], ρ => .ok ([], ρ)
  | x :: xs, ρ => do
    let (o, ρ) ← step x ρ
    let (r, ρ) ← lcLoop step xs ρ
    .ok ((match o with
      | some a => a :: r
      | none => r), ρ)
def appM : MO → P → R MO
  | .lst xs, d => do R.chk (decide (xs.length < sizeLine)); .ok (.lst (xs ++ [d]))
  | _, _ => .fail
def setIn (m : MO) (n : Int) (d : P) : R MO := match m with
  | .lo ls => do
    let j ← R.of (ixN ls.length n)
    let xs ← R.of ls[j]?
    R.chk (decide (xs.length < sizeLine))
    .ok (.lo (ls.set j (xs ++ [d])))
  | _ => .fail
def popM : MO → Int → R (P × MO)
  | .lst xs, i => do
    R.chk (decide (-(2 ^ 63) ≤ i) && decide (i < 2 ^ 63))
    let k ← R.of (ixN xs.length i)
    let d ← R.of xs[k]?
    .ok (d, .lst (xs.eraseIdx k))
  | _, _ => .fail
def appW : W → P → En → R En
  | .ref k, d, ρ => do
    let m ← getOwn ρ k
    let m ← appM m d
    .ok (ρ.set k (some (.own m)))
  | _, _, _ => .fail
def putMO (m : MO) (kd vd : P) : R MO := match m with
  | .lst xs => (match kd with
    | .int i => do let j ← R.of (ixN xs.length i); .ok (.lst (xs.set j vd))
    | _ => .fail)
  | m => dPut m kd vd
def putW (o : W) (kd vd : P) (ρ : En) : R En := match o with
  | .ref k => do
    let m ← getOwn ρ k
    let m ← putMO m kd vd
    .ok (ρ.set k (some (.own m)))
  | _ => .fail
def tmpLs : List W → R (List (List P))
  | [] => .ok []
  | .tmp (.lst xs) :: r => do let ls ← tmpLs r; .ok (xs :: ls)
  | _ :: _ => .fail
def zipK : List P → List P → R (List (Key × P))
  | [], [] => .ok []
  | k :: ks, v :: vs => do let k ← R.of (skey k); let r ← zipK ks vs; .ok ((k, v) :: r)
  | _, _ => .fail

/-- within a comprehension: its own names and the second names of objects are hidden -/
def hideSl (o : Bool) (s : Option Sl) : Option Sl := if o = true then none else match s with
  | some (.sref _) => none
  | s => s
def hideGo (own : List Nat) : Nat → En → En
  | _, [] => []
  | i, s :: r => hideSl (own.contains i) s :: hideGo own (i + 1) r
def hideS (own : List Nat) (ρ : En) : En := hideGo own 0 ρ
def noSr : Option Sl → R (Option Sl)
  | some (.sref _) => .fail
  | s => .ok s
/-- behind it -/
def leaveSl (o lk : Bool) (r n : Option Sl) : R (Option Sl) := if o = true then .ok r else match r with
  | some (.sref k) => .ok (some (.sref k))
  | some (.own m) => if lk = true then (match n with
    | some (.rd _) => if m.flat = true then .ok (some (.own m)) else .fail
    | _ => .fail) else noSr n
  | _ => noSr n
def leaveGo (own lk : List Nat) : Nat → En → En → R En
  | _, [], [] => .ok []
  | i, r :: rs, n :: ns => do
    let s ← leaveSl (own.contains i) (lk.contains i) r n
    let ss ← leaveGo own lk (i + 1) rs ns
    .ok (s :: ss)
  | _, _, _ => .fail
def tgIn (own : List Nat) : TG → Bool
  | .one i => own.contains i
  | .many is => is.all own.contains
def isTl (w : W) (ρ : En) : R (W × En) := match w with
  | .tmp (.lst xs) => .ok (.tmp (.lst xs), ρ)
  | _ => .fail
def frzW (w : W) (ρ : En) : R (W × En) := do let (d, ρ) ← frz w ρ; .ok (.p d, ρ)
def pOf : List W → R (List P)
  | [] => .ok []
  | .p d :: r => do let ds ← pOf r; .ok (d :: ds)
  | _ :: _ => .fail
def isDictP : P → Bool
  | .dk _ => true
  | .dn _ => true
  | _ => false
def isLstP : P → Bool
  | .lst _ => true
  | _ => false
def isStrP : P → Bool
  | .str _ => true
  | _ => false
def scalP : P → Bool
  | .non => true
  | .bl _ => true
  | .int _ => true
  | .str _ => true
  | _ => false
/-- everything owned, seen as frozen -/
def viewS (ρ : En) : En := ρ.map fun s => match s with
  | some (.own m) => some (.p m.toP)
  | some (.rd m) => some (.p m.toP)
  | some (.p d) => some (.p d)
  | _ => none
mutual
def evE (call : Call) : CE → En → R (W × En)
  | .c d, ρ => .ok (.p d, ρ)
  | .v i, ρ => (match ρ[i]? with
    | some (some (.p d)) => .ok (.p d, ρ)
    | some (some (.own _)) => .ok (.ref i, ρ)
    | some (some (.rd _)) => .ok (.ref i, ρ)
    | some (some (.sref k)) => .ok (.ref k, ρ)
    | _ => .fail)
  | .tup es, ρ => do
    let (ws, ρ) ← evEs call es ρ
    let (ds, ρ) ← frzs ws ρ
    .ok (.p (.tup ds), ρ)
  | .lst es, ρ => do
    let (ws, ρ) ← evEs call es ρ
    let (ds, ρ) ← frzs ws ρ
    .ok (.tmp (.lst ds), ρ)
  | .dct ks vs, ρ => do
    let (ws, ρ) ← evEs call vs ρ
    let (ds, ρ) ← frzs ws ρ
    R.chk (decide (ks.length ≤ 15))
    let kvs ← zipK ks ds
    .ok (.tmp (.dk (mergeP [] kvs)), ρ)
  | .bin o a b, ρ => do
    let (x, ρ) ← evE call a ρ
    let (y, ρ) ← evE call b ρ
    let dx ← peek x ρ
    let dy ← peek y ρ
    let w ← binP o dx dy
    .ok (w, ρ)
  | .neg a, ρ => do
    let (x, ρ) ← evE call a ρ
    let d ← peek x ρ
    let n ← partP d
    .ok (.p (.int (-n)), ρ)
  | .notv a, ρ => do
    let (x, ρ) ← evE call a ρ
    match x with
    | .p (.bl b) => .ok (.p (.bl (!b)), ρ)
    | _ => .fail
  | .bop .And a b, ρ => do
    let (x, ρ) ← evE call a ρ
    match x with
    | .p (.bl true) => evE call b ρ
    | .p (.bl false) => .ok (.p (.bl false), ρ)
    | _ => .fail
  | .bop .Or a b, ρ => do
    let (x, ρ) ← evE call a ρ
    match x with
    | .p (.bl true) => .ok (.p (.bl true), ρ)
    | .p (.bl false) => evE call b ρ
    | _ => .fail
  | .cmp o a b, ρ => do
    let (x, ρ) ← evE call a ρ
    let (y, ρ) ← evE call b ρ
    let dx ← peek x ρ
    let dy ← peek y ρ
    let r ← cmpP o dx dy
    .ok (.p (.bl r), ρ)
  | .isn neg a b, ρ => do
    let (x, ρ) ← evE call a ρ
    let (y, ρ) ← evE call b ρ
    let dx ← peek x ρ
    let dy ← peek y ρ
    let r ← isP dx dy
    .ok (.p (.bl (if neg then !r else r)), ρ)
  | .ife c a b, ρ => do
    let (t, ρ) ← evT call c ρ
    if t = true then evE call a ρ else evE call b ρ
  | .ix a i, ρ => do
    let (x, ρ) ← evE call a ρ
    let (y, ρ) ← evE call i ρ
    let dx ← peek x ρ
    let dy ← peek y ρ
    let r ← ixP dx dy
    .ok (.p r, ρ)
  | .sl a lo hi, ρ => do
    let (x, ρ) ← evE call a ρ
    let (l, ρ) ← evO call lo ρ
    let (h, ρ) ← evO call hi ρ
    let d ← peek x ρ
    let w ← slP d l h
    .ok (w, ρ)
  | .call f es, ρ => do
    let (ws, ρ) ← evEs call es ρ
    callW call f ws ρ
  | .b1 b a, ρ => do
    let (x, ρ) ← evE call a ρ
    let d ← peek x ρ
    let w ← bl1 b d
    .ok (w, ρ)
  | .min2 a b, ρ => do
    let (x, ρ) ← evE call a ρ
    let (y, ρ) ← evE call b ρ
    let dx ← peek x ρ
    let dy ← peek y ρ
    let r ← minP dx dy
    .ok (.p r, ρ)
  | .max2 a b, ρ => do
    let (x, ρ) ← evE call a ρ
    let (y, ρ) ← evE call b ρ
    let dx ← peek x ρ
    let dy ← peek y ρ
    let r ← maxP dx dy
    .ok (.p r, ρ)
  | .isi a t, ρ => do
    let (x, ρ) ← evE call a ρ
    let d ← peek x ρ
    let r ← isiP d t
    .ok (.p (.bl r), ρ)
  | .get d k x, ρ => do
    let (dw, ρ) ← evE call d ρ
    let d0 ← peek dw ρ
    R.chk (isDictP d0)
    let (kw, ρ) ← evE call k ρ
    let (xw, ρ) ← evE call x ρ
    let dd ← peek dw ρ
    let kd ← peek kw ρ
    let (xd, ρ) ← frz xw ρ
    let o ← dLook dd kd
    .ok (.p (o.getD xd), ρ)
  | .join s a, ρ => do
    let (x, ρ) ← evE call s ρ
    let d0 ← peek x ρ
    R.chk (isStrP d0)
    let (y, ρ) ← evE call a ρ
    let dx ← peek x ρ
    let dy ← peek y ρ
    let r ← joinP dx dy
    .ok (.p r, ρ)
  | .index l a, ρ => do
    let (x, ρ) ← evE call l ρ
    let d0 ← peek x ρ
    R.chk (isLstP d0)
    let (y, ρ) ← evE call a ρ
    let dx ← peek x ρ
    let dy ← peek y ρ
    let k ← R.of (nkey dy)
    let xs ← lstP dx
    R.chk (scalP dy && xs.all scalP)
    let n ← indexOf k xs
    .ok (.p (.int n), ρ)
  | .app l a, ρ => do
    let (x, ρ) ← evE call l ρ
    let d0 ← peek x ρ
    R.chk (isLstP d0)
    let (y, ρ) ← evE call a ρ
    let (d, ρ) ← frz y ρ
    let ρ ← appW x d ρ
    .ok (.p .non, ρ)
  | .appIx s i a, ρ => do
    let (x, _) ← evE call i (viewS ρ)
    let (y, _) ← evE call a (viewS ρ)
    match x, y with
    | .p (.int n), .p d => do
      R.chk (scalP d)
      let m ← getOwn ρ s
      let m ← setIn m n d
      .ok (.p .non, ρ.set s (some (.own m)))
    | _, _ => .fail
  | .popAt l i, ρ => do
    let (x, ρ) ← evE call l ρ
    let d0 ← peek x ρ
    R.chk (isLstP d0)
    let (y, ρ) ← evE call i ρ
    let d ← peek y ρ
    let n ← partP d
    match x with
    | .ref k => do
      let m ← getOwn ρ k
      let (r, m) ← popM m n
      .ok (.p r, ρ.set k (some (.own m)))
    | _ => .fail
  | .lc deep elt tg ik es cond own, ρ => do
    let (ws, ρ) ← evEs call es ρ
    let xs ← items ik ws ρ
    R.chk (tgIn own tg && decide (xs.length < sizeLine))
    let (r, ρ') ← lcLoop (fun x ρ => do
      let ρ ← bindT [] tg x ρ
      let (t, ρ) ← evC call cond ρ
      if t = true then (do
        let (w, ρ) ← evE call elt ρ
        let (w, ρ) ← (if deep = true then isTl w ρ else frzW w ρ)
        .ok (some w, hideS own ρ))
      else .ok (none, hideS own ρ)) xs (hideS own (lockAll ws ρ))
    let ρ' ← leaveGo own (refsOf ws) 0 ρ ρ'
    if deep = true then (do let ls ← tmpLs r; .ok (.tmp (.lo ls), ρ'))
    else do let ds ← pOf r; .ok (.tmp (.lst ds), ρ')
  | .dc kx vx tg ik es own, ρ => do
    let (ws, ρ) ← evEs call es ρ
    let xs ← items ik ws ρ
    R.chk (tgIn own tg && decide (xs.length < sizeLine))
    let (r, ρ') ← lcLoop (fun x ρ => do
      let ρ ← bindT [] tg x ρ
      let (kw, ρ) ← evE call kx ρ
      let (w, ρ) ← evE call vx ρ
      let kd ← peek kw ρ
      let (d, ρ) ← frz w ρ
      let k ← R.of (skey kd)
      .ok (some (k, d), hideS own ρ)) xs (hideS own (lockAll ws ρ))
    let ρ' ← leaveGo own (refsOf ws) 0 ρ ρ'
    .ok (.tmp (.dk (mergeP [] r)), ρ')
  | .view e, ρ => do
    let (w, _) ← evE call e (viewS ρ)
    match w with
    | .p d => do R.chk (scalP d); .ok (.p d, ρ)
    | .tmp (.lst ds) => do R.chk (ds.all scalP); .ok (.tmp (.lst ds), ρ)
    | _ => .fail
  | .tst _, _ => .fail
  | .not_ _, _ => .fail
def evEs (call : Call) : List CE → En → R (List W × En)
  | [], ρ => .ok ([], ρ)
  | e :: es, ρ => do
    let (w, ρ) ← evE call e ρ
    let (ws, ρ) ← evEs call es ρ
    .ok (w :: ws, ρ)
def evO (call : Call) : Option CE → En → R (Option Int × En)
  | none, ρ => .ok (none, ρ)
  | some e, ρ => do
    let (x, ρ) ← evE call e ρ
    let d ← peek x ρ
    let n ← partP d
    .ok (some n, ρ)
def evC (call : Call) : Option CE → En → R (Bool × En)
  | none, ρ => .ok (true, ρ)
  | some e, ρ => evT call e ρ
/-- as a test -/
def evT (call : Call) : CE → En → R (Bool × En)
  | .not_ a, ρ => do
    let (b, ρ) ← evT call a ρ
    .ok (!b, ρ)
  | .bop .And a b, ρ => do
    let (x, ρ) ← evT call a ρ
    if x = true then evT call b ρ else .ok (false, ρ)
  | .bop .Or a b, ρ => do
    let (x, ρ) ← evT call a ρ
    if x = true then .ok (true, ρ) else evT call b ρ
  | .tst e, ρ => do
    let (x, ρ) ← evE call e ρ
    let d ← peek x ρ
    let b ← truthP d
    .ok (b, ρ)
  | _, _ => .fail
end
end Ev

/-! EvC: statements, defs. -/
namespace Ev
open PySem PySem.Spec PyProof.Rows L2

inductive Fl where
  | nx | bk | ct | rt (w : W)
def forLoop (step : P → En → R (Fl × En)) : List P → En → R (Fl × En)
  | [], ρ => .ok (.nx, ρ)
  | x :: xs, ρ => do
    let (f, ρ) ← step x ρ
    match f with
    | .nx => forLoop step xs ρ
    | .ct => forLoop step xs ρ
    | .bk => .ok (.nx, ρ)
    | .rt w => .ok (.rt w, ρ)
def whileLoop (c : En → R (Bool × En)) (b : En → R (Fl × En)) : Nat → En → R (Fl × En)
  | 0, _ => .fail
  | n + 1, ρ => do
    let (t, ρ) ← c ρ
    if t = true then (do
      let (f, ρ) ← b ρ
      match f with
      | .nx => whileLoop c b n ρ
      | .ct => whileLoop c b n ρ
      | .bk => .ok (.nx, ρ)
      | .rt w => .ok (.rt w, ρ))
    else .ok (.nx, ρ)
def wFuel : Nat := 1000000
/-- a loop over rows that are written out: the rows' values may be references -/
def ttLoop (step : List W → En → R (Fl × En)) : List (List W) → En → R (Fl × En)
  | [], ρ => .ok (.nx, ρ)
  | x :: xs, ρ => do
    let (f, ρ) ← step x ρ
    match f with
    | .nx => ttLoop step xs ρ
    | .ct => ttLoop step xs ρ
    | .bk => .ok (.nx, ρ)
    | .rt w => .ok (.rt w, ρ)
def bindW (lk : List Nat) (i : Nat) (w : W) (ρ : En) : R En := match w with
  | .p d => bindS lk i (.p d) ρ
  | .ref k => do
    R.chk (noSref ρ i && !lk.contains i && decide (i < ρ.length) && i != k)
    match ρ[k]? with
    | some (some (.own _)) => .ok (ρ.set i (some (.sref k)))
    | _ => .fail
  | _ => .fail
def bindWs (lk : List Nat) : List Nat → List W → En → R En
  | [], [], ρ => .ok ρ
  | i :: is, w :: ws, ρ => do let ρ ← bindW lk i w ρ; bindWs lk is ws ρ
  | _, _, _ => .fail
def okTT : List W → Bool
  | [] => true
  | .p _ :: r => okTT r
  | .ref _ :: r => okTT r
  | _ :: _ => false
def isHeld : Option (Option Sl) → Bool
  | some (some (.own _)) => true
  | some (some (.rd _)) => true
  | _ => false
/-- what a return hands out -/
def retW (lk : List Nat) : W → En → R W
  | .p d, _ => .ok (.p d)
  | .tmp m, _ => .ok (.tmp m)
  | .ref k, ρ => do
    R.chk (!lk.contains k && lk.all fun j => isHeld ρ[j]?)
    let m ← getOwn ρ k
    .ok (.tmp m)

mutual
def evS (call : Call) (lk : List Nat) : CS → En → R (Fl × En)
  | .ex e, ρ => do
    let (_, ρ) ← evE call e ρ
    .ok (.nx, ρ)
  | .set i e, ρ => do
    let (w, ρ) ← evE call e ρ
    let ρ ← bindS lk i w ρ
    .ok (.nx, ρ)
  | .unp is e, ρ => do
    let (w, ρ) ← evE call e ρ
    let d ← peek w ρ
    let ρ ← bindT lk (.many is) d ρ
    .ok (.nx, ρ)
  | .par i j a b, ρ => do
    let (x, ρ) ← evE call a ρ
    let (y, ρ) ← evE call b ρ
    R.chk (i != j)
    let ρ ← bindS lk i x ρ
    let ρ ← bindS lk j y ρ
    .ok (.nx, ρ)
  | .put o k v, ρ => do
    let (vw, ρ) ← evE call v ρ
    let (ow, ρ) ← evE call o ρ
    let (kw, ρ) ← evE call k ρ
    let kd ← peek kw ρ
    let (vd, ρ) ← frz vw ρ
    let ρ ← putW ow kd vd ρ
    .ok (.nx, ρ)
  | .aug i o e, ρ => (match ρ[i]? with
    | some (some (.p (.int a))) => do
      let (y, ρ) ← evE call e ρ
      match y with
      | .p (.int b) => (match o with
        | .Add => do
          let ρ ← bindS lk i (.p (.int (a + b))) ρ
          .ok (.nx, ρ)
        | .Sub => do
          let ρ ← bindS lk i (.p (.int (a - b))) ρ
          .ok (.nx, ρ)
        | _ => .fail)
      | _ => .fail
    | _ => .fail)
  | .ret e, ρ => do
    let (w, ρ) ← evE call e ρ
    let w ← retW lk w ρ
    .ok (.rt w, ρ)
  | .retN, ρ => .ok (.rt (.p .non), ρ)
  | .ite c a b, ρ => do
    let (t, ρ) ← evT call c ρ
    if t = true then evSs call lk a ρ else evSs call lk b ρ
  | .whl c b, ρ => whileLoop (evT call c) (evSs call lk b) wFuel ρ
  | .for_ tg ik es b, ρ => do
    let (ws, ρ) ← evEs call es ρ
    let xs ← items ik ws ρ
    let (f, ρ') ← forLoop (fun x ρ => do
      let ρ ← bindT (lk ++ refsOf ws) tg x ρ
      evSs call (lk ++ refsOf ws) b ρ) xs (lockAll ws ρ)
    let ρ' ← freeGo (refsOf ws) 0 ρ ρ'
    .ok (f, ρ')
  | .forTT is rows b, ρ => do
    let (wss, ρ) ← evRows call rows ρ
    R.chk (wss.all okTT)
    let (f, ρ) ← ttLoop (fun ws ρ => do
      let ρ ← bindWs (lk ++ refsOf wss.flatten) is ws ρ
      evSs call (lk ++ refsOf wss.flatten) b ρ) wss ρ
    match f with
    | .rt w => .ok (.rt w, ρ)
    | f => .ok (f, wipeS ρ is)
  | .brk, ρ => .ok (.bk, ρ)
  | .cont, ρ => .ok (.ct, ρ)
  | .pass, ρ => .ok (.nx, ρ)
def evSs (call : Call) (lk : List Nat) : List CS → En → R (Fl × En)
  | [], ρ => .ok (.nx, ρ)
  | s :: ss, ρ => do
    let (f, ρ) ← evS call lk s ρ
    match f with
    | .nx => evSs call lk ss ρ
    | f => .ok (f, ρ)
def evRows (call : Call) : List (List CE) → En → R (List (List W) × En)
  | [], ρ => .ok ([], ρ)
  | r :: rs, ρ => do
    let (ws, ρ) ← evEs call r ρ
    let (wss, ρ) ← evRows call rs ρ
    .ok (ws :: wss, ρ)
end

/-- a def: how many parameters, how many names, the body -/
structure Fn where
  np : Nat
  nl : Nat
  body : List CS
/-- the parameters that were handed by reference -/
def refArgs : Nat → List Sl → List Nat
  | _, [] => []
  | i, .own _ :: r => i :: refArgs (i + 1) r
  | i, .rd _ :: r => i :: refArgs (i + 1) r
  | i, _ :: r => refArgs (i + 1) r
def outSl : Sl → Option Sl → R Sl
  | .p d, _ => .ok (.p d)
  | .own _, some (.own m) => .ok (.own m)
  | .own _, some (.p d) => .ok (.p d)
  | .rd _, some (.rd m) => .ok (.rd m)
  | _, _ => .fail
def outs : List Sl → En → R (List Sl)
  | [], _ => .ok []
  | s :: ss, x :: xs => do let s ← outSl s x; let r ← outs ss xs; .ok (s :: r)
  | _ :: _, [] => .fail
def flW : Fl → R W
  | .nx => .ok (.p .non)
  | .rt w => .ok w
  | _ => .fail
def flatSl : Sl → Bool
  | .own m => m.flat
  | .rd m => m.flat
  | _ => true
def runFn (call : Call) (F : Fn) (as : List Sl) : R (W × List Sl) := do
  R.chk (decide (as.length = F.np) && noSrefA as && as.all flatSl && decide (F.np ≤ F.nl))
  let (f, ρ) ← evSs call (refArgs 0 as) F.body (as.map some ++ List.replicate (F.nl - F.np) none)
  let w ← flW f
  let r ← outs as ρ
  .ok (w, r)
abbrev Fns := List (Str × Fn)
def evF (G : Fns) : Nat → Call
  | 0, _, _ => .fail
  | n + 1, f, as => match G.lookup f with
    | some F => runFn (evF G n) F as
    | none => .fail
end Ev

/-! EvD: from the row's tree to the core language. -/
namespace Ev
open PySem PySem.Spec PyProof.Rows L2

structure CC where
  N : List Str
  sc : Scope
  wr : List Str
  fns : List (Str × Nat)
  free : List Str
  deep : List Str
  views : List Nat
def ixOf (N : List Str) (x : Str) : Option Nat := go N 0 where
  go : List Str → Nat → Option Nat
  | [], _ => none
  | y :: ys, i => if y = x then some i else go ys (i + 1)
def visB (sc : Scope) (x : Str) : Bool := match sc.names.lookup x with
  | some .local => true
  | some .cell => true
  | some .free => true
  | _ => false
def plainNm (x : Str) : Bool := (x == ("__debug__" : Str)) == false && (x == ("__classdict__" : Str)) == false && (x == ("__name__" : Str)) == false
def glB (sc : Scope) (x : Str) : Bool := match sc.names.lookup x with
  | some .globalImplicit => true
  | _ => false
def slotOf (c : CC) (x : Str) : Option Nat := if visB c.sc x && plainNm x then ixOf c.N x else none
/-- a name that is bound here -/
def bindOf (c : CC) (x : Str) : Option Nat := if c.wr.contains x then ixOf c.N x else none
def bltOk (c : CC) (x : Str) : Bool := glB c.sc x && c.free.contains x
def cConst : Const → Option P
  | .none => some .non
  | .bool b => some (.bl b)
  | .int i => some (.int i)
  | .str x => some (.str x)
  | _ => none
def cBv (f : Expr → Option CE) (op : BoolOp) : List Expr → Option CE
  | [] => none
  | [a] => f a
  | a :: rest => do
    let x ← f a
    let y ← cBv f op rest
    some (.bop op x y)
def binOk : Operator → Bool
  | .Add => true
  | .Sub => true
  | .Mult => true
  | .FloorDiv => true
  | .Mod => true
  | .Pow => true
  | _ => false
def cmpOk : CmpOp → Bool
  | .Eq => true
  | .NotEq => true
  | .Lt => true
  | .LtE => true
  | .Gt => true
  | .GtE => true
  | .In => true
  | .NotIn => true
  | _ => false
def cTG (c : CC) : Expr → Option TG
  | .Name x _ => (bindOf c x).map .one
  | .Tuple es _ _ => (es.mapM fun (e : Expr) => match e with
    | .Name x _ => bindOf c x
    | _ => none).map .many
  | _ => none
def isTupE : Expr → Bool
  | .Tuple _ _ _ => true
  | _ => false
def isCompE : Expr → Bool
  | .ListComp _ _ _ _ => true
  | .SetComp _ _ _ _ => true
  | .DictComp _ _ _ _ _ => true
  | _ => false
def ownOf (N : List Str) (scope : Scope) : List (Str × Nat) := scope.names.filterMap fun y => match y.2 with
  | .local => (ixOf N y.1).map fun i => (y.1, i)
  | .cell => (ixOf N y.1).map fun i => (y.1, i)
  | _ => none
def CC.blk (c : CC) (scope : Scope) : CC := { c with sc := relS scope c.sc, wr := (ownOf c.N scope).map (·.1) }
def tyOf : Str → Option Ty := fun x =>
  if x = ("int" : Str) then some .int else if x = ("bool" : Str) then some .bool else if x = ("str" : Str) then some .str
  else if x = ("tuple" : Str) then some .tuple else if x = ("list" : Str) then some .list else none
def b1Of : Str → Option Bl1 := fun x =>
  if x = ("len" : Str) then some .len else if x = ("tuple" : Str) then some .tuple else if x = ("list" : Str) then some .list
  else if x = ("all" : Str) then some .all else if x = ("any" : Str) then some .any else if x = ("sorted" : Str) then some .sorted
  else if x = ("int" : Str) then some .int else if x = ("dict" : Str) then some .dict else none
def isSlice : Expr → Bool
  | .Slice _ _ _ _ => true
  | _ => false
/-- the call of a name -/
def cCallN (f : Expr → Option CE) (c : CC) (x : Str) (args : List Expr) : Option CE :=
  if glB c.sc x && plainNm x then
    (match c.fns.lookup x with
    | some k => if k = args.length ∧ args ≠ [] then (args.mapM f).map (.call x) else none
    | none => if c.free.contains x then (match args with
      | [a] => (match b1Of x with
        | some b => (f a).map (.b1 b)
        | none => none)
      | [a, b] =>
        if x = ("min" : Str) then do let p ← f a; let q ← f b; some (.min2 p q)
        else if x = ("max" : Str) then do let p ← f a; let q ← f b; some (.max2 p q)
        else if x = ("isinstance" : Str) then (match b with
          | .Name t _ => if bltOk c t then (do let p ← f a; let t ← tyOf t; some (.isi p t)) else none
          | _ => none)
        else none
      | _ => none) else none)
  else none
def cMeth (f : Expr → Option CE) (o : Expr) (m : Str) (args : List Expr) : Option CE := match args with
  | [a] =>
    if m = ("append" : Str) then do let p ← f o; let q ← f a; some (.app p q)
    else if m = ("join" : Str) then do let p ← f o; let q ← f a; some (.join p q)
    else if m = ("index" : Str) then do let p ← f o; let q ← f a; some (.index p q)
    else if m = ("pop" : Str) then do let p ← f o; let q ← f a; some (.popAt p q)
    else none
  | [a, b] => if m = ("get" : Str) then do let p ← f o; let q ← f a; let r ← f b; some (.get p q r) else none
  | _ => none
def cIter (f : Expr → Option CE) (c : CC) (tg : TG) : Expr → Option (IK × List CE)
  | .Call (.Name x px) args kws pos =>
    if glB c.sc x && plainNm x && c.free.contains x && (c.fns.lookup x).isNone && kws.isEmpty && (x == ("range" : Str) || x == ("enumerate" : Str) || x == ("zip" : Str)) then
      (match args with
      | [a] => if x = ("range" : Str) then (f a).map fun p => (.rng1, [p])
        else if x = ("enumerate" : Str) then (match tg with
          | .many _ => (f a).map fun p => (.enum, [p])
          | _ => none)
        else none
      | [a, b] => if x = ("range" : Str) then do let p ← f a; let q ← f b; some (.rng2, [p, q])
        else if x = ("zip" : Str) then (match tg with
          | .many _ => do let p ← f a; let q ← f b; some (.zip, [p, q])
          | _ => none)
        else none
      | _ => none)
    else (f (.Call (.Name x px) args kws pos)).map fun p => (.plain, [p])
  | e => (f e).map fun p => (.plain, [p])
def constKey : Option Expr → Option P
  | some (.Constant (.str x) _ _) => some (.str x)
  | some (.Constant (.int i) _ _) => some (.int i)
  | _ => none
def isBoolE : Expr → Bool
  | .BoolOp _ _ _ => true
  | .IfExp _ _ _ _ => true
  | .UnaryOp .Not _ _ => true
  | _ => false

/-- x[..] of a list of lists that is changed within -/
def isDeep (c : CC) : Expr → Bool
  | .Subscript (.Name x _) _ _ => c.deep.contains x
  | _ => false
def cAppIx (f : Expr → Option CE) (c : CC) (o : Expr) (m : Str) (args : List Expr) : Option CE := match o, args with
  | .Subscript (.Name x _) i _, [a] => if m = ("append" : Str) ∧ isSlice i = false then do let s ← slotOf c x; let p ← f i; let q ← f a; some (.appIx s p q) else none
  | _, _ => none

mutual
def cE : Nat → CC → Expr → Option CE
  | 0, _, _ => none
  | n + 1, c, e => match e with
    | .Constant k _ _ => (cConst k).map .c
    | .Name x _ => (slotOf c x).map .v
    | .Tuple es _ _ => if es.length ≤ 1000 then (es.mapM (cE n c)).map .tup else none
    | .List es _ => if es.length ≤ 1000 then (es.mapM (cE n c)).map .lst else none
    | .Dict ks vs _ => if ks.length = vs.length then (do
        let kd ← ks.mapM constKey
        let vd ← vs.mapM (cE n c)
        some (.dct kd vd)) else none
    | .BinOp a op b _ => if binOk op then (do
        let x ← cE n c a
        let y ← cE n c b
        some (.bin op x y)) else none
    | .UnaryOp .Not a _ => (cE n c a).map .notv
    | .UnaryOp .USub a _ => (cE n c a).map .neg
    | .BoolOp op vs _ => if vs.length ≤ 1 then none else cBv (cE n c) op vs
    | .Compare a [op] [b] _ => (match op with
      | .Is => do
        let x ← cE n c a
        let y ← cE n c b
        some (.isn false x y)
      | .IsNot => do
        let x ← cE n c a
        let y ← cE n c b
        some (.isn true x y)
      | op => if cmpOk op && !isSetE b then (do
        let x ← cE n c a
        let y ← cE n c b
        some (.cmp op x y)) else none)
    | .IfExp t a b _ => do
      let x ← cT n c t
      let y ← cE n c a
      let z ← cE n c b
      some (.ife x y z)
    | .Subscript a (.Slice lo hi none _) _ => do
      let x ← cE n c a
      let l ← cO n c lo
      let h ← cO n c hi
      some (.sl x l h)
    | .Subscript a i _ => if isSlice i then none else do
      let x ← cE n c a
      let y ← cE n c i
      some (if isDeep c a then .view (.ix x y) else .ix x y)
    | .Call (.Name x _) args [] _ => (cCallN (cE n c) c x args).map fun p => if args.any (isDeep c) then .view p else p
    | .Call (.Attribute o m apos) args [] cpos => if apos.endLine = cpos.line then (if isDeep c o then cAppIx (cE n c) c o m args else cMeth (cE n c) o m args) else none
    | .ListComp elt [⟨tg, it, ifs, as⟩] scope pos => if as = 0 ∧ blkC c.N c.sc scope (ownOf c.N scope) = true then (do
        let g ← cTG (c.blk scope) tg
        let (ik, es) ← cIter (cE n c) c g it
        let el ← cE n (c.blk scope) elt
        let cd ← (match ifs with
          | [] => some none
          | [t] => (cT n (c.blk scope) t).map some
          | _ => none)
        some (if c.views.contains pos.line then .view (.lc false el g ik es cd ((ownOf c.N scope).map (·.2)))
          else .lc false el g ik es cd ((ownOf c.N scope).map (·.2)))) else none
    | .DictComp kx vx [⟨tg, it, ifs, as⟩] scope _ => if as = 0 ∧ ifs.isEmpty = true ∧ blkC c.N c.sc scope (ownOf c.N scope) = true then (do
        let g ← cTG (c.blk scope) tg
        let (ik, es) ← cIter (cE n c) c g it
        let k ← cE n (c.blk scope) kx
        let v ← cE n (c.blk scope) vx
        some (.dc k v g ik es ((ownOf c.N scope).map (·.2)))) else none
    | _ => none
where isSetE : Expr → Bool
  | .Set _ _ _ => true
  | _ => false
def cT : Nat → CC → Expr → Option CE
  | 0, _, _ => none
  | n + 1, c, e => match e with
    | .UnaryOp .Not a _ => (cT n c a).map .not_
    | .BoolOp op vs _ => if vs.length ≤ 1 then none else cBv (cT n c) op vs
    | e => if isBoolE e then none else (cE n c e).map .tst
def cO : Nat → CC → Option Expr → Option (Option CE)
  | 0, _, _ => none
  | _ + 1, _, none => some none
  | n + 1, c, some e => (cE n c e).map some
end
def deepOf : CE → CE
  | .lc _ elt tg ik es cond own => .lc true elt tg ik es cond own
  | e => e
def dv (c : CC) (x : Str) (e : Expr) (v : CE) : CE := match e with
  | .ListComp _ _ _ _ => if c.deep.contains x then deepOf v else v
  | _ => v
/-- name = a comprehension: the target's name is a local on the comprehension's line, or a cell -/
def setOk (c : CC) (x : Str) (px : Pos) (e : Expr) : Bool := match e with
  | .ListComp _ _ s p => (match c.sc.names.lookup x with
    | some .local => px.line == p.line && !(s.names.any fun (n, k) => n == x && (k == .local || k == .cell))
    | some .cell => true
    | _ => false)
  | .DictComp _ _ _ s p => (match c.sc.names.lookup x with
    | some .local => false
    | some .cell => true
    | _ => false)
  | .SetComp _ _ _ _ => false
  | _ => true
def parOk (c : CC) (x y : Str) (px py : Pos) (a b : Expr) : Bool :=
  decide (c.sc.names.lookup x = some .local) && decide (c.sc.names.lookup y = some .local) && px.line == py.line && x != y &&
  !([a, b].all (foldedForSure 8)) && !([a, b].all (constantsAlone 8)) && !([a, b].any fun | .Starred .. => true | _ => false)
def nameOf : Expr → Option (Str × Pos)
  | .Name x p => some (x, p)
  | _ => none
def cRow (f : Expr → Option CE) : Expr → Option (List CE)
  | .Tuple es _ _ => if es.length ≤ 1000 then es.mapM f else none
  | _ => none
mutual
def cS : Nat → CC → Stmt → Option CS
  | 0, _, _ => none
  | n + 1, c, st => match st with
    | .Expr e _ => if isCompE e then none else (match e with
      | .Constant (.str _) _ _ => some .pass
      | e => (cE n c e).map .ex)
    | .Assign [.Name x px] e _ => if setOk c x px e then (do
        let i ← bindOf c x
        let v ← cE n c e
        some (.set i (dv c x e v))) else none
    | .Assign [.Tuple ts _ _] (.Tuple [a, b] _ _) _ => (match ts with
      | [.Name x px, .Name y py] => if parOk c x y px py a b then (do
          let i ← bindOf c x
          let j ← bindOf c y
          let p ← cE n c a
          let q ← cE n c b
          some (.par i j p q)) else none
      | _ => none)
    | .Assign [.Tuple ts k p] e _ => if isTupE e || isCompE e then none else (match cTG c (.Tuple ts k p) with
      | some (.many is) => do
        let v ← cE n c e
        some (.unp is v)
      | _ => none)
    | .Assign [.Subscript o i _] v _ => if isSlice i || isCompE v then none else do
      let ov ← cE n c o
      let iv ← cE n c i
      let vv ← cE n c v
      some (.put ov iv vv)
    | .AugAssign (.Name x _) op e _ => (match op with
      | .Add => do
        let i ← bindOf c x
        let v ← cE n c e
        some (.aug i .Add v)
      | .Sub => do
        let i ← bindOf c x
        let v ← cE n c e
        some (.aug i .Sub v)
      | _ => none)
    | .Return (some e) _ => (cE n c e).map .ret
    | .Return none _ => some .retN
    | .If t a b _ => do
      let x ← cT n c t
      let y ← a.mapM (cS n c)
      let z ← b.mapM (cS n c)
      some (.ite x y z)
    | .While t b [] _ => do
      let x ← cT n c t
      let y ← b.mapM (cS n c)
      some (.whl x y)
    | .For tg it b [] _ => do
      let g ← cTG c tg
      (match it with
      | .Tuple rows _ _ => (match g with
        | .many is => if rows.length ≤ 1000 then (do
          let rs ← rows.mapM (cRow (cE n c))
          let y ← b.mapM (cS n c)
          some (.forTT is rs y)) else none
        | _ => none)
      | it => if isSetE2 it then none else do
        let (ik, es) ← cIter (cE n c) c g it
        let y ← b.mapM (cS n c)
        some (.for_ g ik es y))
    | .Break _ => some .brk
    | .Continue _ => some .cont
    | .Pass _ => some .pass
    | _ => none
where isSetE2 : Expr → Bool
  | .Set _ _ _ => true
  | _ => false
end
def cBody (c : CC) (b : List Stmt) : Option (List CS) := b.mapM (cS 60 c)
/-- a def of the top -/
def wrOf (sc : Scope) : List Str := sc.names.filterMap fun y => match sc.names.lookup y.1 with
  | some .local => some y.1
  | some .cell => some y.1
  | _ => none
def cDef (N : List Str) (np : Nat) (sc : Scope) (fns : List (Str × Nat)) (free deep : List Str) (views : List Nat) (b : List Stmt) : Option Fn :=
  (cBody ⟨N, sc, wrOf sc, fns, free, deep, views⟩ b).map fun cs => ⟨np, N.length, cs⟩
end Ev

/-! EvR: how plain data lie in the abstract heap. -/
namespace Ev
open PySem PySem.Spec PyProof.Rows L2

abbrev St := L2.St
structure Ar where
  Pg : Program
  w : World
  K : PySem.W.Frag
abbrev NX := List (NestedKey × Addr × Value)
def rawN (Z : Ar) (a : Addr) (xs : NX) : Heap → Prop := fun h =>
  ∃ o es ep, h.get? a = some o ∧ o.ExactDict ∧ o.data = .dict es ep ∧ es.toList = xs.map (entryOfKey (nestedKind Z.Pg Z.w))
def DnAt (Z : Ar) (H : Hp) (a : Addr) (xs : NX) : Prop :=
  H a = some (.ext (rawN Z a xs)) ∧ (a == sysModules) = false ∧ xs.length ≤ sizeLine ∧ (xs.map (·.1)).Nodup

/-- a tuple: made by the text (its object is known to have no dict), or of the module -/
def TupA (Z : Ar) (F : Hp) (a : Addr) (vs : List V) : Prop := (∃ o, F a = some (.frz o (.tup vs)) ∧ o.dict = none) ∨
  ∃ (o : Obj) (its : Array Value) (n : Nat), Z.K.lookup a = some o ∧ o.cls = .type "tuple" ∧ o.dict = none ∧ o.data = .seq its n ∧ its.size ≤ sizeLine ∧ Vals vs its.toList
mutual
inductive Rep (Z : Ar) (F : Hp) : P → V → Prop
  | non : Rep Z F .non .non
  | bl (b : Bool) : Rep Z F (.bl b) (.bl b)
  | int (i : Int) : Rep Z F (.int i) (.int i)
  | str (x : Str) : Rep Z F (.str x) (.str x)
  | tup {a : Addr} {xs : List P} {vs : List V} : TupA Z F a vs → Reps Z F xs vs → Rep Z F (.tup xs) (.ref a)
  | lst {a : Addr} {xs : List P} {vs : List V} : F a = some (.lst vs) → Reps Z F xs vs → Rep Z F (.lst xs) (.ref a)
  | ls {a : Addr} {xs : List P} {vs : List V} : SqL Z.K F a vs → Reps Z F xs vs → Rep Z F (.ls xs) (.ref a)
  | dk {a : Addr} {kvs : List (Key × P)} {ws : List (Key × V)} : F a = some (.dK ws) → RepK Z F kvs ws → Rep Z F (.dk kvs) (.ref a)
  | dn {a : Addr} {kvs : List (P × P)} {xs : NX} : DnAt Z F a xs → RepN Z F kvs xs → Rep Z F (.dn kvs) (.ref a)
inductive Reps (Z : Ar) (F : Hp) : List P → List V → Prop
  | nil : Reps Z F [] []
  | cons {d : P} {v : V} {ds : List P} {vs : List V} : Rep Z F d v → Reps Z F ds vs → Reps Z F (d :: ds) (v :: vs)
inductive RepK (Z : Ar) (F : Hp) : List (Key × P) → List (Key × V) → Prop
  | nil : RepK Z F [] []
  | cons {k : Key} {d : P} {v : V} {ds : List (Key × P)} {vs : List (Key × V)} : Rep Z F d v → RepK Z F ds vs → RepK Z F ((k, d) :: ds) ((k, v) :: vs)
inductive RepN (Z : Ar) (F : Hp) : List (P × P) → NX → Prop
  | nil : RepN Z F [] []
  | cons {kd d : P} {k : NestedKey} {b : Addr} {v : V} {u : Value} {ds : List (P × P)} {vs : NX} : nkey kd = some k → Rep Z F kd (.ref b) → isTup kd = true → Rep Z F d v → RelV v u → RepN Z F ds vs →
      RepN Z F ((kd, d) :: ds) ((k, b, u) :: vs)
end

def Sub (F F' : Hp) : Prop := ∀ a o, F a = some o → F' a = some o
theorem Sub.refl {F : Hp} : Sub F F := fun _ _ h => h
theorem Sub.trans {F F' F'' : Hp} (a : Sub F F') (b : Sub F' F'') : Sub F F'' := fun _ _ h => b _ _ (a _ _ h)
theorem Sub.rd {F F' : Hp} (s : Sub F F') {a : Addr} {u : HO} (h : Rd F a u) : Rd F' a u := by
  rcases h with h | ⟨o, h⟩
  · exact .inl (s _ _ h)
  · exact .inr ⟨o, s _ _ h⟩
theorem TupA.sqT {Z : Ar} {F : Hp} {a : Addr} {vs : List V} (h : TupA Z F a vs) : SqT Z.K F a vs := by
  rcases h with ⟨o, h, _⟩ | h
  · exact .inl (.inr ⟨o, h⟩)
  · obtain ⟨o, its, n, h1, h2, _, h3⟩ := h
    exact .inr ⟨o, its, n, h1, h2, h3⟩
theorem Sub.tupA {Z : Ar} {F F' : Hp} (s : Sub F F') {a : Addr} {vs : List V} (h : TupA Z F a vs) : TupA Z F' a vs := h.imp (fun ⟨o, h, d⟩ => ⟨o, s _ _ h, d⟩) id
theorem Sub.sqT {F F' : Hp} (s : Sub F F') {K : PySem.W.Frag} {a : Addr} {vs : List V} (h : SqT K F a vs) : SqT K F' a vs := h.imp s.rd id
theorem Sub.sqL {F F' : Hp} (s : Sub F F') {K : PySem.W.Frag} {a : Addr} {vs : List V} (h : SqL K F a vs) : SqL K F' a vs := h.imp s.rd id
theorem Sub.dnAt {Z : Ar} {F F' : Hp} (s : Sub F F') {a : Addr} {xs : NX} (h : DnAt Z F a xs) : DnAt Z F' a xs := ⟨s _ _ h.1, h.2⟩

section
variable {Z : Ar} {F F' : Hp}
mutual
theorem Rep.mono (s : Sub F F') : ∀ {d : P} {v : V}, Rep Z F d v → Rep Z F' d v
  | _, _, .non => .non
  | _, _, .bl b => .bl b
  | _, _, .int i => .int i
  | _, _, .str x => .str x
  | _, _, .tup h r => .tup (s.tupA h) (Reps.mono s r)
  | _, _, .lst h r => .lst (s _ _ h) (Reps.mono s r)
  | _, _, .ls h r => .ls (s.sqL h) (Reps.mono s r)
  | _, _, .dk h r => .dk (s _ _ h) (RepK.mono s r)
  | _, _, .dn h r => .dn (s.dnAt h) (RepN.mono s r)
theorem Reps.mono (s : Sub F F') : ∀ {d : List P} {v : List V}, Reps Z F d v → Reps Z F' d v
  | _, _, .nil => .nil
  | _, _, .cons r t => .cons (Rep.mono s r) (Reps.mono s t)
theorem RepK.mono (s : Sub F F') : ∀ {d : List (Key × P)} {v : List (Key × V)}, RepK Z F d v → RepK Z F' d v
  | _, _, .nil => .nil
  | _, _, .cons r t => .cons (Rep.mono s r) (RepK.mono s t)
theorem RepN.mono (s : Sub F F') : ∀ {d : List (P × P)} {v : NX}, RepN Z F d v → RepN Z F' d v
  | _, _, .nil => .nil
  | _, _, .cons e k i r u t => .cons e (Rep.mono s k) i (Rep.mono s r) u (RepN.mono s t)
end
theorem Reps.length : ∀ {ds : List P} {vs : List V}, Reps Z F ds vs → ds.length = vs.length
  | _, _, .nil => rfl
  | _, _, .cons _ t => by simp [Reps.length t]
theorem Reps.get : ∀ {ds : List P} {vs : List V} {i : Nat} {d : P}, Reps Z F ds vs → ds[i]? = some d → ∃ v, vs[i]? = some v ∧ Rep Z F d v
  | _, _, _, _, .nil, h => by simp at h
  | _, _, 0, _, .cons r _, h => by simp at h; subst h; exact ⟨_, rfl, r⟩
  | _, _, i + 1, d, .cons _ t, h => by
    obtain ⟨v, h1, h2⟩ := Reps.get (i := i) (d := d) t (by simpa using h)
    exact ⟨v, by simpa using h1, h2⟩
theorem Reps.append : ∀ {ds es : List P} {vs us : List V}, Reps Z F ds vs → Reps Z F es us → Reps Z F (ds ++ es) (vs ++ us)
  | _, _, _, _, .nil, s => s
  | _, _, _, _, .cons r t, s => .cons r (Reps.append t s)
theorem Reps.take : ∀ {ds : List P} {vs : List V} (n : Nat), Reps Z F ds vs → Reps Z F (ds.take n) (vs.take n)
  | _, _, 0, _ => .nil
  | _, _, _ + 1, .nil => .nil
  | _, _, n + 1, .cons r t => .cons r (Reps.take n t)
theorem Reps.drop : ∀ {ds : List P} {vs : List V} (n : Nat), Reps Z F ds vs → Reps Z F (ds.drop n) (vs.drop n)
  | _, _, 0, r => r
  | _, _, _ + 1, .nil => .nil
  | _, _, n + 1, .cons _ t => Reps.drop n t
theorem Reps.set {d : P} {v : V} (r : Rep Z F d v) : ∀ {ds : List P} {vs : List V} (i : Nat), Reps Z F ds vs → Reps Z F (ds.set i d) (vs.set i v)
  | _, _, _, .nil => .nil
  | _, _, 0, .cons _ t => .cons r t
  | _, _, i + 1, .cons q t => .cons q (Reps.set r i t)
theorem Reps.eraseIdx : ∀ {ds : List P} {vs : List V} (i : Nat), Reps Z F ds vs → Reps Z F (ds.eraseIdx i) (vs.eraseIdx i)
  | _, _, _, .nil => .nil
  | _, _, 0, .cons _ t => t
  | _, _, i + 1, .cons q t => .cons q (Reps.eraseIdx i t)
theorem RepK.length : ∀ {ds : List (Key × P)} {vs : List (Key × V)}, RepK Z F ds vs → ds.length = vs.length
  | _, _, .nil => rfl
  | _, _, .cons _ t => by simp [RepK.length t]
theorem RepN.length : ∀ {ds : List (P × P)} {vs : NX}, RepN Z F ds vs → ds.length = vs.length
  | _, _, .nil => rfl
  | _, _, .cons _ _ _ _ _ t => by simp [RepN.length t]

/-- a scalar is told by its value alone -/
theorem Rep.scal {d : P} {v : V} (h : scalP d = true) (r : Rep Z F d v) : Rep Z F' d v := by
  cases r <;> first | exact .non | exact .bl _ | exact .int _ | exact .str _ | exact absurd (show false = true from h) Bool.false_ne_true
theorem Reps.scal : ∀ {ds : List P} {vs : List V}, ds.all scalP = true → Reps Z F ds vs → Reps Z F' ds vs
  | _, _, _, .nil => .nil
  | _, _, h, .cons r t => by
    simp only [List.all_cons, Bool.and_eq_true] at h
    exact .cons (r.scal h.1) (Reps.scal h.2 t)
end

/-! ### owned objects -/
def refsV (H : Hp) (a : Addr) : List Addr := match H a with
  | some (.lst vs) => vs.filterMap fun v => match v with
    | .ref b => some b
    | _ => none
  | _ => []
def fpL (H : Hp) (a : Addr) : MO → List Addr
  | .lo _ => a :: refsV H a
  | _ => [a]
/-- the lists of an owned list of lists -/
inductive RepLo (Z : Ar) (F H : Hp) : List (List P) → List Addr → Prop
  | nil : RepLo Z F H [] []
  | cons {xs : List P} {vs : List V} {b : Addr} {ls : List (List P)} {as : List Addr} : H b = some (.lst vs) → Reps Z F xs vs → RepLo Z F H ls as → RepLo Z F H (xs :: ls) (b :: as)
def MoRep (Z : Ar) (F H : Hp) (a : Addr) : MO → Prop
  | .lst xs => ∃ vs, H a = some (.lst vs) ∧ Reps Z F xs vs
  | .dk kvs => ∃ ws, H a = some (.dK ws) ∧ RepK Z F kvs ws
  | .dn kvs => ∃ xs, DnAt Z H a xs ∧ RepN Z F kvs xs
  | .lo ls => ∃ as : List Addr, H a = some (.lst (as.map .ref)) ∧ RepLo Z F H ls as ∧ (a :: as).Nodup
theorem refsV_map {H : Hp} {a : Addr} {as : List Addr} (h : H a = some (.lst (as.map .ref))) : refsV H a = as := by
  unfold refsV
  rw [h]
  simp [List.filterMap_map, Function.comp_def]
section
variable {Z : Ar} {F F' H H' : Hp} {a : Addr} {m : MO}
theorem RepLo.keep (s : Sub F F') : ∀ {ls : List (List P)} {as : List Addr}, RepLo Z F H ls as → (∀ b ∈ as, H' b = H b) → RepLo Z F' H' ls as
  | _, _, .nil, _ => .nil
  | _, _, .cons h r t, k => .cons (by rw [k _ List.mem_cons_self]; exact h) (r.mono s) (RepLo.keep s t fun b hb => k b (List.mem_cons_of_mem _ hb))
theorem RepLo.length : ∀ {ls : List (List P)} {as : List Addr}, RepLo Z F H ls as → ls.length = as.length
  | _, _, .nil => rfl
  | _, _, .cons _ _ t => by simp [RepLo.length t]
theorem fpL_self : a ∈ fpL H a m := by cases m <;> simp [fpL]
theorem MoRep.fp_some (r : MoRep Z F H a m) : ∀ b ∈ fpL H a m, ∃ o, H b = some o := by
  cases m with
  | lst xs => obtain ⟨vs, h, _⟩ := r; intro b hb; simp [fpL] at hb; subst hb; exact ⟨_, h⟩
  | dk xs => obtain ⟨vs, h, _⟩ := r; intro b hb; simp [fpL] at hb; subst hb; exact ⟨_, h⟩
  | dn xs => obtain ⟨vs, h, _⟩ := r; intro b hb; simp [fpL] at hb; subst hb; exact ⟨_, h.1⟩
  | lo ls =>
    obtain ⟨as, h, r, nd⟩ := r
    intro b hb
    simp only [fpL, refsV_map h, List.mem_cons] at hb
    rcases hb with rfl | hb
    · exact ⟨_, h⟩
    · clear h nd
      induction r with
      | nil => cases hb
      | cons h r t ih =>
        rcases List.mem_cons.mp hb with rfl | hb
        · exact ⟨_, h⟩
        · exact ih hb
theorem fpL_eq (r : MoRep Z F H a m) (k : ∀ b ∈ fpL H a m, H' b = H b) : fpL H' a m = fpL H a m := by
  cases m with
  | lo ls =>
    obtain ⟨as, h, _, _⟩ := r
    have : H' a = H a := k a fpL_self
    simp only [fpL]
    rw [refsV_map h, refsV_map (this.trans h)]
  | _ => rfl
theorem MoRep.keep (s : Sub F F') (r : MoRep Z F H a m) (k : ∀ b ∈ fpL H a m, H' b = H b) : MoRep Z F' H' a m := by
  have ka : H' a = H a := k a fpL_self
  cases m with
  | lst xs => obtain ⟨vs, h, r⟩ := r; exact ⟨vs, ka.trans h, r.mono s⟩
  | dk xs => obtain ⟨vs, h, r⟩ := r; exact ⟨vs, ka.trans h, r.mono s⟩
  | dn xs => obtain ⟨vs, h, r⟩ := r; exact ⟨vs, ⟨ka.trans h.1, h.2⟩, r.mono s⟩
  | lo ls =>
    obtain ⟨as, h, r, nd⟩ := r
    refine ⟨as, ka.trans h, r.keep s fun b hb => k b ?_, nd⟩
    simp only [fpL, refsV_map h]
    exact List.mem_cons_of_mem _ hb
end

/-! ### the slots -/
def SlRep (Z : Ar) (F H : Hp) (σ : St) : Sl → V → Prop
  | .p d, v => Rep Z F d v
  | .own m, v => ∃ a, v = .ref a ∧ MoRep Z F H a m ∧ ∀ b ∈ fpL H a m, F b = none
  | .rd m, v => ∃ a, v = .ref a ∧ MoRep Z F H a m ∧ ∀ b ∈ fpL H a m, F b = none
  | .sref k, v => σ[k]? = some (some v)
def moOf : Sl → Option MO
  | .own m => some m
  | .rd m => some m
  | _ => none
/-- slot i holds an object of which b is a part -/
def Held (ρ : En) (σ : St) (H : Hp) (i : Nat) (b : Addr) : Prop := ∃ (s : Sl) (m : MO) (a : Addr), ρ[i]? = some (some s) ∧ moOf s = some m ∧ σ[i]? = some (some (.ref a)) ∧ b ∈ fpL H a m
/-- .. that may be changed -/
def Live (ρ : En) (σ : St) (H : Hp) (b : Addr) : Prop := ∃ (i : Nat) (m : MO) (a : Addr), ρ[i]? = some (some (.own m)) ∧ σ[i]? = some (some (.ref a)) ∧ b ∈ fpL H a m
structure SRel (Z : Ar) (F : Hp) (ρ : En) (σ : St) (H : Hp) : Prop where
  fz : Sub F H
  len : ρ.length = σ.length
  slot : ∀ (i : Nat) (s : Sl), ρ[i]? = some (some s) → ∃ v, σ[i]? = some (some v) ∧ SlRep Z F H σ s v
  dis : ∀ (i j : Nat) (b : Addr), i ≠ j → Held ρ σ H i b → Held ρ σ H j b → False
/-- what a step may change; l: new objects that are frozen by it -/
structure Adv (l : List Addr) (F : Hp) (ρ : En) (σ : St) (H : Hp) (F' : Hp) (ρ' : En) (σ' : St) (H' : Hp) : Prop where
  fz : Sub F F'
  fr : ∀ b o, H b = some o → ¬ Live ρ σ H b → H' b = some o
  tr : ∀ b, H b ≠ none → H' b ≠ none
  nl : ∀ (i : Nat) (b : Addr), Held ρ' σ' H' i b → (∃ j, Held ρ σ H j b) ∨ H b = none
  nv : ∀ b, Live ρ' σ' H' b → Live ρ σ H b ∨ H b = none
  nf : ∀ b, F' b ≠ none → F b ≠ none ∨ Live ρ σ H b ∨ H b = none ∨ b ∈ l
def fpW (H : Hp) : W → V → List Addr
  | .tmp m, .ref a => fpL H a m
  | _, _ => []
def fpsW (H : Hp) : List W → List V → List Addr
  | w :: ws, v :: vs => fpW H w v ++ fpsW H ws vs
  | _, _ => []
def WRep (Z : Ar) (F : Hp) (ρ : En) (σ : St) (H : Hp) : W → V → Prop
  | .p d, v => Rep Z F d v
  | .tmp m, v => ∃ a, v = .ref a ∧ MoRep Z F H a m ∧ ∀ b ∈ fpL H a m, F b = none ∧ ∀ i, ¬ Held ρ σ H i b
  | .ref k, v => σ[k]? = some (some v)
/-- a new object is new -/
def Fresh (H H' : Hp) (w : W) (v : V) : Prop := ∀ b ∈ fpW H' w v, H b = none
section
variable {Z : Ar} {F F' F'' H H' H'' : Hp} {ρ ρ' ρ'' : En} {σ σ' σ'' : St} {w : W} {v : V} {l l' : List Addr}
theorem Live.held {b : Addr} (h : Live ρ σ H b) : ∃ i, Held ρ σ H i b := by
  obtain ⟨i, m, a, h1, h2, h3⟩ := h
  exact ⟨i, _, m, a, h1, rfl, h2, h3⟩
theorem SRel.fNone (R : SRel Z F ρ σ H) {i : Nat} {b : Addr} (h : Held ρ σ H i b) : F b = none := by
  obtain ⟨s, m, a, h1, h2, h3, h4⟩ := h
  obtain ⟨v, e, r⟩ := R.slot i s h1
  cases s with
  | own m' => cases h2; obtain ⟨a', rfl, _, n⟩ := r; rw [e] at h3; cases h3; exact n b h4
  | rd m' => cases h2; obtain ⟨a', rfl, _, n⟩ := r; rw [e] at h3; cases h3; exact n b h4
  | p d => cases h2
  | sref k => cases h2
theorem SRel.hSome (R : SRel Z F ρ σ H) {i : Nat} {b : Addr} (h : Held ρ σ H i b) : ∃ o, H b = some o := by
  obtain ⟨s, m, a, h1, h2, h3, h4⟩ := h
  obtain ⟨v, e, r⟩ := R.slot i s h1
  cases s with
  | own m' => cases h2; obtain ⟨a', rfl, r, n⟩ := r; rw [e] at h3; cases h3; exact r.fp_some b h4
  | rd m' => cases h2; obtain ⟨a', rfl, r, n⟩ := r; rw [e] at h3; cases h3; exact r.fp_some b h4
  | p d => cases h2
  | sref k => cases h2
theorem Adv.refl : Adv [] F ρ σ H F ρ σ H := ⟨.refl, fun _ _ h _ => h, fun _ h => h, fun i b h => .inl ⟨i, h⟩, fun b h => .inl h, fun b h => .inl h⟩
theorem Adv.trans (x : Adv l F ρ σ H F' ρ' σ' H') (y : Adv l' F' ρ' σ' H' F'' ρ'' σ'' H'') : Adv (l ++ l') F ρ σ H F'' ρ'' σ'' H'' := by
  have key : ∀ b, H' b = none → H b = none := fun b h => by
    cases q : H b with
    | none => rfl
    | some o => exact absurd h (x.tr b (by rw [q]; simp))
  refine ⟨x.fz.trans y.fz, fun b o h n => ?_, fun b h => y.tr b (x.tr b h), fun i b h => ?_, fun b h => ?_, fun b h => ?_⟩
  · refine y.fr b o (x.fr b o h n) fun l => ?_
    rcases x.nv b l with l | l
    · exact n l
    · rw [h] at l; cases l
  · rcases y.nl i b h with ⟨j, h⟩ | h
    · exact x.nl j b h
    · exact .inr (key b h)
  · rcases y.nv b h with h | h
    · exact x.nv b h
    · exact .inr (key b h)
  · rcases y.nf b h with h | h | h | h
    · rcases x.nf b h with z | z | z | z
      · exact .inl z
      · exact .inr (.inl z)
      · exact .inr (.inr (.inl z))
      · exact .inr (.inr (.inr (List.mem_append_left _ z)))
    · rcases x.nv b h with h | h
      · exact .inr (.inl h)
      · exact .inr (.inr (.inl h))
    · exact .inr (.inr (.inl (key b h)))
    · exact .inr (.inr (.inr (List.mem_append_right _ h)))
theorem Adv.drop (x : Adv l F ρ σ H F' ρ' σ' H') (h : ∀ b ∈ l, H b = none) : Adv [] F ρ σ H F' ρ' σ' H' :=
  ⟨x.fz, x.fr, x.tr, x.nl, x.nv, fun b q => by
    rcases x.nf b q with z | z | z | z
    · exact .inl z
    · exact .inr (.inl z)
    · exact .inr (.inr (.inl z))
    · exact .inr (.inr (.inl (h b z)))⟩
theorem Adv.then (x : Adv [] F ρ σ H F' ρ' σ' H') (y : Adv l F' ρ' σ' H' F'' ρ'' σ'' H'') (h : ∀ b ∈ l, H b = none) : Adv [] F ρ σ H F'' ρ'' σ'' H'' := (x.trans y).drop (by simpa using h)
theorem Adv.key (x : Adv l F ρ σ H F' ρ' σ' H') {b : Addr} (h : H' b = none) : H b = none := by
  cases q : H b with
  | none => rfl
  | some o => exact absurd h (x.tr b (by rw [q]; simp))
theorem WRep.adv (r : WRep Z F ρ σ H w v) (x : Adv l F ρ σ H F' ρ' σ H') (hl : ∀ b ∈ fpW H w v, b ∉ l) : WRep Z F' ρ' σ H' w v := by
  cases w with
  | p d => exact Rep.mono x.fz r
  | ref k => exact r
  | tmp m =>
    obtain ⟨a, rfl, r, n⟩ := r
    have k : ∀ b ∈ fpL H a m, H' b = H b := fun b hb => by
      obtain ⟨o, ho⟩ := r.fp_some b hb
      rw [ho]
      exact x.fr b o ho fun l => by obtain ⟨i, l⟩ := l.held; exact (n b hb).2 i l
    refine ⟨a, rfl, r.keep x.fz k, fun b hb => ?_⟩
    rw [fpL_eq r k] at hb
    obtain ⟨o, ho⟩ := r.fp_some b hb
    refine ⟨?_, fun i l => ?_⟩
    · cases q : F' b with
      | none => rfl
      | some u =>
        rcases x.nf b (by rw [q]; simp) with z | z | z | z
        · exact absurd (n b hb).1 z
        · obtain ⟨i, l⟩ := z.held; exact absurd l ((n b hb).2 i)
        · rw [ho] at z; cases z
        · exact absurd z (hl b hb)
    · rcases x.nl i b l with ⟨j, z⟩ | z
      · exact (n b hb).2 j z
      · rw [ho] at z; cases z
theorem WRep.adv0 (r : WRep Z F ρ σ H w v) (x : Adv [] F ρ σ H F' ρ' σ H') : WRep Z F' ρ' σ H' w v := r.adv x fun _ _ => by simp
end
end Ev

/-! EvS: the readings of evaluated terms; steps on slots. -/
namespace Ev
open PySem PySem.Spec PyProof.Rows L2

/-- the top in H, what is within in F -/
inductive RepT (Z : Ar) (F H : Hp) : P → V → Prop
  | non : RepT Z F H .non .non
  | bl (b : Bool) : RepT Z F H (.bl b) (.bl b)
  | int (i : Int) : RepT Z F H (.int i) (.int i)
  | str (x : Str) : RepT Z F H (.str x) (.str x)
  | tup {a : Addr} {xs : List P} {vs : List V} : TupA Z F a vs → Reps Z F xs vs → RepT Z F H (.tup xs) (.ref a)
  | lst {a : Addr} {xs : List P} {vs : List V} : H a = some (.lst vs) → Reps Z F xs vs → RepT Z F H (.lst xs) (.ref a)
  | ls {a : Addr} {xs : List P} {vs : List V} : SqL Z.K H a vs → Reps Z F xs vs → RepT Z F H (.ls xs) (.ref a)
  | dk {a : Addr} {kvs : List (Key × P)} {ws : List (Key × V)} : H a = some (.dK ws) → RepK Z F kvs ws → RepT Z F H (.dk kvs) (.ref a)
  | dn {a : Addr} {kvs : List (P × P)} {xs : NX} : DnAt Z H a xs → RepN Z F kvs xs → RepT Z F H (.dn kvs) (.ref a)
section
variable {Z : Ar} {F F' F'' H H' H'' : Hp} {ρ ρ' ρ'' : En} {σ σ' σ'' : St} {w : W} {v : V} {d : P}
theorem RepT.full (s : Sub F H) (r : RepT Z F H d v) : Rep Z H d v := by
  cases r with
  | non => exact .non
  | bl b => exact .bl b
  | int b => exact .int b
  | str b => exact .str b
  | tup h r => exact .tup (s.tupA h) (r.mono s)
  | lst h r => exact .lst h (r.mono s)
  | ls h r => exact .ls h (r.mono s)
  | dk h r => exact .dk h (r.mono s)
  | dn h r => exact .dn h (r.mono s)
theorem Rep.top (s : Sub F H) (r : Rep Z F d v) : RepT Z F H d v := by
  cases r with
  | non => exact .non
  | bl b => exact .bl b
  | int b => exact .int b
  | str b => exact .str b
  | tup h r => exact .tup h r
  | lst h r => exact .lst (s _ _ h) r
  | ls h r => exact .ls (s.sqL h) r
  | dk h r => exact .dk (s _ _ h) r
  | dn h r => exact .dn (s.dnAt h) r
theorem MoRep.top {m : MO} {a : Addr} (hf : m.flat = true) (r : MoRep Z F H a m) : RepT Z F H m.toP (.ref a) := by
  cases m with
  | lst xs => obtain ⟨vs, h, r⟩ := r; exact .lst h r
  | dk xs => obtain ⟨vs, h, r⟩ := r; exact .dk h r
  | dn xs => obtain ⟨vs, h, r⟩ := r; exact .dn h r
  | lo ls => cases hf
theorem getMO_ok {k : Nat} {m : MO} (h : getMO ρ k = .ok m) : ρ[k]? = some (some (.own m)) ∨ ρ[k]? = some (some (.rd m)) := by
  unfold getMO at h
  split at h
  · cases h; left; assumption
  · cases h; right; assumption
  · cases h
theorem getOwn_ok {k : Nat} {m : MO} (h : getOwn ρ k = .ok m) : ρ[k]? = some (some (.own m)) := by
  unfold getOwn at h
  split at h
  · cases h; assumption
  · cases h
theorem getOwn_getMO {k : Nat} {m : MO} (h : getOwn ρ k = .ok m) : getMO ρ k = .ok m := by
  have := getOwn_ok h
  unfold getMO
  rw [this]
theorem SRel.mo (R : SRel Z F ρ σ H) {k : Nat} {m : MO} (h : getMO ρ k = .ok m) (e : σ[k]? = some (some v)) : ∃ a, v = .ref a ∧ MoRep Z F H a m ∧ (∀ b ∈ fpL H a m, F b = none) ∧ ∀ b ∈ fpL H a m, Held ρ σ H k b := by
  rcases getMO_ok h with h | h
  · obtain ⟨v', e', a, rfl, r, n⟩ := R.slot k _ h
    rw [e] at e'; cases e'
    exact ⟨a, rfl, r, n, fun b hb => ⟨_, m, a, h, rfl, e, hb⟩⟩
  · obtain ⟨v', e', a, rfl, r, n⟩ := R.slot k _ h
    rw [e] at e'; cases e'
    exact ⟨a, rfl, r, n, fun b hb => ⟨_, m, a, h, rfl, e, hb⟩⟩
theorem peek_rep (R : SRel Z F ρ σ H) (r : WRep Z F ρ σ H w v) (h : peek w ρ = .ok d) : RepT Z F H d v := by
  cases w with
  | p d' => cases h; exact Rep.top R.fz r
  | tmp m =>
    obtain ⟨a, rfl, r, _⟩ := r
    simp only [peek, bind_eq_ok, chk_eq_ok] at h
    obtain ⟨_, hf, h⟩ := h
    cases h
    exact r.top hf
  | ref k =>
    simp only [peek, bind_eq_ok, chk_eq_ok] at h
    obtain ⟨m, hm, _, hf, h⟩ := h
    cases h
    obtain ⟨a, rfl, r, _⟩ := R.mo hm r
    exact r.top hf
/-! ### the heap grows -/
theorem upd_grow {p : Addr} {o : HO} (hp : H p = none) : Sub H (upd H p o) := fun b u h => by
  rw [upd_ne (ne_of_none h hp)]; exact h
/-- H' has all that H has -/
theorem MoRep.sub {m : MO} {a : Addr} (s : Sub H H') (r : MoRep Z F H a m) : MoRep Z F H' a m ∧ fpL H' a m = fpL H a m := by
  have k : ∀ b ∈ fpL H a m, H' b = H b := fun b hb => by
    obtain ⟨o, ho⟩ := r.fp_some b hb
    rw [ho]; exact s b o ho
  exact ⟨r.keep Sub.refl k, fpL_eq r k⟩
theorem SRel.held_sub (R : SRel Z F ρ σ H) (s : Sub H H') {i : Nat} {b : Addr} : Held ρ σ H' i b ↔ Held ρ σ H i b := by
  have key : ∀ {s' : Sl} {m : MO} {a : Addr}, ρ[i]? = some (some s') → moOf s' = some m → σ[i]? = some (some (.ref a)) → fpL H' a m = fpL H a m := fun {s' m a} h1 h2 h3 => by
    obtain ⟨v, e, r⟩ := R.slot i s' h1
    rw [h3] at e; cases e
    cases s' with
    | own m' => cases h2; obtain ⟨_, e, r, _⟩ := r; cases e; exact (r.sub s).2
    | rd m' => cases h2; obtain ⟨_, e, r, _⟩ := r; cases e; exact (r.sub s).2
    | p d => cases h2
    | sref k => cases h2
  constructor
  · rintro ⟨s', m, a, h1, h2, h3, h4⟩
    exact ⟨s', m, a, h1, h2, h3, by rw [← key h1 h2 h3]; exact h4⟩
  · rintro ⟨s', m, a, h1, h2, h3, h4⟩
    exact ⟨s', m, a, h1, h2, h3, by rw [key h1 h2 h3]; exact h4⟩
theorem SRel.live_sub (R : SRel Z F ρ σ H) (s : Sub H H') {b : Addr} : Live ρ σ H' b ↔ Live ρ σ H b := by
  have key : ∀ {i : Nat} {m : MO} {a : Addr}, ρ[i]? = some (some (.own m)) → σ[i]? = some (some (.ref a)) → fpL H' a m = fpL H a m := fun {i m a} h1 h3 => by
    obtain ⟨v, e, a', rfl, r, _⟩ := R.slot i _ h1
    rw [h3] at e; cases e
    exact (r.sub s).2
  constructor
  · rintro ⟨i, m, a, h1, h3, h4⟩
    exact ⟨i, m, a, h1, h3, by rw [← key h1 h3]; exact h4⟩
  · rintro ⟨i, m, a, h1, h3, h4⟩
    exact ⟨i, m, a, h1, h3, by rw [key h1 h3]; exact h4⟩
theorem SRel.sub (R : SRel Z F ρ σ H) (s : Sub H H') : SRel Z F ρ σ H' := by
  refine ⟨R.fz.trans s, R.len, fun i sl h => ?_, fun i j b n h1 h2 => R.dis i j b n ((R.held_sub s).mp h1) ((R.held_sub s).mp h2)⟩
  obtain ⟨v, e, r⟩ := R.slot i sl h
  refine ⟨v, e, ?_⟩
  cases sl with
  | p d => exact r
  | sref k => exact r
  | own m => obtain ⟨a, rfl, r, n⟩ := r; exact ⟨a, rfl, (r.sub s).1, by rw [(r.sub s).2]; exact n⟩
  | rd m => obtain ⟨a, rfl, r, n⟩ := r; exact ⟨a, rfl, (r.sub s).1, by rw [(r.sub s).2]; exact n⟩
theorem SRel.advSub (R : SRel Z F ρ σ H) (s : Sub H H') : Adv [] F ρ σ H F ρ σ H' :=
  ⟨.refl, fun b o h _ => s b o h, fun b h => by
      cases q : H b with
      | none => exact absurd q h
      | some o => rw [s b o q]; simp,
    fun i b h => .inl ⟨i, (R.held_sub s).mp h⟩, fun b h => .inl ((R.live_sub s).mp h), fun b h => .inl h⟩
/-- a new object comes -/
theorem SRel.new (R : SRel Z F ρ σ H) {p : Addr} {o : HO} (hp : H p = none) : SRel Z F ρ σ (upd H p o) ∧ Adv [] F ρ σ H F ρ σ (upd H p o) := ⟨R.sub (upd_grow hp), R.advSub (upd_grow hp)⟩
theorem SRel.fz_none (R : SRel Z F ρ σ H) {p : Addr} (hp : H p = none) : F p = none := by
  cases q : F p with
  | none => rfl
  | some o => rw [R.fz p o q] at hp; cases hp
theorem SRel.no_held (R : SRel Z F ρ σ H) {p : Addr} (hp : H p = none) (i : Nat) : ¬ Held ρ σ H i p := fun h => by
  obtain ⟨o, e⟩ := R.hSome h
  rw [hp] at e; cases e
/-- the frozen part grows by what nobody holds -/
theorem SRel.freeze (R : SRel Z F ρ σ H) {F' : Hp} (s : Sub F F') (t : Sub F' H) (n : ∀ b, F' b ≠ none → F b ≠ none ∨ ∀ i, ¬ Held ρ σ H i b) : SRel Z F' ρ σ H := by
  refine ⟨t, R.len, fun i sl h => ?_, R.dis⟩
  have nn : ∀ {i : Nat} {b : Addr}, Held ρ σ H i b → F' b = none := fun {i b} hb => by
    cases q : F' b with
    | none => rfl
    | some o =>
      rcases n b (by rw [q]; simp) with z | z
      · exact absurd (R.fNone hb) z
      · exact absurd hb (z i)
  obtain ⟨v, e, r⟩ := R.slot i sl h
  refine ⟨v, e, ?_⟩
  cases sl with
  | p d => exact Rep.mono s r
  | sref k => exact r
  | own m => obtain ⟨a, rfl, r, _⟩ := r; exact ⟨a, rfl, r.keep s fun _ _ => rfl, fun b hb => nn ⟨_, m, a, h, rfl, e, hb⟩⟩
  | rd m => obtain ⟨a, rfl, r, _⟩ := r; exact ⟨a, rfl, r.keep s fun _ _ => rfl, fun b hb => nn ⟨_, m, a, h, rfl, e, hb⟩⟩
/-- F with the places of l as they stand in H -/
def withF (F H : Hp) (l : List Addr) : Hp := fun b => if b ∈ l then H b else F b
theorem withF_sub {l : List Addr} (s : Sub F H) : Sub F (withF F H l) := fun b o h => by
  unfold withF
  split
  · exact s b o h
  · exact h
theorem withF_le {l : List Addr} (s : Sub F H) : Sub (withF F H l) H := fun b o h => by
  unfold withF at h
  split at h
  · exact h
  · exact s b o h
theorem withF_in {l : List Addr} {b : Addr} (h : b ∈ l) : withF F H l b = H b := if_pos h
theorem withF_ne {l : List Addr} {b : Addr} (h : withF F H l b ≠ none) : F b ≠ none ∨ b ∈ l := by
  unfold withF at h
  split at h
  · right; assumption
  · left; exact h
theorem RepLo.froz {l : List Addr} (s : Sub F H) : ∀ {ls : List (List P)} {as : List Addr}, RepLo Z F H ls as → (∀ b ∈ as, b ∈ l) → Reps Z (withF F H l) (ls.map .lst) (as.map .ref)
  | _, _, .nil, _ => .nil
  | _, _, .cons h r t, k => .cons (.lst (by rw [withF_in (k _ List.mem_cons_self)]; exact h) (r.mono (withF_sub s))) (RepLo.froz s t fun b hb => k b (List.mem_cons_of_mem _ hb))
theorem MoRep.froz {m : MO} {a : Addr} (s : Sub F H) (r : MoRep Z F H a m) : Rep Z (withF F H (fpL H a m)) m.toP (.ref a) := by
  have sf := withF_sub (l := fpL H a m) s
  have ha : withF F H (fpL H a m) a = H a := withF_in fpL_self
  cases m with
  | lst xs => obtain ⟨vs, h, r⟩ := r; exact .lst (ha.trans h) (r.mono sf)
  | dk xs => obtain ⟨vs, h, r⟩ := r; exact .dk (ha.trans h) (r.mono sf)
  | dn xs => obtain ⟨vs, h, r⟩ := r; exact .dn ⟨ha.trans h.1, h.2⟩ (r.mono sf)
  | lo ls =>
    obtain ⟨as, h, r, _⟩ := r
    refine .lst (ha.trans h) (r.froz s fun b hb => ?_)
    simp only [fpL, refsV_map h]
    exact List.mem_cons_of_mem _ hb
theorem freeze_tmp {m : MO} {a : Addr} (R : SRel Z F ρ σ H) (r : WRep Z F ρ σ H (.tmp m) (.ref a)) :
    SRel Z (withF F H (fpL H a m)) ρ σ H ∧ Adv (fpL H a m) F ρ σ H (withF F H (fpL H a m)) ρ σ H ∧ Rep Z (withF F H (fpL H a m)) m.toP (.ref a) := by
  obtain ⟨a', e, r, n⟩ := r
  cases e
  refine ⟨R.freeze (withF_sub R.fz) (withF_le R.fz) fun b hb => ?_, ⟨withF_sub R.fz, fun b o h _ => h, fun b h => h, fun i b h => .inl ⟨i, h⟩, fun b h => .inl h, fun b h => ?_⟩, r.froz R.fz⟩
  · rcases withF_ne hb with z | z
    · exact .inl z
    · exact .inr (n b z).2
  · rcases withF_ne h with z | z
    · exact .inl z
    · exact .inr (.inr (.inr z))
/-- an owned object is given up: its slot is a frozen value -/
theorem freeze_slot {m : MO} {k : Nat} {a : Addr} (R : SRel Z F ρ σ H) (hk : ρ[k]? = some (some (.own m))) (e : σ[k]? = some (some (.ref a))) :
    SRel Z (withF F H (fpL H a m)) (ρ.set k (some (.p m.toP))) σ H ∧ Adv [] F ρ σ H (withF F H (fpL H a m)) (ρ.set k (some (.p m.toP))) σ H ∧ Rep Z (withF F H (fpL H a m)) m.toP (.ref a) := by
  obtain ⟨v, e', a', rfl, r, n⟩ := R.slot k _ hk
  rw [e] at e'; cases e'
  have hlt : k < ρ.length := (List.getElem?_eq_some_iff.mp hk).1
  have hd : ∀ {i : Nat} {b : Addr}, Held (ρ.set k (some (.p m.toP))) σ H i b → i ≠ k ∧ Held ρ σ H i b := fun {i b} h => by
    obtain ⟨s, m', a', h1, h2, h3, h4⟩ := h
    by_cases hi : k = i
    · subst hi
      rw [List.getElem?_set_self hlt] at h1
      cases h1; cases h2
    · rw [List.getElem?_set_ne hi] at h1
      exact ⟨Ne.symm hi, s, m', a', h1, h2, h3, h4⟩
  have hv : ∀ {b : Addr}, Live (ρ.set k (some (.p m.toP))) σ H b → Live ρ σ H b := fun {b} h => by
    obtain ⟨i, m', a', h1, h3, h4⟩ := h
    by_cases hi : k = i
    · subst hi
      rw [List.getElem?_set_self hlt] at h1
      cases h1
    · rw [List.getElem?_set_ne hi] at h1
      exact ⟨i, m', a', h1, h3, h4⟩
  have kh : ∀ b ∈ fpL H a m, Held ρ σ H k b := fun b hb => ⟨_, m, a, hk, rfl, e, hb⟩
  have fr := r.froz R.fz
  refine ⟨⟨withF_le R.fz, by rw [List.length_set]; exact R.len, fun i sl h => ?_, fun i j b ne h1 h2 => R.dis i j b ne (hd h1).2 (hd h2).2⟩, ⟨withF_sub R.fz, fun b o h _ => h, fun b h => h, fun i b h => .inl ⟨i, (hd h).2⟩, fun b h => .inl (hv h), fun b h => ?_⟩, fr⟩
  · by_cases hi : k = i
    · subst hi
      rw [List.getElem?_set_self hlt] at h
      cases h
      exact ⟨_, e, fr⟩
    · rw [List.getElem?_set_ne hi] at h
      obtain ⟨v, e2, r2⟩ := R.slot i sl h
      refine ⟨v, e2, ?_⟩
      have nn : ∀ {b : Addr}, Held ρ σ H i b → withF F H (fpL H a m) b = none := fun {b} hb => by
        cases q : withF F H (fpL H a m) b with
        | none => rfl
        | some o =>
          rcases withF_ne (by rw [q]; simp) with z | z
          · exact absurd (R.fNone hb) z
          · exact (R.dis k i b hi (kh b z) hb).elim
      cases sl with
      | p d => exact Rep.mono (withF_sub R.fz) r2
      | sref k => exact r2
      | own m' => obtain ⟨a', rfl, r2, _⟩ := r2; exact ⟨a', rfl, r2.keep (withF_sub R.fz) fun _ _ => rfl, fun b hb => nn ⟨_, m', a', h, rfl, e2, hb⟩⟩
      | rd m' => obtain ⟨a', rfl, r2, _⟩ := r2; exact ⟨a', rfl, r2.keep (withF_sub R.fz) fun _ _ => rfl, fun b hb => nn ⟨_, m', a', h, rfl, e2, hb⟩⟩
  · rcases withF_ne h with z | z
    · exact .inl z
    · exact .inr (.inl ⟨k, m, a, hk, e, z⟩)

/-! ### several values in flight -/
inductive WReps (Z : Ar) (F : Hp) (ρ : En) (σ : St) (H : Hp) : List W → List V → Prop
  | nil : WReps Z F ρ σ H [] []
  | cons {w : W} {v : V} {ws : List W} {vs : List V} : WRep Z F ρ σ H w v → (∀ b ∈ fpW H w v, b ∉ fpsW H ws vs) → WReps Z F ρ σ H ws vs → WReps Z F ρ σ H (w :: ws) (v :: vs)
theorem WRep.fp_some (r : WRep Z F ρ σ H w v) : ∀ b ∈ fpW H w v, ∃ o, H b = some o := by
  cases w with
  | p d => intro b hb; cases v <;> cases hb
  | ref d => intro b hb; cases v <;> cases hb
  | tmp m => obtain ⟨a, rfl, r, _⟩ := r; exact r.fp_some
theorem WRep.fp_adv {l : List Addr} (r : WRep Z F ρ σ H w v) (x : Adv l F ρ σ H F' ρ' σ H') : fpW H' w v = fpW H w v := by
  cases w with
  | p d => cases v <;> rfl
  | ref d => cases v <;> rfl
  | tmp m =>
    obtain ⟨a, rfl, r, n⟩ := r
    refine fpL_eq r fun b hb => ?_
    obtain ⟨o, ho⟩ := r.fp_some b hb
    rw [ho]
    exact x.fr b o ho fun l => by obtain ⟨i, l⟩ := l.held; exact (n b hb).2 i l
theorem WReps.fps_some : ∀ {ws : List W} {vs : List V}, WReps Z F ρ σ H ws vs → ∀ b ∈ fpsW H ws vs, ∃ o, H b = some o
  | _, _, .nil, b, hb => by cases hb
  | _, _, .cons r _ t, b, hb => by
    rcases List.mem_append.mp hb with hb | hb
    · exact r.fp_some b hb
    · exact WReps.fps_some t b hb
theorem WReps.fps_adv {l : List Addr} (x : Adv l F ρ σ H F' ρ' σ H') : ∀ {ws : List W} {vs : List V}, WReps Z F ρ σ H ws vs → fpsW H' ws vs = fpsW H ws vs
  | _, _, .nil => rfl
  | _, _, .cons r _ t => by
    show fpW H' _ _ ++ fpsW H' _ _ = fpW H _ _ ++ fpsW H _ _
    rw [r.fp_adv x, WReps.fps_adv x t]
theorem WReps.adv {l : List Addr} (x : Adv l F ρ σ H F' ρ' σ H') : ∀ {ws : List W} {vs : List V}, WReps Z F ρ σ H ws vs → (∀ b ∈ fpsW H ws vs, b ∉ l) → WReps Z F' ρ' σ H' ws vs
  | _, _, .nil, _ => .nil
  | _, _, .cons r n t, k => .cons (r.adv x fun b hb => k b (List.mem_append_left _ hb)) (by rw [r.fp_adv x, WReps.fps_adv x t]; exact n) (WReps.adv x t fun b hb => k b (List.mem_append_right _ hb))
theorem WReps.length : ∀ {ws : List W} {vs : List V}, WReps Z F ρ σ H ws vs → ws.length = vs.length
  | _, _, .nil => rfl
  | _, _, .cons _ _ t => by simp [WReps.length t]

/-- a value in flight is frozen -/
theorem frz_ok (R : SRel Z F ρ σ H) (r : WRep Z F ρ σ H w v) (h : frz w ρ = .ok (d, ρ')) :
    ∃ F', SRel Z F' ρ' σ H ∧ Adv (fpW H w v) F ρ σ H F' ρ' σ H ∧ Rep Z F' d v := by
  cases w with
  | p d' =>
    cases h
    refine ⟨F, R, ?_, r⟩
    have : fpW H (.p d) v = [] := by cases v <;> rfl
    rw [this]
    exact .refl
  | tmp m =>
    cases h
    obtain ⟨a, rfl, _, _⟩ := id r
    exact ⟨_, freeze_tmp R r⟩
  | ref k =>
    simp only [frz, bind_eq_ok] at h
    obtain ⟨m, hm, h⟩ := h
    cases h
    obtain ⟨a, rfl, r1, _⟩ := R.mo (getOwn_getMO hm) r
    exact ⟨_, freeze_slot R (getOwn_ok hm) r⟩
theorem frzs_ok {ws : List W} {vs : List V} {ds : List P} (R : SRel Z F ρ σ H) (r : WReps Z F ρ σ H ws vs) (h : frzs ws ρ = .ok (ds, ρ')) :
    ∃ F', SRel Z F' ρ' σ H ∧ Adv (fpsW H ws vs) F ρ σ H F' ρ' σ H ∧ Reps Z F' ds vs := by
  induction ws generalizing vs ds F ρ with
  | nil => cases r; cases h; exact ⟨F, R, .refl, .nil⟩
  | cons w ws ih =>
    cases r with
    | cons r n t =>
      simp only [frzs, bind_eq_ok] at h
      obtain ⟨⟨d, ρ1⟩, h1, ⟨ds', ρ2⟩, h2, h⟩ := h
      cases h
      obtain ⟨F1, R1, A1, r1⟩ := frz_ok R r h1
      have t1 := t.adv A1 fun b hb hc => n b hc hb
      obtain ⟨F2, R2, A2, r2⟩ := ih R1 t1 h2
      exact ⟨F2, R2, A1.trans A2, .cons (r1.mono A2.fz) r2⟩
end

/-! ### readings -/
section
variable (Z : Ar) (call : Call)
def tE (e : CE) : TE := fun σ H Q => ∃ F ρ w ρ', SRel Z F ρ σ H ∧ evE call e ρ = .ok (w, ρ') ∧
  ∀ v F' H', SRel Z F' ρ' σ H' → Adv [] F ρ σ H F' ρ' σ H' → WRep Z F' ρ' σ H' w v → Fresh H H' w v → Q v H'
def tEs (es : List CE) : TA := fun σ H Q => ∃ F ρ ws ρ', SRel Z F ρ σ H ∧ evEs call es ρ = .ok (ws, ρ') ∧
  ∀ vs F' H', SRel Z F' ρ' σ H' → Adv [] F ρ σ H F' ρ' σ H' → WReps Z F' ρ' σ H' ws vs → (∀ b ∈ fpsW H' ws vs, H b = none) → Q vs H'
def tT (e : CE) : TT := fun σ H Q => ∃ F ρ b ρ', SRel Z F ρ σ H ∧ evT call e ρ = .ok (b, ρ') ∧
  ∀ F' H', SRel Z F' ρ' σ H' → Adv [] F ρ σ H F' ρ' σ H' → Q b H'
end
theorem PE.imp {X : Cx} {e : Expr} {t t' : TE} (h : PE X e t) (i : ∀ σ H Q, t' σ H Q → t σ H Q) : PE X e t' := ⟨fun pins s σ H Q I q => h.run pins s σ H Q I (i σ H Q q)⟩
theorem PT.imp {X : Cx} {e : Expr} {t t' : TT} (h : PT X e t) (i : ∀ σ H Q, t' σ H Q → t σ H Q) : PT X e t' := ⟨fun pins s σ H Q I q => h.run pins s σ H Q I (i σ H Q q)⟩
theorem PA.imp {X : Cx} {e : List Expr} {t t' : TA} (h : PA X e t) (i : ∀ σ H Q, t' σ H Q → t σ H Q) : PA X e t' := ⟨fun pos pins s σ H Q I q => h.run pos pins s σ H Q I (i σ H Q q)⟩
end Ev

/-! EvX: readings of the constructs, by the evaluator. -/
namespace Ev
open PySem PySem.Spec PyProof.Rows L2

/-- a def's promise: what its evaluation gives -/
def spF (Z : Ar) (call : Call) (f : Str) (k : Nat) : Sp := fun vs H Q _ => vs.length = k ∧ ∃ F as w as', SRel Z F (as.map some) (vs.map some) H ∧ call f as = .ok (w, as') ∧
  ∀ v F' H', SRel Z F' (as'.map some) (vs.map some) H' → Adv [] F (as.map some) (vs.map some) H F' (as'.map some) (vs.map some) H' → WRep Z F' (as'.map some) (vs.map some) H' w v → Fresh H H' w v → Q v H'
structure FnAt (Z : Ar) (call : Call) (X : Cx) (f : Str) (k : Nat) (af : Addr) (fd : FuncData) (ps : List Str) (lv : Nat) : Prop where
  mg : X.mg f = some (.ref af)
  kp : PySem.W.keepIn X.K (.ref af) = true
  bd : Binds X.K fd ps []
  ok : FnOk X.prog X.w X.K X.mg X.base CX0 lv af fd ps (spF Z call f k)
  rm : Room lv X.A
structure Mt (Z : Ar) (call : Call) (c : CC) (X : Cx) : Prop where
  pg : X.prog = Z.Pg
  ww : X.w = Z.w
  K : X.K = Z.K
  N : X.N = c.N
  nd : X.N.Nodup
  sc : X.env.scope = c.sc
  kd : X.env.scope.kind = .function
  calm : X.calm = true
  xe : X.xe = fun _ _ => False
  un : X.A.units + 100 < cLine
  wr : ∀ x, c.wr.contains x = true → Loc X.env.scope x ∧ (X.fn x = true ∨ X.env.scope.names.lookup x = some .local)
  free : ∀ x, c.free.contains x = true → X.mg x = none
  fns : ∀ f k, c.fns.lookup f = some k → ∃ af fd ps lv, FnAt Z call X f k af fd ps lv

theorem ixOf_go {x : Str} : ∀ {N : List Str} {i j : Nat}, ixOf.go x N i = some j → ∃ k, j = i + k ∧ N[k]? = some x
  | [], i, j, h => by cases h
  | y :: ys, i, j, h => by
    unfold ixOf.go at h
    split at h
    · rename_i e
      cases h
      exact ⟨0, rfl, by simp [e]⟩
    · obtain ⟨k, e, q⟩ := ixOf_go h
      exact ⟨k + 1, by omega, by simpa using q⟩
theorem ixOf_ok {N : List Str} {x : Str} {i : Nat} (h : ixOf N x = some i) : N[i]? = some x := by
  obtain ⟨k, e, q⟩ := ixOf_go h
  rw [e]
  simpa using q
theorem visB_ok {sc : Scope} {x : Str} (h : visB sc x = true) : Vis sc x := by
  unfold visB at h
  split at h
  · left; assumption
  · right; left; assumption
  · right; right; assumption
  · cases h
theorem glB_ok {X : Cx} {x : Str} (h : glB X.env.scope x = true) : Gl X x := by
  unfold glB at h
  split at h
  · assumption
  · cases h
theorem plainNm_ok {x : Str} (h : plainNm x = true) : (x == ("__debug__" : Str)) = false ∧ (x == ("__classdict__" : Str)) = false ∧ x ≠ ("__name__" : Str) := by
  unfold plainNm at h
  simp only [Bool.and_eq_true, beq_iff_eq] at h
  refine ⟨by simpa using h.1.1, by simpa using h.1.2, ?_⟩
  intro e
  subst e
  simp at h

section
variable {Z : Ar} {call : Call} {F F' F'' H H' H'' : Hp} {ρ ρ' ρ'' : En} {σ : St} {Q : VK}
/-! ### constants, names -/
theorem rd_const {d : P} {v : V} (r : ∀ F, Rep Z F d v) (h : tE Z call (.c d) σ H Q) : tC v σ H Q := by
  obtain ⟨F, ρ, w, ρ', R, e, k⟩ := h
  cases e
  exact k v F H R .refl (r F) (by intro b hb; cases v <;> cases hb)
theorem rd_var {i : Nat} (h : tE Z call (.v i) σ H Q) : tVar i σ H Q := by
  obtain ⟨F, ρ, w, ρ', R, e, k⟩ := h
  simp only [evE] at e
  have fr : ∀ {k : Nat} {v : V}, Fresh H H (.ref k) v := by intro k v b hb; cases v <;> cases hb
  split at e
  · rename_i d hs
    cases e
    obtain ⟨v, hv, r⟩ := R.slot i _ hs
    exact ⟨v, hv, k v F H R .refl r (by intro b hb; cases v <;> cases hb)⟩
  · rename_i m hs
    cases e
    obtain ⟨v, hv, r⟩ := R.slot i _ hs
    exact ⟨v, hv, k v F H R .refl hv fr⟩
  · rename_i m hs
    cases e
    obtain ⟨v, hv, r⟩ := R.slot i _ hs
    exact ⟨v, hv, k v F H R .refl hv fr⟩
  · rename_i j hs
    cases e
    obtain ⟨v, hv, r⟩ := R.slot i _ hs
    exact ⟨v, hv, k v F H R .refl r fr⟩
  · cases e
/-! ### argument lists -/
theorem rd_nil {Q : List V → Hp → Prop} (h : tEs Z call [] σ H Q) : tNil σ H Q := by
  obtain ⟨F, ρ, ws, ρ', R, e, k⟩ := h
  cases e
  exact k [] F H R .refl .nil (by intro b hb; cases hb)
theorem rd_cons {e : CE} {es : List CE} {Q : List V → Hp → Prop} (h : tEs Z call (e :: es) σ H Q) : tCons (tE Z call e) (tEs Z call es) σ H Q := by
  obtain ⟨F, ρ, ws, ρ', R, ev, k⟩ := h
  simp only [evEs, bind_eq_ok] at ev
  obtain ⟨⟨w, ρ1⟩, e1, ⟨ws', ρ2⟩, e2, ev⟩ := ev
  cases ev
  refine ⟨F, ρ, w, ρ1, R, e1, fun v F1 H1 R1 A1 W1 f1 => ⟨F1, ρ1, ws', ρ2, R1, e2, fun vs F2 H2 R2 A2 W2 f2 => ?_⟩⟩
  have efp : fpW H2 w v = fpW H1 w v := W1.fp_adv A2
  refine k (v :: vs) F2 H2 R2 (A1.then A2 (by simp)) (.cons (W1.adv0 A2) (fun b hb hc => ?_) W2) fun b hb => ?_
  · rw [efp] at hb
    obtain ⟨o, ho⟩ := W1.fp_some b hb
    rw [f2 b hc] at ho
    cases ho
  · rcases List.mem_append.mp hb with hb | hb
    · rw [efp] at hb
      exact f1 b hb
    · exact A1.key (f2 b hb)
theorem rd_list1 {a : CE} {Q : List V → Hp → Prop} {R : V → Hp → Prop} (h : tE Z call a σ H R) (i : ∀ v H', R v H' → Q [v] H') : tCons (tE Z call a) tNil σ H Q := by
  obtain ⟨F, ρ, w, ρ', R', e, k⟩ := h
  exact ⟨F, ρ, w, ρ', R', e, fun v F' H' r a w f => i v H' (k v F' H' r a w f)⟩
/-! ### displays -/
theorem fresh_p {d : P} {v : V} : Fresh H H' (.p d) v := by intro b hb; cases v <;> cases hb
theorem adv_new {p : Addr} {o : HO} (R : SRel Z F ρ σ H) (hp : H p = none) : SRel Z F ρ σ (upd H p o) ∧ Adv [] F ρ σ H F ρ σ (upd H p o) := R.new hp
theorem tmp_new {p : Addr} {o : HO} {m : MO} (R : SRel Z F ρ σ H) (hp : H p = none) (hf : ∀ b ∈ fpL (upd H p o) p m, b = p) (r : MoRep Z F (upd H p o) p m) : WRep Z F ρ σ (upd H p o) (.tmp m) (.ref p) := by
  refine ⟨p, rfl, r, fun b hb => ?_⟩
  have := hf b hb
  subst this
  exact ⟨R.fz_none hp, fun i hi => R.no_held hp i ((R.held_sub (upd_grow hp)).mp hi)⟩
theorem fp_lst {p : Addr} {xs : List P} : ∀ b ∈ fpL H p (.lst xs), b = p := by intro b hb; simpa [fpL] using hb
theorem fp_dk {p : Addr} {xs : List (Key × P)} : ∀ b ∈ fpL H p (.dk xs), b = p := by intro b hb; simpa [fpL] using hb
/-- a new tuple: it is frozen at once -/
theorem tup_new {p : Addr} {vs : List V} {ds : List P} {o : Obj} (R : SRel Z F ρ σ H) (hp : H p = none) (ho : o.dict = none) (r : Reps Z F ds vs) :
    ∃ F', SRel Z F' ρ σ (upd H p (.frz o (.tup vs))) ∧ Adv [] F ρ σ H F' ρ σ (upd H p (.frz o (.tup vs))) ∧ Rep Z F' (.tup ds) (.ref p) := by
  obtain ⟨R1, A1⟩ := R.new (o := .frz o (.tup vs)) hp
  have nh : ∀ i, ¬ Held ρ σ (upd H p (.frz o (.tup vs))) i p := fun i hi => R.no_held hp i ((R.held_sub (upd_grow hp)).mp hi)
  have sf := withF_sub (l := [p]) R1.fz
  refine ⟨withF F (upd H p (.frz o (.tup vs))) [p], R1.freeze sf (withF_le R1.fz) fun b hb => ?_, ⟨sf, A1.fr, A1.tr, A1.nl, A1.nv, fun b hb => ?_⟩, .tup (.inl ⟨o, by rw [withF_in (by simp), upd_same], ho⟩) (r.mono sf)⟩
  · rcases withF_ne hb with z | z
    · exact .inl z
    · simp at z; subst z; exact .inr nh
  · rcases withF_ne hb with z | z
    · exact .inl z
    · simp at z; subst z; exact .inr (.inr (.inl hp))
/-- a written tuple: its object is known -/
def tTupF (t : TA) : TE := fun σ H Q => t σ H fun xs H1 => xs.length ≤ sizeLine ∧ ∀ p o, H1 p = none → o.dict = none → Q (.ref p) (upd H1 p (.frz o (.tup xs)))
theorem Inv.laidTup {X : Cx} {pins : List (Addr × Obj)} {σ : St} {H : Hp} {s : Shared} {xs : List V} {its : List Value} (I : Inv X pins σ H s) (r : Vals xs its) (hz : xs.length ≤ sizeLine) :
    Inv X pins σ (upd H s.heap.objs.size (.frz { cls := .type "tuple", data := .seq its.toArray } (.tup xs))) { s with heap := s.heap.push { cls := .type "tuple", data := .seq its.toArray } } := by
  have hg : (s.heap.push { cls := .type "tuple", data := .seq its.toArray }).get? s.heap.objs.size = some { cls := .type "tuple", data := .seq its.toArray } := Heap.get?_push_size _ rfl
  exact I.laid (t' := s.toks) (fun b ob q => Heap.get?_push_of_some _ q) (Nat.le_refl _) ⟨hg, hz, its, r, ⟨_, hg, rfl, _, rfl⟩⟩
theorem pe_tupF {X : Cx} {es : List Expr} {t : TA} {pos : Pos} {x1} (h : PA X es t) : PE X (.Tuple es x1 pos) (tTupF t) := by
  refine ⟨fun pins s σ H Q I hq => ?_⟩
  refine wpAny_Tuple_spliced (thn (h.run pos pins s σ H _ I hq) fun us s1 ⟨xs, H1, I1, r, z, q⟩ => ⟨by rw [← r.length]; exact z, ?_⟩)
  exact ⟨.ref s1.heap.objs.size, _, Ev.Inv.laidTup I1 r z, rfl, q _ _ (I1.hok.fresh (Nat.le_refl _)) rfl⟩
theorem evEs_len {es : List CE} {ρ : En} {ws : List W} {ρ' : En} (h : evEs call es ρ = .ok (ws, ρ')) : ws.length = es.length := by
  induction es generalizing ρ ws ρ' with
  | nil => simp only [evEs] at h; cases h; rfl
  | cons e es ih =>
    simp only [evEs, bind_eq_ok] at h
    obtain ⟨⟨w, ρ1⟩, e1, ⟨ws', ρ2⟩, e2, h⟩ := h
    cases h
    simp [ih e2]
theorem fresh_tmp {p : Addr} {m : MO} (hf : ∀ b ∈ fpL H' p m, b = p) (hp : H p = none) : Fresh H H' (.tmp m) (.ref p) := by
  intro b hb
  have := hf b hb
  subst this
  exact hp
theorem rd_tup {es : List CE} (hl : es.length ≤ 1000) (h : tE Z call (.tup es) σ H Q) : tTupF (tEs Z call es) σ H Q := by
  obtain ⟨F, ρ, w, ρ', R, ev, k⟩ := h
  simp only [evE, bind_eq_ok] at ev
  obtain ⟨⟨ws, ρ1⟩, e1, ⟨ds, ρ2⟩, e2, ev⟩ := ev
  cases ev
  refine ⟨F, ρ, ws, ρ1, R, e1, fun vs F1 H1 R1 A1 W1 f1 => ⟨?_, fun p o hp ho => ?_⟩⟩
  · rw [← W1.length, evEs_len e1]
    rw [sizeLine_eq]; omega
  · obtain ⟨F2, R2, A2, r2⟩ := frzs_ok R1 W1 e2
    obtain ⟨F3, R3, A3, r3⟩ := tup_new R2 hp ho r2
    exact k _ F3 _ R3 ((A1.then A2 f1).then A3 (by simp)) r3 fresh_p
theorem rd_lst {es : List CE} (hl : es.length ≤ 1000) (h : tE Z call (.lst es) σ H Q) : tLst (tEs Z call es) σ H Q := by
  obtain ⟨F, ρ, w, ρ', R, ev, k⟩ := h
  simp only [evE, bind_eq_ok] at ev
  obtain ⟨⟨ws, ρ1⟩, e1, ⟨ds, ρ2⟩, e2, ev⟩ := ev
  cases ev
  refine ⟨F, ρ, ws, ρ1, R, e1, fun vs F1 H1 R1 A1 W1 f1 => ⟨?_, fun p hp => ?_⟩⟩
  · rw [← W1.length, evEs_len e1]
    rw [sizeLine_eq]; omega
  · obtain ⟨F2, R2, A2, r2⟩ := frzs_ok R1 W1 e2
    obtain ⟨R3, A3⟩ := R2.new (o := .lst vs) hp
    refine k _ F2 _ R3 ((A1.then A2 f1).then A3 (by simp)) (tmp_new R2 hp fp_lst ⟨vs, upd_same, r2⟩) (fresh_tmp fp_lst (A1.key hp))
/-! ### two values, then an operation on what they are -/
/-- both sides evaluated: their values as they lie then -/
theorem rd_two {a b : CE} {r : R2} {x y : W} {dx dy : P} {ρ1 ρ2 : En} (R : SRel Z F ρ σ H) (e1 : evE call a ρ = .ok (x, ρ1)) (e2 : evE call b ρ1 = .ok (y, ρ2)) (p1 : peek x ρ2 = .ok dx) (p2 : peek y ρ2 = .ok dy)
    (k : ∀ v u F2 H2, SRel Z F2 ρ2 σ H2 → Adv [] F ρ σ H F2 ρ2 σ H2 → RepT Z F2 H2 dx v → RepT Z F2 H2 dy u → r v u H2 Q) : tOp r (tE Z call a) (tE Z call b) σ H Q := by
  refine ⟨F, ρ, x, ρ1, R, e1, fun v F1 H1 R1 A1 W1 f1 => ⟨F1, ρ1, y, ρ2, R1, e2, fun u F2 H2 R2 A2 W2 f2 => ?_⟩⟩
  exact k v u F2 H2 R2 (A1.then A2 (by simp)) (peek_rep R2 (W1.adv0 A2) p1) (peek_rep R2 W2 p2)
theorem rd_one {a : CE} {x : W} {dx : P} {ρ1 : En} {t : V → Hp → Prop} (R : SRel Z F ρ σ H) (e1 : evE call a ρ = .ok (x, ρ1)) (p1 : peek x ρ1 = .ok dx)
    (k : ∀ v F2 H2, SRel Z F2 ρ1 σ H2 → Adv [] F ρ σ H F2 ρ1 σ H2 → RepT Z F2 H2 dx v → t v H2) : tE Z call a σ H t :=
  ⟨F, ρ, x, ρ1, R, e1, fun v F1 H1 R1 A1 W1 _ => k v F1 H1 R1 A1 (peek_rep R1 W1 p1)⟩
end
end Ev

/-! EvO: the rules of operations, over plain data. -/
namespace Ev
open PySem PySem.Spec PyProof.Rows L2

/-- what an operation gives: a value without a new object, a new tuple, a new list or dict -/
inductive OutR (Z : Ar) (F H : Hp) : W → V → Hp → Prop
  | val {d : P} {v : V} : Rep Z F d v → OutR Z F H (.p d) v H
  | tup {ds : List P} {vs : List V} {p : Addr} {o : Obj} : H p = none → o.dict = none → Reps Z F ds vs → OutR Z F H (.p (.tup ds)) (.ref p) (upd H p (.frz o (.tup vs)))
  | tmp {m : MO} {o : HO} {p : Addr} : H p = none → (∀ b ∈ fpL (upd H p o) p m, b = p) → MoRep Z F (upd H p o) p m → OutR Z F H (.tmp m) (.ref p) (upd H p o)
section
variable {Z : Ar} {F F' H H' : Hp} {ρ : En} {σ : St} {w : W} {v : V}
theorem OutR.post (R : SRel Z F ρ σ H) (o : OutR Z F H w v H') : ∃ F', SRel Z F' ρ σ H' ∧ Adv [] F ρ σ H F' ρ σ H' ∧ WRep Z F' ρ σ H' w v ∧ Fresh H H' w v := by
  cases o with
  | val r => exact ⟨F, R, .refl, r, fresh_p⟩
  | tup hp ho r =>
    obtain ⟨F', R', A', r'⟩ := tup_new R hp ho r
    exact ⟨F', R', A', r', fresh_p⟩
  | tmp hp hf r =>
    obtain ⟨R1, A1⟩ := R.new hp
    exact ⟨F, R1, A1, tmp_new R hp hf r, fresh_tmp hf hp⟩
end

/-! ### nested keys in the heap -/
section
variable {Z : Ar} {X : Cx} {pins : List (Addr × Obj)} {σ : St} {H : Hp} {s : Shared}
mutual
theorem nested_of (hK : X.K = Z.K) (I : Inv X pins σ H s) : ∀ {d : P} {v : V} {u : Value} {k : NestedKey}, Rep Z H d v → RelV v u → nk d = some k → NestedIs s.heap k u
  | _, _, _, _, .non, r, h => by cases h; cases r; exact .none
  | _, _, _, _, .bl b, r, h => by cases h; cases r; exact .bool rfl
  | _, _, _, _, .int i, r, h => by cases h; obtain ⟨t, rfl⟩ := r; exact .int i t
  | _, _, _, _, .str x, r, h => by cases h; obtain ⟨t, rfl⟩ := r; exact .text x t
  | .tup xs, _, _, k, .tup hs rs, r, h => by
    have hs := hs.sqT
    rw [← hK] at hs
    obtain ⟨its, rv, ht, _⟩ := I.tuple hs
    cases r
    cases e : nks xs with
    | none => rw [nk, e] at h; cases h
    | some ks =>
      rw [nk, e] at h
      cases h
      obtain ⟨o, ho, hc, n, hd⟩ := ht
      exact .tup ho hc hd (by simpa using nesteds_of hK I rs rv e)
  | _, _, _, _, .lst _ _, _, h => by cases h
  | _, _, _, _, .ls _ _, _, h => by cases h
  | _, _, _, _, .dk _ _, _, h => by cases h
  | _, _, _, _, .dn _ _, _, h => by cases h
theorem nesteds_of (hK : X.K = Z.K) (I : Inv X pins σ H s) : ∀ {ds : List P} {vs : List V} {us : List Value} {ks : List NestedKey}, Reps Z H ds vs → Vals vs us → nks ds = some ks → NestedAll s.heap ks us
  | _, _, _, _, .nil, .nil, h => by cases h; exact .nil
  | d :: ds, _, _, ks, .cons r t, .cons rv tv, h => by
    cases e1 : nk d with
    | none => rw [nks, e1] at h; cases h
    | some k =>
      cases e2 : nks ds with
      | none => rw [nks, e1, e2] at h; cases h
      | some ks' =>
        rw [nks, e1, e2] at h
        cases h
        exact .cons (nested_of hK I r rv e1) (nesteds_of hK I t tv e2)
end
end
theorem nkey_ok {d : P} {k : NestedKey} (h : nkey d = some k) : nk d = some k ∧ k.depth ≤ 8 := by
  unfold nkey at h
  split at h
  · rename_i k' e
    split at h
    · cases h; exact ⟨e, by assumption⟩
    · cases h
  · cases h

section
open SeqAt
theorem rc_key {A : Around} {s : Shared} : ∀ (x y : NestedKey) {a b : Value}, NestedIs s.heap x a → NestedIs s.heap y b → A.units + min x.depth y.depth < cLine → RcAt A s a b (NestedKey.beq x y) ∧ RcNeAt A s a b (!NestedKey.beq x y) := by
  intro x y a b ra rb hu
  have h0 : A.units < cLine := by omega
  cases ra with
  | none =>
    cases rb with
    | none => exact ⟨RcAt.none_none, RcNeAt.none_none⟩
    | @bool d _ e => exact ⟨RcAt.none_bool d, RcNeAt.none_bool d⟩
    | int y u => exact ⟨RcAt.none_int y u, RcNeAt.none_int y u⟩
    | text y u => exact ⟨RcAt.none_str y u, RcNeAt.none_str y u⟩
    | tup k1 k2 k3 k4 => exact ⟨RcAt.none_tuple ⟨_, k1, k2, _, k3⟩ h0, RcNeAt.none_tuple ⟨_, k1, k2, _, k3⟩ h0⟩
  | @bool c _ ec =>
    subst ec
    cases rb with
    | none => exact ⟨RcAt.bool_none c, RcNeAt.bool_none c⟩
    | @bool d _ e =>
      subst e
      have e : NestedKey.beq (.num (if c = true then 1 else 0)) (.num (if d = true then 1 else 0)) = (c == d) := by cases c <;> cases d <;> rfl
      rw [e]; exact ⟨RcAt.bool_bool c d, RcNeAt.bool_bool c d⟩
    | int y u =>
      have e : NestedKey.beq (.num (if c = true then 1 else 0)) (.num y) = ((if c = true then 1 else 0) == y) := by cases c <;> rfl
      rw [e]; exact ⟨RcAt.bool_int c y u, RcNeAt.bool_int c y u⟩
    | text y u => exact ⟨RcAt.bool_str c y u, RcNeAt.bool_str c y u⟩
    | tup k1 k2 k3 k4 => exact ⟨RcAt.bool_tuple c ⟨_, k1, k2, _, k3⟩ h0, RcNeAt.bool_tuple c ⟨_, k1, k2, _, k3⟩ h0⟩
  | int i t =>
    cases rb with
    | none => exact ⟨RcAt.int_none i t, RcNeAt.int_none i t⟩
    | @bool d _ e =>
      subst e
      have e : NestedKey.beq (.num i) (.num (if d = true then 1 else 0)) = (i == (if d = true then 1 else 0)) := by cases d <;> rfl
      rw [e]; exact ⟨RcAt.int_bool i t d, RcNeAt.int_bool i t d⟩
    | int y u =>
      have e : NestedKey.beq (.num i) (.num y) = (i == y) := rfl
      rw [e]; exact ⟨RcAt.int_int i t y u, RcNeAt.int_int i t y u⟩
    | text y u => exact ⟨RcAt.int_str i t y u, RcNeAt.int_str i t y u⟩
    | tup k1 k2 k3 k4 => exact ⟨RcAt.int_tuple i t ⟨_, k1, k2, _, k3⟩ h0, RcNeAt.int_tuple i t ⟨_, k1, k2, _, k3⟩ h0⟩
  | text x t =>
    cases rb with
    | none => exact ⟨RcAt.str_none x t, RcNeAt.str_none x t⟩
    | @bool d _ e => exact ⟨RcAt.str_bool x t d, RcNeAt.str_bool x t d⟩
    | int y u => exact ⟨RcAt.str_int x t y u, RcNeAt.str_int x t y u⟩
    | text y u =>
      have e : NestedKey.beq (.text x) (.text y) = (x == y) := rfl
      rw [e]; exact ⟨RcAt.str_str x t y u, RcNeAt.str_str x t y u⟩
    | tup k1 k2 k3 k4 => exact ⟨RcAt.str_tuple x t ⟨_, k1, k2, _, k3⟩ h0, RcNeAt.str_tuple x t ⟨_, k1, k2, _, k3⟩ h0⟩
  | @tup l o vs n xs h1 h2 h3 h4 =>
    have hl : s.heap.IsTuple l vs := ⟨_, h1, h2, _, h3⟩
    cases rb with
    | none => exact ⟨RcAt.tuple_none hl h0, RcNeAt.tuple_none hl h0⟩
    | @bool d _ e => exact ⟨RcAt.tuple_bool d hl h0, RcNeAt.tuple_bool d hl h0⟩
    | int y u => exact ⟨RcAt.tuple_int y u hl h0, RcNeAt.tuple_int y u hl h0⟩
    | text y u => exact ⟨RcAt.tuple_str y u hl h0, RcNeAt.tuple_str y u hl h0⟩
    | @tup l' o' vs' n' ys k1 k2 k3 k4 =>
      have hl' : s.heap.IsTuple l' vs' := ⟨_, k1, k2, _, k3⟩
      have n1 : vs.size = xs.length := by simpa using NestedAll.length _ _ h4
      have n2 : vs'.size = ys.length := by simpa using NestedAll.length _ _ k4
      have he : ∀ j (h1 : j < vs.size) (h2 : j < vs'.size), EqAt A.in1 s vs[j] vs'[j] (keyEqAt xs ys j) := fun j j1 j2 => by
        have hu' : A.in1.units + min (NestedKey.depthAll xs) (NestedKey.depthAll ys) < cLine := by
          simp only [NestedKey.depth, Around.in1_units] at hu ⊢; omega
        have := eqAt_keys xs ys A.in1 s vs.toList vs'.toList h4 k4 hu' j (by simpa using j1) (by simpa using j2)
        simpa using this
      show RcAt A s (.ref l) (.ref l') (NestedKey.beqAll xs ys) ∧ RcNeAt A s (.ref l) (.ref l') (!NestedKey.beqAll xs ys)
      rw [← beqAll_eq xs ys, ← n1, ← n2]
      exact ⟨RcAt.tuples hl hl' h0 he, RcNeAt.tuples hl hl' h0 he⟩
end

/-! ### operators -/
section
variable {Z : Ar} {X : Cx} {F H : Hp}
/-- both sides as they lie -/
def rV2 (Z : Ar) (f : P → P → R W) : R2 := fun x y H Q => ∃ F dx dy w, Sub F H ∧ RepT Z F H dx x ∧ RepT Z F H dy y ∧ f dx dy = .ok w ∧ ∀ v H', OutR Z F H w v H' → Q v H'
def rB2 (Z : Ar) (f : P → P → R Bool) : R2 := fun x y H Q => ∃ F dx dy b, Sub F H ∧ RepT Z F H dx x ∧ RepT Z F H dy y ∧ f dx dy = .ok b ∧ Q (.bl b) H
theorem Reps.vals_nil {ds : List P} {vs : List V} (r : Reps Z F ds vs) : vs = [] ↔ ds = [] := by
  cases r <;> simp
/-- t + u -/
def rCatT2 (K : PySem.W.Frag) : R2 := fun x y H Q => ∃ a b xs ys, x = .ref a ∧ y = .ref b ∧ SqT K H a xs ∧ SqT K H b ys ∧ xs.length + ys.length ≤ sizeLine ∧
  (xs = [] → Q (.ref b) H) ∧ (xs ≠ [] → ys = [] → Q (.ref a) H) ∧ (xs ≠ [] → ys ≠ [] → ∀ p o, H p = none → o.dict = none → Q (.ref p) (upd H p (.frz o (.tup (xs ++ ys)))))
theorem op_catT2 : OpR X (binaryOp .Add) (rCatT2 X.K) := by
  intro pins s σ H x y v u Q I rx ry h
  obtain ⟨a, b, xs, ys, rfl, rfl, ha, hb, hz, q0, q1, q2⟩ := h
  obtain ⟨its, r1, p1, _⟩ := I.tuple ha
  obtain ⟨its2, r2, p2, _⟩ := I.tuple hb
  cases rx
  cases ry
  by_cases hx : xs = []
  · obtain ⟨⟨cls, dd, data, sl⟩, ho, hc, n, hd⟩ := id p1
    obtain ⟨⟨cls2, dd2, data2, sl2⟩, ho2, hc2, n2, hd2⟩ := id p2
    simp only at hc hd hc2 hd2
    subst hc hd hc2 hd2
    have e : its = [] := r1.nil_iff.mpr hx
    exact concat_meets ⟨_, ho, rfl⟩ ⟨_, ho2, rfl⟩ noFill_tuple_add seq_tuple_add PySem.F.slot_tuple_add PySem.F.entry_tuple_add (PySem.F.args_tuple_add_2 _ _)
      (tuple_addW0 a b its.toArray its2.toArray n n2 dd dd2 sl sl2 (by simp [e])) ⟨ho, ho2, ⟨.ref b, H, I, rfl, q0 hx⟩⟩
  · refine HT.cat_tup p1 p2 (fun z => hx (r1.nil_iff.mp z)) (fun z => ⟨.ref a, H, I, rfl, q1 hx (r2.nil_iff.mp z)⟩) (fun z => ?_) (by rw [← r1.length, ← r2.length]; exact hz)
    exact ⟨.ref s.heap.objs.size, _, Ev.Inv.laidTup I (r1.append r2) (by rw [List.length_append]; exact hz), rfl, q2 hx (fun w => z (r2.nil_iff.mpr w)) _ _ (I.hok.fresh (Nat.le_refl _)) rfl⟩
theorem op_bin (hK : X.K = Z.K) {o : Operator} : OpR X (binaryOp o) (rV2 Z (binP o)) := by
  intro pins s σ H x y v u Q I rx ry h
  obtain ⟨F, dx, dy, w, sub, r1, r2, e, k⟩ := h
  cases o with
  | Add =>
    cases r1 with
    | int i =>
      cases r2 with
      | int j => cases e; exact op_add pins s σ H _ _ v u Q I rx ry ⟨i, j, rfl, rfl, k _ _ (.val (.int _))⟩
      | _ => cases e
    | str i =>
      cases r2 with
      | str j =>
        simp only [binP] at e
        split at e
        · rename_i hl
          cases e
          exact op_add_str pins s σ H _ _ v u Q I rx ry ⟨i, j, rfl, rfl, hl, k _ _ (.val (.str _))⟩
        · cases e
      | _ => cases e
    | @tup a xs vs h1 s1 =>
      cases r2 with
      | @tup b ys us h2 s2 =>
        simp only [binP] at e
        split at e
        · rename_i hl
          cases e
          refine op_catT2 pins s σ H _ _ v u Q I rx ry ⟨a, b, vs, us, rfl, rfl, by rw [hK]; exact sub.sqT h1.sqT, by rw [hK]; exact sub.sqT h2.sqT, by rw [← s1.length, ← s2.length]; exact hl, fun z => ?_, fun _ z => ?_, fun _ _ p o hp ho => ?_⟩
          · have z := s1.vals_nil.mp z
            subst z
            exact k _ _ (.val (.tup h2 s2))
          · have z := s2.vals_nil.mp z
            subst z
            rw [List.append_nil] at k
            exact k _ _ (.val (.tup h1 s1))
          · exact k _ _ (.tup hp ho (s1.append s2))
        · cases e
      | _ => cases e
    | @lst a xs vs h1 s1 =>
      cases r2 with
      | @lst b ys us h2 s2 =>
        simp only [binP] at e
        split at e
        · rename_i hl
          cases e
          exact op_cat pins s σ H _ _ v u Q I rx ry ⟨a, b, vs, us, rfl, rfl, h1, h2, by rw [← s1.length, ← s2.length]; exact hl, fun p hp => k _ _ (.tmp hp fp_lst ⟨_, upd_same, s1.append s2⟩)⟩
        · cases e
      | _ => cases e
    | _ => cases dy <;> cases e
  | Sub =>
    cases r1 with
    | int i =>
      cases r2 with
      | int j => cases e; exact op_sub pins s σ H _ _ v u Q I rx ry ⟨i, j, rfl, rfl, k _ _ (.val (.int _))⟩
      | _ => cases e
    | _ => cases dy <;> cases e
  | Mult =>
    cases r1 with
    | int i =>
      cases r2 with
      | int j =>
        simp only [binP] at e
        split at e
        · cases e
          exact op_mul pins s σ H _ _ v u Q I rx ry ⟨i, j, rfl, rfl, by assumption, k _ _ (.val (.int _))⟩
        · cases e
      | _ => cases e
    | _ => cases dy <;> cases e
  | FloorDiv =>
    cases r1 with
    | int i =>
      cases r2 with
      | int j =>
        simp only [binP] at e
        split at e
        · cases e
          exact op_fdiv pins s σ H _ _ v u Q I rx ry ⟨i, j, rfl, rfl, by assumption, k _ _ (.val (.int _))⟩
        · cases e
      | _ => cases e
    | _ => cases dy <;> cases e
  | Mod =>
    cases r1 with
    | int i =>
      cases r2 with
      | int j =>
        simp only [binP] at e
        split at e
        · cases e
          exact op_mod pins s σ H _ _ v u Q I rx ry ⟨i, j, rfl, rfl, by assumption, k _ _ (.val (.int _))⟩
        · cases e
      | _ => cases e
    | _ => cases dy <;> cases e
  | Pow =>
    cases r1 with
    | int i =>
      cases r2 with
      | int j =>
        simp only [binP] at e
        split at e
        · cases e
          exact op_pow pins s σ H _ _ v u Q I rx ry ⟨i, j, rfl, rfl, by assumption, k _ _ (.val (.int _))⟩
        · cases e
      | _ => cases e
    | _ => cases dy <;> cases e
  | _ => cases dx <;> cases dy <;> cases e

/-! ### comparisons -/
theorem eqP_ok {a b : P} {r : Bool} (h : eqP a b = .ok r) : ∃ x y, nkey a = some x ∧ nkey b = some y ∧ r = NestedKey.beq x y := by
  unfold eqP at h
  split at h
  · rename_i x y h1 h2
    cases h
    exact ⟨x, y, h1, h2, NestedKey.decide_eq x y⟩
  · cases h
theorem op_eqK (hK : X.K = Z.K) (hu : X.A.units + 100 < cLine) : OpR X (compareOp .Eq) (rB2 Z eqP) := by
  intro pins s σ H x y v u Q I rx ry h
  obtain ⟨F, dx, dy, b, sub, r1, r2, e, k⟩ := h
  obtain ⟨kx, ky, e1, e2, rfl⟩ := eqP_ok e
  obtain ⟨n1, d1⟩ := nkey_ok e1
  obtain ⟨n2, d2⟩ := nkey_ok e2
  exact (rc_key kx ky (nested_of hK I (r1.full sub) rx n1) (nested_of hK I (r2.full sub) ry n2) (by omega)).1 X.prog X.w X.xe _ ⟨.bl _, H, I, rfl, k⟩
theorem op_neK (hK : X.K = Z.K) (hu : X.A.units + 100 < cLine) : OpR X (compareOp .NotEq) (rB2 Z fun a b => do let r ← eqP a b; .ok (!r)) := by
  intro pins s σ H x y v u Q I rx ry h
  obtain ⟨F, dx, dy, b, sub, r1, r2, e, k⟩ := h
  simp only [bind_eq_ok] at e
  obtain ⟨r, e, e'⟩ := e
  cases e'
  obtain ⟨kx, ky, e1, e2, rfl⟩ := eqP_ok e
  obtain ⟨n1, d1⟩ := nkey_ok e1
  obtain ⟨n2, d2⟩ := nkey_ok e2
  exact (rc_key kx ky (nested_of hK I (r1.full sub) rx n1) (nested_of hK I (r2.full sub) ry n2) (by omega)).2 X.prog X.w X.xe _ ⟨.bl _, H, I, rfl, k⟩
end
end Ev

/-! EvP: dicts, membership, and the other operations. -/
namespace Ev
open PySem PySem.Spec PyProof.Rows L2

abbrev arX (X : Cx) : Ar := ⟨X.prog, X.w, X.K⟩
inductive ORep (Z : Ar) (F : Hp) : Option P → Option Value → Prop
  | none : ORep Z F none none
  | some {d : P} {v : V} {u : Value} : Rep Z F d v → RelV v u → ORep Z F (some d) (some u)
theorem ORep.isSome {Z : Ar} {F : Hp} {o : Option P} {u : Option Value} (h : ORep Z F o u) : o.isSome = u.isSome := by cases h <;> rfl
section
variable {Z : Ar} {F H : Hp}
theorem RepK.val {kvs : List (Key × P)} {ws : List (Key × V)} (r : RepK Z F kvs ws) (k : Key) : (valP kvs k = none ∧ valV ws k = none) ∨ ∃ d v, valP kvs k = some d ∧ valV ws k = some v ∧ Rep Z F d v := by
  induction kvs generalizing ws with
  | nil => cases r; exact .inl ⟨rfl, rfl⟩
  | cons p ds ih =>
    cases r with
    | @cons k' d v _ vs r t =>
      by_cases e : k' = k
      · exact .inr ⟨d, v, by simp [valP, e], by rw [valV_pos e], r⟩
      · have e1 : valP ((k', d) :: ds) k = valP ds k := by simp [valP, e]
        rw [e1, valV_neg (p := (k', v)) e]
        exact ih t
theorem RepK.put {kvs : List (Key × P)} {ws : List (Key × V)} (r : RepK Z F kvs ws) (k : Key) {d : P} {v : V} (rv : Rep Z F d v) : RepK Z F (putP kvs k d) (putK ws k v) := by
  have an : (kvs.any fun kv => decide (kv.1 = k)) = ws.any fun kv => decide (kv.1 = k) := by
    clear rv
    induction kvs generalizing ws with
    | nil => cases r; rfl
    | cons p ds ih =>
      cases r with
      | cons r t => simp only [List.any_cons]; rw [ih t]
  have mp : RepK Z F (kvs.map fun kv => if kv.1 = k then (kv.1, d) else kv) (ws.map fun kv => if kv.1 = k then (kv.1, v) else kv) := by
    clear an
    induction kvs generalizing ws with
    | nil => cases r; exact .nil
    | cons p ds ih =>
      cases r with
      | @cons k' d' v' _ vs r t =>
        simp only [List.map_cons]
        by_cases e : k' = k
        · rw [if_pos e, if_pos e]; exact .cons rv (ih t)
        · rw [if_neg e, if_neg e]; exact .cons r (ih t)
  have ap : RepK Z F (kvs ++ [(k, d)]) (ws ++ [(k, v)]) := by
    clear an mp
    induction kvs generalizing ws with
    | nil => cases r; exact .cons rv .nil
    | cons p ds ih =>
      cases r with
      | cons r t => exact .cons r (ih t)
  unfold putP putK
  rw [an]
  split
  · exact mp
  · exact ap
theorem skey_rep {d : P} {v : V} {k : Key} (r : Rep Z F d v) (h : skey d = some k) : v = kV k := by
  cases r <;> cases h <;> rfl
theorem RepN.val {kvs : List (P × P)} {xs : NX} (r : RepN Z F kvs xs) (k : NestedKey) : ORep Z F (valN kvs k) ((atKey xs k).map (·.2)) := by
  induction kvs generalizing xs with
  | nil => cases r; exact .none
  | cons p ds ih =>
    cases r with
    | @cons kd d k' b v u _ vs e rk i r rv t =>
      by_cases q : k' = k
      · subst q
        have e1 : valN ((kd, d) :: ds) k' = some d := by simp [valN, e]
        have e2 : (atKey ((k', b, u) :: vs) k').map (·.2) = some u := by simp [atKey]
        rw [e1, e2]
        exact .some r rv
      · have e1 : valN ((kd, d) :: ds) k = valN ds k := by simp [valN, e, q]
        have e2 : atKey ((k', b, u) :: vs) k = atKey vs k := by simp [atKey, q]
        rw [e1, e2]
        exact ih t
theorem RepN.put {kvs : List (P × P)} {xs : NX} (r : RepN Z F kvs xs) {kd d : P} {k : NestedKey} {b : Addr} {v : V} {u : Value} (e : nkey kd = some k) (rk : Rep Z F kd (.ref b)) (i : isTup kd = true) (rv : Rep Z F d v) (ru : RelV v u) :
    RepN Z F (putN kvs kd k d) (storedH xs k b u) := by
  have an : (kvs.any fun kv => decide (nkey kv.1 = some k)) = (atKey xs k).isSome := by
    clear e rk i rv ru
    induction kvs generalizing xs with
    | nil => cases r; rfl
    | cons p ds ih =>
      cases r with
      | @cons kd' d' k' b' v' u' _ vs e' rk' i' r' rv' t =>
        simp only [List.any_cons]
        rw [ih t]
        by_cases q : k' = k
        · subst q; simp [atKey, e']
        · simp [atKey, e', q]
  have mp : RepN Z F (kvs.map fun kv => if nkey kv.1 = some k then (kv.1, d) else kv) (xs.map (putAt k u)) := by
    clear an
    induction kvs generalizing xs with
    | nil => cases r; exact .nil
    | cons p ds ih =>
      cases r with
      | @cons kd' d' k' b' v' u' _ vs e' rk' i' r' rv' t =>
        simp only [List.map_cons]
        by_cases q : k' = k
        · subst q
          rw [if_pos e']
          have : putAt k' u (k', b', u') = (k', b', u) := by simp [putAt]
          rw [this]
          exact .cons e' rk' i' rv ru (ih t)
        · have n : ¬ nkey kd' = some k := by rw [e']; simpa using q
          rw [if_neg n]
          have : putAt k u (k', b', u') = (k', b', u') := by simp [putAt, q]
          rw [this]
          exact .cons e' rk' i' r' rv' (ih t)
  have ap : RepN Z F (kvs ++ [(kd, d)]) (xs ++ [(k, b, u)]) := by
    clear an mp
    induction kvs generalizing xs with
    | nil => cases r; exact .cons e rk i rv ru .nil
    | cons p ds ih =>
      cases r with
      | cons e' rk' i' r' rv' t => exact .cons e' rk' i' r' rv' (ih t)
  unfold putN storedH
  rw [an]
  split
  · exact mp
  · exact ap
end

section
variable {X : Cx} {pins : List (Addr × Obj)} {σ : St} {F H : Hp} {s : Shared}
theorem nk_room {A : Around} (hu : A.units + 50 < cLine) : (nestedKind X.prog X.w).room A.in1 := by
  show A.in1.units + 8 < cLine
  rw [Around.in1_units]; omega
theorem is_key (I : Inv X pins σ H s) (sub : Sub F H) {kd : P} {b : Addr} {k : NestedKey} (rk : Rep (arX X) F kd (.ref b)) (e : nkey kd = some k) : (nestedKind X.prog X.w).is s.heap k b :=
  ⟨nested_of (Z := arX X) rfl I (rk.mono sub) rfl (nkey_ok e).1, (nkey_ok e).2⟩
theorem dn_view (I : Inv X pins σ H s) (sub : Sub F H) {a : Addr} {kvs : List (P × P)} {xs : NX} (h : DnAt (arX X) H a xs) (r : RepN (arX X) F kvs xs) : s.heap.DictOfH (nestedKind X.prog X.w) a xs := by
  obtain ⟨h1, hx1, hx2, nd⟩ := h
  have x : rawN (arX X) a xs s.heap := (I.hok a _ h1).1
  obtain ⟨o, es, ep, e1, e2, e3, e4⟩ := x
  refine ⟨o, es, ep, e1, e2, e3, e4, ?_, nd⟩
  clear e4 h1 nd hx1 hx2
  induction kvs generalizing xs with
  | nil => cases r; intro x hx; cases hx
  | cons p ds ih =>
    cases r with
    | cons e rk i r rv t =>
      intro x hx
      rcases List.mem_cons.mp hx with rfl | hx
      · exact is_key I sub rk e
      · exact ih t x hx
theorem dk0_view (I : Inv X pins σ H s) {a : Addr} (h : H a = some (.dK [])) : s.heap.DictOfH (nestedKind X.prog X.w) a [] ∧ (a == sysModules) = false := by
  obtain ⟨_, hd, vs, r, o, es, ep, e1, e2, e3, e4, e5, e6⟩ := I.hok a _ h
  cases r
  have : es.toList = [] := by
    cases q : es.toList with
    | nil => rfl
    | cons x r => rw [q] at e5; cases e5
  exact ⟨⟨o, es, ep, e1, e2, e3, by simpa using this, (by intro x hx; cases hx), by simp⟩, hd⟩
/-- a dict and a key: all that is asked of them -/
structure DV (X : Cx) (pins : List (Addr × Obj)) (σ : St) (F H : Hp) (s : Shared) (a : Addr) (u : Value) (o : Option P) (ov : Option Value) : Prop where
  rep : ORep (arX X) F o ov
  ty : s.TypeIs (.ref a) "dict"
  nd : ∀ b, Value.ref a = .ref b → ∃ ob, s.heap.get? b = some ob ∧ ob.dict = none
  sys : (a == sysModules) = false
  isin : ∀ {A : Around} {E : Value → Shared → Prop} {Q : Value → Shared → Prop}, A.units + 50 < cLine → (∀ t, Q (.bool o.isSome) { s with toks := t }) → wpAny (model X.prog X.w) A (compareOp .In u (.ref a)) Q E s
  notin : ∀ {A : Around} {E : Value → Shared → Prop} {Q : Value → Shared → Prop}, A.units + 50 < cLine → (∀ t, Q (.bool (!o.isSome)) { s with toks := t }) → wpAny (model X.prog X.w) A (compareOp .NotIn u (.ref a)) Q E s
  get : ∀ {A : Around} {E : Value → Shared → Prop} {Q : Value → Shared → Prop} {v : Value}, A.units + 50 < cLine → ov = some v → (∀ t, Q v { s with toks := t }) → wpAny (model X.prog X.w) A (getItem (.ref a) u) Q E s
  get2 : ∀ {A : Around} {E : Value → Shared → Prop} {Q : Value → Shared → Prop} {x : Value}, A.units + 50 < cLine → (∀ t, Q (ov.getD x) { s with toks := t }) → wpAny (model X.prog X.w) A (call (.builtin "dict.get") [.ref a, u, x]) Q E s
theorem DV.ofH (I : Inv X pins σ H s) (sub : Sub F H) {a b : Addr} {kd : P} {kvs : List (P × P)} {xs : NX} {k : NestedKey} (hm : s.heap.DictOfH (nestedKind X.prog X.w) a xs) (hs : (a == sysModules) = false) (r : RepN (arX X) F kvs xs)
    (rk : Rep (arX X) F kd (.ref b)) (e : nkey kd = some k) : DV X pins σ F H s a (.ref b) (valN kvs k) ((atKey xs k).map (·.2)) := by
  have o := r.val k
  have ik := is_key I sub rk e
  have iso := o.isSome
  rw [Option.isSome_map] at iso
  refine ⟨o, hm.typeIs, fun c q => ?_, hs, fun hu h => ?_, fun hu h => ?_, fun hu hv h => ?_, fun hu h => ?_⟩
  · cases q
    obtain ⟨ob, _, _, e1, e2, _⟩ := hm
    exact ⟨ob, e1, e2.2.1⟩
  · exact wpAny_in_heap (nk_room hu) ik hs hm (by rw [← iso]; exact h _)
  · exact wpAny_notIn_heap (nk_room hu) ik hs hm (by rw [← iso]; exact h _)
  · obtain ⟨p, hp, hp2⟩ := Option.map_eq_some_iff.mp hv
    exact wpAny_getItem_heap (nk_room hu) ik hm hp (by rw [hp2]; exact h _)
  · exact call_meetsIn PySem.F.slot_dict_get hm.typeIs PySem.F.entry_dict_get (PySem.F.args_dict_get_3 _ _ _) (meetsH_dict_get_default (nestedKind X.prog X.w) a b hs _) ⟨nk_room hu, k, xs, ik, hm, h _⟩
theorem DV.of (I : Inv X pins σ H s) (sub : Sub F H) {d kd : P} {v kv : V} {u w : Value} {o : Option P} (r : RepT (arX X) F H d v) (rv : RelV v w) (rk : RepT (arX X) F H kd kv) (ry : RelV kv u) (e : dLook d kd = .ok o) :
    ∃ a ov, v = .ref a ∧ w = .ref a ∧ DV X pins σ F H s a u o ov := by
  cases r with
  | @dk a kvs ws hH rr =>
    simp only [dLook] at e
    split at e
    · rename_i k hk
      cases e
      have ek := skey_rep (rk.full sub) hk
      subst ek
      obtain ⟨z, hd, vs, rel, dd⟩ := dk_of I.hok hH
      refine ⟨a, valueAt vs k, rfl, rv, ?_⟩
      have rl := rel.val k
      have o : ORep (arX X) F (valP kvs k) (valueAt vs k) := by
        rcases rr.val k with ⟨h1, h2⟩ | ⟨d, v, h1, h2, h3⟩
        · rw [h1]; rw [h2] at rl
          cases q : valueAt vs k with
          | none => exact .none
          | some w => rw [q] at rl; exact rl.elim
        · rw [h1]; rw [h2] at rl
          cases q : valueAt vs k with
          | none => rw [q] at rl; exact rl.elim
          | some w => rw [q] at rl; exact .some h3 rl
      have iso := o.isSome
      refine ⟨o, dd.typeIs, fun c q => ?_, hd, fun hu h => ?_, fun hu h => ?_, fun hu hv h => ?_, fun hu h => ?_⟩
      · cases q
        obtain ⟨ob, _, _, e1, e2, _⟩ := dd
        exact ⟨ob, e1, e2.2.1⟩
      · exact wpAny_in_of (kV_is ry) hd dd.mapOf (by rw [← iso]; exact h _)
      · exact wpAny_notIn_of (kV_is ry) hd dd.mapOf (by rw [← iso]; exact h _)
      · exact wpAny_getItem_of (kV_is ry) dd.mapOf hv (h _)
      · exact call_meetsIn PySem.F.slot_dict_get dd.typeIs PySem.F.entry_dict_get (PySem.F.args_dict_get_3 _ _ _) (meets_dict_get_default (mixKind X.prog X.w) a (kV_is ry) hd _) ⟨_, dd.mapOf, h _⟩
    · split at e
      · rename_i hb
        simp only [Bool.and_eq_true, List.isEmpty_iff] at hb
        obtain ⟨it, hn⟩ := hb
        subst hn
        split at e
        · rename_i k hk
          cases e
          cases rr
          cases rk with
          | tup h1 h2 =>
            cases ry
            obtain ⟨hm, hs⟩ := dk0_view I hH
            exact ⟨a, _, rfl, rv, DV.ofH (kvs := []) I sub hm hs .nil (.tup h1 h2) hk⟩
          | _ => cases it
        · cases e
      · cases e
  | @dn a kvs xs hH rr =>
    simp only [dLook] at e
    split at e
    · rename_i it
      split at e
      · rename_i k hk
        cases e
        cases rk with
        | tup h1 h2 =>
          cases ry
          exact ⟨a, _, rfl, rv, DV.ofH I sub (dn_view I sub hH rr) hH.2.1 rr (.tup h1 h2) hk⟩
        | _ => cases it
      · cases e
    · cases e
  | _ => cases e
/-! ### in -/
theorem anyEq_ok {k : NestedKey} : ∀ {ys : List P} {b : Bool}, anyEq k ys = .ok b → (∀ y ∈ ys, ∃ q, nkey y = some q) ∧ b = ys.any fun y => decide (nkey y = some k)
  | [], b, h => by cases h; exact ⟨by simp, rfl⟩
  | y :: ys, b, h => by
    simp only [anyEq, bind_eq_ok, of_eq_ok] at h
    obtain ⟨q, e1, r, e2, h⟩ := h
    cases h
    obtain ⟨h1, h2⟩ := anyEq_ok e2
    refine ⟨fun z hz => ?_, by simp [e1, h2]⟩
    rcases List.mem_cons.mp hz with rfl | hz
    · exact ⟨q, e1⟩
    · exact h1 z hz
open Classical in
noncomputable def eqKV (h : Heap) (k : NestedKey) (u : Value) : Bool := decide (NestedIs h k u)
theorem seq_any (I : Inv X pins σ H s) (sub : Sub F H) {k : NestedKey} {ys : List P} {vs : List V} {us : List Value} (r : Reps (arX X) F ys vs) (rv : Vals vs us) (hk : ∀ y ∈ ys, ∃ q, nkey y = some q) :
    us.any (eqKV s.heap k) = ys.any fun y => decide (nkey y = some k) := by
  induction ys generalizing vs us with
  | nil => cases r; cases rv; rfl
  | cons y ys ih =>
    cases r with
    | cons r t =>
      cases rv with
      | @cons _ u _ _ rv tv =>
        simp only [List.any_cons]
        rw [ih t tv fun z hz => hk z (List.mem_cons_of_mem _ hz)]
        congr 1
        obtain ⟨q, hq⟩ := hk y List.mem_cons_self
        have nq := nested_of (Z := arX X) rfl I (r.mono sub) rv (nkey_ok hq).1
        unfold eqKV
        rw [hq]
        by_cases e : q = k
        · subst e; simp [nq]
        · have : ¬ NestedIs s.heap k u := fun n => e (NestedIs.inj _ _ _ nq n)
          simp [this, e]
theorem seq_eqAt (I : Inv X pins σ H s) (sub : Sub F H) {A : Around} (hu : A.units + 50 < cLine) {x : P} {xv : V} {xu : Value} {k : NestedKey} (rx : Rep (arX X) F x xv) (rxu : RelV xv xu) (hx : nkey x = some k) {ys : List P} {vs : List V} {us : List Value} (r : Reps (arX X) F ys vs) (rv : Vals vs us) (hk : ∀ y ∈ ys, ∃ q, nkey y = some q) :
    ∀ u ∈ us, SeqAt.EqAt A.in1 s u xu (eqKV s.heap k u) := by
  induction ys generalizing vs us with
  | nil => cases r; cases rv; intro u hu; cases hu
  | cons y ys ih =>
    cases r with
    | cons r t =>
      cases rv with
      | @cons _ u' _ _ rv tv =>
        intro u hm
        rcases List.mem_cons.mp hm with rfl | hm
        · obtain ⟨q, hq⟩ := hk y List.mem_cons_self
          have nq := nested_of (Z := arX X) rfl I (r.mono sub) rv (nkey_ok hq).1
          have nx := nested_of (Z := arX X) rfl I (rx.mono sub) rxu (nkey_ok hx).1
          have d1 := (nkey_ok hq).2
          have e := eqAt_key q k A.in1 s _ _ nq nx (by rw [Around.in1_units]; omega)
          have : eqKV s.heap k u = NestedKey.beq q k := by
            rw [← NestedKey.decide_eq]
            unfold eqKV
            by_cases e : q = k
            · subst e; simp [nq]
            · have : ¬ NestedIs s.heap k u := fun n => e (NestedIs.inj _ _ _ nq n)
              simp [this, e]
          rw [this]
          exact e
        · exact ih t tv (fun z hz => hk z (List.mem_cons_of_mem _ hz)) u hm
theorem inP_seq {x d : P} {b : Bool} (h : inP x d = .ok b) : (∃ k ys, (d = .tup ys ∨ d = .lst ys) ∧ nkey x = some k ∧ anyEq k ys = .ok b) ∨ ∃ o, dLook d x = .ok o ∧ b = o.isSome := by
  unfold inP at h
  split at h
  · simp only [bind_eq_ok, of_eq_ok] at h
    obtain ⟨k, e1, e2⟩ := h
    exact .inl ⟨k, _, .inl rfl, e1, e2⟩
  · simp only [bind_eq_ok, of_eq_ok] at h
    obtain ⟨k, e1, e2⟩ := h
    exact .inl ⟨k, _, .inr rfl, e1, e2⟩
  · simp only [bind_eq_ok] at h
    obtain ⟨o, e1, e2⟩ := h
    cases e2
    exact .inr ⟨o, e1, rfl⟩
end
section
variable {Z : Ar} {X : Cx}
theorem op_inP (hZ : Z = arX X) (hu : X.A.units + 100 < cLine) : OpR X (compareOp .In) (rB2 Z inP) := by
  subst hZ
  intro pins s σ H x y v u Q I rx ry h
  obtain ⟨F, dx, dy, b, sub, r1, r2, e, k⟩ := h
  rcases inP_seq e with ⟨kx, ys, hd, e1, e2⟩ | ⟨o, e1, e2⟩
  · obtain ⟨hk, eb⟩ := anyEq_ok e2
    rcases hd with rfl | rfl
    · cases r2 with
      | tup h1 h2 =>
        cases ry
        obtain ⟨its, rv, pl, _⟩ := I.tuple (sub.sqT h1.sqT)
        refine SeqAt.in_tupleAt (eqKV s.heap kx) pl (fun w hw => ?_) ⟨.bl _, H, I, rfl, ?_⟩
        · exact seq_eqAt I Sub.refl (by omega) (r1.full sub) rx e1 (h2.mono sub) rv hk w (by simpa using hw)
        · rw [show its.toArray.any (eqKV s.heap kx) = its.any (eqKV s.heap kx) by simp, seq_any I sub h2 rv hk, ← eb]
          exact k
    · cases r2 with
      | lst h1 h2 =>
        cases ry
        obtain ⟨its, rv, pl, _⟩ := I.list (SqL.of h1)
        refine SeqAt.in_listAt (eqKV s.heap kx) pl.isList (fun w hw => ?_) ⟨.bl _, H, I, rfl, ?_⟩
        · exact seq_eqAt I Sub.refl (by omega) (r1.full sub) rx e1 (h2.mono sub) rv hk w (by simpa using hw)
        · rw [show its.toArray.any (eqKV s.heap kx) = its.any (eqKV s.heap kx) by simp, seq_any I sub h2 rv hk, ← eb]
          exact k
  · obtain ⟨a, ov, rfl, rfl, D⟩ := DV.of I sub r2 ry r1 rx e1
    subst e2
    exact D.isin (by omega) fun t => ⟨.bl _, H, I.tok t, rfl, k⟩
theorem op_notInP (hZ : Z = arX X) (hu : X.A.units + 100 < cLine) : OpR X (compareOp .NotIn) (rB2 Z fun a b => do let r ← inP a b; .ok (!r)) := by
  subst hZ
  intro pins s σ H x y v u Q I rx ry h
  obtain ⟨F, dx, dy, b, sub, r1, r2, e, k⟩ := h
  simp only [bind_eq_ok] at e
  obtain ⟨r, e, e'⟩ := e
  cases e'
  rcases inP_seq e with ⟨kx, ys, hd, e1, e2⟩ | ⟨o, e1, e2⟩
  · obtain ⟨hk, eb⟩ := anyEq_ok e2
    rcases hd with rfl | rfl
    · cases r2 with
      | tup h1 h2 =>
        cases ry
        obtain ⟨its, rv, pl, _⟩ := I.tuple (sub.sqT h1.sqT)
        refine SeqAt.notIn_tupleAt (eqKV s.heap kx) pl (fun w hw => ?_) ⟨.bl _, H, I, rfl, ?_⟩
        · exact seq_eqAt I Sub.refl (by omega) (r1.full sub) rx e1 (h2.mono sub) rv hk w (by simpa using hw)
        · rw [show its.toArray.any (eqKV s.heap kx) = its.any (eqKV s.heap kx) by simp, seq_any I sub h2 rv hk, ← eb]
          exact k
    · cases r2 with
      | lst h1 h2 =>
        cases ry
        obtain ⟨its, rv, pl, _⟩ := I.list (SqL.of h1)
        refine SeqAt.notIn_listAt (eqKV s.heap kx) pl.isList (fun w hw => ?_) ⟨.bl _, H, I, rfl, ?_⟩
        · exact seq_eqAt I Sub.refl (by omega) (r1.full sub) rx e1 (h2.mono sub) rv hk w (by simpa using hw)
        · rw [show its.toArray.any (eqKV s.heap kx) = its.any (eqKV s.heap kx) by simp, seq_any I sub h2 rv hk, ← eb]
          exact k
  · obtain ⟨a, ov, rfl, rfl, D⟩ := DV.of I sub r2 ry r1 rx e1
    subst e2
    exact D.notin (by omega) fun t => ⟨.bl _, H, I.tok t, rfl, k⟩
end
end Ev

/-! EvQ: more operations. -/
namespace Ev
open PySem PySem.Spec PyProof.Rows L2

section
variable {Z : Ar} {X : Cx}
theorem op_cmpP (hZ : Z = arX X) (hu : X.A.units + 100 < cLine) {o : CmpOp} : OpR X (compareOp o) (rB2 Z (cmpP o)) := by
  have hK : X.K = Z.K := by rw [hZ]
  cases o with
  | Eq => exact op_eqK hK hu
  | NotEq => exact op_neK hK hu
  | In => exact op_inP hZ hu
  | NotIn => exact op_notInP hZ hu
  | Lt =>
    intro pins s σ H x y v u Q I rx ry h
    obtain ⟨F, dx, dy, b, sub, r1, r2, e, k⟩ := h
    cases r1 with
    | int i =>
      cases r2 with
      | int j => cases e; exact op_lt pins s σ H _ _ v u Q I rx ry ⟨i, j, rfl, rfl, k⟩
      | _ => cases e
    | str i =>
      cases r2 with
      | str j => cases e; exact op_lt_str pins s σ H _ _ v u Q I rx ry ⟨i, j, rfl, rfl, k⟩
      | _ => cases e
    | _ => cases dy <;> cases e
  | LtE =>
    intro pins s σ H x y v u Q I rx ry h
    obtain ⟨F, dx, dy, b, sub, r1, r2, e, k⟩ := h
    cases r1 with
    | int i =>
      cases r2 with
      | int j => cases e; exact op_le pins s σ H _ _ v u Q I rx ry ⟨i, j, rfl, rfl, k⟩
      | _ => cases e
    | _ => cases dy <;> cases e
  | Gt =>
    intro pins s σ H x y v u Q I rx ry h
    obtain ⟨F, dx, dy, b, sub, r1, r2, e, k⟩ := h
    cases r1 with
    | int i =>
      cases r2 with
      | int j => cases e; exact op_gt pins s σ H _ _ v u Q I rx ry ⟨i, j, rfl, rfl, k⟩
      | _ => cases e
    | _ => cases dy <;> cases e
  | GtE =>
    intro pins s σ H x y v u Q I rx ry h
    obtain ⟨F, dx, dy, b, sub, r1, r2, e, k⟩ := h
    cases r1 with
    | int i =>
      cases r2 with
      | int j => cases e; exact op_ge pins s σ H _ _ v u Q I rx ry ⟨i, j, rfl, rfl, k⟩
      | _ => cases e
    | _ => cases dy <;> cases e
  | _ =>
    intro pins s σ H x y v u Q I rx ry h
    obtain ⟨F, dx, dy, b, sub, r1, r2, e, k⟩ := h
    cases dx <;> cases dy <;> cases e
theorem isP_plain {F H : Hp} {dx dy : P} {x y : V} {v u : Value} {b : Bool} (r1 : RepT Z F H dx x) (r2 : RepT Z F H dy y) (rx : RelV x v) (ry : RelV y u) (e : isP dx dy = .ok b) : plainIs v u = true ∧ (v == u) = b := by
  cases r2 with
  | non =>
    cases ry
    cases r1 with
    | non => cases rx; cases e; exact ⟨rfl, rfl⟩
    | bl b => cases rx; cases e; exact ⟨rfl, rfl⟩
    | int b => obtain ⟨t, rfl⟩ := rx; cases e; exact ⟨rfl, rfl⟩
    | str b => obtain ⟨t, rfl⟩ := rx; cases e; exact ⟨rfl, rfl⟩
    | _ => cases rx; cases e; exact ⟨rfl, rfl⟩
  | bl c =>
    cases ry
    cases r1 with
    | non => cases rx; cases e; exact ⟨rfl, rfl⟩
    | bl b => cases rx; cases e; exact ⟨rfl, by cases b <;> cases c <;> rfl⟩
    | int b => obtain ⟨t, rfl⟩ := rx; cases e; exact ⟨rfl, rfl⟩
    | str b => obtain ⟨t, rfl⟩ := rx; cases e; exact ⟨rfl, rfl⟩
    | _ => cases rx; cases e; exact ⟨rfl, rfl⟩
  | _ => cases dx <;> cases e
theorem op_isP : OpR X (compareOp .Is) (rB2 Z isP) := by
  intro pins s σ H x y v u Q I rx ry h
  obtain ⟨F, dx, dy, b, sub, r1, r2, e, k⟩ := h
  obtain ⟨h1, h2⟩ := isP_plain r1 r2 rx ry e
  exact wpAny_is_plain h1 (by rw [h2]; exact ⟨.bl b, H, I, rfl, k⟩)
theorem op_isNotP : OpR X (compareOp .IsNot) (rB2 Z fun a b => do let r ← isP a b; .ok (!r)) := by
  intro pins s σ H x y v u Q I rx ry h
  obtain ⟨F, dx, dy, b, sub, r1, r2, e, k⟩ := h
  simp only [bind_eq_ok] at e
  obtain ⟨r, e, e'⟩ := e
  cases e'
  obtain ⟨h1, h2⟩ := isP_plain r1 r2 rx ry e
  exact wpAny_isNot_plain h1 (by rw [h2]; exact ⟨.bl (!r), H, I, rfl, k⟩)

/-! ### subscripts -/
def rP2 (Z : Ar) (f : P → P → R P) : R2 := fun x y H Q => ∃ F dx dy d, Sub F H ∧ RepT Z F H dx x ∧ RepT Z F H dy y ∧ f dx dy = .ok d ∧ ∀ v, Rep Z F d v → Q v H
theorem atI_rep {F : Hp} {xs : List P} {vs : List V} {i : Int} {d : P} (r : Reps Z F xs vs) (h : atI xs i = some d) : ∃ v, atI vs i = some v ∧ Rep Z F d v := by
  unfold atI at h ⊢
  rw [← r.length]
  cases e : ixN xs.length i with
  | none => rw [e] at h; cases h
  | some j =>
    rw [e] at h
    exact r.get h
theorem op_ixP (hZ : Z = arX X) (hu : X.A.units + 100 < cLine) : IxR X (rP2 Z ixP) := by
  subst hZ
  intro value slice pins s σ H x y v u Q I rx ry h hs
  obtain ⟨F, dx, dy, d, sub, r1, r2, e, k⟩ := h
  have dict : ∀ (e : (do let o ← dLook dx dy; R.of o) = R.ok d), wpAny (model X.prog X.w) X.A (subscriptTail value slice v u) (EP X pins σ Q) X.xe s := fun e => by
    simp only [bind_eq_ok, of_eq_ok] at e
    obtain ⟨o, e1, e2⟩ := e
    subst e2
    obtain ⟨a, ov, rfl, rfl, D⟩ := DV.of I sub r1 rx r2 ry e1
    have rp := D.rep
    cases ov with
    | none => cases rp
    | some w =>
      cases rp with
      | some r rw' =>
        exact tail_any D.ty PySem.F.slot_dict_getitem.lookup (D.get (by omega) rfl fun t => ⟨_, H, I.tok t, rw', k _ r⟩) hs
  cases r1 with
  | @tup a xs vs h1 s1 =>
    cases r2 with
    | int i =>
      simp only [ixP, of_eq_ok] at e
      obtain ⟨w, e1, e2⟩ := atI_rep s1 e
      exact ix_tup value slice pins s σ H _ _ v u Q I rx ry ⟨a, vs, i, w, rfl, rfl, sub.sqT h1.sqT, e1, k _ e2⟩ hs
    | _ => cases e
  | @lst a xs vs h1 s1 =>
    cases r2 with
    | int i =>
      simp only [ixP, of_eq_ok] at e
      obtain ⟨w, e1, e2⟩ := atI_rep s1 e
      exact ix_list value slice pins s σ H _ _ v u Q I rx ry ⟨a, vs, i, w, rfl, rfl, SqL.of h1, e1, k _ e2⟩ hs
    | _ => cases e
  | str z =>
    cases r2 with
    | int i =>
      simp only [ixP] at e
      split at e
      · split at e
        · rename_i c hc
          cases e
          exact ix_str value slice pins s σ H _ _ v u Q I rx ry ⟨z, i, c, rfl, rfl, by assumption, hc, k _ (.str _)⟩ hs
        · cases e
      · cases e
    | _ => cases e
  | dk h1 s1 => exact dict (by cases dy <;> exact e)
  | dn h1 s1 => exact dict (by cases dy <;> exact e)
  | _ => cases dy <;> cases e
/-! ### slices -/
end
section
variable {prog : Program} {w : World} {A : Around} {E : Value → Shared → Prop} {s : Shared}
/-- the whole tuple is itself -/
theorem cut_whole {t c : Addr} {its : Array Value} {vl vu : Value} {lo hi : Option Int} {Q : Value → Shared → Prop} (hT : IsTup s.heap t its) (hS : s.heap.IsSliceOf c vl vu .none) (pl : IsPart vl lo) (pu : IsPart vu hi)
    (e0 : HT.sIx its.size 0 lo = 0) (e1 : HT.sIx its.size its.size hi = its.size) (q : Q (.ref t) s) : wpAny (model prog w) A (getItem (.ref t) (.ref c)) Q E s := by
  obtain ⟨oc, hoc, hcls, _⟩ := id hS
  have tS : s.TypeIs (.ref c) "slice" := ⟨oc, hoc, hcls⟩
  have tT := hT.typeIs
  unfold getItem
  try with_reducible refine wpAny_holding ?_
  first | refine wpAny_bind (wpAny_pure ?_) | skip
  refine wpAny_bind (wpAny_sequenceKey tT (by decide) ?_)
  refine wpAny_bind (wpAny_callSpecial?_slot (name := Str.ofString "__getitem__") tT PyProof.Rows.slot_tuple_getitem
    (wpAny_call_entry PyProof.Rows.slot_tuple_getitem tT entry_tuple_getitem ?_ (args_tuple_getitem _ _)))
  show wpAny _ _ (Builtin.Tuple.tupleItemsOf (.ref t) >>= _) _ _ s
  refine wpAny_bind (tupleItemsOf_ hT ?_)
  refine wpAny_bind (wpAny_typeOf tS ?_)
  rw [if_pos (by decide)]
  refine wpAny_bind (HT.sliceApplied_gen hS pl pu ?_)
  have yes : ((((HT.sIx its.size 0 lo : Nat) : Int) == 0 && (1 : Int) == 1 && (HT.sIx its.size its.size hi - HT.sIx its.size 0 lo) == its.size) = true) := by
    rw [e0, e1]; simp
  show wpAny _ _ (if (((HT.sIx its.size 0 lo : Nat) : Int) == 0 && (1 : Int) == 1 && (HT.sIx its.size its.size hi - HT.sIx its.size 0 lo) == its.size) = true then _ else _) _ _ s
  rw [if_pos yes]
  have ex : ∀ {A' : Around} {Q' : Bool → Shared → Prop}, Q' true s → wpAny (model prog w) A' (Builtin.Tuple.tupleIsExact (.ref t)) Q' E s := fun {A' Q'} h => by
    unfold Builtin.Tuple.tupleIsExact
    exact wpAny_bind (wpAny_typeOf tT (wpAny_pure h))
  have fin : Q (.ref t) s := q
  first
    | exact wpAny_bind (ex (wpAny_bind (wpAny_rule (wpAny_pure ⟨_, rfl, wpAny_pure fin⟩))))
    | exact wpAny_bind (ex (by
        rw [if_pos rfl]
        exact wpAny_bind (wpAny_rule (wpAny_bind (wpAny_pure (wpAny_pure ⟨_, rfl, wpAny_pure fin⟩))))))
    | exact wpAny_bind (ex (wpAny_bind (wpAny_rule (wpAny_bind (wpAny_pure (wpAny_pure ⟨_, rfl, wpAny_pure fin⟩))))))
end
section
variable {Z : Ar} {X : Cx}
def rSlP (Z : Ar) : V → Option Int → Option Int → Hp → VK → Prop := fun x lo hi H Q => ∃ F dx w, Sub F H ∧ RepT Z F H dx x ∧ slP dx lo hi = .ok w ∧ ∀ v H', OutR Z F H w v H' → Q v H'
theorem Reps.cut {F : Hp} {xs : List P} {vs : List V} (r : Reps Z F xs vs) (lo hi : Option Int) : Reps Z F (cutP xs lo hi) (cutV vs lo hi) := by
  unfold cutP cutV
  rw [r.length]
  exact (r.drop _).take _
theorem op_slP (hK : X.K = Z.K) : SlR X (rSlP Z) := by
  intro pins s σ H x v vl vu lo hi sl Q I rx hs pl pu h
  obtain ⟨F, dx, w, sub, r1, e, k⟩ := h
  cases r1 with
  | @tup a xs vs h1 s1 =>
    cases e
    have hq := sub.sqT h1.sqT
    rw [← hK] at hq
    cases rx
    obtain ⟨its, r, ht, hz⟩ := I.tuple hq
    have hl : its.toArray.size = vs.length := by rw [List.size_toArray]; exact r.length.symm
    refine ⟨"tuple", _, PyProof.Rows.slot_tuple_getitem.lookup, ht.typeIs, ?_⟩
    by_cases hw : HT.sIx vs.length 0 lo = 0 ∧ HT.sIx vs.length vs.length hi = vs.length
    · refine cut_whole ht hs pl pu (by rw [hl]; exact hw.1) (by rw [hl]; exact hw.2) ⟨.ref a, H, I, rfl, ?_⟩
      refine k _ _ (.val (.tup h1 ?_))
      have ec : cutP xs lo hi = xs := by
        unfold cutP
        rw [s1.length, hw.1, hw.2, List.drop_zero, Nat.sub_zero, ← s1.length, List.take_length]
      rw [ec]
      exact s1
    · refine HT.getItem_tuple_cut ht hs pl pu (by rw [hl]; exact hw) ?_ (by rw [hl]; exact hz)
      rw [hl]
      refine ⟨.ref s.heap.objs.size, _, Ev.Inv.laidTup I ((r.drop (HT.sIx vs.length 0 lo)).take (HT.sIx vs.length vs.length hi - HT.sIx vs.length 0 lo)) (Nat.le_trans (cutV_length vs lo hi) hz), rfl, k _ _ (.tup (I.hok.fresh (Nat.le_refl _)) rfl (s1.cut lo hi))⟩
  | @lst a xs vs h1 s1 =>
    cases e
    exact sl_list pins s σ H _ v vl vu lo hi sl Q I rx hs pl pu ⟨a, vs, rfl, SqL.of h1, fun p hp => k _ _ (.tmp hp fp_lst ⟨_, upd_same, s1.cut lo hi⟩)⟩
  | _ => cases e
/-! ### built-ins of one value -/
def rV1 (Z : Ar) (f : P → R W) : List V → Hp → VK → Prop := fun xs H Q => ∃ F d x w, xs = [x] ∧ Sub F H ∧ RepT Z F H d x ∧ f d = .ok w ∧ ∀ v H', OutR Z F H w v H' → Q v H'
theorem bools_rep {F : Hp} : ∀ {xs : List P} {vs : List V} {bs : List Bool}, Reps Z F xs vs → bools? xs = some bs → vs = bs.map V.bl
  | _, _, bs, .nil, h => by cases h; rfl
  | d :: ds, _, bs, .cons r t, h => by
    cases r with
    | bl b =>
      simp only [bools?, Option.map_eq_some_iff] at h
      obtain ⟨bs', e, rfl⟩ := h
      rw [bools_rep t e]; rfl
    | _ => cases h
theorem strs_rep {F : Hp} : ∀ {xs : List P} {vs : List V} {bs : List Str}, Reps Z F xs vs → strs? xs = some bs → vs = bs.map V.str
  | _, _, bs, .nil, h => by cases h; rfl
  | d :: ds, _, bs, .cons r t, h => by
    cases r with
    | str b =>
      simp only [strs?, Option.map_eq_some_iff] at h
      obtain ⟨bs', e, rfl⟩ := h
      rw [strs_rep t e]; rfl
    | _ => cases h
theorem reps_strs {F : Hp} : ∀ xs : List Str, Reps Z F (xs.map .str) (xs.map .str)
  | [] => .nil
  | x :: xs => .cons (.str x) (reps_strs xs)
/-! the order of texts -/
abbrev cpL (x : Str) : List Nat := x.cps.toList
theorem strLe_iff {x y : Str} : strLe x y = true ↔ ¬ cpL y < cpL x := by simp [strLe, cpL]
theorem cp_total {x y : Str} (h : ¬ cpL y < cpL x) (h' : ¬ cpL x < cpL y) : x = y := by
  have e : cpL x = cpL y := List.le_antisymm (List.not_lt.mp h) (List.not_lt.mp h')
  cases x; cases y
  simpa [cpL] using e
theorem strLe_total (x y : Str) : strLe x y = true ∨ strLe y x = true := by
  rw [strLe_iff, strLe_iff]
  rcases List.le_total (cpL x) (cpL y) with h | h
  · exact .inl (List.not_lt.mpr h)
  · exact .inr (List.not_lt.mpr h)
theorem strLe_trans {x y z : Str} (h : strLe x y = true) (h' : strLe y z = true) : strLe x z = true := by
  rw [strLe_iff] at *
  exact List.not_lt.mpr (List.le_trans (List.not_lt.mp h) (List.not_lt.mp h'))
theorem insS_perm (x : Str) : ∀ ys : List Str, (insS x ys).Perm (x :: ys)
  | [] => .refl _
  | y :: ys => by
    unfold insS
    split
    · exact .refl _
    · exact ((insS_perm x ys).cons y).trans (.swap x y ys)
theorem sortS_perm : ∀ xs : List Str, (sortS xs).Perm xs
  | [] => .refl _
  | x :: xs => (insS_perm x _).trans ((sortS_perm xs).cons x)
theorem insS_sorted (x : Str) : ∀ {ys : List Str}, ys.Pairwise (fun a b => strLe a b = true) → (insS x ys).Pairwise (fun a b => strLe a b = true)
  | [], _ => by simp [insS]
  | y :: ys, h => by
    unfold insS
    obtain ⟨h1, h2⟩ := List.pairwise_cons.mp h
    split
    · rename_i e
      refine List.pairwise_cons.mpr ⟨fun z hz => ?_, h⟩
      rcases List.mem_cons.mp hz with rfl | hz
      · exact e
      · exact strLe_trans e (h1 z hz)
    · rename_i e
      refine List.pairwise_cons.mpr ⟨fun z hz => ?_, insS_sorted x h2⟩
      rcases List.mem_cons.mp ((insS_perm x ys).mem_iff.mp hz) with rfl | hz
      · exact (strLe_total _ _).resolve_left e
      · exact h1 z hz
theorem sortS_sorted : ∀ xs : List Str, (sortS xs).Pairwise (fun a b => strLe a b = true)
  | [] => .nil
  | x :: xs => insS_sorted x (sortS_sorted xs)
theorem rising_pw : ∀ {xs : List Str} {p : Str}, PyProof.Rows.risingS p xs = true → (p :: xs).Pairwise (fun a b => strLe a b = true)
  | [], p, _ => by simp
  | x :: xs, p, h => by
    simp only [PyProof.Rows.risingS, Bool.and_eq_true] at h
    have ih := rising_pw h.2
    have hx : strLe p x = true := by
      have := h.1
      rw [ltCps_eq] at this
      exact this
    refine List.pairwise_cons.mpr ⟨fun z hz => ?_, ih⟩
    rcases List.mem_cons.mp hz with rfl | hz
    · exact hx
    · exact strLe_trans hx ((List.pairwise_cons.mp ih).1 z hz)
theorem sortedS_pw {xs : List Str} (h : PyProof.Rows.sortedS xs = true) : xs.Pairwise (fun a b => strLe a b = true) := by
  cases xs with
  | nil => exact .nil
  | cons x xs => exact rising_pw h
theorem sorted_unique : ∀ {xs ys : List Str}, xs.Perm ys → xs.Pairwise (fun a b => strLe a b = true) → ys.Pairwise (fun a b => strLe a b = true) → xs = ys
  | [], ys, p, _, _ => by simpa using p.symm.eq_nil
  | x :: xs, [], p, _, _ => by simpa using p.eq_nil
  | x :: xs, y :: ys, p, hx, hy => by
    obtain ⟨x1, x2⟩ := List.pairwise_cons.mp hx
    obtain ⟨y1, y2⟩ := List.pairwise_cons.mp hy
    have e : x = y := by
      have hxy : x ∈ y :: ys := p.mem_iff.mp List.mem_cons_self
      have hyx : y ∈ x :: xs := p.mem_iff.mpr List.mem_cons_self
      rcases List.mem_cons.mp hxy with e | h
      · exact e
      · rcases List.mem_cons.mp hyx with e | h'
        · exact e.symm
        · exact cp_total (strLe_iff.mp (x1 y h')) (strLe_iff.mp (y1 x h))
    subst e
    rw [sorted_unique p.cons_inv x2 y2]
theorem sortS_of {xs ys : List Str} (p : ys.Perm xs) (h : PyProof.Rows.sortedS ys = true) : ys = sortS xs :=
  sorted_unique (p.trans (sortS_perm xs).symm) (sortedS_pw h) (sortS_sorted xs)
end
end Ev

/-! EvU: calls of built-ins. -/
namespace Ev
open PySem PySem.Spec PyProof.Rows L2

section
variable {Z : Ar} {X : Cx}
theorem pair1_ok {d : P} {k : Key} {x : P} (h : pair1 d = some (k, x)) : ∃ a, d = .tup [a, x] ∧ skey a = some k := by
  unfold pair1 at h
  split at h
  · split at h
    · rename_i a b
      obtain ⟨k', e, e2⟩ := Option.map_eq_some_iff.mp h
      cases e2
      exact ⟨a, rfl, e⟩
    · cases h
  · cases h
theorem pairs_cons {d : P} {r : List P} {kvs : List (Key × P)} (h : pairs? (d :: r) = some kvs) : ∃ p ps, pair1 d = some p ∧ pairs? r = some ps ∧ kvs = p :: ps := by
  rw [pairs?] at h
  split at h
  · rename_i p ps e1 e2
    exact ⟨p, ps, e1, e2, (Option.some.inj h).symm⟩
  · cases h
theorem pairs_rep {F : Hp} {xs : List P} {vs : List V} {kvs : List (Key × P)} (r : Reps Z F xs vs) (h : pairs? xs = some kvs) :
    ∃ (as : List Addr) (ws : List (Key × V)), vs = as.map V.ref ∧ RepK Z F kvs ws ∧ Paired (fun a (kv : Key × V) => SqT Z.K F a [kV kv.1, kv.2]) as ws := by
  induction xs generalizing vs kvs with
  | nil =>
    cases r
    rw [pairs?] at h
    cases Option.some.inj h
    exact ⟨[], [], rfl, .nil, .nil⟩
  | cons d ds ih =>
    cases r with
    | cons r t =>
      obtain ⟨⟨k, x⟩, ps, e1, e2, rfl⟩ := pairs_cons h
      obtain ⟨y, rfl, ek⟩ := pair1_ok e1
      obtain ⟨as, ws, rfl, r2, p2⟩ := ih t e2
      cases r with
      | @tup a _ vs h1 s1 =>
        cases s1 with
        | cons rx s1 =>
          cases s1 with
          | cons ry s1 =>
            cases s1
            have ek := skey_rep rx ek
            subst ek
            exact ⟨a :: as, (k, _) :: ws, rfl, .cons ry r2, .cons h1.sqT p2⟩
theorem RepK.merge {F : Hp} {more : List (Key × P)} {ms : List (Key × V)} {kvs : List (Key × P)} {ws : List (Key × V)} (r : RepK Z F more ms) (r' : RepK Z F kvs ws) : RepK Z F (mergeP kvs more) (mergeK ws ms) := by
  induction more generalizing ms kvs ws with
  | nil => cases r; exact r'
  | cons p more ih =>
    cases r with
    | @cons k _ _ _ _ r t =>
      have z := ih t (r'.put k r)
      exact z
theorem mergeK_len (more kvs : List (Key × V)) : (mergeK kvs more).length ≤ kvs.length + more.length := length_mergeK more kvs
/-- dict(t), t a tuple of pairs -/
theorem call_dictT (hZ : Z = arX X) (hc : X.calm = true) : CallR X (.type "dict") (fun xs H Q => ∃ (F : Hp) (a : Addr) (ps : List P) (vs : List V) (kvs : List (Key × P)), xs = [.ref a] ∧ Sub F H ∧ TupA Z F a vs ∧ Reps Z F ps vs ∧ pairs? ps = some kvs ∧ ps.length ≤ 10000 ∧
    ∀ p ws, H p = none → RepK Z F (mergeP [] kvs) ws → Q (.ref p) (upd H p (.dK ws))) := by
  subst hZ
  intro pins s σ H xs us Q I r h
  obtain ⟨F, a, ps, vs, kvs, rfl, sub, ta, rp, hp, hl, q⟩ := h
  obtain ⟨as, ws, rfl, rk, pr⟩ := pairs_rep rp hp
  obtain ⟨u, rfl, ru⟩ := Vals.one r
  cases ru
  obtain ⟨its, rv, pt, _⟩ := I.tuple (sub.sqT ta.sqT)
  have plain : PlainSeq "tuple" s.heap a its.toArray := by
    rcases ta with ⟨o, hF, hd⟩ | ⟨o, its', n, hk, hc', hd, hdat, hz, rv'⟩
    · obtain ⟨e, _⟩ := I.hok a _ (sub _ _ hF)
      obtain ⟨o', e', c', n', d'⟩ := pt
      rw [e] at e'; cases e'
      exact ⟨o, n', e, c', hd, d'⟩
    · have e := I.kIn a o hk
      obtain ⟨o', e', c', n', d'⟩ := pt
      rw [e] at e'; cases e'
      exact ⟨o, n', e, c', hd, d'⟩
  have eu : its = as.map Value.ref := refs_at rv
  subst eu
  -- the pairs as they lie
  have key : ∀ {as : List Addr} {ws : List (Key × V)} {kvs : List (Key × P)}, RepK (arX X) F kvs ws → Paired (fun a (kv : Key × V) => SqT X.K F a [kV kv.1, kv.2]) as ws →
      ∃ prs : List (Value × Value), prs.length = as.length ∧ (∀ (j : Nat) k v, prs[j]? = some (k, v) → ∃ b, as[j]? = some b ∧ PairAt s.heap b k v) ∧
        ∃ vs : List (Key × Value), KV ws vs ∧ vs.length = as.length ∧ ∀ (i : Nat) key v, prs[i]? = some (key, v) → ∃ k, vs[i]? = some (k, v) ∧ (mixKind X.prog X.w).is k key = true := by
    intro as ws kvs rk pr
    induction kvs generalizing as ws with
    | nil => cases rk; cases pr; exact ⟨[], rfl, (by intro j k v h; simp at h), [], .nil, rfl, by intro j k v h; simp at h⟩
    | cons p ds ih =>
      cases rk with
      | @cons k d v _ vs' r t =>
        cases pr with
        | @cons b _ as' _ h1 h2 =>
          obtain ⟨prs, l1, g1, vv, kv, l2, g2⟩ := ih t h2
          obtain ⟨its, rv, pt, _⟩ := I.tuple (sub.sqT h1)
          obtain ⟨u1, u2, rfl, r1, r2⟩ := Vals.two rv
          refine ⟨(u1, u2) :: prs, by simp [l1], fun j k' v' hj => ?_, (k, u2) :: vv, .cons ⟨rfl, r2⟩ kv, by simp [l2], fun i k' v' hi => ?_⟩
          · cases j with
            | zero => simp at hj; obtain ⟨rfl, rfl⟩ := hj; exact ⟨b, rfl, .inl pt⟩
            | succ j => obtain ⟨b', e1, e2⟩ := g1 j k' v' (by simpa using hj); exact ⟨b', by simpa using e1, e2⟩
          · cases i with
            | zero => simp at hi; obtain ⟨rfl, rfl⟩ := hi; exact ⟨k, rfl, kV_is r1⟩
            | succ i => obtain ⟨k2, e1, e2⟩ := g2 i k' v' (by simpa using hi); exact ⟨k2, by simpa using e1, e2⟩
  obtain ⟨prs, l1, g1, vv, kv, l2, g2⟩ := key rk pr
  have hlen : prs.length = ps.length := by rw [l1, ← List.length_map (f := V.ref), ← rp.length]
  have items : PairItems s.heap (as.map Value.ref).toArray (fun j => (as[j]?).getD 0) prs := by
    refine ⟨by simp [l1], fun j k v hj => ?_⟩
    obtain ⟨b, e1, e2⟩ := g1 j k v hj
    have : (as[j]?).getD 0 = b := by rw [e1]; rfl
    refine ⟨by simp [e1], ?_⟩
    show PairAt s.heap ((as[j]?).getD 0) k v
    rw [this]
    exact e2
  refine call_dict_pairs (knd := mixKind X.prog X.w) (kvs := vv) (PairArg.tuple a (as.map Value.ref).toArray (fun j => (as[j]?).getD 0) prs) (I.ok.hd hc) ⟨plain, items⟩ ⟨by rw [l2, l1], g2⟩ (by rw [hlen, sizeLine_eq]; omega) fun h' tk hd hk => ?_
  have kvm : KV (mergeK [] ws) (merged [] vv) := KV.merge kv .nil
  have lm : (mergeK [] ws).length ≤ sizeLine := by
    have := mergeK_len ws []
    have e := KV.length kv
    rw [sizeLine_eq]
    simp only [List.length_nil] at this
    omega
  refine ⟨.ref s.heap.objs.size, _, I.laid (o := .dK (mergeK [] ws)) (t' := tk) (fun b o e => hk b o (by simp) e) (Nat.le_refl _) ⟨lm, ?_, _, kvm, hd⟩, rfl, q _ _ (I.hok.fresh (Nat.le_refl _)) (RepK.merge rk .nil)⟩
  have := I.big
  simpa using (Nat.ne_of_lt this).symm
def b1Val : Bl1 → Value
  | .len => .builtin "len"
  | .tuple => .type "tuple"
  | .list => .type "list"
  | .all => .builtin "all"
  | .any => .builtin "any"
  | .sorted => .builtin "sorted"
  | .int => .type "int"
  | .dict => .type "dict"
  | .sum => .builtin "sum"
theorem call_tupF : CallR X (.type "tuple") (fun xs H Q => ∃ p ys, xs = [.ref p] ∧ SqL X.K H p ys ∧ ∀ l o, H l = none → o.dict = none → Q (.ref l) (upd H l (.frz o (.tup ys)))) := by
  intro pins s σ H xs us Q I r h
  obtain ⟨p, ys, rfl, hq, q⟩ := h
  obtain ⟨u, rfl, rx⟩ := Vals.one r
  cases rx
  obtain ⟨its, r', pl, hz⟩ := I.list hq
  have hlen := r'.length
  refine call_tuple_list pl.isList (fun h' kp => ?_) (by simp only [List.size_toArray] <;> omega)
  have I1 : Inv X pins σ H { s with heap := h' } := I.kept (t' := s.toks) kp
  exact ⟨.ref h'.objs.size, _, Ev.Inv.laidTup I1 r' hz, rfl, q _ _ (I1.hok.fresh (Nat.le_refl _)) rfl⟩
theorem op_bl1 (hZ : Z = arX X) (hc : X.calm = true) (b : Bl1) : CallR X (b1Val b) (rV1 Z (bl1 b)) := by
  have hK : X.K = Z.K := by rw [hZ]
  intro pins s σ H xs us Q I r h
  obtain ⟨F, d, x, w, rfl, sub, r1, e, k⟩ := h
  cases b with
  | len =>
    simp only [bl1, bind_eq_ok] at e
    obtain ⟨n, e, e'⟩ := e
    cases e'
    cases r1 with
    | @tup a xs vs h1 s1 =>
      cases e
      exact call_len_seq pins s σ H _ us Q I r ⟨a, vs, rfl, .inr (by rw [hK]; exact sub.sqT h1.sqT), by rw [← s1.length]; exact k _ _ (.val (.int _))⟩
    | @lst a xs vs h1 s1 =>
      cases e
      exact call_len_seq pins s σ H _ us Q I r ⟨a, vs, rfl, .inl (SqL.of h1), by rw [← s1.length]; exact k _ _ (.val (.int _))⟩
    | @ls a xs vs h1 s1 =>
      cases e
      exact call_len_seq pins s σ H _ us Q I r ⟨a, vs, rfl, .inl (by rw [hK]; exact h1), by rw [← s1.length]; exact k _ _ (.val (.int _))⟩
    | @dk a xs vs h1 s1 =>
      cases e
      exact call_lenD pins s σ H _ us Q I r ⟨a, vs, rfl, h1, by rw [← s1.length]; exact k _ _ (.val (.int _))⟩
    | str x =>
      simp only [lenP] at e
      split at e
      · cases e
        exact call_len_str pins s σ H _ us Q I r ⟨x, rfl, by assumption, k _ _ (.val (.int _))⟩
      · cases e
    | _ => cases e
  | tuple =>
    simp only [bl1, bind_eq_ok] at e
    obtain ⟨n, e, e'⟩ := e
    cases e'
    cases r1 with
    | @tup a xs vs h1 s1 =>
      cases e
      exact call_tupleT pins s σ H _ us Q I r ⟨a, vs, rfl, by rw [hK]; exact sub.sqT h1.sqT, k _ _ (.val (.tup h1 s1))⟩
    | @lst a xs vs h1 s1 =>
      cases e
      exact call_tupF pins s σ H _ us Q I r ⟨a, vs, rfl, SqL.of h1, fun l o hl ho => k _ _ (.tup hl ho s1)⟩
    | _ => cases e
  | list =>
    simp only [bl1, bind_eq_ok] at e
    obtain ⟨n, e, e'⟩ := e
    cases e'
    cases r1 with
    | @tup a xs vs h1 s1 =>
      cases e
      exact call_list_of pins s σ H _ us Q I r ⟨a, vs, rfl, .inr (by rw [hK]; exact sub.sqT h1.sqT), fun l hl => k _ _ (.tmp hl fp_lst ⟨_, upd_same, s1⟩)⟩
    | @lst a xs vs h1 s1 =>
      cases e
      exact call_list_of pins s σ H _ us Q I r ⟨a, vs, rfl, .inl (SqL.of h1), fun l hl => k _ _ (.tmp hl fp_lst ⟨_, upd_same, s1⟩)⟩
    | _ => cases e
  | all =>
    cases r1 with
    | @lst a xs vs h1 s1 =>
      simp only [bl1, bind_eq_ok, of_eq_ok] at e
      obtain ⟨bs, e, e'⟩ := e
      cases e'
      have := bools_rep s1 e
      subst this
      exact cr_all hc pins s σ H _ us Q I r ⟨a, bs, rfl, SqL.of h1, k _ _ (.val (.bl _))⟩
    | _ => cases e
  | any =>
    cases r1 with
    | @lst a xs vs h1 s1 =>
      simp only [bl1, bind_eq_ok, of_eq_ok] at e
      obtain ⟨bs, e, e'⟩ := e
      cases e'
      have := bools_rep s1 e
      subst this
      exact cr_any hc pins s σ H _ us Q I r ⟨a, bs, rfl, SqL.of h1, k _ _ (.val (.bl _))⟩
    | _ => cases e
  | sorted =>
    cases r1 with
    | @lst a xs vs h1 s1 =>
      simp only [bl1, bind_eq_ok, of_eq_ok, chk_eq_ok, decide_eq_true_eq] at e
      obtain ⟨zs, e, _, h64, e'⟩ := e
      cases e'
      have := strs_rep s1 e
      subst this
      refine cr_sortedS pins s σ H _ us Q I r ⟨a, zs, rfl, SqL.of h1, h64, fun ys p pm so hp => ?_⟩
      rw [sortS_of pm so]
      exact k _ _ (.tmp hp fp_lst ⟨_, upd_same, reps_strs _⟩)
    | _ => cases e
  | int =>
    cases r1 with
    | int i => cases e; exact call_int1 pins s σ H _ us Q I r (.inl ⟨i, rfl, k _ _ (.val (.int _))⟩)
    | bl b => cases e; exact call_int1 pins s σ H _ us Q I r (.inr ⟨b, rfl, k _ _ (.val (.int _))⟩)
    | _ => cases e
  | dict =>
    cases r1 with
    | @tup a xs vs h1 s1 =>
      simp only [bl1, bind_eq_ok, of_eq_ok, chk_eq_ok, decide_eq_true_eq] at e
      obtain ⟨kvs, e, _, hl, e'⟩ := e
      cases e'
      exact call_dictT hZ hc pins s σ H _ us Q I r ⟨F, a, xs, vs, kvs, rfl, sub, h1, s1, e, hl, fun p ws hp rk => k _ _ (.tmp hp fp_dk ⟨_, upd_same, rk⟩)⟩
    | _ => cases e
  | sum => cases d <;> cases e
end
end Ev

/-! EvU: calls of built-ins. -/
namespace Ev
open PySem PySem.Spec PyProof.Rows L2

section
variable {Z : Ar} {X : Cx}
/-! ### isinstance, min, max -/
def tyN : Ty → String
  | .int => "int"
  | .bool => "bool"
  | .str => "str"
  | .tuple => "tuple"
  | .list => "list"
def tyD : P → Option String
  | .non => some "NoneType"
  | .bl _ => some "bool"
  | .int _ => some "int"
  | .str _ => some "str"
  | .tup _ => some "tuple"
  | .lst _ => some "list"
  | _ => none
theorem tyD_ok {F H : Hp} {d : P} {v : V} {t : String} (sub : Sub F H) (r : RepT Z F H d v) (h : tyD d = some t) : TyX Z.K H v (.type t) := by
  cases r with
  | non => cases h; exact .base .non
  | bl b => cases h; exact .base (.bl b)
  | int b => cases h; exact .base (.int b)
  | str b => cases h; exact .base (.str b)
  | tup h1 s1 =>
    cases h
    rcases h1 with ⟨o, h1, _⟩ | ⟨o, its, n, h1, h2, _⟩
    · exact .fTuple (sub _ _ h1)
    · exact .kTuple h1 h2
  | lst h1 s1 => cases h; exact .base (.lst h1)
  | _ => cases h
theorem isi_kit {d : P} {t : Ty} {b : Bool} (h : isiP d t = .ok b) : ∃ n, tyD d = some n ∧ kitB n (tyN t) = some b := by
  cases t <;> cases d <;> cases h <;> exact ⟨_, rfl, by decide +kernel⟩
theorem op_isi (hZ : Z = arX X) (t : Ty) : CallR X (.builtin "isinstance") (fun xs H Q => ∃ F d x b, xs = [x, .ty (tyN t)] ∧ Sub F H ∧ RepT Z F H d x ∧ isiP d t = .ok b ∧ Q (.bl b) H) := by
  subst hZ
  intro pins s σ H xs us Q I r h
  obtain ⟨F, d, x, b, rfl, sub, r1, e, k⟩ := h
  obtain ⟨n, e1, e2⟩ := isi_kit e
  exact call_isi pins s σ H _ us Q I r ⟨x, _, .type n, .type (tyN t), b, rfl, .ty _, tyD_ok sub r1 e1, kit_ty e2, k⟩
def rV2L (Z : Ar) (f : P → P → R P) : List V → Hp → VK → Prop := fun xs H Q => ∃ F dx dy d x y, xs = [x, y] ∧ Sub F H ∧ RepT Z F H dx x ∧ RepT Z F H dy y ∧ f dx dy = .ok d ∧ ∀ v, Rep Z F d v → Q v H
theorem op_min (hc : X.calm = true) : CallR X (.builtin "min") (rV2L Z minP) := by
  intro pins s σ H xs us Q I r h
  obtain ⟨F, dx, dy, d, x, y, rfl, sub, r1, r2, e, k⟩ := h
  cases r1 with
  | int i =>
    cases r2 with
    | int j => cases e; exact call_min2 hc pins s σ H _ us Q I r ⟨i, j, rfl, k _ (.int _)⟩
    | _ => cases e
  | _ => cases dy <;> cases e
theorem op_max (hc : X.calm = true) : CallR X (.builtin "max") (rV2L Z maxP) := by
  intro pins s σ H xs us Q I r h
  obtain ⟨F, dx, dy, d, x, y, rfl, sub, r1, r2, e, k⟩ := h
  cases r1 with
  | int i =>
    cases r2 with
    | int j => cases e; exact call_max2 hc pins s σ H _ us Q I r ⟨i, j, rfl, k _ (.int _)⟩
    | _ => cases e
  | _ => cases dy <;> cases e
/-! ### methods that read -/
def rMeth (Z : Ar) (f : P → P → R P) : V → List V → Hp → VK → Prop := fun x xs H Q => ∃ F dx dy d y, xs = [y] ∧ Sub F H ∧ RepT Z F H dx x ∧ RepT Z F H dy y ∧ f dx dy = .ok d ∧ ∀ v, Rep Z F d v → Q v H
theorem mt_joinP : MtR X "str.join" (rMeth Z joinP) := by
  intro pins s σ H x xs v us Q I rx rxs h
  obtain ⟨F, dx, dy, d, y, rfl, sub, r1, r2, e, k⟩ := h
  cases r1 with
  | str a =>
    cases r2 with
    | @lst b ys vs h1 s1 =>
      simp only [joinP, bind_eq_ok, of_eq_ok, chk_eq_ok, decide_eq_true_eq] at e
      obtain ⟨zs, e, _, hl, e'⟩ := e
      cases e'
      have := strs_rep s1 e
      subst this
      exact mt_join pins s σ H _ _ v us Q I rx rxs ⟨a, b, zs, rfl, rfl, .inl (SqL.of h1), hl, k _ (.str _)⟩
    | _ => cases e
  | _ => cases dy <;> cases e
def idxP (dx dy : P) : R P := do
  let k ← R.of (nkey dy)
  let xs ← lstP dx
  R.chk (scalP dy && xs.all scalP)
  let n ← indexOf k xs
  .ok (.int n)
theorem scal_flat {F : Hp} {d : P} {v : V} (h : scalP d = true) (r : Rep Z F d v) : flatV v = true := by
  cases r <;> first | rfl | exact absurd (show false = true from h) Bool.false_ne_true
theorem scals_flat {F : Hp} : ∀ {ds : List P} {vs : List V}, ds.all scalP = true → Reps Z F ds vs → vs.all flatV = true
  | _, _, _, .nil => rfl
  | _, _, h, .cons r t => by
    simp only [List.all_cons, Bool.and_eq_true] at h ⊢
    exact ⟨scal_flat h.1 r, scals_flat h.2 t⟩
theorem scal_eqV {F : Hp} {d e : P} {v u : V} {k q : NestedKey} (hd : scalP d = true) (he : scalP e = true) (r : Rep Z F d v) (s : Rep Z F e u) (h1 : nkey d = some k) (h2 : nkey e = some q) : eqV v u = decide (k = q) := by
  have g1 := (nkey_ok h1).1
  have g2 := (nkey_ok h2).1
  have bb : ∀ b c : Bool, eqV (.bl b) (.bl c) = decide (NestedKey.num (if b = true then 1 else 0) = NestedKey.num (if c = true then 1 else 0)) := by decide
  cases r <;> first | exact absurd (show false = true from hd) Bool.false_ne_true | (cases s <;> first | exact absurd (show false = true from he) Bool.false_ne_true | (cases g1; cases g2; first | exact bb _ _ | (simp only [eqV]; rw [Bool.eq_iff_iff]; simp; done)))
theorem indexOf_ok {k : NestedKey} : ∀ {xs : List P} {n : Nat}, indexOf k xs = .ok n → (∃ x, xs[n]? = some x ∧ nkey x = some k) ∧ ∀ (m : Nat) (y : P), m < n → xs[m]? = some y → ∃ q, nkey y = some q ∧ q ≠ k
  | [], n, h => by cases h
  | x :: xs, n, h => by
    simp only [indexOf, bind_eq_ok, of_eq_ok] at h
    obtain ⟨q, e, h⟩ := h
    split at h
    · rename_i eq
      cases h
      exact ⟨⟨x, rfl, by rw [e, eq]⟩, by intro m y hm; omega⟩
    · rename_i ne
      simp only [bind_eq_ok] at h
      obtain ⟨n', e', h⟩ := h
      cases h
      obtain ⟨⟨z, z1, z2⟩, h2⟩ := indexOf_ok e'
      refine ⟨⟨z, by simpa using z1, z2⟩, fun m y hm hy => ?_⟩
      cases m with
      | zero => simp at hy; subst hy; exact ⟨q, e, ne⟩
      | succ m => exact h2 m y (by omega) (by simpa using hy)
theorem Reps.back {F : Hp} {ds : List P} {vs : List V} {i : Nat} {v : V} (r : Reps Z F ds vs) (h : vs[i]? = some v) : ∃ d, ds[i]? = some d ∧ Rep Z F d v := by
  have hi : i < ds.length := by rw [r.length]; exact (List.getElem?_eq_some_iff.mp h).1
  obtain ⟨v', e, r'⟩ := r.get (List.getElem?_eq_getElem hi)
  rw [h] at e; cases e
  exact ⟨_, List.getElem?_eq_getElem hi, r'⟩
theorem mt_indexP : MtR X "list.index" (rMeth Z idxP) := by
  intro pins s σ H x xs v us Q I rx rxs h
  obtain ⟨F, dx, dy, d, y, rfl, sub, r1, r2, e, k⟩ := h
  simp only [idxP, bind_eq_ok, of_eq_ok, chk_eq_ok, Bool.and_eq_true] at e
  obtain ⟨key, ek, zs, el, _, ⟨sy, sxs⟩, n, en, e⟩ := e
  cases e
  cases r1 with
  | @lst a zs' vs h1 s1 =>
    cases el
    obtain ⟨⟨z, z1, z2⟩, z3⟩ := indexOf_ok en
    obtain ⟨vz, e1, rz⟩ := s1.get z1
    have sz : scalP z = true := List.all_eq_true.mp sxs z (List.mem_of_getElem? z1)
    have ry := r2.full sub
    refine mt_index pins s σ H _ _ v us Q I rx rxs ⟨a, vs, y, n, vz, rfl, rfl, SqL.of h1, scal_flat sy ry, scals_flat sxs s1, e1, ?_, fun m z' hm hz' => ?_, k _ (.int _)⟩
    · rw [scal_eqV sz sy (rz.mono sub) ry z2 ek]; simp
    · obtain ⟨d', e2, r'⟩ := s1.back hz'
      obtain ⟨q, q1, q2⟩ := z3 m d' hm e2
      rw [scal_eqV (List.all_eq_true.mp sxs d' (List.mem_of_getElem? e2)) sy (r'.mono sub) ry q1 ek]
      simp [q2]
  | _ => cases el
end
end Ev

/-! EvY: readings of the constructs, on. -/
namespace Ev
open PySem PySem.Spec PyProof.Rows L2

section
variable {Z : Ar} {call : Call} {F F' F'' H H' H'' : Hp} {ρ ρ' ρ'' : En} {σ : St} {Q : VK}
/-- the end of a reading -/
abbrev Fin (Z : Ar) (F : Hp) (ρ : En) (σ : St) (H : Hp) (w : W) (ρ' : En) (Q : VK) : Prop :=
  ∀ v F' H', SRel Z F' ρ' σ H' → Adv [] F ρ σ H F' ρ' σ H' → WRep Z F' ρ' σ H' w v → Fresh H H' w v → Q v H'
theorem fin_out {w : W} {v : V} {F2 H2 H3 : Hp} {ρ2 : En} (R : SRel Z F2 ρ2 σ H2) (A : Adv [] F ρ σ H F2 ρ2 σ H2) (o : OutR Z F2 H2 w v H3) (k : Fin Z F ρ σ H w ρ2 Q) : Q v H3 := by
  obtain ⟨F3, R3, A3, W3, f3⟩ := o.post R
  exact k v F3 H3 R3 (A.then A3 (by simp)) W3 fun b hb => A.key (f3 b hb)
theorem fin_val {d : P} {v : V} {F2 H2 : Hp} {ρ2 : En} (R : SRel Z F2 ρ2 σ H2) (A : Adv [] F ρ σ H F2 ρ2 σ H2) (r : Rep Z F2 d v) (k : Fin Z F ρ σ H (.p d) ρ2 Q) : Q v H2 := k v F2 H2 R A r fresh_p
theorem rd_bin {o : Operator} {a b : CE} (h : tE Z call (.bin o a b) σ H Q) : tOp (rV2 Z (binP o)) (tE Z call a) (tE Z call b) σ H Q := by
  obtain ⟨F, ρ, w, ρ', R, ev, k⟩ := h
  simp only [evE, bind_eq_ok] at ev
  obtain ⟨⟨x, ρ1⟩, e1, ⟨y, ρ2⟩, e2, dx, p1, dy, p2, w', e3, ev⟩ := ev
  cases ev
  exact rd_two R e1 e2 p1 p2 fun v u F2 H2 R2 A2 r1 r2 => ⟨F2, dx, dy, _, R2.fz, r1, r2, e3, fun v' H' o => fin_out R2 A2 o k⟩
theorem rd_cmp {o : CmpOp} {a b : CE} (h : tE Z call (.cmp o a b) σ H Q) : tOp (rB2 Z (cmpP o)) (tE Z call a) (tE Z call b) σ H Q := by
  obtain ⟨F, ρ, w, ρ', R, ev, k⟩ := h
  simp only [evE, bind_eq_ok] at ev
  obtain ⟨⟨x, ρ1⟩, e1, ⟨y, ρ2⟩, e2, dx, p1, dy, p2, w', e3, ev⟩ := ev
  cases ev
  exact rd_two R e1 e2 p1 p2 fun v u F2 H2 R2 A2 r1 r2 => ⟨F2, dx, dy, w', R2.fz, r1, r2, e3, fin_val R2 A2 (.bl _) k⟩
theorem rd_is {a b : CE} (h : tE Z call (.isn false a b) σ H Q) : tOp (rB2 Z isP) (tE Z call a) (tE Z call b) σ H Q := by
  obtain ⟨F, ρ, w, ρ', R, ev, k⟩ := h
  simp only [evE, bind_eq_ok] at ev
  obtain ⟨⟨x, ρ1⟩, e1, ⟨y, ρ2⟩, e2, dx, p1, dy, p2, w', e3, ev⟩ := ev
  cases ev
  exact rd_two R e1 e2 p1 p2 fun v u F2 H2 R2 A2 r1 r2 => ⟨F2, dx, dy, w', R2.fz, r1, r2, e3, fin_val R2 A2 (.bl _) k⟩
theorem rd_isnot {a b : CE} (h : tE Z call (.isn true a b) σ H Q) : tOp (rB2 Z fun a b => do let r ← isP a b; .ok (!r)) (tE Z call a) (tE Z call b) σ H Q := by
  obtain ⟨F, ρ, w, ρ', R, ev, k⟩ := h
  simp only [evE, bind_eq_ok] at ev
  obtain ⟨⟨x, ρ1⟩, e1, ⟨y, ρ2⟩, e2, dx, p1, dy, p2, w', e3, ev⟩ := ev
  cases ev
  refine rd_two R e1 e2 p1 p2 fun v u F2 H2 R2 A2 r1 r2 => ⟨F2, dx, dy, !w', R2.fz, r1, r2, ?_, fin_val R2 A2 (.bl _) k⟩
  dsimp only
  rw [e3]; rfl
theorem rd_ix {a b : CE} (h : tE Z call (.ix a b) σ H Q) : tOp (rP2 Z ixP) (tE Z call a) (tE Z call b) σ H Q := by
  obtain ⟨F, ρ, w, ρ', R, ev, k⟩ := h
  simp only [evE, bind_eq_ok] at ev
  obtain ⟨⟨x, ρ1⟩, e1, ⟨y, ρ2⟩, e2, dx, p1, dy, p2, w', e3, ev⟩ := ev
  cases ev
  exact rd_two R e1 e2 p1 p2 fun v u F2 H2 R2 A2 r1 r2 => ⟨F2, dx, dy, w', R2.fz, r1, r2, e3, fun v r => fin_val R2 A2 r k⟩
theorem rd_neg {a : CE} (h : tE Z call (.neg a) σ H Q) : tUn (rU fun i => .int (-i)) (tE Z call a) σ H Q := by
  obtain ⟨F, ρ, w, ρ', R, ev, k⟩ := h
  simp only [evE, bind_eq_ok] at ev
  obtain ⟨⟨x, ρ1⟩, e1, d, p1, n, e3, ev⟩ := ev
  cases ev
  refine rd_one R e1 p1 fun v F2 H2 R2 A2 r1 => ?_
  cases r1 with
  | int i => cases e3; exact ⟨_, rfl, fin_val R2 A2 (.int _) k⟩
  | _ => cases e3
theorem rd_notv {a : CE} (h : tE Z call (.notv a) σ H Q) : tNotV (tE Z call a) σ H Q := by
  obtain ⟨F, ρ, w, ρ', R, ev, k⟩ := h
  simp only [evE, bind_eq_ok] at ev
  obtain ⟨⟨x, ρ1⟩, e1, ev⟩ := ev
  split at ev
  · rename_i b eb
    cases ev
    have eb : x = .p (.bl b) := eb
    subst eb
    refine ⟨F, ρ, _, ρ1, R, e1, fun v F2 H2 R2 A2 W2 _ => ?_⟩
    cases W2
    exact ⟨b, rfl, fin_val R2 A2 (.bl _) k⟩
  · cases ev
theorem rd_and {a b : CE} (h : tE Z call (.bop .And a b) σ H Q) : tAndV (tE Z call a) (tE Z call b) σ H Q := by
  obtain ⟨F, ρ, w, ρ', R, ev, k⟩ := h
  simp only [evE, bind_eq_ok] at ev
  obtain ⟨⟨x, ρ1⟩, e1, ev⟩ := ev
  refine ⟨F, ρ, x, ρ1, R, e1, fun v F2 H2 R2 A2 W2 _ => ?_⟩
  split at ev
  · rename_i eb
    have eb : x = .p (.bl true) := eb
    subst eb
    cases W2
    refine ⟨true, rfl, ?_⟩
    rw [if_pos rfl]
    exact ⟨F2, ρ1, w, ρ', R2, ev, fun v F3 H3 R3 A3 W3 f3 => k v F3 H3 R3 (A2.then A3 (by simp)) W3 fun b hb => A2.key (f3 b hb)⟩
  · rename_i eb
    have eb : x = .p (.bl false) := eb
    subst eb
    cases ev
    cases W2
    exact ⟨false, rfl, fin_val R2 A2 (.bl _) k⟩
  · cases ev
theorem rd_or {a b : CE} (h : tE Z call (.bop .Or a b) σ H Q) : tOrV (tE Z call a) (tE Z call b) σ H Q := by
  obtain ⟨F, ρ, w, ρ', R, ev, k⟩ := h
  simp only [evE, bind_eq_ok] at ev
  obtain ⟨⟨x, ρ1⟩, e1, ev⟩ := ev
  refine ⟨F, ρ, x, ρ1, R, e1, fun v F2 H2 R2 A2 W2 _ => ?_⟩
  split at ev
  · rename_i eb
    have eb : x = .p (.bl true) := eb
    subst eb
    cases ev
    cases W2
    exact ⟨true, rfl, fin_val R2 A2 (.bl _) k⟩
  · rename_i eb
    have eb : x = .p (.bl false) := eb
    subst eb
    cases W2
    refine ⟨false, rfl, ?_⟩
    rw [if_neg (by decide)]
    exact ⟨F2, ρ1, w, ρ', R2, ev, fun v F3 H3 R3 A3 W3 f3 => k v F3 H3 R3 (A2.then A3 (by simp)) W3 fun b hb => A2.key (f3 b hb)⟩
  · cases ev
theorem rd_ife {c a b : CE} (h : tE Z call (.ife c a b) σ H Q) : tIf (tT Z call c) (tE Z call a) (tE Z call b) σ H Q := by
  obtain ⟨F, ρ, w, ρ', R, ev, k⟩ := h
  simp only [evE, bind_eq_ok] at ev
  obtain ⟨⟨t, ρ1⟩, e1, ev⟩ := ev
  refine ⟨F, ρ, t, ρ1, R, e1, fun F2 H2 R2 A2 => ?_⟩
  dsimp only at ev
  split at ev
  · rename_i ht
    subst ht
    rw [if_pos rfl]
    exact ⟨F2, ρ1, w, ρ', R2, ev, fun v F3 H3 R3 A3 W3 f3 => k v F3 H3 R3 (A2.then A3 (by simp)) W3 fun b hb => A2.key (f3 b hb)⟩
  · rename_i ht
    rw [if_neg ht]
    exact ⟨F2, ρ1, w, ρ', R2, ev, fun v F3 H3 R3 A3 W3 f3 => k v F3 H3 R3 (A2.then A3 (by simp)) W3 fun b hb => A2.key (f3 b hb)⟩
/-! ### tests -/
theorem rt_not {a : CE} {Q : Bool → Hp → Prop} (h : tT Z call (.not_ a) σ H Q) : tNot (tT Z call a) σ H Q := by
  obtain ⟨F, ρ, b, ρ', R, ev, k⟩ := h
  simp only [evT, bind_eq_ok] at ev
  obtain ⟨⟨t, ρ1⟩, e1, ev⟩ := ev
  cases ev
  exact ⟨F, ρ, t, ρ1, R, e1, fun F2 H2 R2 A2 => k F2 H2 R2 A2⟩
theorem rt_and {a b : CE} {Q : Bool → Hp → Prop} (h : tT Z call (.bop .And a b) σ H Q) : tAnd (tT Z call a) (tT Z call b) σ H Q := by
  obtain ⟨F, ρ, b, ρ', R, ev, k⟩ := h
  simp only [evT, bind_eq_ok] at ev
  obtain ⟨⟨t, ρ1⟩, e1, ev⟩ := ev
  refine ⟨F, ρ, t, ρ1, R, e1, fun F2 H2 R2 A2 => ?_⟩
  dsimp only at ev
  split at ev
  · rename_i ht
    subst ht
    rw [if_pos rfl]
    exact ⟨F2, ρ1, b, ρ', R2, ev, fun F3 H3 R3 A3 => k F3 H3 R3 (A2.then A3 (by simp))⟩
  · rename_i ht
    cases ev
    rw [if_neg ht]
    exact k F2 H2 R2 A2
theorem rt_or {a b : CE} {Q : Bool → Hp → Prop} (h : tT Z call (.bop .Or a b) σ H Q) : tOr (tT Z call a) (tT Z call b) σ H Q := by
  obtain ⟨F, ρ, b, ρ', R, ev, k⟩ := h
  simp only [evT, bind_eq_ok] at ev
  obtain ⟨⟨t, ρ1⟩, e1, ev⟩ := ev
  refine ⟨F, ρ, t, ρ1, R, e1, fun F2 H2 R2 A2 => ?_⟩
  dsimp only at ev
  split at ev
  · rename_i ht
    subst ht
    cases ev
    rw [if_pos rfl]
    exact k F2 H2 R2 A2
  · rename_i ht
    rw [if_neg ht]
    exact ⟨F2, ρ1, b, ρ', R2, ev, fun F3 H3 R3 A3 => k F3 H3 R3 (A2.then A3 (by simp))⟩
/-- a value as a test -/
def rTru (Z : Ar) : V → Hp → (Bool → Hp → Prop) → Prop := fun x H Q => ∃ F d b, Sub F H ∧ RepT Z F H d x ∧ truthP d = .ok b ∧ Q b H
theorem rt_tst {a : CE} {Q : Bool → Hp → Prop} (h : tT Z call (.tst a) σ H Q) : tE Z call a σ H fun x H1 => rTru Z x H1 Q := by
  obtain ⟨F, ρ, b, ρ', R, ev, k⟩ := h
  simp only [evT, bind_eq_ok] at ev
  obtain ⟨⟨x, ρ1⟩, e1, d, p1, t, e3, ev⟩ := ev
  cases ev
  exact rd_one R e1 p1 fun v F2 H2 R2 A2 r1 => ⟨F2, d, b, R2.fz, r1, e3, k F2 H2 R2 A2⟩
theorem tru_of {K : PySem.W.Frag} (hK : K = Z.K) {x : V} {Q : Bool → Hp → Prop} (h : rTru Z x H Q) : ∃ b, TruV K x H b ∧ Q b H := by
  subst hK
  obtain ⟨F, d, b, sub, r, e, q⟩ := h
  refine ⟨b, ?_, q⟩
  cases r with
  | non => cases e; exact rfl
  | bl b => cases e; exact rfl
  | int b => cases e; exact rfl
  | str x =>
    simp only [truthP] at e
    split at e
    · cases e; exact ⟨by assumption, rfl⟩
    · cases e
  | tup h1 s1 => cases e; exact .inr (.inl ⟨_, sub.sqT h1.sqT, by cases s1 <;> rfl⟩)
  | lst h1 s1 => cases e; exact .inl ⟨_, SqL.of h1, by cases s1 <;> rfl⟩
  | dk h1 s1 => cases e; exact .inr (.inr ⟨_, h1, by cases s1 <;> rfl⟩)
  | _ => cases e
end
end Ev

/-! EvW: built-in calls, methods, calls of defs: readings. -/
namespace Ev
open PySem PySem.Spec PyProof.Rows L2

section
variable {Z : Ar} {call : Call} {F F' F'' H H' H'' : Hp} {ρ ρ' ρ'' : En} {σ : St} {Q : VK}
theorem rd_b1 {b : Bl1} {a : CE} (h : tE Z call (.b1 b a) σ H Q) : tCB (rV1 Z (bl1 b)) (tCons (tE Z call a) tNil) σ H Q := by
  obtain ⟨F, ρ, w, ρ', R, ev, k⟩ := h
  simp only [evE, bind_eq_ok] at ev
  obtain ⟨⟨x, ρ1⟩, e1, d, p1, w', e3, ev⟩ := ev
  cases ev
  exact rd_one R e1 p1 fun v F2 H2 R2 A2 r1 => ⟨F2, d, v, _, rfl, R2.fz, r1, e3, fun v' H' o => fin_out R2 A2 o k⟩
theorem rd_min {a b : CE} (h : tE Z call (.min2 a b) σ H Q) : tCB (rV2L Z minP) (tCons (tE Z call a) (tCons (tE Z call b) tNil)) σ H Q := by
  obtain ⟨F, ρ, w, ρ', R, ev, k⟩ := h
  simp only [evE, bind_eq_ok] at ev
  obtain ⟨⟨x, ρ1⟩, e1, ⟨y, ρ2⟩, e2, dx, p1, dy, p2, w', e3, ev⟩ := ev
  cases ev
  have z := rd_two (r := fun x y H Q => rV2L Z minP [x, y] H Q) R e1 e2 p1 p2 fun v u F2 H2 R2 A2 r1 r2 => ⟨F2, dx, dy, w', v, u, rfl, R2.fz, r1, r2, e3, fun v r => fin_val R2 A2 r k⟩
  exact z
theorem rd_max {a b : CE} (h : tE Z call (.max2 a b) σ H Q) : tCB (rV2L Z maxP) (tCons (tE Z call a) (tCons (tE Z call b) tNil)) σ H Q := by
  obtain ⟨F, ρ, w, ρ', R, ev, k⟩ := h
  simp only [evE, bind_eq_ok] at ev
  obtain ⟨⟨x, ρ1⟩, e1, ⟨y, ρ2⟩, e2, dx, p1, dy, p2, w', e3, ev⟩ := ev
  cases ev
  have z := rd_two (r := fun x y H Q => rV2L Z maxP [x, y] H Q) R e1 e2 p1 p2 fun v u F2 H2 R2 A2 r1 r2 => ⟨F2, dx, dy, w', v, u, rfl, R2.fz, r1, r2, e3, fun v r => fin_val R2 A2 r k⟩
  exact z
theorem rd_isi {a : CE} {t : Ty} (h : tE Z call (.isi a t) σ H Q) :
    tCB (fun xs H Q => ∃ F d x b, xs = [x, .ty (tyN t)] ∧ Sub F H ∧ RepT Z F H d x ∧ isiP d t = .ok b ∧ Q (.bl b) H) (tCons (tE Z call a) (tCons (tC (.ty (tyN t))) tNil)) σ H Q := by
  obtain ⟨F, ρ, w, ρ', R, ev, k⟩ := h
  simp only [evE, bind_eq_ok] at ev
  obtain ⟨⟨x, ρ1⟩, e1, d, p1, w', e3, ev⟩ := ev
  cases ev
  exact rd_one R e1 p1 fun v F2 H2 R2 A2 r1 => ⟨F2, d, v, _, rfl, R2.fz, r1, e3, fin_val R2 A2 (.bl _) k⟩
/-! ### slices -/
def tOs (Z : Ar) (call : Call) (o : Option CE) : TO := fun σ H Q => ∃ F ρ b ρ', SRel Z F ρ σ H ∧ evO call o ρ = .ok (b, ρ') ∧
  ∀ F' H', SRel Z F' ρ' σ H' → Adv [] F ρ σ H F' ρ' σ H' → Q b H'
theorem PO.imp {X : Cx} {e : Option Expr} {t t' : TO} (h : PO X e t) (i : ∀ σ H Q, t' σ H Q → t σ H Q) : PO X e t' := ⟨fun pins s σ H Q I q => h.run pins s σ H Q I (i σ H Q q)⟩
theorem ro_none {Q : Option Int → Hp → Prop} (h : tOs Z call none σ H Q) : tNoPart σ H Q := by
  obtain ⟨F, ρ, b, ρ', R, ev, k⟩ := h
  simp only [evO] at ev
  cases ev
  exact k F H R .refl
theorem ro_some {e : CE} {Q : Option Int → Hp → Prop} (h : tOs Z call (some e) σ H Q) : tPart (tE Z call e) σ H Q := by
  obtain ⟨F, ρ, b, ρ', R, ev, k⟩ := h
  simp only [evO, bind_eq_ok] at ev
  obtain ⟨⟨x, ρ1⟩, e1, d, p1, n, e3, ev⟩ := ev
  cases ev
  refine rd_one R e1 p1 fun v F2 H2 R2 A2 r1 => ?_
  cases r1 with
  | int i => cases e3; exact ⟨_, rfl, k F2 H2 R2 A2⟩
  | _ => cases e3
theorem rd_sl {a : CE} {lo hi : Option CE} (h : tE Z call (.sl a lo hi) σ H Q) : tSl (rSlP Z) (tE Z call a) (tOs Z call lo) (tOs Z call hi) σ H Q := by
  obtain ⟨F, ρ, w, ρ', R, ev, k⟩ := h
  simp only [evE, bind_eq_ok] at ev
  obtain ⟨⟨x, ρ1⟩, e1, ⟨l, ρ2⟩, e2, ⟨u, ρ3⟩, e3, d, p1, w', e4, ev⟩ := ev
  cases ev
  refine ⟨F, ρ, x, ρ1, R, e1, fun v F1 H1 R1 A1 W1 f1 => ⟨F1, ρ1, l, ρ2, R1, e2, fun F2 H2 R2 A2 => ⟨F2, ρ2, u, ρ3, R2, e3, fun F3 H3 R3 A3 => ?_⟩⟩⟩
  have A23 := A2.then A3 (by simp)
  exact ⟨F3, d, _, R3.fz, peek_rep R3 (W1.adv0 A23) p1, e4, fun v' H' o => fin_out R3 (A1.then A23 (by simp)) o k⟩
/-! ### methods that read -/
theorem lst_ty {F H : Hp} {d : P} {v : V} (r : RepT Z F H d v) (h : isLstP d = true) : tyV Z.K "list" v H := by
  cases r with
  | lst h1 _ => exact .inl ⟨rfl, _, SqL.of h1⟩
  | _ => exact absurd (show false = true from h) Bool.false_ne_true
theorem str_ty {F H : Hp} {d : P} {v : V} (r : RepT Z F H d v) (h : isStrP d = true) : tyV Z.K "str" v H := by
  cases r with
  | str _ => exact rfl
  | _ => exact absurd (show false = true from h) Bool.false_ne_true
theorem rd_join {a b : CE} (h : tE Z call (.join a b) σ H Q) : tBM Z.K "str" (rMeth Z joinP) (tE Z call a) (tCons (tE Z call b) tNil) σ H Q := by
  obtain ⟨F, ρ, w, ρ', R, ev, k⟩ := h
  simp only [evE, bind_eq_ok, chk_eq_ok] at ev
  obtain ⟨⟨x, ρ1⟩, e1, d0, p0, _, i0, ⟨y, ρ2⟩, e2, dx, p1, dy, p2, w', e3, ev⟩ := ev
  cases ev
  refine ⟨F, ρ, x, ρ1, R, e1, fun v F1 H1 R1 A1 W1 f1 => ⟨str_ty (peek_rep R1 W1 p0) i0, F1, ρ1, y, ρ2, R1, e2, fun u F2 H2 R2 A2 W2 f2 => ?_⟩⟩
  exact ⟨F2, dx, dy, w', u, rfl, R2.fz, peek_rep R2 (W1.adv0 A2) p1, peek_rep R2 W2 p2, e3, fun v r => fin_val R2 (A1.then A2 (by simp)) r k⟩
theorem rd_index {a b : CE} (h : tE Z call (.index a b) σ H Q) : tBM Z.K "list" (rMeth Z idxP) (tE Z call a) (tCons (tE Z call b) tNil) σ H Q := by
  obtain ⟨F, ρ, w, ρ', R, ev, k⟩ := h
  simp only [evE, bind_eq_ok, chk_eq_ok, of_eq_ok] at ev
  obtain ⟨⟨x, ρ1⟩, e1, d0, p0, _, i0, ⟨y, ρ2⟩, e2, dx, p1, dy, p2, key, e3, xs, e4, _, e5, n, e6, ev⟩ := ev
  cases ev
  refine ⟨F, ρ, x, ρ1, R, e1, fun v F1 H1 R1 A1 W1 f1 => ⟨lst_ty (peek_rep R1 W1 p0) i0, F1, ρ1, y, ρ2, R1, e2, fun u F2 H2 R2 A2 W2 f2 => ?_⟩⟩
  refine ⟨F2, dx, dy, .int n, u, rfl, R2.fz, peek_rep R2 (W1.adv0 A2) p1, peek_rep R2 W2 p2, ?_, fun v r => fin_val R2 (A1.then A2 (by simp)) r k⟩
  simp only [idxP, bind_eq_ok, of_eq_ok, chk_eq_ok]
  exact ⟨key, e3, xs, e4, (), e5, n, e6, rfl⟩
/-! ### d.get(k, x) -/
def tGetP (Z : Ar) (td tk tx : TE) : TE := fun σ H Q => td σ H fun x H1 => (∃ F d, Sub F H1 ∧ RepT Z F H1 d x ∧ isDictP d = true) ∧ tk σ H1 fun y H2 => tx σ H2 fun z H3 =>
  ∃ F dd kd o, Sub F H3 ∧ RepT Z F H3 dd x ∧ RepT Z F H3 kd y ∧ dLook dd kd = .ok o ∧ (∀ d v, o = some d → Rep Z F d v → Q v H3) ∧ (o = none → Q z H3)
theorem rd_get {d kx x : CE} (h : tE Z call (.get d kx x) σ H Q) : tGetP Z (tE Z call d) (tE Z call kx) (tE Z call x) σ H Q := by
  obtain ⟨F, ρ, w, ρ', R, ev, k⟩ := h
  simp only [evE, bind_eq_ok, chk_eq_ok] at ev
  obtain ⟨⟨dw, ρ1⟩, e1, d0, p0, _, i0, ⟨kw, ρ2⟩, e2, ⟨xw, ρ3⟩, e3, dd, p1, kd, p2, ⟨xd, ρ4⟩, e4, o, e5, ev⟩ := ev
  cases ev
  refine ⟨F, ρ, dw, ρ1, R, e1, fun v F1 H1 R1 A1 W1 f1 => ⟨⟨F1, d0, R1.fz, peek_rep R1 W1 p0, i0⟩, F1, ρ1, kw, ρ2, R1, e2, fun u F2 H2 R2 A2 W2 f2 => ⟨F2, ρ2, xw, ρ3, R2, e3, fun z F3 H3 R3 A3 W3 f3 => ?_⟩⟩⟩
  have A23 := A2.then A3 (by simp)
  have A13 := A1.then A23 (by simp)
  obtain ⟨F4, R4, A4, r4⟩ := frz_ok R3 W3 e4
  have A14 : Adv [] F ρ σ H F4 ρ4 σ H3 := A13.then A4 fun b hb => A1.key (A2.key (f3 b hb))
  refine ⟨F3, dd, kd, o, R3.fz, peek_rep R3 (W1.adv0 A23) p1, peek_rep R3 (W2.adv0 A3) p2, e5, fun d v ho r => ?_, fun ho => ?_⟩
  · subst ho
    exact fin_val R4 A14 (r.mono A4.fz) k
  · subst ho
    exact fin_val R4 A14 r4 k
theorem pe_getP {X : Cx} {o e f : Expr} {apos cpos : Pos} {td tk tx : TE} (hZ : Z = arX X) (hu : X.A.units + 100 < cLine) (ho : PE X o td) (he : PE X e tk) (hf : PE X f tx) (m : M2 X o "get" apos e f cpos) :
    PE X (.Call (.Attribute o "get" apos) [e, f] [] cpos) (tGetP Z td tk tx) := by
  subst hZ
  refine ⟨fun pins s σ H Q I h => ?_⟩
  refine wpAny_Call_method m.base m.few m.line PySem.F.plainAttrs_dict PySem.F.slot_dict_get PySem.F.type_dict_get (thn (ho.run pins s σ H _ I h) fun u s1 ⟨x, H1, I1, rx, ⟨F, d, sub, r, i⟩, q1⟩ => ?_)
  have tt : s1.TypeIs u "dict" ∧ ∀ b, u = .ref b → ∃ ob, s1.heap.get? b = some ob ∧ ob.dict = none := by
    cases r with
    | dk h1 _ =>
      cases rx
      obtain ⟨_, _, vs, _, dd⟩ := dk_of I1.hok h1
      refine ⟨dd.typeIs, fun b e => ?_⟩
      cases e
      obtain ⟨ob, _, _, e1, e2, _⟩ := dd
      exact ⟨ob, e1, e2.2.1⟩
    | dn h1 _ =>
      cases rx
      obtain ⟨o, es, ep, e1, e2, _⟩ : rawN (arX X) _ _ s1.heap := (I1.hok _ _ h1.1).1
      refine ⟨⟨o, e1, e2.1⟩, fun b e => ?_⟩
      cases e
      exact ⟨o, e1, e2.2.1⟩
    | _ => exact absurd (show false = true from i) Bool.false_ne_true
  refine ⟨tt.1, tt.2, ?_⟩
  rw [m.trees]
  refine Calls.callWith_builtin rfl (Calls.evalArgs_plain (Calls.spliced_cons (thn (he.run pins s1 σ H1 _ I1 q1) fun iv s2 ⟨y, H2, I2, ry, q2⟩ =>
    Calls.spliced_cons (thn (hf.run pins s2 σ H2 _ I2 q2) fun fv s3 ⟨z, H3, I3, rz, F3, dd, kd, ov, sub3, r1, r2, e, qs, qn⟩ => Calls.spliced_nil ?_))))
  obtain ⟨a, ow, rfl, rfl, D⟩ := DV.of I3 sub3 r1 rx r2 ry e
  refine D.get2 (by omega) fun t => ?_
  have rp := D.rep
  cases rp with
  | none => exact ⟨z, H3, I3.tok t, rz, qn rfl⟩
  | some r rv => exact ⟨_, H3, I3.tok t, rv, qs _ _ rfl r⟩

/-! ### owned objects change -/
/-- slot k's object is another one at the same place -/
theorem own_upd {k : Nat} {m m' : MO} {a : Addr} {o : HO} (R : SRel Z F ρ σ H) (hk : ρ[k]? = some (some (.own m))) (e : σ[k]? = some (some (.ref a))) (f0 : ∀ H, fpL H a m = [a]) (f1 : ∀ H, fpL H a m' = [a])
    (r' : MoRep Z F (upd H a o) a m') : SRel Z F (ρ.set k (some (.own m'))) σ (upd H a o) ∧ Adv [] F ρ σ H F (ρ.set k (some (.own m'))) σ (upd H a o) := by
  have hlt : k < ρ.length := (List.getElem?_eq_some_iff.mp hk).1
  obtain ⟨v, e', a', rfl, r, n⟩ := R.slot k _ hk
  rw [e] at e'; cases e'
  have ha : Held ρ σ H k a := ⟨_, m, a, hk, rfl, e, by rw [f0]; simp⟩
  have hFa : F a = none := R.fNone ha
  -- others' places
  have nea : ∀ {i : Nat} {b : Addr}, i ≠ k → Held ρ σ H i b → b ≠ a := fun {i b} ne hb z => R.dis i k b ne hb (z ▸ ha)
  have fpe : ∀ {i : Nat} {s : Sl} {m1 : MO} {a1 : Addr}, i ≠ k → ρ[i]? = some (some s) → moOf s = some m1 → σ[i]? = some (some (.ref a1)) → MoRep Z F (upd H a o) a1 m1 ∧ fpL (upd H a o) a1 m1 = fpL H a1 m1 := fun {i s m1 a1} ne h1 h2 h3 => by
    obtain ⟨v, e2, r2⟩ := R.slot i s h1
    rw [h3] at e2; cases e2
    have rr : MoRep Z F H a1 m1 := by
      cases s with
      | own m2 => cases h2; obtain ⟨_, q, r2, _⟩ := r2; cases q; exact r2
      | rd m2 => cases h2; obtain ⟨_, q, r2, _⟩ := r2; cases q; exact r2
      | p d => cases h2
      | sref j => cases h2
    have kk : ∀ b ∈ fpL H a1 m1, upd H a o b = H b := fun b hb => upd_ne (nea ne ⟨s, m1, a1, h1, h2, h3, hb⟩)
    exact ⟨rr.keep Sub.refl kk, fpL_eq rr kk⟩
  have held : ∀ {i : Nat} {b : Addr}, Held (ρ.set k (some (.own m'))) σ (upd H a o) i b → Held ρ σ H i b := fun {i b} h => by
    obtain ⟨s, m1, a1, h1, h2, h3, h4⟩ := h
    by_cases hi : k = i
    · subst hi
      rw [List.getElem?_set_self hlt] at h1
      cases h1; cases h2
      rw [e] at h3; cases h3
      rw [f1] at h4
      simp at h4
      subst h4
      exact ha
    · rw [List.getElem?_set_ne hi] at h1
      obtain ⟨_, ef⟩ := fpe (Ne.symm hi) h1 h2 h3
      rw [ef] at h4
      exact ⟨s, m1, a1, h1, h2, h3, h4⟩
  have live : ∀ {b : Addr}, Live (ρ.set k (some (.own m'))) σ (upd H a o) b → Live ρ σ H b := fun {b} h => by
    obtain ⟨i, m1, a1, h1, h3, h4⟩ := h
    by_cases hi : k = i
    · subst hi
      rw [List.getElem?_set_self hlt] at h1
      cases h1
      rw [e] at h3; cases h3
      rw [f1] at h4
      simp at h4
      subst h4
      exact ⟨k, m, b, hk, e, by rw [f0]; simp⟩
    · rw [List.getElem?_set_ne hi] at h1
      obtain ⟨_, ef⟩ := fpe (Ne.symm hi) h1 (s := .own m1) rfl h3
      rw [ef] at h4
      exact ⟨i, m1, a1, h1, h3, h4⟩
  refine ⟨⟨fun b u h => ?_, by rw [List.length_set]; exact R.len, fun i s h => ?_, fun i j b ne h1 h2 => R.dis i j b ne (held h1) (held h2)⟩, ⟨.refl, fun b u h nl => ?_, fun b h => ?_, fun i b h => .inl ⟨i, held h⟩, fun b h => .inl (live h), fun b h => .inl h⟩⟩
  · rw [upd_ne (fun z => by rw [z, hFa] at h; cases h)]
    exact R.fz b u h
  · by_cases hi : k = i
    · subst hi
      rw [List.getElem?_set_self hlt] at h
      cases h
      exact ⟨_, e, a, rfl, r', fun b hb => by rw [f1] at hb; simp at hb; subst hb; exact hFa⟩
    · rw [List.getElem?_set_ne hi] at h
      obtain ⟨v, e2, r2⟩ := R.slot i s h
      refine ⟨v, e2, ?_⟩
      cases s with
      | p d => exact r2
      | sref j => exact r2
      | own m1 =>
        obtain ⟨a1, rfl, r2, n2⟩ := r2
        obtain ⟨rr, ef⟩ := fpe (Ne.symm hi) h (s := .own m1) rfl e2
        exact ⟨a1, rfl, rr, by rw [ef]; exact n2⟩
      | rd m1 =>
        obtain ⟨a1, rfl, r2, n2⟩ := r2
        obtain ⟨rr, ef⟩ := fpe (Ne.symm hi) h (s := .rd m1) rfl e2
        exact ⟨a1, rfl, rr, by rw [ef]; exact n2⟩
  · refine (upd_ne fun z => ?_).trans h
    subst z
    exact nl ⟨k, m, b, hk, e, by rw [f0]; simp⟩
  · unfold upd
    split
    · simp
    · exact h
theorem fp1 {xs : List P} {a : Addr} : ∀ H, fpL H a (.lst xs) = [a] := fun _ => rfl
theorem fp2 {xs : List (Key × P)} {a : Addr} : ∀ H, fpL H a (.dk xs) = [a] := fun _ => rfl
theorem fp3 {xs : List (P × P)} {a : Addr} : ∀ H, fpL H a (.dn xs) = [a] := fun _ => rfl
theorem rd_app {l a : CE} (h : tE Z call (.app l a) σ H Q) : tBM Z.K "list" rAppend (tE Z call l) (tCons (tE Z call a) tNil) σ H Q := by
  obtain ⟨F, ρ, w, ρ', R, ev, k⟩ := h
  simp only [evE, bind_eq_ok, chk_eq_ok] at ev
  obtain ⟨⟨x, ρ1⟩, e1, d0, p0, _, i0, ⟨y, ρ2⟩, e2, ⟨d, ρ3⟩, e3, ρ4, e4, ev⟩ := ev
  cases ev
  refine ⟨F, ρ, x, ρ1, R, e1, fun v F1 H1 R1 A1 W1 f1 => ⟨lst_ty (peek_rep R1 W1 p0) i0, F1, ρ1, y, ρ2, R1, e2, fun u F2 H2 R2 A2 W2 f2 => ?_⟩⟩
  obtain ⟨F3, R3, A3, r3⟩ := frz_ok R2 W2 e3
  have A13 : Adv [] F ρ σ H F3 ρ3 σ H2 := (A1.then A2 (by simp)).then A3 fun b hb => A1.key (f2 b hb)
  have W3 := (W1.adv0 A2)
  cases x with
  | ref j =>
    have W3 : σ[j]? = some (some v) := W3
    simp only [appW, bind_eq_ok] at e4
    obtain ⟨m, e5, m', e6, e4⟩ := e4
    cases e4
    obtain ⟨a, rfl, rm, _⟩ := R3.mo (getOwn_getMO e5) W3
    cases m with
    | lst xs =>
      simp only [appM, bind_eq_ok, chk_eq_ok, decide_eq_true_eq] at e6
      obtain ⟨_, hl, e6⟩ := e6
      cases e6
      obtain ⟨vs, hv, rv⟩ := rm
      obtain ⟨R4, A4⟩ := own_upd (o := .lst (vs ++ [u])) R3 (getOwn_ok e5) W3 fp1 fp1 (m' := .lst (xs ++ [d])) ⟨_, upd_same, rv.append (.cons r3 .nil)⟩
      exact ⟨a, vs, u, rfl, rfl, hv, by rw [← rv.length]; exact hl, fin_val R4 (A13.then A4 (by simp)) .non k⟩
    | _ => cases e6
  | _ => cases e4
theorem rd_popAt {l i : CE} (h : tE Z call (.popAt l i) σ H Q) : tBM Z.K "list" rPopAt (tE Z call l) (tCons (tE Z call i) tNil) σ H Q := by
  obtain ⟨F, ρ, w, ρ', R, ev, k⟩ := h
  simp only [evE, bind_eq_ok, chk_eq_ok] at ev
  obtain ⟨⟨x, ρ1⟩, e1, d0, p0, _, i0, ⟨y, ρ2⟩, e2, d, p2, n, e3, ev⟩ := ev
  refine ⟨F, ρ, x, ρ1, R, e1, fun v F1 H1 R1 A1 W1 f1 => ⟨lst_ty (peek_rep R1 W1 p0) i0, F1, ρ1, y, ρ2, R1, e2, fun u F2 H2 R2 A2 W2 f2 => ?_⟩⟩
  have W3 := (W1.adv0 A2)
  have ri := peek_rep R2 W2 p2
  cases x with
  | ref j =>
    have W3 : σ[j]? = some (some v) := W3
    simp only [bind_eq_ok] at ev
    obtain ⟨m, e5, ⟨r, m'⟩, e6, ev⟩ := ev
    cases ev
    obtain ⟨a, rfl, rm, _⟩ := R2.mo (getOwn_getMO e5) W3
    cases m with
    | lst xs =>
      simp only [popM, bind_eq_ok, chk_eq_ok, of_eq_ok, Bool.and_eq_true, decide_eq_true_eq] at e6
      obtain ⟨_, ⟨h1, h2⟩, q, e7, r', e8, e6⟩ := e6
      cases e6
      obtain ⟨vs, hv, rv⟩ := rm
      obtain ⟨vr, e9, rr⟩ := rv.get e8
      cases ri with
      | int i' =>
        cases e3
        obtain ⟨R4, A4⟩ := own_upd (o := .lst (vs.eraseIdx q)) R2 (getOwn_ok e5) W3 fp1 fp1 (m' := .lst (xs.eraseIdx q)) ⟨_, upd_same, rv.eraseIdx q⟩
        refine ⟨a, vs, _, q, vr, rfl, rfl, hv, h1, h2, ?_, e9, fin_val R4 ((A1.then A2 (by simp)).then A4 (by simp)) rr k⟩
        rw [← rv.length]
        exact (ixN_seq e7).1
      | _ => cases e3
    | _ => cases e6
  | _ => cases ev
end
end Ev

/-! EvCall: the call of a def: its reading. -/
namespace Ev
open PySem PySem.Spec PyProof.Rows L2

/-- the arguments' slots -/
inductive ARel (Z : Ar) (F : Hp) (ρ : En) (σ : St) : List W → List Sl → List V → Prop
  | nil : ARel Z F ρ σ [] [] []
  | val {w : W} {d : P} {v : V} {ws : List W} {ss : List Sl} {vs : List V} : (∀ k, w ≠ .ref k) → Rep Z F d v → ARel Z F ρ σ ws ss vs → ARel Z F ρ σ (w :: ws) (.p d :: ss) (v :: vs)
  | ref {k : Nat} {s : Sl} {m : MO} {v : V} {ws : List W} {ss : List Sl} {vs : List V} : ρ[k]? = some (some s) → moOf s = some m → σ[k]? = some (some v) → ARel Z F ρ σ ws ss vs → ARel Z F ρ σ (.ref k :: ws) (s :: ss) (v :: vs)
section
variable {Z : Ar} {F F' H H' : Hp} {ρ ρ' : En} {σ : St} {ws : List W} {ss : List Sl} {vs : List V}
theorem ARel.mono (s : Sub F F') (r : ARel Z F ρ σ ws ss vs) : ARel Z F' ρ σ ws ss vs := by
  induction r with
  | nil => exact .nil
  | val n r _ ih => exact .val n (r.mono s) ih
  | ref a b c _ ih => exact .ref a b c ih
theorem ARel.len (r : ARel Z F ρ σ ws ss vs) : ss.length = ws.length ∧ vs.length = ws.length := by
  induction r with
  | nil => exact ⟨rfl, rfl⟩
  | val _ _ _ ih => simp [ih.1, ih.2]
  | ref _ _ _ _ ih => simp [ih.1, ih.2]
theorem ARel.at_ref (r : ARel Z F ρ σ ws ss vs) {i k : Nat} (h : ws[i]? = some (.ref k)) : ∃ s m v, ss[i]? = some s ∧ vs[i]? = some v ∧ ρ[k]? = some (some s) ∧ moOf s = some m ∧ σ[k]? = some (some v) := by
  induction r generalizing i with
  | nil => simp at h
  | val n r _ ih =>
    cases i with
    | zero => simp at h; exact absurd h (n k)
    | succ i => obtain ⟨s, m, v, h1, h2, h3⟩ := ih (i := i) (by simpa using h); exact ⟨s, m, v, by simpa using h1, by simpa using h2, h3⟩
  | ref a b c _ ih =>
    cases i with
    | zero => simp at h; subst h; exact ⟨_, _, _, rfl, rfl, a, b, c⟩
    | succ i => obtain ⟨s, m, v, h1, h2, h3⟩ := ih (i := i) (by simpa using h); exact ⟨s, m, v, by simpa using h1, by simpa using h2, h3⟩
theorem ARel.at_mo (r : ARel Z F ρ σ ws ss vs) {i : Nat} {s : Sl} {m : MO} (h : ss[i]? = some s) (hm : moOf s = some m) : ∃ k v, ws[i]? = some (.ref k) ∧ vs[i]? = some v ∧ ρ[k]? = some (some s) ∧ σ[k]? = some (some v) := by
  induction r generalizing i with
  | nil => simp at h
  | val n r _ ih =>
    cases i with
    | zero => simp at h; subst h; cases hm
    | succ i => obtain ⟨k, v, h1, h2, h3⟩ := ih (i := i) (by simpa using h); exact ⟨k, v, by simpa using h1, by simpa using h2, h3⟩
  | ref a b c _ ih =>
    cases i with
    | zero => simp at h; subst h; exact ⟨_, _, rfl, rfl, a, c⟩
    | succ i => obtain ⟨k, v, h1, h2, h3⟩ := ih (i := i) (by simpa using h); exact ⟨k, v, by simpa using h1, by simpa using h2, h3⟩
theorem ARel.at_p (r : ARel Z F ρ σ ws ss vs) {i : Nat} {s : Sl} (h : ss[i]? = some s) : ∃ v, vs[i]? = some v ∧ ((∃ d, s = .p d ∧ Rep Z F d v) ∨ ∃ k m, ws[i]? = some (.ref k) ∧ ρ[k]? = some (some s) ∧ moOf s = some m ∧ σ[k]? = some (some v)) := by
  induction r generalizing i with
  | nil => simp at h
  | val n r _ ih =>
    cases i with
    | zero => simp at h; subst h; exact ⟨_, rfl, .inl ⟨_, rfl, r⟩⟩
    | succ i => obtain ⟨v, h1, h2⟩ := ih (i := i) (by simpa using h); exact ⟨v, by simpa using h1, by simpa using h2⟩
  | ref a b c _ ih =>
    cases i with
    | zero => simp at h; subst h; exact ⟨_, rfl, .inr ⟨_, _, rfl, a, b, c⟩⟩
    | succ i => obtain ⟨v, h1, h2⟩ := ih (i := i) (by simpa using h); exact ⟨v, by simpa using h1, by simpa using h2⟩
theorem refs_mem {i k : Nat} (h : ws[i]? = some (.ref k)) : k ∈ refsOf ws := by
  induction ws generalizing i with
  | nil => simp at h
  | cons w ws ih =>
    cases i with
    | zero => simp at h; subst h; simp [refsOf]
    | succ i =>
      have := ih (i := i) (by simpa using h)
      cases w <;> simp [refsOf, this]
theorem nodup_pos (h : nodupB (refsOf ws) = true) {i j k : Nat} (hi : ws[i]? = some (.ref k)) (hj : ws[j]? = some (.ref k)) : i = j := by
  induction ws generalizing i j with
  | nil => simp at hi
  | cons w ws ih =>
    have tail : nodupB (refsOf ws) = true := by
      cases w with
      | ref q => simp only [refsOf, nodupB, Bool.and_eq_true] at h; exact h.2
      | _ => exact h
    have hd : ∀ {n : Nat}, w = W.ref k → ws[n]? = some (W.ref k) → False := fun {n} e hn => by
      subst e
      simp only [refsOf, nodupB, Bool.and_eq_true, Bool.not_eq_true', List.contains_eq_mem, decide_eq_false_iff_not] at h
      exact h.1 (refs_mem hn)
    cases i with
    | zero =>
      simp at hi
      cases j with
      | zero => rfl
      | succ j => exact (hd hi (by simpa using hj)).elim
    | succ i =>
      cases j with
      | zero => simp at hj; exact (hd hj (by simpa using hi)).elim
      | succ j => rw [ih tail (i := i) (j := j) (by simpa using hi) (by simpa using hj)]
/-- the values for arguments are frozen, the references stay -/
theorem args_ok (R : SRel Z F ρ σ H) (r : WReps Z F ρ σ H ws vs) (h : argSs ws ρ = .ok ss) :
    ∃ F', SRel Z F' ρ σ H ∧ Adv (fpsW H ws vs) F ρ σ H F' ρ σ H ∧ ARel Z F' ρ σ ws ss vs := by
  induction ws generalizing vs ss F with
  | nil => cases r; cases h; exact ⟨F, R, .refl, .nil⟩
  | cons w ws ih =>
    cases r with
    | @cons _ v _ vs r n t =>
      simp only [argSs, bind_eq_ok] at h
      obtain ⟨s, h1, ss', h2, h⟩ := h
      cases h
      cases w with
      | p d =>
        cases h1
        obtain ⟨F2, R2, A2, r2⟩ := ih R t h2
        refine ⟨F2, R2, ?_, .val (by simp) (Rep.mono A2.fz r) r2⟩
        have e : fpsW H (.p d :: ws) (v :: vs) = fpsW H ws vs := by cases v <;> rfl
        rw [e]; exact A2
      | tmp m =>
        cases h1
        obtain ⟨a, rfl, _, _⟩ := id r
        obtain ⟨R1, A1, r1⟩ := freeze_tmp R r
        obtain ⟨F2, R2, A2, r2⟩ := ih R1 (t.adv A1 fun b hb hc => n b hc hb) h2
        exact ⟨F2, R2, A1.trans A2, .val (by simp) (r1.mono A2.fz) r2⟩
      | ref k =>
        obtain ⟨F2, R2, A2, r2⟩ := ih R t h2
        have e : fpsW H (.ref k :: ws) (v :: vs) = fpsW H ws vs := by cases v <;> rfl
        rw [e]
        simp only [argS] at h1
        split at h1
        · rename_i m hm
          cases h1
          exact ⟨F2, R2, A2, .ref hm rfl r r2⟩
        · rename_i m hm
          cases h1
          exact ⟨F2, R2, A2, .ref hm rfl r r2⟩
        · cases h1
theorem getE_map {α β : Type} {f : α → β} {l : List α} {i : Nat} {y : β} (h : (l.map f)[i]? = some y) : ∃ x, l[i]? = some x ∧ y = f x := by
  rw [List.getElem?_map] at h
  obtain ⟨x, h1, h2⟩ := Option.map_eq_some_iff.mp h
  exact ⟨x, h1, h2.symm⟩
theorem ARel.held (r : ARel Z F ρ σ ws ss vs) {i : Nat} {b : Addr} (h : Held (ss.map some) (vs.map some) H i b) : ∃ k, ws[i]? = some (.ref k) ∧ Held ρ σ H k b := by
  obtain ⟨s, m, a, h1, h2, h3, h4⟩ := h
  obtain ⟨s', e1, e2⟩ := getE_map h1
  cases e2
  obtain ⟨v', e3, e4⟩ := getE_map h3
  cases e4
  obtain ⟨k, v, g1, g2, g3, g4⟩ := r.at_mo e1 h2
  rw [e3] at g2; cases g2
  exact ⟨k, g1, s, m, a, g3, h2, g4, h4⟩
theorem ARel.live (r : ARel Z F ρ σ ws ss vs) {b : Addr} (h : Live (ss.map some) (vs.map some) H b) : Live ρ σ H b := by
  obtain ⟨i, m, a, h1, h3, h4⟩ := h
  obtain ⟨s', e1, e2⟩ := getE_map h1
  cases e2
  obtain ⟨v', e3, e4⟩ := getE_map h3
  cases e4
  obtain ⟨k, v, g1, g2, g3, g4⟩ := r.at_mo e1 rfl
  rw [e3] at g2; cases g2
  exact ⟨k, m, a, g3, g4, h4⟩
theorem ARel.srel (R : SRel Z F ρ σ H) (r : ARel Z F ρ σ ws ss vs) (nd : nodupB (refsOf ws) = true) : SRel Z F (ss.map some) (vs.map some) H := by
  refine ⟨R.fz, by simp [r.len.1, r.len.2], fun i s h => ?_, fun i j b ne h1 h2 => ?_⟩
  · obtain ⟨s', e1, e2⟩ := getE_map h
    cases e2
    obtain ⟨v, g1, g⟩ := r.at_p e1
    refine ⟨v, by rw [List.getElem?_map, g1]; rfl, ?_⟩
    rcases g with ⟨d, rfl, g⟩ | ⟨k, m, g2, g3, g4, g5⟩
    · exact g
    · obtain ⟨v', e3, rr⟩ := R.slot k s g3
      rw [g5] at e3; cases e3
      cases s with
      | own m => exact rr
      | rd m => exact rr
      | p d => exact rr
      | sref q => cases g4
  · obtain ⟨k1, g1, q1⟩ := r.held h1
    obtain ⟨k2, g2, q2⟩ := r.held h2
    refine R.dis k1 k2 b (fun e => ne ?_) q1 q2
    subst e
    exact nodup_pos nd g1 g2
/-- the slots behind the call -/
theorem backS_len : ∀ {ws : List W} {ss : List Sl} {ρ ρ' : En}, backS ws ss ρ = .ok ρ' → ρ'.length = ρ.length
  | [], [], _, _, h => by cases h; rfl
  | [], _ :: _, _, _, h => by cases h
  | .ref k :: ws, [], _, _, h => by cases h
  | .p k :: ws, [], _, _, h => by cases h
  | .tmp k :: ws, [], _, _, h => by cases h
  | .ref k :: ws, s :: ss, ρ, ρ', h => by
    have h : backS ws ss (ρ.set k (some s)) = .ok ρ' := h
    rw [backS_len h, List.length_set]
  | .p k :: ws, s :: ss, ρ, ρ', h => backS_len (show backS ws ss ρ = .ok ρ' from h)
  | .tmp k :: ws, s :: ss, ρ, ρ', h => backS_len (show backS ws ss ρ = .ok ρ' from h)
theorem backS_out : ∀ {ws : List W} {ss : List Sl} {ρ ρ' : En} {j : Nat}, backS ws ss ρ = .ok ρ' → j ∉ refsOf ws → ρ'[j]? = ρ[j]?
  | [], [], _, _, _, h, _ => by cases h; rfl
  | [], _ :: _, _, _, _, h, _ => by cases h
  | .ref k :: ws, [], _, _, _, h, _ => by cases h
  | .p k :: ws, [], _, _, _, h, _ => by cases h
  | .tmp k :: ws, [], _, _, _, h, _ => by cases h
  | .ref k :: ws, s :: ss, ρ, ρ', j, h, n => by
    have h : backS ws ss (ρ.set k (some s)) = .ok ρ' := h
    simp only [refsOf, List.mem_cons, not_or] at n
    rw [backS_out h n.2, List.getElem?_set_ne (Ne.symm n.1)]
  | .p k :: ws, s :: ss, ρ, ρ', j, h, n => backS_out (show backS ws ss ρ = .ok ρ' from h) n
  | .tmp k :: ws, s :: ss, ρ, ρ', j, h, n => backS_out (show backS ws ss ρ = .ok ρ' from h) n
theorem backS_in : ∀ {ws : List W} {ss : List Sl} {ρ ρ' : En} {i j : Nat}, backS ws ss ρ = .ok ρ' → nodupB (refsOf ws) = true → ws[i]? = some (.ref j) → j < ρ.length → ∃ s, ss[i]? = some s ∧ ρ'[j]? = some (some s)
  | [], _, _, _, _, _, _, _, hi, _ => by simp at hi
  | .ref k :: ws, [], _, _, _, _, h, _, _, _ => by cases h
  | .p k :: ws, [], _, _, _, _, h, _, _, _ => by cases h
  | .tmp k :: ws, [], _, _, _, _, h, _, _, _ => by cases h
  | .ref k :: ws, s :: ss, ρ, ρ', i, j, h, nd, hi, hl => by
    have h : backS ws ss (ρ.set k (some s)) = .ok ρ' := h
    simp only [refsOf, nodupB, Bool.and_eq_true, Bool.not_eq_true', List.contains_eq_mem, decide_eq_false_iff_not] at nd
    cases i with
    | zero =>
      simp at hi
      subst hi
      refine ⟨s, rfl, ?_⟩
      rw [backS_out h nd.1, List.getElem?_set_self hl]
    | succ i =>
      obtain ⟨s', e1, e2⟩ := backS_in (i := i) h nd.2 (by simpa using hi) (by rw [List.length_set]; exact hl)
      exact ⟨s', by simpa using e1, e2⟩
  | .p k :: ws, s :: ss, ρ, ρ', i, j, h, nd, hi, hl => by
    cases i with
    | zero => simp at hi
    | succ i =>
      obtain ⟨s', e1, e2⟩ := backS_in (i := i) (show backS ws ss ρ = .ok ρ' from h) nd (by simpa using hi) hl
      exact ⟨s', by simpa using e1, e2⟩
  | .tmp k :: ws, s :: ss, ρ, ρ', i, j, h, nd, hi, hl => by
    cases i with
    | zero => simp at hi
    | succ i =>
      obtain ⟨s', e1, e2⟩ := backS_in (i := i) (show backS ws ss ρ = .ok ρ' from h) nd (by simpa using hi) hl
      exact ⟨s', by simpa using e1, e2⟩
theorem refs_pos {k : Nat} (h : k ∈ refsOf ws) : ∃ i : Nat, ws[i]? = some (W.ref k) := by
  induction ws with
  | nil => simp [refsOf] at h
  | cons w ws ih =>
    cases w with
    | ref q =>
      simp only [refsOf, List.mem_cons] at h
      rcases h with rfl | h
      · exact ⟨0, rfl⟩
      · obtain ⟨i, e⟩ := ih h; exact ⟨i + 1, by simpa using e⟩
    | p d => obtain ⟨i, e⟩ := ih h; exact ⟨i + 1, by simpa using e⟩
    | tmp d => obtain ⟨i, e⟩ := ih h; exact ⟨i + 1, by simpa using e⟩
theorem noSrefA_at : ∀ {ss : List Sl} {i k : Nat}, noSrefA ss = true → ss[i]? = some (.sref k) → False
  | [], _, _, _, h => by simp at h
  | .sref _ :: _, _, _, n, _ => by cases n
  | .p _ :: r, 0, _, _, h => by simp at h
  | .own _ :: r, 0, _, _, h => by simp at h
  | .rd _ :: r, 0, _, _, h => by simp at h
  | .p _ :: r, i + 1, _, n, h => noSrefA_at (i := i) (ss := r) n (by simpa using h)
  | .own _ :: r, i + 1, _, n, h => noSrefA_at (i := i) (ss := r) n (by simpa using h)
  | .rd _ :: r, i + 1, _, n, h => noSrefA_at (i := i) (ss := r) n (by simpa using h)
/-- back from a call -/
theorem back_ok {F1 F2 H2 : Hp} {ss' : List Sl} {w : W} {v : V} (R : SRel Z F ρ σ H) (r : ARel Z F ρ σ ws ss vs) (nd : nodupB (refsOf ws) = true) (ns : noSrefA ss' = true) (hl : ss'.length = ss.length) (hw : ∀ k, w ≠ .ref k)
    (R' : SRel Z F2 (ss'.map some) (vs.map some) H2) (A : Adv [] F (ss.map some) (vs.map some) H F2 (ss'.map some) (vs.map some) H2) (W' : WRep Z F2 (ss'.map some) (vs.map some) H2 w v) (f : Fresh H H2 w v)
    (hb : backS ws ss' ρ = .ok ρ') : SRel Z F2 ρ' σ H2 ∧ Adv [] F ρ σ H F2 ρ' σ H2 ∧ WRep Z F2 ρ' σ H2 w v := by
  have len := backS_len hb
  -- the slots that were not handed over: nothing of them has changed
  have nlive : ∀ {j : Nat} {b : Addr}, j ∉ refsOf ws → Held ρ σ H j b → ¬ Live (ss.map some) (vs.map some) H b := fun {j b} n h l => by
    obtain ⟨q, hq⟩ := l.held
    obtain ⟨k, g1, g2⟩ := r.held hq
    exact R.dis j k b (fun e => n (e ▸ refs_mem g1)) h g2
  have same : ∀ {j : Nat} {b : Addr}, j ∉ refsOf ws → Held ρ σ H j b → H2 b = H b := fun {j b} n h => by
    obtain ⟨o, ho⟩ := R.hSome h
    rw [ho]
    exact A.fr b o ho (nlive n h)
  have fnone : ∀ {j : Nat} {b : Addr}, j ∉ refsOf ws → Held ρ σ H j b → F2 b = none := fun {j b} n h => by
    cases q : F2 b with
    | none => rfl
    | some u =>
      rcases A.nf b (by rw [q]; simp) with z | z | z | z
      · exact absurd (R.fNone h) z
      · exact absurd z (nlive n h)
      · obtain ⟨o, ho⟩ := R.hSome h; rw [z] at ho; cases ho
      · simp at z
  have mo : ∀ {j : Nat} {s : Sl} {m : MO} {a : Addr}, j ∉ refsOf ws → ρ[j]? = some (some s) → moOf s = some m → σ[j]? = some (some (.ref a)) → MoRep Z F2 H2 a m ∧ fpL H2 a m = fpL H a m := fun {j s m a} n h1 h2 h3 => by
    obtain ⟨v', e, rr⟩ := R.slot j s h1
    rw [h3] at e; cases e
    have rm : MoRep Z F H a m := by
      cases s with
      | own m1 => cases h2; obtain ⟨_, q, rm, _⟩ := rr; cases q; exact rm
      | rd m1 => cases h2; obtain ⟨_, q, rm, _⟩ := rr; cases q; exact rm
      | p d => cases h2
      | sref q => cases h2
    have k : ∀ b ∈ fpL H a m, H2 b = H b := fun b hb => same n ⟨s, m, a, h1, h2, h3, hb⟩
    exact ⟨rm.keep A.fz k, fpL_eq rm k⟩
  have held_out : ∀ {j : Nat} {b : Addr}, j ∉ refsOf ws → Held ρ' σ H2 j b → Held ρ σ H j b := fun {j b} n h => by
    obtain ⟨s, m, a, h1, h2, h3, h4⟩ := h
    rw [backS_out hb n] at h1
    rw [(mo n h1 h2 h3).2] at h4
    exact ⟨s, m, a, h1, h2, h3, h4⟩
  have klt : ∀ {i k : Nat}, ws[i]? = some (.ref k) → k < ρ.length := fun {i k} g => by
    obtain ⟨s, m, v, _, _, g3, _⟩ := r.at_ref g
    exact (List.getElem?_eq_some_iff.mp g3).1
  -- the slots that were handed over
  have at_in : ∀ {i k : Nat} {s : Sl}, ws[i]? = some (.ref k) → ρ'[k]? = some (some s) → (ss'.map some)[i]? = some (some s) ∧ ∃ u, (vs.map some)[i]? = some (some u) ∧ σ[k]? = some (some u) := fun {i k s} g h => by
    obtain ⟨s1, e1, e2⟩ := backS_in hb nd g (klt g)
    rw [h] at e2; cases e2
    obtain ⟨_, _, u, _, g2, _, _, g5⟩ := r.at_ref g
    exact ⟨by rw [List.getElem?_map, e1]; rfl, u, by rw [List.getElem?_map, g2]; rfl, g5⟩
  have held_in : ∀ {i k : Nat} {b : Addr}, ws[i]? = some (.ref k) → Held ρ' σ H2 k b → Held (ss'.map some) (vs.map some) H2 i b := fun {i k b} g h => by
    obtain ⟨s, m, a, h1, h2, h3, h4⟩ := h
    obtain ⟨e1, u, e2, e3⟩ := at_in g h1
    rw [h3] at e3; cases e3
    exact ⟨s, m, a, e1, h2, e2, h4⟩
  have old : ∀ {i : Nat} {b : Addr}, Held (ss'.map some) (vs.map some) H2 i b → (∃ k, k ∈ refsOf ws ∧ Held ρ σ H k b) ∨ H b = none := fun {i b} h => by
    rcases A.nl i b h with ⟨q, hq⟩ | z
    · obtain ⟨k, g1, g2⟩ := r.held hq
      exact .inl ⟨k, refs_mem g1, g2⟩
    · exact .inr z
  have mix : ∀ {i j k : Nat} {b : Addr}, ws[i]? = some (.ref k) → j ∉ refsOf ws → Held ρ' σ H2 k b → Held ρ' σ H2 j b → False := fun {i j k b} g n h1 h2 => by
    have h2 := held_out n h2
    rcases old (held_in g h1) with ⟨q, hq, h3⟩ | z
    · exact R.dis q j b (fun e => n (e ▸ hq)) h3 h2
    · obtain ⟨o, ho⟩ := R.hSome h2; rw [z] at ho; cases ho
  refine ⟨⟨R'.fz, len.trans R.len, fun j s h => ?_, fun i j b ne h1 h2 => ?_⟩, ⟨A.fz, fun b o h n => A.fr b o h fun l => n (r.live l), A.tr, fun i b h => ?_, fun b h => ?_, fun b h => ?_⟩, ?_⟩
  · by_cases hj : j ∈ refsOf ws
    · obtain ⟨i, g⟩ := refs_pos hj
      obtain ⟨e1, u, e2, e3⟩ := at_in g h
      obtain ⟨u', e4, rr⟩ := R'.slot i s e1
      rw [e2] at e4; cases e4
      refine ⟨u, e3, ?_⟩
      cases s with
      | p d => exact rr
      | own m => exact rr
      | rd m => exact rr
      | sref q =>
        obtain ⟨x, e5, e6⟩ := getE_map e1
        cases e6
        exact (noSrefA_at ns e5).elim
    · have h0 := h
      rw [backS_out hb hj] at h
      obtain ⟨u, e, rr⟩ := R.slot j s h
      refine ⟨u, e, ?_⟩
      cases s with
      | p d => exact Rep.mono A.fz rr
      | sref q => exact rr
      | own m =>
        obtain ⟨a, rfl, rm, _⟩ := rr
        obtain ⟨m1, m2⟩ := mo hj h rfl e
        exact ⟨a, rfl, m1, fun b hb' => fnone hj (by rw [m2] at hb'; exact ⟨_, m, a, h, rfl, e, hb'⟩)⟩
      | rd m =>
        obtain ⟨a, rfl, rm, _⟩ := rr
        obtain ⟨m1, m2⟩ := mo hj h rfl e
        exact ⟨a, rfl, m1, fun b hb' => fnone hj (by rw [m2] at hb'; exact ⟨_, m, a, h, rfl, e, hb'⟩)⟩
  · by_cases hi : i ∈ refsOf ws
    · obtain ⟨p, gp⟩ := refs_pos hi
      by_cases hj : j ∈ refsOf ws
      · obtain ⟨q, gq⟩ := refs_pos hj
        refine R'.dis p q b (fun e => ne ?_) (held_in gp h1) (held_in gq h2)
        subst e
        rw [gp] at gq
        cases gq; rfl
      · exact mix gp hj h1 h2
    · by_cases hj : j ∈ refsOf ws
      · obtain ⟨q, gq⟩ := refs_pos hj
        exact mix gq hi h2 h1
      · exact R.dis i j b ne (held_out hi h1) (held_out hj h2)
  · by_cases hi : i ∈ refsOf ws
    · obtain ⟨p, gp⟩ := refs_pos hi
      rcases old (held_in gp h) with ⟨k, _, hk⟩ | z
      · exact .inl ⟨k, hk⟩
      · exact .inr z
    · exact .inl ⟨i, held_out hi h⟩
  · obtain ⟨i, m, a, h1, h3, h4⟩ := h
    by_cases hi : i ∈ refsOf ws
    · obtain ⟨p, gp⟩ := refs_pos hi
      obtain ⟨e1, u, e2, e3⟩ := at_in gp h1
      rw [h3] at e3; cases e3
      rcases A.nv b ⟨p, m, a, e1, e2, h4⟩ with z | z
      · exact .inl (r.live z)
      · exact .inr z
    · rw [backS_out hb hi] at h1
      rw [(mo hi h1 (s := .own m) rfl h3).2] at h4
      exact .inl ⟨i, m, a, h1, h3, h4⟩
  · rcases A.nf b h with z | z | z | z
    · exact .inl z
    · exact .inr (.inl (r.live z))
    · exact .inr (.inr (.inl z))
    · exact .inr (.inr (.inr z))
  · cases w with
    | p d => exact W'
    | ref k => exact absurd rfl (hw k)
    | tmp m =>
      obtain ⟨a, rfl, rm, nn⟩ := W'
      refine ⟨a, rfl, rm, fun b hb' => ⟨(nn b hb').1, fun i h => ?_⟩⟩
      by_cases hi : i ∈ refsOf ws
      · obtain ⟨p, gp⟩ := refs_pos hi
        exact (nn b hb').2 p (held_in gp h)
      · have h := held_out hi h
        obtain ⟨o, ho⟩ := R.hSome h
        rw [f b hb'] at ho
        cases ho
theorem rd_call {call : Call} {Q : VK} {f : Str} {es : List CE} (h : tE Z call (.call f es) σ H Q) : tCall (spF Z call f es.length) [] E0 (tEs Z call es) σ H Q := by
  obtain ⟨F, ρ, w, ρ', R, ev, k⟩ := h
  simp only [evE, callW, bind_eq_ok, chk_eq_ok, Bool.and_eq_true, decide_eq_true_eq] at ev
  obtain ⟨⟨ws, ρ1⟩, e1, _, nd, ss, e2, ⟨w1, ss'⟩, e3, _, ⟨ns, hl⟩, w2, e4, ρ2, e5, ev⟩ := ev
  cases ev
  have hw : ∀ k, w1 ≠ .ref k := by
    cases w1 with
    | ref k => cases e4
    | p d => simp
    | tmp d => simp
  have ew : w = w1 := by
    cases w1 with
    | ref k => cases e4
    | p d => cases e4; rfl
    | tmp d => cases e4; rfl
  subst ew
  refine ⟨F, ρ, ws, ρ1, R, e1, fun vs F1 H1 R1 A1 W1 f1 => ?_⟩
  show spF Z call f es.length (vs ++ []) H1 Q E0
  rw [List.append_nil]
  obtain ⟨F2, R2, A2, r2⟩ := args_ok R1 W1 e2
  refine ⟨by rw [← W1.length, evEs_len e1], F2, ss, w, ss', r2.srel R2 nd, e3, fun v F' H' R' A' W' f' => ?_⟩
  obtain ⟨R3, A3, W3⟩ := back_ok (F1 := F1) R2 r2 nd ns hl hw R' A' W' f' e5
  exact k v F' H' R3 ((A1.then A2 f1).then A3 (by simp)) W3 fun b hb => A1.key (f' b hb)
end
end Ev

/-! EvI: slots hidden, locked, bound; objects beside the slots. -/
namespace Ev
open PySem PySem.Spec PyProof.Rows L2

section
variable {Z : Ar} {F F' F'' F0 H H' H'' H0 : Hp} {ρ ρ' ρ'' ρ0 : En} {σ σ' σ0 : St} {w : W} {v : V}
/-- fewer slots, some of them locked -/
theorem narrow (R : SRel Z F ρ σ H) (len : ρ'.length = σ'.length)
    (h : ∀ (j : Nat) (s : Sl), ρ'[j]? = some (some s) → ∃ s0, ρ[j]? = some (some s0) ∧ σ'[j]? = σ[j]? ∧ ((s = s0 ∧ ∀ k, s = .sref k → σ'[k]? = σ[k]?) ∨ ∃ m, s0 = .own m ∧ s = .rd m)) :
    SRel Z F ρ' σ' H ∧ Adv [] F ρ σ H F ρ' σ' H := by
  have held : ∀ {j : Nat} {b : Addr}, Held ρ' σ' H j b → Held ρ σ H j b := fun {j b} hb => by
    obtain ⟨s, m, a, h1, h2, h3, h4⟩ := hb
    obtain ⟨s0, e1, e2, e3⟩ := h j s h1
    rw [e2] at h3
    rcases e3 with ⟨rfl, _⟩ | ⟨m', rfl, rfl⟩
    · exact ⟨s, m, a, e1, h2, h3, h4⟩
    · cases h2; exact ⟨_, m, a, e1, rfl, h3, h4⟩
  have live : ∀ {b : Addr}, Live ρ' σ' H b → Live ρ σ H b := fun {b} hb => by
    obtain ⟨i, m, a, h1, h3, h4⟩ := hb
    obtain ⟨s0, e1, e2, e3⟩ := h i _ h1
    rw [e2] at h3
    rcases e3 with ⟨rfl, _⟩ | ⟨m', rfl, e⟩
    · exact ⟨i, m, a, e1, h3, h4⟩
    · cases e
  refine ⟨⟨R.fz, len, fun j s hs => ?_, fun i j b ne h1 h2 => R.dis i j b ne (held h1) (held h2)⟩, ⟨.refl, fun b o h _ => h, fun b h => h, fun i b h => .inl ⟨i, held h⟩, fun b h => .inl (live h), fun b h => .inl h⟩⟩
  obtain ⟨s0, e1, e2, e3⟩ := h j s hs
  obtain ⟨v, e4, r⟩ := R.slot j s0 e1
  refine ⟨v, e2.trans e4, ?_⟩
  rcases e3 with ⟨rfl, ns⟩ | ⟨m', rfl, rfl⟩
  · cases s with
    | sref k => exact (ns k rfl).trans r
    | p d => exact r
    | own m => exact r
    | rd m => exact r
  · exact r
/-- out of an inner frame -/
theorem leave_ok {ρi ρn : En} {σi σn : St} {F2 H2 : Hp} (R : SRel Z F ρ σ H) (R2 : SRel Z F2 ρn σn H2) (A2 : Adv [] F ρi σi H F2 ρn σn H2) (len : ρ'.length = σ'.length)
    (hi : ∀ (j : Nat) (s : Sl), ρi[j]? = some (some s) → ∃ s0, ρ[j]? = some (some s0) ∧ σi[j]? = σ[j]? ∧ ((s = s0 ∧ ∀ k, s = .sref k → σi[k]? = σ[k]?) ∨ ∃ m, s0 = .own m ∧ s = .rd m))
    (hn : ∀ (j : Nat) (s : Sl), ρ'[j]? = some (some s) →
      (ρn[j]? = some (some s) ∧ σ'[j]? = σn[j]? ∧ ∀ k, s = .sref k → σ'[k]? = σn[k]?) ∨
      (ρ[j]? = some (some s) ∧ (∀ s', ρi[j]? ≠ some (some s')) ∧ σ'[j]? = σ[j]? ∧ ∀ k, s = .sref k → σ'[k]? = σ[k]?) ∨
      ∃ m m', s = .own m ∧ m.flat = true ∧ ρ[j]? = some (some (.own m)) ∧ ρi[j]? = some (some (.rd m)) ∧ ρn[j]? = some (some (.rd m')) ∧ σ'[j]? = σ[j]? ∧ σ'[j]? = σn[j]?) :
    SRel Z F2 ρ' σ' H2 ∧ Adv [] F ρ σ H F2 ρ' σ' H2 ∧ ∀ j b, Held ρ' σ' H2 j b → Held ρn σn H2 j b ∨ Held ρ σ H j b := by
  have heldi : ∀ {j : Nat} {b : Addr}, Held ρi σi H j b → Held ρ σ H j b := fun {j b} hb => by
    obtain ⟨s, m, a, h1, h2, h3, h4⟩ := hb
    obtain ⟨s0, e1, e2, e3⟩ := hi j s h1
    rw [e2] at h3
    rcases e3 with ⟨rfl, _⟩ | ⟨m', rfl, rfl⟩
    · exact ⟨s, m, a, e1, h2, h3, h4⟩
    · cases h2; exact ⟨_, m, a, e1, rfl, h3, h4⟩
  have livei : ∀ {b : Addr}, Live ρi σi H b → ∃ (i : Nat) (m : MO) (a : Addr), ρi[i]? = some (some (.own m)) ∧ ρ[i]? = some (some (.own m)) ∧ σ[i]? = some (some (.ref a)) ∧ b ∈ fpL H a m := fun {b} hb => by
    obtain ⟨i, m, a, h1, h3, h4⟩ := hb
    obtain ⟨s0, e1, e2, e3⟩ := hi i _ h1
    rw [e2] at h3
    rcases e3 with ⟨rfl, _⟩ | ⟨m', rfl, e⟩
    · exact ⟨i, m, a, h1, e1, h3, h4⟩
    · cases e
  have liveo : ∀ {b : Addr}, Live ρi σi H b → Live ρ σ H b := fun {b} hb => by
    obtain ⟨i, m, a, _, h1, h3, h4⟩ := livei hb
    exact ⟨i, m, a, h1, h3, h4⟩
  -- what is not live within stays as it is
  have keep : ∀ {j : Nat} {b : Addr}, Held ρ σ H j b → ¬ (∃ m, ρi[j]? = some (some (.own m))) → H2 b = H b ∧ F2 b = none := fun {j b} hb n => by
    have nl : ¬ Live ρi σi H b := fun l => by
      obtain ⟨i, m, a, g0, g1, g2, g3⟩ := livei l
      have e : i = j := Classical.byContradiction fun ne => R.dis i j b ne ⟨_, m, a, g1, rfl, g2, g3⟩ hb
      subst e
      exact n ⟨m, g0⟩
    obtain ⟨o, ho⟩ := R.hSome hb
    refine ⟨by rw [ho]; exact A2.fr b o ho nl, ?_⟩
    cases q : F2 b with
    | none => rfl
    | some u =>
      rcases A2.nf b (by rw [q]; simp) with z | z | z | z
      · exact absurd (R.fNone hb) z
      · exact absurd z nl
      · rw [z] at ho; cases ho
      · cases z
  have old : ∀ {j : Nat} {s : Sl} {m : MO} {a : Addr}, ρ[j]? = some (some s) → moOf s = some m → σ[j]? = some (some (.ref a)) → ¬ (∃ m, ρi[j]? = some (some (.own m))) → MoRep Z F2 H2 a m ∧ fpL H2 a m = fpL H a m := fun {j s m a} h1 h2 h3 n => by
    obtain ⟨v', e, rr⟩ := R.slot j s h1
    rw [h3] at e; cases e
    have rm : MoRep Z F H a m := by
      cases s with
      | own m1 => cases h2; obtain ⟨_, q, rm, _⟩ := rr; cases q; exact rm
      | rd m1 => cases h2; obtain ⟨_, q, rm, _⟩ := rr; cases q; exact rm
      | p d => cases h2
      | sref q => cases h2
    have k : ∀ b ∈ fpL H a m, H2 b = H b := fun b hb => (keep ⟨s, m, a, h1, h2, h3, hb⟩ n).1
    exact ⟨rm.keep A2.fz k, fpL_eq rm k⟩
  -- the cases of what is held behind
  have held : ∀ {j : Nat} {b : Addr}, Held ρ' σ' H2 j b → Held ρn σn H2 j b ∨ (Held ρ σ H j b ∧ ∀ s', ρi[j]? ≠ some (some s')) := fun {j b} hb => by
    obtain ⟨s, m, a, h1, h2, h3, h4⟩ := hb
    rcases hn j s h1 with ⟨g1, g2, _⟩ | ⟨g1, g2, g3, _⟩ | ⟨m1, m2, rfl, g0, g1, g2, g3, g4, g5⟩
    · exact .inl ⟨s, m, a, g1, h2, g2 ▸ h3, h4⟩
    · rw [g3] at h3
      have n : ¬ (∃ m, ρi[j]? = some (some (.own m))) := fun ⟨m, e⟩ => g2 _ e
      rw [(old g1 h2 h3 n).2] at h4
      exact .inr ⟨⟨s, m, a, g1, h2, h3, h4⟩, g2⟩
    · cases h2
      rw [g5] at h3
      refine .inl ⟨_, m2, a, g3, rfl, h3, ?_⟩
      have e : b = a := by
        cases m with
        | lo ls => cases g0
        | lst xs => simpa [fpL] using h4
        | dk xs => simpa [fpL] using h4
        | dn xs => simpa [fpL] using h4
      subst e
      exact fpL_self
  have mix : ∀ {i j : Nat} {b : Addr}, i ≠ j → Held ρn σn H2 i b → Held ρ σ H j b → (∀ s', ρi[j]? ≠ some (some s')) → False := fun {i j b} ne h1 h2 n => by
    rcases A2.nl i b h1 with ⟨q, hq⟩ | z
    · by_cases e : q = j
      · subst e
        obtain ⟨s, m, a, g1, _⟩ := hq
        exact n s g1
      · exact R.dis q j b e (heldi hq) h2
    · obtain ⟨o, ho⟩ := R.hSome h2; rw [z] at ho; cases ho
  refine ⟨⟨R2.fz, len, fun j s h => ?_, fun i j b ne h1 h2 => ?_⟩, ⟨A2.fz, fun b o h n => A2.fr b o h fun l => n (liveo l), A2.tr, fun i b h => ?_, fun b h => ?_, fun b h => ?_⟩, fun j b h => (held h).imp id fun h => h.1⟩
  · rcases hn j s h with ⟨g1, g2, g3⟩ | ⟨g1, g2, g3, g4⟩ | ⟨m1, m2, rfl, g0, g1, g2, g3, g4, g5⟩
    · obtain ⟨v, e, r⟩ := R2.slot j s g1
      refine ⟨v, g2.trans e, ?_⟩
      cases s with
      | sref k => exact (g3 k rfl).trans r
      | p d => exact r
      | own m => exact r
      | rd m => exact r
    · obtain ⟨v, e, r⟩ := R.slot j s g1
      refine ⟨v, g3.trans e, ?_⟩
      have n : ¬ (∃ m, ρi[j]? = some (some (.own m))) := fun ⟨m, e⟩ => g2 _ e
      cases s with
      | sref k => exact (g4 k rfl).trans r
      | p d => exact Rep.mono A2.fz r
      | own m =>
        obtain ⟨a, rfl, _, _⟩ := r
        obtain ⟨m1, m2⟩ := old g1 rfl e n
        exact ⟨a, rfl, m1, fun b hb => (keep ⟨_, m, a, g1, rfl, e, m2 ▸ hb⟩ n).2⟩
      | rd m =>
        obtain ⟨a, rfl, _, _⟩ := r
        obtain ⟨m1, m2⟩ := old g1 rfl e n
        exact ⟨a, rfl, m1, fun b hb => (keep ⟨_, m, a, g1, rfl, e, m2 ▸ hb⟩ n).2⟩
    · obtain ⟨v, e, r⟩ := R.slot j _ g1
      refine ⟨v, g4.trans e, ?_⟩
      have n : ¬ (∃ m, ρi[j]? = some (some (.own m))) := fun ⟨m, e⟩ => by rw [g2] at e; cases e
      obtain ⟨a, rfl, _, _⟩ := r
      obtain ⟨q1, q2⟩ := old g1 rfl e n
      exact ⟨a, rfl, q1, fun b hb => (keep ⟨_, m1, a, g1, rfl, e, q2 ▸ hb⟩ n).2⟩
  · rcases held h1 with h1 | ⟨h1, n1⟩
    · rcases held h2 with h2 | ⟨h2, n2⟩
      · exact R2.dis i j b ne h1 h2
      · exact mix ne h1 h2 n2
    · rcases held h2 with h2 | ⟨h2, n2⟩
      · exact mix (Ne.symm ne) h2 h1 n1
      · exact R.dis i j b ne h1 h2
  · rcases held h with h | ⟨h, _⟩
    · rcases A2.nl i b h with ⟨q, hq⟩ | z
      · exact .inl ⟨q, heldi hq⟩
      · exact .inr z
    · exact .inl ⟨i, h⟩
  · obtain ⟨i, m, a, h1, h3, h4⟩ := h
    rcases hn i _ h1 with ⟨g1, g2, _⟩ | ⟨g1, g2, g3, _⟩ | ⟨m1, m2, e, g0, g1, g2, g3, g4, g5⟩
    · rw [g2] at h3
      rcases A2.nv b ⟨i, m, a, g1, h3, h4⟩ with z | z
      · exact .inl (liveo z)
      · exact .inr z
    · rw [g3] at h3
      have n : ¬ (∃ m, ρi[i]? = some (some (.own m))) := fun ⟨m, e⟩ => g2 _ e
      rw [(old g1 (s := .own m) rfl h3 n).2] at h4
      exact .inl ⟨i, m, a, g1, h3, h4⟩
    · cases e
      rw [g4] at h3
      have n : ¬ (∃ m, ρi[i]? = some (some (.own m))) := fun ⟨m, e⟩ => by rw [g2] at e; cases e
      rw [(old g1 (s := .own m) rfl h3 n).2] at h4
      exact .inl ⟨i, m, a, g1, h3, h4⟩
  · rcases A2.nf b h with z | z | z | z
    · exact .inl z
    · exact .inr (.inl (liveo z))
    · exact .inr (.inr (.inl z))
    · exact .inr (.inr (.inr z))
/-- no other slot is a second name of i -/
theorem noSref_at {i j k : Nat} (h : noSref ρ i = true) (e : ρ[j]? = some (some (.sref k))) : k ≠ i := by
  unfold noSref at h
  rw [List.all_eq_true] at h
  have := h _ (List.mem_of_getElem? e)
  simpa using this
/-- a name is bound -/
theorem bindS_ok {lk : List Nat} {i : Nat} (R : SRel Z F ρ σ H) (A : Adv [] F0 ρ0 σ0 H0 F ρ σ H) (r : WRep Z F ρ σ H w v) (f : Fresh H0 H w v) (h : bindS lk i w ρ = .ok ρ') :
    SRel Z F ρ' (σ.set i (some v)) H ∧ Adv [] F0 ρ0 σ0 H0 F ρ' (σ.set i (some v)) H ∧ i ∉ lk ∧ i < ρ.length ∧ ∀ j b, Held ρ' (σ.set i (some v)) H j b → Held ρ σ H j b ∨ b ∈ fpW H w v := by
  simp only [bindS, bind_eq_ok, chk_eq_ok, Bool.and_eq_true, decide_eq_true_eq, Bool.not_eq_true', List.contains_eq_mem, decide_eq_false_iff_not] at h
  obtain ⟨_, ⟨⟨ns, nl⟩, hlt⟩, h⟩ := h
  have key : ∃ s, ρ' = ρ.set i (some s) ∧ ((∃ d, w = .p d ∧ s = .p d) ∨ ∃ m, w = .tmp m ∧ s = .own m) := by
    cases w with
    | p d => cases h; exact ⟨_, rfl, .inl ⟨d, rfl, rfl⟩⟩
    | tmp m => cases h; exact ⟨_, rfl, .inr ⟨m, rfl, rfl⟩⟩
    | ref k => cases h
  obtain ⟨s, rfl, hs⟩ := key
  have hlt' : i < σ.length := by rw [← R.len]; exact hlt
  have held : ∀ {j : Nat} {b : Addr}, Held (ρ.set i (some s)) (σ.set i (some v)) H j b → (j ≠ i ∧ Held ρ σ H j b) ∨ (j = i ∧ b ∈ fpW H w v) := fun {j b} hb => by
    obtain ⟨s', m, a, h1, h2, h3, h4⟩ := hb
    by_cases e : i = j
    · subst e
      rw [List.getElem?_set_self hlt] at h1
      rw [List.getElem?_set_self hlt'] at h3
      cases h1; cases h3
      refine .inr ⟨rfl, ?_⟩
      rcases hs with ⟨d, rfl, rfl⟩ | ⟨m', rfl, rfl⟩
      · cases h2
      · cases h2; exact h4
    · rw [List.getElem?_set_ne e] at h1 h3
      exact .inl ⟨Ne.symm e, s', m, a, h1, h2, h3, h4⟩
  have wn : ∀ {b : Addr}, b ∈ fpW H w v → F b = none ∧ ∀ j, ¬ Held ρ σ H j b := fun {b} hb => by
    cases w with
    | p d => cases v <;> cases hb
    | ref k => cases v <;> cases hb
    | tmp m => obtain ⟨a, rfl, _, n⟩ := r; exact n b hb
  refine ⟨⟨R.fz, by rw [List.length_set, List.length_set]; exact R.len, fun j s' h1 => ?_, fun p q b ne h1 h2 => ?_⟩, ⟨A.fz, A.fr, A.tr, fun j b hb => ?_, fun b hb => ?_, A.nf⟩, nl, hlt, fun j b hb => (held hb).imp (fun h => h.2) fun h => h.2⟩
  · by_cases e : i = j
    · subst e
      rw [List.getElem?_set_self hlt] at h1
      cases h1
      refine ⟨v, by rw [List.getElem?_set_self hlt'], ?_⟩
      rcases hs with ⟨d, rfl, rfl⟩ | ⟨m', rfl, rfl⟩
      · exact r
      · obtain ⟨a, rfl, r, n⟩ := r; exact ⟨a, rfl, r, fun b hb => (n b hb).1⟩
    · rw [List.getElem?_set_ne e] at h1
      obtain ⟨u, e1, r1⟩ := R.slot j s' h1
      refine ⟨u, by rw [List.getElem?_set_ne e]; exact e1, ?_⟩
      cases s' with
      | p d => exact r1
      | own m => exact r1
      | rd m => exact r1
      | sref k =>
        show (σ.set i (some v))[k]? = some (some u)
        rw [List.getElem?_set_ne (Ne.symm (noSref_at ns h1))]
        exact r1
  · rcases held h1 with ⟨n1, h1⟩ | ⟨n1, h1⟩
    · rcases held h2 with ⟨n2, h2⟩ | ⟨n2, h2⟩
      · exact R.dis p q b ne h1 h2
      · exact (wn h2).2 p h1
    · rcases held h2 with ⟨n2, h2⟩ | ⟨n2, h2⟩
      · exact (wn h1).2 q h2
      · exact ne (n1.trans n2.symm)
  · rcases held hb with ⟨_, hb⟩ | ⟨_, hb⟩
    · exact A.nl j b hb
    · exact .inr (f b hb)
  · obtain ⟨j, m, a, h1, h3, h4⟩ := hb
    by_cases e : i = j
    · subst e
      rcases held ⟨_, m, a, h1, rfl, h3, h4⟩ with ⟨n, _⟩ | ⟨_, hb⟩
      · exact absurd rfl n
      · exact .inr (f b hb)
    · rw [List.getElem?_set_ne e] at h1 h3
      exact A.nv b ⟨j, m, a, h1, h3, h4⟩

/-! ### objects beside the slots -/
def Out (F : Hp) (ρ : En) (σ : St) (H : Hp) (D : Addr) : Prop := F D = none ∧ ∀ i, ¬ Held ρ σ H i D
theorem Out.adv {D : Addr} {o : HO} (x : Out F ρ σ H D) (e : H D = some o) (A : Adv [] F ρ σ H F' ρ' σ' H') : Out F' ρ' σ' H' D ∧ H' D = some o := by
  have nl : ¬ Live ρ σ H D := fun l => by obtain ⟨i, h⟩ := l.held; exact x.2 i h
  refine ⟨⟨?_, fun i h => ?_⟩, A.fr D o e nl⟩
  · cases q : F' D with
    | none => rfl
    | some u =>
      rcases A.nf D (by rw [q]; simp) with z | z | z | z
      · exact absurd x.1 z
      · exact absurd z nl
      · rw [e] at z; cases z
      · cases z
  · rcases A.nl i D h with ⟨j, h⟩ | z
    · exact x.2 j h
    · rw [e] at z; cases z
theorem MoRep.out {m : MO} {a D : Addr} {o : HO} (r : MoRep Z F H a m) (n : D ∉ fpL H a m) : MoRep Z F (upd H D o) a m ∧ fpL (upd H D o) a m = fpL H a m := by
  have k : ∀ b ∈ fpL H a m, upd H D o b = H b := fun b hb => upd_ne fun e => n (e ▸ hb)
  exact ⟨r.keep Sub.refl k, fpL_eq r k⟩
theorem SRel.out {D : Addr} {o : HO} (R : SRel Z F ρ σ H) (x : Out F ρ σ H D) : SRel Z F ρ σ (upd H D o) ∧ (∀ i b, Held ρ σ (upd H D o) i b → Held ρ σ H i b) ∧ ∀ b, Live ρ σ (upd H D o) b → Live ρ σ H b := by
  have key : ∀ {j : Nat} {s : Sl} {m : MO} {a : Addr}, ρ[j]? = some (some s) → moOf s = some m → σ[j]? = some (some (.ref a)) → MoRep Z F (upd H D o) a m ∧ fpL (upd H D o) a m = fpL H a m := fun {j s m a} h1 h2 h3 => by
    obtain ⟨v', e, rr⟩ := R.slot j s h1
    rw [h3] at e; cases e
    have rm : MoRep Z F H a m := by
      cases s with
      | own m1 => cases h2; obtain ⟨_, q, rm, _⟩ := rr; cases q; exact rm
      | rd m1 => cases h2; obtain ⟨_, q, rm, _⟩ := rr; cases q; exact rm
      | p d => cases h2
      | sref q => cases h2
    exact rm.out fun hb => x.2 j ⟨s, m, a, h1, h2, h3, hb⟩
  have held : ∀ {j : Nat} {b : Addr}, Held ρ σ (upd H D o) j b → Held ρ σ H j b := fun {j b} hb => by
    obtain ⟨s, m, a, h1, h2, h3, h4⟩ := hb
    rw [(key h1 h2 h3).2] at h4
    exact ⟨s, m, a, h1, h2, h3, h4⟩
  refine ⟨⟨fun b u h => ?_, R.len, fun j s h => ?_, fun i j b ne h1 h2 => R.dis i j b ne (held h1) (held h2)⟩, fun i b h => held h, fun b hb => ?_⟩
  · rw [upd_ne (fun e => by rw [e, x.1] at h; cases h)]
    exact R.fz b u h
  · obtain ⟨v, e, r⟩ := R.slot j s h
    refine ⟨v, e, ?_⟩
    cases s with
    | p d => exact r
    | sref k => exact r
    | own m =>
      obtain ⟨a, rfl, r, n⟩ := r
      obtain ⟨k1, k2⟩ := key h rfl e
      exact ⟨a, rfl, k1, by rw [k2]; exact n⟩
    | rd m =>
      obtain ⟨a, rfl, r, n⟩ := r
      obtain ⟨k1, k2⟩ := key h rfl e
      exact ⟨a, rfl, k1, by rw [k2]; exact n⟩
  · obtain ⟨i, m, a, h1, h3, h4⟩ := hb
    rw [(key h1 (s := .own m) rfl h3).2] at h4
    exact ⟨i, m, a, h1, h3, h4⟩
theorem Adv.out {D : Addr} {o : HO} (A : Adv [] F0 ρ0 σ0 H0 F ρ σ H) (R : SRel Z F ρ σ H) (x : Out F ρ σ H D) (h0 : H0 D = none) : Adv [] F0 ρ0 σ0 H0 F ρ σ (upd H D o) := by
  obtain ⟨_, held, live⟩ := R.out (o := o) x
  refine ⟨A.fz, fun b u h n => ?_, fun b h => ?_, fun i b h => A.nl i b (held i b h), fun b h => A.nv b (live b h), A.nf⟩
  · rw [upd_ne (fun e => by rw [e, h0] at h; cases h)]
    exact A.fr b u h n
  · unfold upd
    split
    · simp
    · exact A.tr b h
theorem WRep.out {D : Addr} {o : HO} (R : SRel Z F ρ σ H) (x : Out F ρ σ H D) (r : WRep Z F ρ σ H w v) (n : D ∉ fpW H w v) : WRep Z F ρ σ (upd H D o) w v ∧ fpW (upd H D o) w v = fpW H w v := by
  cases w with
  | p d => exact ⟨r, by cases v <;> rfl⟩
  | ref k => exact ⟨r, by cases v <;> rfl⟩
  | tmp m =>
    obtain ⟨a, rfl, r, h⟩ := r
    obtain ⟨r1, r2⟩ := r.out (o := o) n
    obtain ⟨_, held, _⟩ := R.out (o := o) x
    refine ⟨⟨a, rfl, r1, fun b hb => ?_⟩, r2⟩
    rw [r2] at hb
    exact ⟨(h b hb).1, fun i hh => (h b hb).2 i (held i b hh)⟩
theorem WReps.out {D : Addr} {o : HO} {ws : List W} {vs : List V} (R : SRel Z F ρ σ H) (x : Out F ρ σ H D) (r : WReps Z F ρ σ H ws vs) (n : D ∉ fpsW H ws vs) : WReps Z F ρ σ (upd H D o) ws vs ∧ fpsW (upd H D o) ws vs = fpsW H ws vs := by
  induction r with
  | nil => exact ⟨.nil, rfl⟩
  | @cons w v ws vs r d t ih =>
    have n1 : D ∉ fpW H w v := fun h => n (List.mem_append_left _ h)
    have n2 : D ∉ fpsW H ws vs := fun h => n (List.mem_append_right _ h)
    obtain ⟨r1, e1⟩ := r.out (o := o) R x n1
    obtain ⟨r2, e2⟩ := ih n2
    refine ⟨.cons r1 (by rw [e1, e2]; exact d) r2, ?_⟩
    show fpW _ _ _ ++ fpsW _ _ _ = _
    rw [e1, e2]; rfl
theorem fpsW_snoc {ws : List W} {vs : List V} (e : ws.length = vs.length) : fpsW H (ws ++ [w]) (vs ++ [v]) = fpsW H ws vs ++ fpW H w v := by
  induction ws generalizing vs with
  | nil => cases vs with
    | nil => simp [fpsW]
    | cons u us => cases e
  | cons x xs ih => cases vs with
    | nil => cases e
    | cons u us =>
      show fpW H x u ++ fpsW H (xs ++ [w]) (us ++ [v]) = (fpW H x u ++ fpsW H xs us) ++ fpW H w v
      rw [ih (by simpa using e), List.append_assoc]
theorem WReps.snoc {ws : List W} {vs : List V} (r : WReps Z F ρ σ H ws vs) (q : WRep Z F ρ σ H w v) (n : ∀ b ∈ fpW H w v, b ∉ fpsW H ws vs) : WReps Z F ρ σ H (ws ++ [w]) (vs ++ [v]) := by
  induction r with
  | nil => exact .cons q (fun b _ => by simp [fpsW]) .nil
  | @cons w' v' ws vs r d t ih =>
    refine .cons r (fun b hb hc => ?_) (ih fun b hb hc => n b hb (List.mem_append_right _ hc))
    have hc : b ∈ fpsW H (ws ++ [w]) (vs ++ [v]) := hc
    rw [fpsW_snoc t.length] at hc
    rcases List.mem_append.mp hc with hc | hc
    · exact d b hb hc
    · exact n b hc (List.mem_append_left _ hb)
/-! ### the slots of a block -/
theorem hideGo_at {own : List Nat} : ∀ {ρ : En} {i j : Nat}, (hideGo own i ρ)[j]? = (ρ[j]?).map fun s => hideSl (own.contains (i + j)) s
  | [], i, j => by simp [hideGo]
  | s :: r, i, 0 => by simp [hideGo]
  | s :: r, i, j + 1 => by
    have := hideGo_at (own := own) (ρ := r) (i := i + 1) (j := j)
    simp only [hideGo, List.getElem?_cons_succ, this]
    rw [show i + 1 + j = i + (j + 1) by omega]
theorem hideGo_len {own : List Nat} : ∀ {ρ : En} {i : Nat}, (hideGo own i ρ).length = ρ.length
  | [], i => rfl
  | s :: r, i => by simp [hideGo, hideGo_len (ρ := r)]
theorem hide_at {own : List Nat} {j : Nat} {s : Sl} (h : (hideS own ρ)[j]? = some (some s)) : ρ[j]? = some (some s) ∧ j ∉ own ∧ ∀ k, s ≠ .sref k := by
  unfold hideS at h
  rw [hideGo_at] at h
  cases q : ρ[j]? with
  | none => rw [q] at h; cases h
  | some t =>
    rw [q] at h
    simp only [Option.map_some, hideSl, Nat.zero_add] at h
    split at h
    · cases h
    · rename_i n
      split at h
      · cases h
      · rename_i n2
        cases h
        refine ⟨rfl, by simpa using n, fun k e => ?_⟩
        subst e
        exact n2 _ rfl
theorem hide_len {own : List Nat} : (hideS own ρ).length = ρ.length := hideGo_len
theorem lockW_at {w : W} {j : Nat} {s : Sl} (h : (lockW w ρ)[j]? = some (some s)) : ρ[j]? = some (some s) ∨ ∃ m, w = .ref j ∧ ρ[j]? = some (some (.own m)) ∧ s = .rd m := by
  cases w with
  | p d => exact .inl h
  | tmp d => exact .inl h
  | ref k =>
    simp only [lockW] at h
    split at h
    · rename_i m hm
      by_cases e : k = j
      · subst e
        rw [List.getElem?_set_self ((List.getElem?_eq_some_iff.mp hm).1)] at h
        cases h
        exact .inr ⟨m, rfl, hm, rfl⟩
      · rw [List.getElem?_set_ne e] at h
        exact .inl h
    · exact .inl h
theorem lockW_len {w : W} : (lockW w ρ).length = ρ.length := by
  cases w with
  | p d => rfl
  | tmp d => rfl
  | ref k => simp only [lockW]; split <;> simp
theorem lockAll_len {ws : List W} : (lockAll ws ρ).length = ρ.length := by
  induction ws generalizing ρ with
  | nil => rfl
  | cons w ws ih => exact (ih (ρ := lockW w ρ)).trans lockW_len
theorem lockAll_at {ws : List W} {j : Nat} {s : Sl} (h : (lockAll ws ρ)[j]? = some (some s)) : ρ[j]? = some (some s) ∨ ∃ m, j ∈ refsOf ws ∧ ρ[j]? = some (some (.own m)) ∧ s = .rd m := by
  induction ws generalizing ρ with
  | nil => exact .inl h
  | cons w ws ih =>
    have mm : ∀ {k : Nat}, k ∈ refsOf ws → k ∈ refsOf (w :: ws) := fun {k} hk => by cases w <;> simp [refsOf, hk]
    rcases ih (ρ := lockW w ρ) h with h | ⟨m, h1, h2, h3⟩
    · rcases lockW_at h with h | ⟨m, rfl, h2, h3⟩
      · exact .inl h
      · exact .inr ⟨m, by simp [refsOf], h2, h3⟩
    · rcases lockW_at h2 with h | ⟨m', rfl, h4, h5⟩
      · exact .inr ⟨m, mm h1, h, h3⟩
      · cases h5
/-- at a locked place -/
theorem lockW_keep {w : W} {j : Nat} (h : ∀ m, ρ[j]? ≠ some (some (.own m))) : (lockW w ρ)[j]? = ρ[j]? := by
  cases w with
  | p d => rfl
  | tmp d => rfl
  | ref k =>
    simp only [lockW]
    split
    · rename_i m hm
      by_cases e : k = j
      · subst e; exact absurd hm (h m)
      · rw [List.getElem?_set_ne e]
    · rfl
theorem lockAll_rd {ws : List W} {j : Nat} {m : MO} (h : ρ[j]? = some (some (.rd m))) : (lockAll ws ρ)[j]? = some (some (.rd m)) := by
  induction ws generalizing ρ with
  | nil => exact h
  | cons w ws ih => exact ih (ρ := lockW w ρ) ((lockW_keep fun m' e => by rw [h] at e; cases e).trans h)
theorem lockAll_lk {ws : List W} {j : Nat} {m : MO} (hj : j ∈ refsOf ws) (h : ρ[j]? = some (some (.own m))) : (lockAll ws ρ)[j]? = some (some (.rd m)) := by
  induction ws generalizing ρ with
  | nil => cases hj
  | cons w ws ih =>
    cases w with
    | p d => exact ih (ρ := ρ) hj h
    | tmp d => exact ih (ρ := ρ) hj h
    | ref k =>
      show (lockAll ws (lockW (.ref k) ρ))[j]? = _
      by_cases e : k = j
      · subst e
        refine lockAll_rd ?_
        simp only [lockW, h]
        exact List.getElem?_set_self ((List.getElem?_eq_some_iff.mp h).1)
      · simp only [refsOf, List.mem_cons] at hj
        rcases hj with hj | hj
        · exact absurd hj.symm e
        · refine ih hj ?_
          simp only [lockW]
          split
          · rw [List.getElem?_set_ne e]; exact h
          · exact h
theorem leaveGo_at {own lk : List Nat} : ∀ {ρ ρn ρ' : En} {i : Nat}, leaveGo own lk i ρ ρn = .ok ρ' → ρ'.length = ρ.length ∧ ρn.length = ρ.length ∧ ∀ (j : Nat) (s : Option Sl), ρ'[j]? = some s → ∃ r n, ρ[j]? = some r ∧ ρn[j]? = some n ∧ leaveSl (own.contains (i + j)) (lk.contains (i + j)) r n = .ok s
  | [], [], ρ', i, h => by cases h; exact ⟨rfl, rfl, fun j s h => by simp at h⟩
  | [], _ :: _, _, _, h => by cases h
  | _ :: _, [], _, _, h => by cases h
  | r :: rs, n :: ns, ρ', i, h => by
    simp only [leaveGo, bind_eq_ok] at h
    obtain ⟨s, h1, ss, h2, h⟩ := h
    cases h
    obtain ⟨l1, l2, k⟩ := leaveGo_at h2
    refine ⟨by simp [l1], by simp [l2], fun j s' hj => ?_⟩
    cases j with
    | zero => simp at hj; subst hj; exact ⟨r, n, rfl, rfl, h1⟩
    | succ j =>
      obtain ⟨r', n', e1, e2, e3⟩ := k j s' (by simpa using hj)
      exact ⟨r', n', by simpa using e1, by simpa using e2, by rw [show i + (j + 1) = i + 1 + j by omega]; exact e3⟩
/-- into a comprehension's block -/
theorem enter_at {own : List Nat} {ws : List W} (j : Nat) (s : Sl) (h : (hideS own (lockAll ws ρ))[j]? = some (some s)) :
    ∃ s0, ρ[j]? = some (some s0) ∧ (wipe σ own)[j]? = σ[j]? ∧ ((s = s0 ∧ ∀ k, s = .sref k → (wipe σ own)[k]? = σ[k]?) ∨ ∃ m, s0 = .own m ∧ s = .rd m) := by
  obtain ⟨h1, h2, h3⟩ := hide_at h
  rcases lockAll_at h1 with e | ⟨m, _, e, rfl⟩
  · exact ⟨s, e, wipe_out h2, .inl ⟨rfl, fun k e => absurd e (h3 k)⟩⟩
  · exact ⟨_, e, wipe_out h2, .inr ⟨m, rfl, rfl⟩⟩
/-- out of it -/
theorem leave_comp {own : List Nat} {ws : List W} {ρn : En} {F2 H2 : Hp} (R : SRel Z F ρ σ H) (R2 : SRel Z F2 ρn (wipe σ own) H2) (A2 : Adv [] F (hideS own (lockAll ws ρ)) (wipe σ own) H F2 ρn (wipe σ own) H2) (h : leaveGo own (refsOf ws) 0 ρ ρn = .ok ρ') :
    SRel Z F2 ρ' σ H2 ∧ Adv [] F ρ σ H F2 ρ' σ H2 ∧ ∀ j b, Held ρ' σ H2 j b → Held ρn (wipe σ own) H2 j b ∨ Held ρ σ H j b := by
  obtain ⟨l1, l2, k⟩ := leaveGo_at h
  refine leave_ok R R2 A2 (l1.trans R.len) enter_at fun j s hj => ?_
  obtain ⟨r, n, e1, e2, e3⟩ := k j _ hj
  rw [Nat.zero_add] at e3
  unfold leaveSl at e3
  split at e3
  · rename_i ho
    cases e3
    refine .inr (.inl ⟨e1, fun s' q => ?_, rfl, fun _ _ => rfl⟩)
    exact (hide_at q).2.1 (by simpa using ho)
  · rename_i ho
    have ho : j ∉ own := by simpa using ho
    have vis : noSr n = .ok (some s) → ρn[j]? = some (some s) ∧ σ[j]? = (wipe σ own)[j]? ∧ ∀ k, s = .sref k → σ[k]? = (wipe σ own)[k]? := fun q => by
      unfold noSr at q
      split at q
      · cases q
      · rename_i nn
        cases q
        exact ⟨e2, (wipe_out ho).symm, fun k e => absurd (congrArg some e) (nn k)⟩
    split at e3
    · rename_i k
      cases e3
      refine .inr (.inl ⟨e1, fun s' q => ?_, rfl, fun _ _ => rfl⟩)
      obtain ⟨h1, _, h3⟩ := hide_at q
      rcases lockAll_at h1 with e | ⟨m, _, e, _⟩
      · rw [e1] at e; cases e; exact h3 k rfl
      · rw [e1] at e; cases e
    · rename_i m
      split at e3
      · rename_i hl
        have hl : j ∈ refsOf ws := by simpa using hl
        split at e3
        · rename_i m'
          split at e3
          · rename_i hf
            cases e3
            refine .inr (.inr ⟨m, m', rfl, hf, e1, ?_, e2, rfl, (wipe_out ho).symm⟩)
            have q := lockAll_lk hl e1
            unfold hideS
            rw [hideGo_at, q]
            simp [hideSl, ho]
          · cases e3
        · cases e3
      · exact .inl (vis e3)
    · exact .inl (vis e3)
end
end Ev

/-! EvJ: targets and sources. -/
namespace Ev
open PySem PySem.Spec PyProof.Rows L2

def gNames : List Nat → TGs
  | [] => gNil
  | i :: is => gCons (gName i) (gNames is)
def gT (K : PySem.W.Frag) : TG → L2.TG
  | .one i => gName i
  | .many is => gTup K is.length (gNames is)
/-- what a source yields, for a target -/
def YRep (Z : Ar) (F H : Hp) (tg : TG) (x : P) (v : V) : Prop := match tg with
  | .one _ => Rep Z F x v
  | .many _ => ∀ ds, x = .tup ds → ∃ a vs, v = .ref a ∧ SqT Z.K H a vs ∧ Reps Z F ds vs
section
variable {Z : Ar} {F F' F'' F0 H H' H'' H0 : Hp} {ρ ρ' ρ'' ρ0 : En} {σ σ' σ0 : St} {w : W} {v : V}
theorem wipe_in {j : Nat} : ∀ {vs : List Nat}, j ∈ vs → j < σ.length → (wipe σ vs)[j]? = some none
  | [], h, _ => by cases h
  | v :: vs, h, hl => by
    unfold wipe
    by_cases e : v = j
    · subst e
      rw [List.getElem?_set_self (by rw [wipe_length]; exact hl)]
    · rw [List.getElem?_set_ne e]
      rcases List.mem_cons.mp h with h | h
      · exact absurd h.symm e
      · exact wipe_in h hl
theorem wipe_set {i : Nat} {x : Option V} {own : List Nat} (h : i ∈ own) : wipe (σ.set i x) own = wipe σ own := by
  refine List.ext_getElem? fun j => ?_
  by_cases hj : j ∈ own
  · by_cases hl : j < σ.length
    · rw [wipe_in hj hl, wipe_in hj (by rw [List.length_set]; exact hl)]
    · rw [List.getElem?_eq_none (by rw [wipe_length, List.length_set]; omega), List.getElem?_eq_none (by rw [wipe_length]; omega)]
  · rw [wipe_out hj, wipe_out hj, List.getElem?_set_ne (fun e : i = j => hj (by rw [← e]; exact h))]
theorem bindAll_ok {lk : List Nat} {is : List Nat} {ds : List P} {vs : List V} (R : SRel Z F ρ σ H) (A : Adv [] F0 ρ0 σ0 H0 F ρ σ H) (r : Reps Z F ds vs) (h : bindAll lk is ds ρ = .ok ρ') :
    ∃ σ', SRel Z F ρ' σ' H ∧ Adv [] F0 ρ0 σ0 H0 F ρ' σ' H ∧ (∀ j ∈ lk, σ'[j]? = σ[j]?) ∧ (∀ own, is.all own.contains = true → wipe σ' own = wipe σ own) ∧ vs.length = is.length ∧ ∀ Q, Q σ' H → gNames is vs σ H Q := by
  induction is generalizing ds vs ρ σ with
  | nil =>
    cases ds with
    | nil => cases r; cases h; exact ⟨σ, R, A, fun _ _ => rfl, fun _ _ => rfl, rfl, fun Q q => ⟨rfl, q⟩⟩
    | cons d ds => cases h
  | cons i is ih =>
    cases ds with
    | nil => cases h
    | cons d ds =>
      cases r with
      | @cons _ v _ vs r t =>
        simp only [bindAll, bind_eq_ok] at h
        obtain ⟨ρ1, h1, h2⟩ := h
        obtain ⟨R1, A1, nl, _⟩ := bindS_ok (w := .p d) R A r fresh_p h1
        obtain ⟨σ2, R2, A2, k1, k2, l, k3⟩ := ih R1 A1 t h2
        refine ⟨σ2, R2, A2, fun j hj => ?_, fun own ho => ?_, by simp [l], fun Q q => ⟨v, vs, rfl, k3 Q q⟩⟩
        · rw [k1 j hj, List.getElem?_set_ne (fun e : i = j => nl (by rw [e]; exact hj))]
        · simp only [List.all_cons, Bool.and_eq_true] at ho
          rw [k2 own ho.2, wipe_set (by simpa using ho.1)]
theorem bindT_ok {lk : List Nat} {tg : TG} {x : P} (R : SRel Z F ρ σ H) (A : Adv [] F0 ρ0 σ0 H0 F ρ σ H) (y : YRep Z F H tg x v) (h : bindT lk tg x ρ = .ok ρ') :
    ∃ σ', SRel Z F ρ' σ' H ∧ Adv [] F0 ρ0 σ0 H0 F ρ' σ' H ∧ (∀ j ∈ lk, σ'[j]? = σ[j]?) ∧ (∀ own, tgIn own tg = true → wipe σ' own = wipe σ own) ∧ ∀ Q, Q σ' H → gT Z.K tg v σ H Q := by
  cases tg with
  | one i =>
    obtain ⟨R1, A1, nl, _⟩ := bindS_ok (w := .p x) R A y fresh_p h
    refine ⟨_, R1, A1, fun j hj => List.getElem?_set_ne (fun e : i = j => nl (by rw [e]; exact hj)), fun own ho => wipe_set (by simpa [tgIn] using ho), fun Q q => q⟩
  | many is =>
    cases x with
    | tup ds =>
      obtain ⟨a, vs, rfl, hq, r⟩ := y ds rfl
      obtain ⟨σ2, R2, A2, k1, k2, l, k3⟩ := bindAll_ok R A r h
      exact ⟨σ2, R2, A2, k1, k2, fun Q q => ⟨a, vs, rfl, hq, l, k3 Q q⟩⟩
    | _ => cases h

/-! ### sources -/
/-- the frame of a walk, seen from the frame around it -/
def Inner (ρ : En) (σ : St) (ρi : En) (σi : St) : Prop := ∀ (j : Nat) (s : Sl), ρi[j]? = some (some s) → ∃ s0, ρ[j]? = some (some s0) ∧ σi[j]? = σ[j]? ∧ ((s = s0 ∧ ∀ k, s = .sref k → σi[k]? = σ[k]?) ∨ ∃ m, s0 = .own m ∧ s = .rd m)
structure Walk (Z : Ar) (F : Hp) (ρ : En) (σ : St) (H : Hp) (tg : TG) (J : It) (xs : List P) : Prop where
  stop : ∀ Fk ρk σk Hk, Adv [] F ρ σ H Fk ρk σk Hk → Sub Fk Hk → J.stop xs.length Hk
  turn : ∀ (n : Nat) (x : P), xs[n]? = some x → ∀ Fk ρk σk Hk, Adv [] F ρ σ H Fk ρk σk Hk → Sub Fk Hk → J.go n Hk ∧ ∀ v H'', J.yld n Hk v H'' → Sub Hk H'' ∧ YRep Z Fk H'' tg x v
def iEv (Z : Ar) (call : Call) (tg : TG) (ik : IK) (es : List CE) : TI := fun σ H R => ∃ F ρ ws ρ' xs, SRel Z F ρ σ H ∧ evEs call es ρ = .ok (ws, ρ') ∧ items ik ws ρ' = .ok xs ∧
  ∀ J F' H', SRel Z F' ρ' σ H' → Adv [] F ρ σ H F' ρ' σ H' → (∀ ρi σi, Inner ρ' σ ρi σi → (∀ k ∈ refsOf ws, ∀ m, ρi[k]? ≠ some (some (.own m))) → Walk Z F' ρi σi H' tg J xs) → R J H'
theorem PI.imp {X : Cx} {tg it : Expr} {t t' : TI} (h : PI X tg it t) (i : ∀ σ H R, t' σ H R → t σ H R) : PI X tg it t' := ⟨fun pins s σ H R I q => h.run pins s σ H R I (i σ H R q)⟩
/-- a source stays as it is while it is walked -/
theorem src_ok {ρi : En} {σi : St} {d : P} (R : SRel Z F ρ σ H) (hi : Inner ρ σ ρi σi) (hk : ∀ k, w = .ref k → ∀ m, ρi[k]? ≠ some (some (.own m))) (r : WRep Z F ρ σ H w v) (h : peek w ρ = .ok d)
    {Fk : Hp} {ρk : En} {σk : St} {Hk : Hp} (A : Adv [] F ρi σi H Fk ρk σk Hk) (s : Sub Fk Hk) : RepT Z Fk Hk d v := by
  have live : ∀ {b : Addr}, Live ρi σi H b → ∃ i m, ρi[i]? = some (some (.own m)) ∧ Held ρ σ H i b := fun {b} hb => by
    obtain ⟨i, m, a, h1, h3, h4⟩ := hb
    obtain ⟨s0, e1, e2, e3⟩ := hi i _ h1
    rw [e2] at h3
    rcases e3 with ⟨rfl, _⟩ | ⟨m', rfl, e⟩
    · exact ⟨i, m, h1, _, m, a, e1, rfl, h3, h4⟩
    · cases e
  have mo : ∀ {m : MO} {a : Addr}, m.flat = true → MoRep Z F H a m → (∀ b ∈ fpL H a m, ¬ Live ρi σi H b) → RepT Z Fk Hk m.toP (.ref a) := fun {m a} hf rm n => by
    have k : ∀ b ∈ fpL H a m, Hk b = H b := fun b hb => by
      obtain ⟨o, ho⟩ := rm.fp_some b hb
      rw [ho]
      exact A.fr b o ho (n b hb)
    exact (rm.keep A.fz k).top hf
  cases w with
  | p d' => cases h; exact Rep.top s (Rep.mono A.fz r)
  | tmp m =>
    obtain ⟨a, rfl, r, n⟩ := r
    simp only [peek, bind_eq_ok, chk_eq_ok] at h
    obtain ⟨_, hf, h⟩ := h
    cases h
    exact mo hf r fun b hb l => by
      obtain ⟨i, _, _, q⟩ := live l
      exact (n b hb).2 i q
  | ref k =>
    simp only [peek, bind_eq_ok, chk_eq_ok] at h
    obtain ⟨m, hm, _, hf, h⟩ := h
    cases h
    obtain ⟨a, rfl, r, _, hh⟩ := R.mo hm r
    exact mo hf r fun b hb l => by
      obtain ⟨i, m', q1, q⟩ := live l
      have e : i = k := Classical.byContradiction fun ne => R.dis i k b ne q (hh b hb)
      subst e
      exact hk i rfl m' q1
theorem RepT.seqL {d : P} {xs : List P} (r : RepT Z F H d v) (h : lstP d = .ok xs) : ∃ a vs, v = .ref a ∧ SqL Z.K H a vs ∧ Reps Z F xs vs := by
  cases r with
  | lst h1 r => cases h; exact ⟨_, _, rfl, SqL.of h1, r⟩
  | _ => cases h
/-- over a list -/
theorem walk_list {a : Addr} {tg : TG} {xs : List P} (h : ∀ Fk ρk σk Hk, Adv [] F ρ σ H Fk ρk σk Hk → Sub Fk Hk → ∃ vs, SqL Z.K Hk a vs ∧ Reps Z Fk xs vs) : Walk Z F ρ σ H tg (Itl Z.K a) xs := by
  refine ⟨fun Fk ρk σk Hk A s => ?_, fun n x hx Fk ρk σk Hk A s => ?_⟩
  · obtain ⟨vs, h1, r⟩ := h Fk ρk σk Hk A s
    exact ⟨vs, h1, by rw [r.length]; exact Nat.le_refl _⟩
  · obtain ⟨vs, h1, r⟩ := h Fk ρk σk Hk A s
    obtain ⟨y, hy, ry⟩ := r.get hx
    refine ⟨⟨vs, y, h1, hy⟩, fun v H'' ⟨e, q⟩ => ?_⟩
    subst e
    have := q vs h1
    rw [hy] at this; cases this
    refine ⟨Sub.refl, ?_⟩
    cases tg with
    | one i => exact ry
    | many is => intro ds e; subst e; cases ry with
      | tup h2 r2 => exact ⟨_, _, rfl, s.sqT h2.sqT, r2⟩
theorem walk_tup {a : Addr} {tg : TG} {xs : List P} (h : ∀ Fk ρk σk Hk, Adv [] F ρ σ H Fk ρk σk Hk → Sub Fk Hk → ∃ vs, SqT Z.K Hk a vs ∧ Reps Z Fk xs vs) : Walk Z F ρ σ H tg (Itt Z.K a) xs := by
  refine ⟨fun Fk ρk σk Hk A s => ?_, fun n x hx Fk ρk σk Hk A s => ?_⟩
  · obtain ⟨vs, h1, r⟩ := h Fk ρk σk Hk A s
    exact ⟨vs, h1, by rw [r.length]; exact Nat.le_refl _⟩
  · obtain ⟨vs, h1, r⟩ := h Fk ρk σk Hk A s
    obtain ⟨y, hy, ry⟩ := r.get hx
    refine ⟨⟨vs, y, h1, hy⟩, fun v H'' ⟨e, q⟩ => ?_⟩
    subst e
    have := q vs h1
    rw [hy] at this; cases this
    refine ⟨Sub.refl, ?_⟩
    cases tg with
    | one i => exact ry
    | many is => intro ds e; subst e; cases ry with
      | tup h2 r2 => exact ⟨_, _, rfl, s.sqT h2.sqT, r2⟩
def iSeq (K : PySem.W.Frag) (tl : TE) : TI := fun σ H R => tl σ H fun x H1 => ∃ a, x = .ref a ∧ (((∃ xs, SqL K H1 a xs) ∧ R (Itl K a) H1) ∨ ((∃ xs, SqT K H1 a xs) ∧ R (Itt K a) H1))
theorem pi_seq {X : Cx} {tg l : Expr} {tl : TE} (hl : PE X l tl) : PI X tg l (iSeq X.K tl) := by
  refine ⟨fun pins s σ H R I h => ?_⟩
  refine thn (hl.run pins s σ H _ I h) fun v s1 ⟨x, H1, I1, r1, q1⟩ => ?_
  obtain ⟨a, e, q⟩ := q1
  subst e
  cases r1
  rcases q with ⟨⟨xs, hq⟩, q⟩ | ⟨⟨xs, hq⟩, q⟩
  · obtain ⟨its, rv, p, hz⟩ := I1.list hq
    refine wpAny_pyIter_list p.isList ?_
    refine ⟨s1.heap.objs.size, [s1.heap.objs.size], _, _, H1, rfl, I1.kept (t' := s1.toks) fun b o e => Heap.get?_push_of_some _ e, turn_list a _, ⟨_, Heap.get?_push_size _ rfl, rfl, rfl⟩, fun b hb => ?_, q⟩
    have e : b = s1.heap.objs.size := by simpa using hb
    subst e
    exact I1.fpOk (Nat.le_refl _) (I1.hok.fresh (Nat.le_refl _))
  · obtain ⟨its, rv, p, hz⟩ := I1.tuple hq
    refine wpAny_pyIter_tuple (show s1.heap.IsTuple a its.toArray from p) ?_
    refine ⟨s1.heap.objs.size, [s1.heap.objs.size], _, _, H1, rfl, I1.kept (t' := s1.toks) fun b o e => Heap.get?_push_of_some _ e, turn_tuple a _, ⟨_, Heap.get?_push_size _ rfl, rfl, rfl⟩, fun b hb => ?_, q⟩
    have e : b = s1.heap.objs.size := by simpa using hb
    subst e
    exact I1.fpOk (Nat.le_refl _) (I1.hok.fresh (Nat.le_refl _))
variable {call : Call} {tg : TG} {R : It → Hp → Prop}
theorem ri_plain {p : CE} (h : iEv Z call tg .plain [p] σ H R) : iSeq Z.K (tE Z call p) σ H R := by
  obtain ⟨F, ρ, ws, ρ', xs, R0, ev, it, k⟩ := h
  simp only [evEs, bind_eq_ok] at ev
  obtain ⟨⟨w, ρ1⟩, e1, ⟨_, _⟩, e2, ev⟩ := ev
  cases e2
  cases ev
  simp only [items, bind_eq_ok] at it
  obtain ⟨d, p1, it⟩ := it
  refine ⟨F, ρ, w, ρ1, R0, e1, fun v F1 H1 R1 A1 W1 f1 => ?_⟩
  have r0 := peek_rep R1 W1 p1
  have src := fun (ρi : En) (σi : St) (hi : Inner ρ1 σ ρi σi) (hk : ∀ k ∈ refsOf [w], ∀ m, ρi[k]? ≠ some (some (.own m))) (Fk : Hp) (ρk : En) (σk : St) (Hk : Hp) (A : Adv [] F1 ρi σi H1 Fk ρk σk Hk) (s : Sub Fk Hk) =>
    src_ok R1 hi (fun k e => hk k (by subst e; simp [refsOf])) W1 p1 A s
  cases r0 with
  | tup h1 r1 =>
    cases it
    refine ⟨_, rfl, .inr ⟨⟨_, R1.fz.sqT h1.sqT⟩, k _ F1 H1 R1 A1 fun ρi σi hi hk => walk_tup fun Fk ρk σk Hk A s => ?_⟩⟩
    cases src ρi σi hi hk Fk ρk σk Hk A s with
    | tup h2 r2 => exact ⟨_, s.sqT h2.sqT, r2⟩
  | lst h1 r1 =>
    cases it
    refine ⟨_, rfl, .inl ⟨⟨_, SqL.of h1⟩, k _ F1 H1 R1 A1 fun ρi σi hi hk => walk_list fun Fk ρk σk Hk A s => ?_⟩⟩
    cases src ρi σi hi hk Fk ρk σk Hk A s with
    | lst h2 r2 => exact ⟨_, SqL.of h2, r2⟩
  | ls h1 r1 =>
    cases it
    refine ⟨_, rfl, .inl ⟨⟨_, h1⟩, k _ F1 H1 R1 A1 fun ρi σi hi hk => walk_list fun Fk ρk σk Hk A s => ?_⟩⟩
    cases src ρi σi hi hk Fk ρk σk Hk A s with
    | ls h2 r2 => exact ⟨_, h2, r2⟩
  | _ => cases it
theorem inR_ok {n : Int} (h : inR n = true) : -(2 ^ 62) ≤ n ∧ n < 2 ^ 62 := by
  simp only [inR, Bool.and_eq_true, decide_eq_true_eq] at h
  omega
theorem walk_rng {lo hi : Int} : Walk Z F ρ σ H tg (Itr lo (hi - lo).toNat) (rngP lo hi) := by
  refine ⟨fun Fk ρk σk Hk A s => ?_, fun n x hx Fk ρk σk Hk A s => ?_⟩
  · show _ ≤ _
    simp [rngP]
  · simp only [rngP, List.getElem?_map, Option.map_eq_some_iff] at hx
    obtain ⟨k, hk, rfl⟩ := hx
    have hk := List.getElem?_eq_some_iff.mp hk
    obtain ⟨h1, h2⟩ := hk
    simp at h1 h2
    subst h2
    refine ⟨?_, fun v H'' ⟨e, q⟩ => ?_⟩
    · show n < (hi - lo).toNat
      omega
    · subst e
      subst q
      refine ⟨Sub.refl, ?_⟩
      cases tg with
      | one i => exact .int _
      | many is => intro ds e; cases e
theorem ri_rng1 {p : CE} (h : iEv Z call tg .rng1 [p] σ H R) : iRng1 (tCons (tE Z call p) tNil) σ H R := by
  obtain ⟨F, ρ, ws, ρ', xs, R0, ev, it, k⟩ := h
  simp only [evEs, bind_eq_ok] at ev
  obtain ⟨⟨w, ρ1⟩, e1, ⟨_, _⟩, e2, ev⟩ := ev
  cases e2
  cases ev
  simp only [items, bind_eq_ok, chk_eq_ok] at it
  obtain ⟨d, p1, n, e3, _, e4, it⟩ := it
  cases it
  refine ⟨F, ρ, w, ρ1, R0, e1, fun v F1 H1 R1 A1 W1 f1 => ?_⟩
  have r0 := peek_rep R1 W1 p1
  cases r0 with
  | int j =>
    cases e3
    obtain ⟨g1, g2⟩ := inR_ok e4
    exact ⟨n, rfl, g1, g2, k _ F1 H1 R1 A1 fun ρi σi hi hk => by
      have := walk_rng (Z := Z) (F := F1) (ρ := ρi) (σ := σi) (H := H1) (tg := tg) (lo := 0) (hi := n)
      simpa using this⟩
  | _ => cases e3
theorem ri_rng2 {p q : CE} (h : iEv Z call tg .rng2 [p, q] σ H R) : iRng2 (tCons (tE Z call p) (tCons (tE Z call q) tNil)) σ H R := by
  obtain ⟨F, ρ, ws, ρ', xs, R0, ev, it, k⟩ := h
  simp only [evEs, bind_eq_ok] at ev
  obtain ⟨⟨w, ρ1⟩, e1, ⟨ws1, ρ2⟩, ⟨⟨u, ρ3⟩, e2, ⟨_, _⟩, e3, ev1⟩, ev⟩ := ev
  cases e3
  cases ev1
  cases ev
  simp only [items, bind_eq_ok, chk_eq_ok, Bool.and_eq_true] at it
  obtain ⟨d, p1, d2, p2, n, e3, m, e4, _, ⟨e5, e6⟩, it⟩ := it
  cases it
  have z := rd_two (Q := fun _ _ => True) (r := fun x y H _ => ∃ i j : Int, [x, y] = [.int i, .int j] ∧ (-(2 ^ 62) ≤ i ∧ i < 2 ^ 62 ∧ -(2 ^ 62) ≤ j ∧ j < 2 ^ 62) ∧ R (Itr i (j - i).toNat) H) R0 e1 e2 p1 p2 fun v u F2 H2 R2 A2 r1 r2 => by
    cases r1 with
    | int i =>
      cases e3
      cases r2 with
      | int j =>
        cases e4
        obtain ⟨g1, g2⟩ := inR_ok e5
        obtain ⟨g3, g4⟩ := inR_ok e6
        exact ⟨n, m, rfl, ⟨g1, g2, g3, g4⟩, k _ F2 H2 R2 A2 fun ρi σi hi hk => walk_rng⟩
      | _ => cases e4
    | _ => cases e3
  exact z
theorem enumFrom_at : ∀ {xs : List P} {n i : Nat} {x : P}, (enumFrom n xs)[i]? = some x → ∃ y, xs[i]? = some y ∧ x = .tup [.int (n + i : Nat), y]
  | [], n, i, x, h => by simp [enumFrom] at h
  | y :: ys, n, 0, x, h => by simp [enumFrom] at h; exact ⟨y, rfl, by rw [← h]; rfl⟩
  | y :: ys, n, i + 1, x, h => by
    obtain ⟨z, h1, h2⟩ := enumFrom_at (xs := ys) (n := n + 1) (i := i) (x := x) (by simpa [enumFrom] using h)
    exact ⟨z, by simpa using h1, by rw [h2]; congr 3; omega⟩
theorem enumFrom_len : ∀ {xs : List P} {n : Nat}, (enumFrom n xs).length = xs.length
  | [], n => rfl
  | y :: ys, n => by simp [enumFrom, enumFrom_len (xs := ys)]
theorem ri_enum {p : CE} {is : List Nat} (h : iEv Z call (.many is) .enum [p] σ H R) : iEnum Z.K (tCons (tE Z call p) tNil) σ H R := by
  obtain ⟨F, ρ, ws, ρ', xs, R0, ev, it, k⟩ := h
  simp only [evEs, bind_eq_ok] at ev
  obtain ⟨⟨w, ρ1⟩, e1, ⟨_, _⟩, e2, ev⟩ := ev
  cases e2
  cases ev
  simp only [items, bind_eq_ok] at it
  obtain ⟨d, p1, ys, e3, it⟩ := it
  cases it
  refine ⟨F, ρ, w, ρ1, R0, e1, fun v F1 H1 R1 A1 W1 f1 => ?_⟩
  obtain ⟨a, vs, rfl, hq, r⟩ := (peek_rep R1 W1 p1).seqL e3
  refine ⟨a, vs, rfl, hq, k _ F1 H1 R1 A1 fun ρi σi hi hk => ?_⟩
  have src := fun (Fk : Hp) (ρk : En) (σk : St) (Hk : Hp) (A : Adv [] F1 ρi σi H1 Fk ρk σk Hk) (s : Sub Fk Hk) =>
    (src_ok R1 hi (fun k e => hk k (by subst e; simp [refsOf])) W1 p1 A s).seqL e3
  refine ⟨fun Fk ρk σk Hk A s => ?_, fun n x hx Fk ρk σk Hk A s => ?_⟩
  · obtain ⟨_, us, e, h1, r⟩ := src Fk ρk σk Hk A s
    cases e
    exact ⟨us, h1, by rw [enumFrom_len, r.length]; exact Nat.le_refl _⟩
  · obtain ⟨_, us, e, h1, r⟩ := src Fk ρk σk Hk A s
    cases e
    obtain ⟨y, hy, rfl⟩ := enumFrom_at hx
    obtain ⟨u, hu, ru⟩ := r.get hy
    refine ⟨⟨us, u, h1, hu⟩, fun v H'' ⟨T, x, e1, e2, e3, q⟩ => ?_⟩
    subst e1 e3
    have := q us h1
    rw [hu] at this; cases this
    refine ⟨upd_grow e2, fun ds e => ?_⟩
    cases e
    refine ⟨T, _, rfl, .inl (.inl upd_same), .cons ?_ (.cons ru .nil)⟩
    rw [Nat.zero_add]
    exact .int _
theorem zipP_at : ∀ {xs ys : List P} {i : Nat} {x : P}, (zipP xs ys)[i]? = some x → ∃ y z, xs[i]? = some y ∧ ys[i]? = some z ∧ x = .tup [y, z]
  | [], ys, i, x, h => by simp [zipP] at h
  | y :: xs, [], i, x, h => by simp [zipP] at h
  | y :: xs, z :: ys, 0, x, h => by simp [zipP] at h; exact ⟨y, z, rfl, rfl, h.symm⟩
  | y :: xs, z :: ys, i + 1, x, h => by
    obtain ⟨y', z', h1, h2, h3⟩ := zipP_at (xs := xs) (ys := ys) (i := i) (x := x) (by simpa [zipP] using h)
    exact ⟨y', z', by simpa using h1, by simpa using h2, h3⟩
theorem zipP_len : ∀ {xs ys : List P}, xs.length ≤ (zipP xs ys).length ∨ ys.length ≤ (zipP xs ys).length
  | [], ys => .inl (Nat.zero_le _)
  | y :: xs, [] => .inr (Nat.zero_le _)
  | y :: xs, z :: ys => by
    rcases zipP_len (xs := xs) (ys := ys) with h | h
    · left; simp [zipP]; exact h
    · right; simp [zipP]; exact h
theorem ri_zip {p q : CE} {is : List Nat} (h : iEv Z call (.many is) .zip [p, q] σ H R) : iZip Z.K (tCons (tE Z call p) (tCons (tE Z call q) tNil)) σ H R := by
  obtain ⟨F, ρ, ws, ρ', xs, R0, ev, it, k⟩ := h
  simp only [evEs, bind_eq_ok] at ev
  obtain ⟨⟨w, ρ1⟩, e1, ⟨ws1, ρ2⟩, ⟨⟨u, ρ3⟩, e2, ⟨_, _⟩, e3, ev1⟩, ev⟩ := ev
  cases e3
  cases ev1
  cases ev
  simp only [items, bind_eq_ok] at it
  obtain ⟨d, p1, d2, p2, ys, e3, zs, e4, it⟩ := it
  cases it
  refine ⟨F, ρ, w, ρ1, R0, e1, fun v F1 H1 R1 A1 W1 f1 => ⟨F1, ρ1, u, ρ3, R1, e2, fun v2 F2 H2 R2 A2 W2 f2 => ?_⟩⟩
  have W1' := W1.adv0 A2
  obtain ⟨a, vs, rfl, hq, r⟩ := (peek_rep R2 W1' p1).seqL e3
  obtain ⟨b, vs2, rfl, hq2, r2⟩ := (peek_rep R2 W2 p2).seqL e4
  refine ⟨a, b, vs, vs2, rfl, hq, hq2, k _ F2 H2 R2 (A1.then A2 (by simp)) fun ρi σi hi hk => ?_⟩
  have src := fun (Fk : Hp) (ρk : En) (σk : St) (Hk : Hp) (A : Adv [] F2 ρi σi H2 Fk ρk σk Hk) (s : Sub Fk Hk) =>
    (src_ok R2 hi (fun k e => hk k (by subst e; simp [refsOf])) W1' p1 A s).seqL e3
  have src2 := fun (Fk : Hp) (ρk : En) (σk : St) (Hk : Hp) (A : Adv [] F2 ρi σi H2 Fk ρk σk Hk) (s : Sub Fk Hk) =>
    (src_ok R2 hi (fun k e => hk k (by subst e; cases w <;> simp [refsOf])) W2 p2 A s).seqL e4
  refine ⟨fun Fk ρk σk Hk A s => ?_, fun n x hx Fk ρk σk Hk A s => ?_⟩
  · obtain ⟨_, us, e, h1, r⟩ := src Fk ρk σk Hk A s
    obtain ⟨_, us2, e', h2, r2⟩ := src2 Fk ρk σk Hk A s
    cases e; cases e'
    refine ⟨us, us2, h1, h2, ?_⟩
    rw [← r.length, ← r2.length]
    exact zipP_len
  · obtain ⟨_, us, e, h1, r⟩ := src Fk ρk σk Hk A s
    obtain ⟨_, us2, e', h2, r2⟩ := src2 Fk ρk σk Hk A s
    cases e; cases e'
    obtain ⟨y, z, hy, hz, rfl⟩ := zipP_at hx
    obtain ⟨u, hu, ru⟩ := r.get hy
    obtain ⟨u2, hu2, ru2⟩ := r2.get hz
    refine ⟨⟨us, us2, u, u2, h1, h2, hu, hu2⟩, fun v H'' ⟨T, x, y', e1, e2, e3, q1, q2⟩ => ?_⟩
    subst e1 e3
    have q1 := q1 us h1
    have q2 := q2 us2 h2
    rw [hu] at q1; cases q1
    rw [hu2] at q2; cases q2
    refine ⟨upd_grow e2, fun ds e => ?_⟩
    cases e
    exact ⟨T, _, rfl, .inl (.inl upd_same), .cons ru (.cons ru2 .nil)⟩
end
end Ev

/-! EvK: comprehensions. -/
namespace Ev
open PySem PySem.Spec PyProof.Rows L2

def lcStep (call : Call) (deep : Bool) (elt : CE) (tg : TG) (cond : Option CE) (own : List Nat) : P → En → R (Option W × En) := fun x ρ => do
  let ρ ← bindT [] tg x ρ
  let (t, ρ) ← evC call cond ρ
  if t = true then (do
    let (w, ρ) ← evE call elt ρ
    let (w, ρ) ← (if deep = true then isTl w ρ else frzW w ρ)
    .ok (some w, hideS own ρ))
  else .ok (none, hideS own ρ)
def tOc (Z : Ar) (call : Call) (cond : Option CE) : TT := fun σ H Q => ∃ F ρ b ρ', SRel Z F ρ σ H ∧ evC call cond ρ = .ok (b, ρ') ∧
  ∀ F' H', SRel Z F' ρ' σ H' → Adv [] F ρ σ H F' ρ' σ H' → Q b H'
section
variable {Z : Ar} {call : Call} {F F' F'' F0 H H' H'' H0 : Hp} {ρ ρ' ρ'' ρ0 : En} {σ σ' σ0 : St} {w : W} {v : V}
theorem rc_none {Q : Bool → Hp → Prop} (h : tOc Z call none σ H Q) : tYes σ H Q := by
  obtain ⟨F, ρ, b, ρ', R, e, k⟩ := h
  simp only [evC] at e
  cases e
  exact k F H R .refl
theorem rc_some {e : CE} {Q : Bool → Hp → Prop} (h : tOc Z call (some e) σ H Q) : tT Z call e σ H Q := by
  obtain ⟨F, ρ, b, ρ', R, e, k⟩ := h
  simp only [evC] at e
  exact ⟨F, ρ, b, ρ', R, e, k⟩
/-- the end of a turn -/
theorem hide_ok {own : List Nat} {σi : St} (R : SRel Z F ρ σ H) (e : wipe σ own = wipe σi own) (hw : σi = wipe σi own) (hl : σi.length = σ.length) : SRel Z F (hideS own ρ) σi H ∧ Adv [] F ρ σ H F (hideS own ρ) σi H ∧ ∀ i b, Held (hideS own ρ) σi H i b → Held ρ σ H i b := by
  have hi : ∀ (j : Nat) (s : Sl), (hideS own ρ)[j]? = some (some s) → ∃ s0, ρ[j]? = some (some s0) ∧ σi[j]? = σ[j]? ∧ ((s = s0 ∧ ∀ k, s = .sref k → σi[k]? = σ[k]?) ∨ ∃ m, s0 = .own m ∧ s = .rd m) := fun j s h => by
    obtain ⟨h1, h2, h3⟩ := hide_at h
    refine ⟨s, h1, ?_, .inl ⟨rfl, fun k e => absurd e (h3 k)⟩⟩
    have := congrArg (fun (t : St) => t[j]?) e
    simp only [wipe_out h2] at this
    exact this.symm
  obtain ⟨R1, A1⟩ := narrow R (hide_len.trans (R.len.trans hl.symm)) hi
  refine ⟨R1, A1, fun i b hb => ?_⟩
  obtain ⟨s, m, a, h1, h2, h3, h4⟩ := hb
  obtain ⟨s0, e1, e2, e3⟩ := hi i s h1
  rw [e2] at h3
  rcases e3 with ⟨rfl, _⟩ | ⟨m', rfl, rfl⟩
  · exact ⟨s, m, a, e1, h2, h3, h4⟩
  · cases h2; exact ⟨_, m, a, e1, rfl, h3, h4⟩
theorem wipe_wipe {own : List Nat} : wipe (wipe σ own) own = wipe σ own := by
  refine List.ext_getElem? fun j => ?_
  by_cases hj : j ∈ own
  · by_cases hl : j < σ.length
    · rw [wipe_in hj (by rw [wipe_length]; exact hl), wipe_in hj hl]
    · rw [List.getElem?_eq_none (by rw [wipe_length, wipe_length]; omega), List.getElem?_eq_none (by rw [wipe_length]; omega)]
  · rw [wipe_out hj]
/-- the items so far, in a comprehension's new list or dict at D -/
structure AccW (Z : Ar) (F1 : Hp) (ρ1 : En) (σi : St) (H1 : Hp) (D : Addr) (rs : List W) (Fk : Hp) (ρk : En) (H : Hp) (vs : List V) : Prop where
  R : SRel Z Fk ρk σi H
  A : Adv [] F1 ρ1 σi H1 Fk ρk σi H
  out : Out Fk ρk σi H D
  reps : WReps Z Fk ρk σi H rs vs
  nD : D ∉ fpsW H rs vs
  new : ∀ b ∈ fpsW H rs vs, H1 b = none
theorem isTl_ok {w' : W} (h : isTl w ρ = .ok (w', ρ')) : w' = w ∧ ρ' = ρ ∧ ∃ xs, w = .tmp (.lst xs) := by
  unfold isTl at h
  split at h
  · cases h; exact ⟨rfl, rfl, _, rfl⟩
  · cases h
theorem lenLe_drop {α : Type} {xs : List α} {i : Nat} {x : α} (h : xs[i]? = some x) : xs.drop i = x :: xs.drop (i + 1) := by
  obtain ⟨h1, h2⟩ := List.getElem?_eq_some_iff.mp h
  rw [← h2, List.drop_eq_getElem_cons h1]
theorem adv0_then (x : Adv [] F ρ σ H F' ρ' σ' H') (y : Adv [] F' ρ' σ' H' F'' ρ'' σ0 H'') : Adv [] F ρ σ H F'' ρ'' σ0 H'' := x.then y (by simp)
theorem pOf_reps {rs : List W} {vs : List V} {ds : List P} (h : pOf rs = .ok ds) (r : WReps Z F ρ σ H rs vs) : Reps Z F ds vs := by
  induction rs generalizing vs ds with
  | nil => cases r; cases h; exact .nil
  | cons w rs ih =>
    cases r with
    | cons r d t =>
      cases w with
      | p d =>
        simp only [pOf, bind_eq_ok] at h
        obtain ⟨ds', h1, h⟩ := h
        cases h
        exact .cons r (ih h1 t)
      | _ => cases h
theorem tmpLs_reps {rs : List W} {vs : List V} {ls : List (List P)} (h : tmpLs rs = .ok ls) (r : WReps Z F ρ σ H rs vs) :
    ∃ as, vs = as.map .ref ∧ RepLo Z F H ls as ∧ fpsW H rs vs = as ∧ as.Nodup ∧ ∀ b ∈ as, F b = none ∧ ∀ i, ¬ Held ρ σ H i b := by
  induction rs generalizing vs ls with
  | nil => cases r; cases h; exact ⟨[], rfl, .nil, rfl, List.nodup_nil, fun b hb => by cases hb⟩
  | cons w rs ih =>
    cases r with
    | cons r d t =>
      cases w with
      | p d => cases h
      | ref k => cases h
      | tmp m =>
        cases m with
        | lst xs =>
          simp only [tmpLs, bind_eq_ok] at h
          obtain ⟨ls', h1, h⟩ := h
          cases h
          obtain ⟨as, rfl, q1, q2, q3, q4⟩ := ih h1 t
          obtain ⟨a, rfl, ⟨us, hu, ru⟩, n⟩ := r
          refine ⟨a :: as, rfl, .cons hu ru q1, ?_, ?_, fun b hb => ?_⟩
          · show fpL H a (.lst xs) ++ fpsW H rs (as.map .ref) = _
            rw [q2]; rfl
          · refine List.nodup_cons.mpr ⟨fun ha => d a (by show a ∈ fpL H a (.lst xs); simp [fpL]) ?_, q3⟩
            rw [q2]; exact ha
          · rcases List.mem_cons.mp hb with rfl | hb
            · exact n b (by simp [fpL])
            · exact q4 b hb
        | dk xs => cases h
        | dn xs => cases h
        | lo xs => cases h
theorem rd_lc {deep : Bool} {elt : CE} {tg : TG} {ik : IK} {es : List CE} {cond : Option CE} {own : List Nat} {Q : VK} (h : tE Z call (.lc deep elt tg ik es cond own) σ H Q) :
    tLc (iEv Z call tg ik es) (gT Z.K tg) (tOc Z call cond) (tE Z call elt) own σ H Q := by
  obtain ⟨F, ρ, w, ρ', R, ev, k⟩ := h
  simp only [evE, bind_eq_ok, chk_eq_ok, Bool.and_eq_true, decide_eq_true_eq] at ev
  obtain ⟨⟨ws, ρ1⟩, e1, xs, e2, _, ⟨e3, e4⟩, ⟨r, ρn⟩, e5, ρ2, e6, ev⟩ := ev
  have e5 : lcLoop (lcStep call deep elt tg cond own) xs (hideS own (lockAll ws ρ1)) = .ok (r, ρn) := e5
  refine ⟨F, ρ, ws, ρ1, xs, R, e1, e2, fun J F1 H1 R1 A1 walk D hD => ?_⟩
  -- within the block
  have wk := walk (hideS own (lockAll ws ρ1)) (wipe σ own) enter_at fun k hk m q => by
    obtain ⟨q1, _, _⟩ := hide_at q
    rcases lockAll_at q1 with q2 | ⟨m', _, _, q3⟩
    · have q2 : ρ1[k]? = some (some (.own m)) := q2
      rw [lockAll_lk hk q2] at q1
      cases q1
    · cases q3
  have wlen : (wipe σ own).length = σ.length := wipe_length σ own
  obtain ⟨Ri, _⟩ := narrow R1 (ρ' := hideS own (lockAll ws ρ1)) (σ' := wipe σ own) (by rw [hide_len, lockAll_len, R1.len, wlen]) enter_at
  have noD : Out F1 (hideS own (lockAll ws ρ1)) (wipe σ own) H1 D := ⟨Ri.fz_none hD, fun i hi => Ri.no_held hD i hi⟩
  refine ⟨fun i m H => m = xs.length - i ∧ i ≤ xs.length ∧ ∃ Fk ρk rs vs rest, AccW Z F1 (hideS own (lockAll ws ρ1)) (wipe σ own) H1 D rs Fk ρk H vs ∧ H D = some (.lst vs) ∧ vs.length ≤ i ∧
    lcLoop (lcStep call deep elt tg cond own) (xs.drop i) ρk = .ok (rest, ρn) ∧ r = rs ++ rest, ⟨xs.length, by simp, Nat.zero_le _, F1, _, [], [], r, ?_, upd_same, Nat.le_refl _, by simpa using e5, rfl⟩, ?_⟩
  · obtain ⟨R2, A2⟩ := Ri.new (o := .lst []) hD
    exact ⟨R2, A2, ⟨noD.1, fun i hi => noD.2 i ((Ri.held_sub (upd_grow hD)).mp hi)⟩, .nil, by simp [fpsW], by intro b hb; cases hb⟩
  · rintro i m Hk ⟨rfl, hi, Fk, ρk, rs, vs, rest, acc, hDk, hlen, hloop, hr⟩
    by_cases hlt : i < xs.length
    · have hx : xs[i]? = some xs[i] := by simp [hlt]
      generalize xs[i] = x at hx
      rw [lenLe_drop hx] at hloop
      simp only [lcLoop, bind_eq_ok] at hloop
      obtain ⟨⟨o, ρt⟩, s1, ⟨rest', ρz⟩, s2, hloop⟩ := hloop
      cases hloop
      simp only [lcStep, bind_eq_ok] at s1
      obtain ⟨ρa, b1, ⟨t, ρb⟩, b2, b3⟩ := s1
      have bb := wk.turn i x hx Fk ρk _ Hk acc.A acc.R.fz
      refine .inr ⟨bb.1, fun H' => ∃ Fk ρk rs vs rest, AccW Z F1 (hideS own (lockAll ws ρ1)) (wipe σ own) H1 D rs Fk ρk H' vs ∧ H' D = some (.lst vs) ∧ vs.length ≤ i + 1 ∧
        lcLoop (lcStep call deep elt tg cond own) (xs.drop (i + 1)) ρk = .ok (rest, ρz) ∧ r = rs ++ rest, fun H' nx => ⟨xs.length - (i + 1), by omega, rfl, hlt, nx⟩, fun v Hy y => ?_⟩
      obtain ⟨sy, ry⟩ := bb.2 v Hy y
      obtain ⟨σ2, Ra, Aa, _, kw, kg⟩ := bindT_ok (acc.R.sub sy) (acc.R.advSub sy) ry b1
      have kw := kw own e3
      refine kg _ ⟨by rw [kw, wipe_wipe], ?_⟩
      have l2 : (wipe σ own).length = σ2.length := by
        have := congrArg List.length kw
        rw [wipe_length, wipe_length] at this
        exact this.symm
      have kw2 : wipe σ2 own = wipe (wipe σ own) own := kw
      refine ⟨Fk, ρa, t, ρb, Ra, b2, fun F3 H3 R3 A3 => ?_⟩
      have A03 := adv0_then Aa A3
      cases t with
      | false =>
        simp only [Bool.false_eq_true, if_false] at b3 ⊢
        cases b3
        obtain ⟨R4, A4, _⟩ := hide_ok (own := own) R3 kw2 wipe_wipe.symm l2
        have A04 := adv0_then A03 A4
        obtain ⟨o1, o2⟩ := acc.out.adv hDk A04
        have fe := WReps.fps_adv A04 acc.reps
        exact ⟨F3, _, rs, vs, rest', ⟨R4, adv0_then acc.A A04, o1, acc.reps.adv A04 (fun _ _ => by simp), by rw [fe]; exact acc.nD, by rw [fe]; exact acc.new⟩, o2, by omega, s2, hr⟩
      | true =>
        simp only [if_true, bind_eq_ok] at b3 ⊢
        obtain ⟨⟨w4, ρc⟩, b4, ⟨w5, ρd⟩, b5, b3⟩ := b3
        cases b3
        refine ⟨F3, ρb, w4, ρc, R3, b4, fun u F4 H4 R4 A4 W4 f4 => ?_⟩
        have A04 := adv0_then A03 A4
        -- the item's end
        have fin : ∃ F5, SRel Z F5 ρd σ2 H4 ∧ Adv [] Fk ρk (wipe σ own) Hk F5 ρd σ2 H4 ∧ WRep Z F5 ρd σ2 H4 w5 u ∧ ∀ b ∈ fpW H4 w5 u, H3 b = none := by
          cases deep with
          | true =>
            obtain ⟨rfl, rfl, xs', rfl⟩ := isTl_ok b5
            exact ⟨F4, R4, A04, W4, f4⟩
          | false =>
            simp only [Bool.false_eq_true, if_false, frzW, bind_eq_ok] at b5
            obtain ⟨⟨d, ρe⟩, c1, c2⟩ := b5
            cases c2
            obtain ⟨F5, R5, A5, r5⟩ := frz_ok R4 W4 c1
            exact ⟨F5, R5, A04.then A5 fun b hb => A03.key (f4 b hb), r5, fun b hb => by cases u <;> cases hb⟩
        obtain ⟨F5, R5, A05, W5, f5⟩ := fin
        obtain ⟨R6, A6, h6⟩ := hide_ok (own := own) R5 kw2 wipe_wipe.symm l2
        have A06 := adv0_then A05 A6
        obtain ⟨o1, o2⟩ := acc.out.adv hDk A06
        have fe := WReps.fps_adv A06 acc.reps
        have W6 : WRep Z F5 (hideS own ρd) (wipe σ own) H4 w5 u := by
          cases w5 with
          | p d => exact W5
          | tmp m => obtain ⟨a, rfl, q1, q2⟩ := W5; exact ⟨a, rfl, q1, fun b hb => ⟨(q2 b hb).1, fun i hh => (q2 b hb).2 i (h6 i b hh)⟩⟩
          | ref k =>
            cases deep with
            | true => obtain ⟨rfl, _, _, q⟩ := isTl_ok b5; cases q
            | false =>
              simp only [Bool.false_eq_true, if_false, frzW, bind_eq_ok] at b5
              obtain ⟨⟨d, ρe⟩, c1, c2⟩ := b5
              cases c2
        have old : ∀ b, Hk b ≠ none → b ∉ fpW H4 w5 u := fun b hb hc => hb (A03.key (f5 b hc))
        have rr := (acc.reps.adv A06 fun _ _ => by simp).snoc W6 fun b hb hc => by
          rw [fe] at hc
          obtain ⟨o, ho⟩ := acc.reps.fps_some b hc
          exact old b (by rw [ho]; simp) hb
        have fs : fpsW H4 (rs ++ [w5]) (vs ++ [u]) = fpsW Hk rs vs ++ fpW H4 w5 u := by rw [fpsW_snoc acc.reps.length, fe]
        have nD : D ∉ fpsW H4 (rs ++ [w5]) (vs ++ [u]) := by
          rw [fs]
          intro hm
          rcases List.mem_append.mp hm with hm | hm
          · exact acc.nD hm
          · exact old D (by rw [hDk]; simp) hm
        obtain ⟨rr2, fe2⟩ := rr.out (o := .lst (vs ++ [u])) R6 o1 nD
        have A16 := adv0_then acc.A A06
        refine ⟨vs, o2, by omega, F5, _, rs ++ [w5], vs ++ [u], rest', ⟨(R6.out o1).1, A16.out R6 o1 hD, ⟨o1.1, fun i hh => o1.2 i ((R6.out o1).2.1 i D hh)⟩, rr2, by rw [fe2]; exact nD, fun b hb => ?_⟩, upd_same, by simp; omega, s2, by simpa using hr⟩
        rw [fe2, fs] at hb
        rcases List.mem_append.mp hb with hb | hb
        · exact acc.new b hb
        · exact acc.A.key (A03.key (f5 b hb))
    · have hi' : i = xs.length := by omega
      subst hi'
      refine .inl ⟨wk.stop Fk ρk _ Hk acc.A acc.R.fz, ?_⟩
      simp only [List.drop_length, lcLoop] at hloop
      cases hloop
      simp only [List.append_nil] at hr
      subst hr
      obtain ⟨R7, A7, h7⟩ := leave_comp R1 acc.R acc.A e6
      have A07 := adv0_then A1 A7
      have nh : ∀ b, Hk b ≠ none → H1 b = none → (∀ i, ¬ Held ρn (wipe σ own) Hk i b) → ∀ i, ¬ Held ρ2 σ Hk i b := fun b _ h1 h2 i hh => by
        rcases h7 i b hh with q | q
        · exact h2 i q
        · exact R1.no_held h1 i q
      cases deep with
      | true =>
        simp only [if_true, bind_eq_ok] at ev
        obtain ⟨ls, e7, ev⟩ := ev
        cases ev
        obtain ⟨as, rfl, q1, q2, q3, q4⟩ := tmpLs_reps e7 acc.reps
        have fpe : fpL Hk D (.lo ls) = D :: as := by simp only [fpL, refsV_map hDk]
        have nas : D ∉ as := by rw [← q2]; exact acc.nD
        refine k (.ref D) Fk Hk R7 A07 ⟨D, rfl, ⟨as, hDk, q1, List.nodup_cons.mpr ⟨nas, q3⟩⟩, fun b hb => ?_⟩ fun b hb => ?_
        · rw [fpe] at hb
          rcases List.mem_cons.mp hb with rfl | hb
          · exact ⟨acc.out.1, nh b (by rw [hDk]; simp) hD acc.out.2⟩
          · have hs : b ∈ fpsW Hk r (as.map .ref) := by rw [q2]; exact hb
            obtain ⟨o, ho⟩ := acc.reps.fps_some b hs
            exact ⟨(q4 b hb).1, nh b (by rw [ho]; simp) (acc.new b hs) (q4 b hb).2⟩
        · have hb : b ∈ fpL Hk D (.lo ls) := hb
          rw [fpe] at hb
          rcases List.mem_cons.mp hb with rfl | hb
          · exact A1.key hD
          · exact A1.key (acc.new b (by rw [q2]; exact hb))
      | false =>
        simp only [Bool.false_eq_true, if_false, bind_eq_ok] at ev
        obtain ⟨ds, e7, ev⟩ := ev
        cases ev
        have q1 := pOf_reps e7 acc.reps
        refine k (.ref D) Fk Hk R7 A07 ⟨D, rfl, ⟨vs, hDk, q1⟩, fun b hb => ?_⟩ fun b hb => ?_
        · have hb : b = D := by simpa [fpL] using hb
          subst hb
          exact ⟨acc.out.1, nh b (by rw [hDk]; simp) hD acc.out.2⟩
        · have hb : b = D := by simpa [fpW, fpL] using hb
          subst hb
          exact A1.key hD
end
end Ev

/-! EvL: dict comprehensions, dict displays, views. -/
namespace Ev
open PySem PySem.Spec PyProof.Rows L2

def dcStep (call : Call) (kx vx : CE) (tg : TG) (own : List Nat) : P → En → R (Option (Key × P) × En) := fun x ρ => do
  let ρ ← bindT [] tg x ρ
  let (kw, ρ) ← evE call kx ρ
  let (w, ρ) ← evE call vx ρ
  let kd ← peek kw ρ
  let (d, ρ) ← frz w ρ
  let k ← R.of (skey kd)
  .ok (some (k, d), hideS own ρ)
section
variable {Z : Ar} {call : Call} {F F' F'' F0 H H' H'' H0 : Hp} {ρ ρ' ρ'' ρ0 : En} {σ σ' σ0 : St} {w : W} {v : V}
theorem RepT.skey {d : P} {k : Key} (r : RepT Z F H d v) (h : skey d = some k) : v = kV k := by
  cases r <;> cases h <;> rfl
theorem rd_dc {kx vx : CE} {tg : TG} {ik : IK} {es : List CE} {own : List Nat} {Q : VK} (h : tE Z call (.dc kx vx tg ik es own) σ H Q) :
    tDc (iEv Z call tg ik es) (gT Z.K tg) tYes (tE Z call kx) (tE Z call vx) own σ H Q := by
  obtain ⟨F, ρ, w, ρ', R, ev, k⟩ := h
  simp only [evE, bind_eq_ok, chk_eq_ok, Bool.and_eq_true, decide_eq_true_eq] at ev
  obtain ⟨⟨ws, ρ1⟩, e1, xs, e2, _, ⟨e3, e4⟩, ⟨r, ρn⟩, e5, ρ2, e6, ev⟩ := ev
  cases ev
  have e5 : lcLoop (dcStep call kx vx tg own) xs (hideS own (lockAll ws ρ1)) = .ok (r, ρn) := e5
  refine ⟨F, ρ, ws, ρ1, xs, R, e1, e2, fun J F1 H1 R1 A1 walk D hD => ?_⟩
  have wk := walk (hideS own (lockAll ws ρ1)) (wipe σ own) enter_at fun k hk m q => by
    obtain ⟨q1, _, _⟩ := hide_at q
    rcases lockAll_at q1 with q2 | ⟨m', _, _, q3⟩
    · have q2 : ρ1[k]? = some (some (.own m)) := q2
      rw [lockAll_lk hk q2] at q1
      cases q1
    · cases q3
  have wlen : (wipe σ own).length = σ.length := wipe_length σ own
  obtain ⟨Ri, _⟩ := narrow R1 (ρ' := hideS own (lockAll ws ρ1)) (σ' := wipe σ own) (by rw [hide_len, lockAll_len, R1.len, wlen]) enter_at
  have noD : Out F1 (hideS own (lockAll ws ρ1)) (wipe σ own) H1 D := ⟨Ri.fz_none hD, fun i hi => Ri.no_held hD i hi⟩
  refine ⟨fun i m H => m = xs.length - i ∧ i ≤ xs.length ∧ ∃ Fk ρk rs us rest, SRel Z Fk ρk (wipe σ own) H ∧ Adv [] F1 (hideS own (lockAll ws ρ1)) (wipe σ own) H1 Fk ρk (wipe σ own) H ∧ Out Fk ρk (wipe σ own) H D ∧ H D = some (.dK us) ∧ RepK Z Fk (mergeP [] rs) us ∧ us.length ≤ i ∧
    lcLoop (dcStep call kx vx tg own) (xs.drop i) ρk = .ok (rest, ρn) ∧ r = rs ++ rest, ⟨xs.length, by simp, Nat.zero_le _, F1, _, [], [], r, ?_, ?_, ?_, upd_same, .nil, Nat.le_refl _, by simpa using e5, rfl⟩, ?_⟩
  · exact (Ri.new hD).1
  · exact (Ri.new hD).2
  · exact ⟨noD.1, fun i hi => noD.2 i ((Ri.held_sub (upd_grow hD)).mp hi)⟩
  · rintro i m Hk ⟨rfl, hi, Fk, ρk, rs, us, rest, Rk, Ak, oD, hDk, rep, hlen, hloop, hr⟩
    by_cases hlt : i < xs.length
    · have hx : xs[i]? = some xs[i] := by simp [hlt]
      generalize xs[i] = x at hx
      rw [lenLe_drop hx] at hloop
      simp only [lcLoop, bind_eq_ok] at hloop
      obtain ⟨⟨o, ρt⟩, s1, ⟨rest', ρz⟩, s2, hloop⟩ := hloop
      cases hloop
      simp only [dcStep, bind_eq_ok, of_eq_ok] at s1
      obtain ⟨ρa, b1, ⟨kw, ρb⟩, b2, ⟨w4, ρc⟩, b3, kd, b4, ⟨d, ρd⟩, b5, key, b6, b7⟩ := s1
      cases b7
      have bb := wk.turn i x hx Fk ρk _ Hk Ak Rk.fz
      refine .inr ⟨bb.1, fun H' => ∃ Fk ρk rs us rest, SRel Z Fk ρk (wipe σ own) H' ∧ Adv [] F1 (hideS own (lockAll ws ρ1)) (wipe σ own) H1 Fk ρk (wipe σ own) H' ∧ Out Fk ρk (wipe σ own) H' D ∧ H' D = some (.dK us) ∧ RepK Z Fk (mergeP [] rs) us ∧ us.length ≤ i + 1 ∧
        lcLoop (dcStep call kx vx tg own) (xs.drop (i + 1)) ρk = .ok (rest, ρz) ∧ r = rs ++ rest, fun H' nx => ⟨xs.length - (i + 1), by omega, rfl, hlt, nx⟩, fun v Hy y => ?_⟩
      obtain ⟨sy, ry⟩ := bb.2 v Hy y
      obtain ⟨σ2, Ra, Aa, _, kw', kg⟩ := bindT_ok (Rk.sub sy) (Rk.advSub sy) ry b1
      have kw' := kw' own e3
      refine kg _ ⟨by rw [kw', wipe_wipe], ?_⟩
      have l2 : (wipe σ own).length = σ2.length := by
        have := congrArg List.length kw'
        rw [wipe_length, wipe_length] at this
        exact this.symm
      have kw2 : wipe σ2 own = wipe (wipe σ own) own := kw'
      simp only [tYes, if_true]
      refine ⟨Fk, ρa, kw, ρb, Ra, b2, fun u F3 H3 R3 A3 W3 f3 => ⟨F3, ρb, w4, ρc, R3, b3, fun u4 F4 H4 R4 A4 W4 f4 => ?_⟩⟩
      have A03 := adv0_then Aa A3
      have A04 := adv0_then A03 A4
      have rk := (peek_rep R4 (W3.adv0 A4) b4).skey b6
      obtain ⟨F5, R5, A5, r5⟩ := frz_ok R4 W4 b5
      have A05 := A04.then A5 fun b hb => A03.key (f4 b hb)
      obtain ⟨R6, A6, h6⟩ := hide_ok (own := own) R5 kw2 wipe_wipe.symm l2
      have A06 := adv0_then A05 A6
      obtain ⟨o1, o2⟩ := oD.adv hDk A06
      have em : mergeP [] (rs ++ [(key, d)]) = putP (mergeP [] rs) key d := by simp [mergeP, List.foldl_append]
      refine ⟨us, key, rk, o2, by omega, F5, _, rs ++ [(key, d)], _, rest', (R6.out o1).1, (adv0_then Ak A06).out R6 o1 hD, ⟨o1.1, fun i hh => o1.2 i ((R6.out o1).2.1 i D hh)⟩, upd_same, ?_, ?_, s2, by simpa using hr⟩
      · rw [em]
        exact (rep.mono A06.fz).put key r5
      · have := length_putK us key u4
        omega
    · have hi' : i = xs.length := by omega
      subst hi'
      refine .inl ⟨wk.stop Fk ρk _ Hk Ak Rk.fz, ?_⟩
      simp only [List.drop_length, lcLoop] at hloop
      cases hloop
      simp only [List.append_nil] at hr
      subst hr
      obtain ⟨R7, A7, h7⟩ := leave_comp R1 Rk Ak e6
      refine k (.ref D) Fk Hk R7 (adv0_then A1 A7) ⟨D, rfl, ⟨us, hDk, rep⟩, fun b hb => ?_⟩ fun b hb => ?_
      · have hb : b = D := by simpa [fpL] using hb
        subst hb
        refine ⟨oD.1, fun i hh => ?_⟩
        rcases h7 i b hh with q | q
        · exact oD.2 i q
        · exact R1.no_held hD i q
      · have hb : b = D := by simpa [fpW, fpL] using hb
        subst hb
        exact A1.key hD
/-! ### views -/
theorem viewS_at {j : Nat} {s : Sl} (h : (viewS ρ)[j]? = some (some s)) : (∃ d, s = .p d ∧ ρ[j]? = some (some (.p d))) ∨ ∃ s0 m, s = .p m.toP ∧ ρ[j]? = some (some s0) ∧ moOf s0 = some m := by
  simp only [viewS, List.getElem?_map, Option.map_eq_some_iff] at h
  obtain ⟨t, h1, h2⟩ := h
  split at h2
  · cases h2; exact .inr ⟨_, _, rfl, h1, rfl⟩
  · cases h2; exact .inr ⟨_, _, rfl, h1, rfl⟩
  · cases h2; exact .inl ⟨_, rfl, h1⟩
  · cases h2
theorem view_ok (R : SRel Z F ρ σ H) : SRel Z H (viewS ρ) σ H ∧ ∀ b, ¬ Live (viewS ρ) σ H b := by
  have nh : ∀ i b, ¬ Held (viewS ρ) σ H i b := fun i b ⟨s, m, a, h1, h2, _⟩ => by
    rcases viewS_at h1 with ⟨d, rfl, _⟩ | ⟨_, m', rfl, _⟩ <;> cases h2
  refine ⟨⟨.refl, by simp [viewS, R.len], fun i s h => ?_, fun i j b _ h _ => nh i b h⟩, fun b l => by obtain ⟨i, l⟩ := l.held; exact nh i b l⟩
  rcases viewS_at h with ⟨d, rfl, h1⟩ | ⟨s0, m, rfl, h1, h2⟩
  · obtain ⟨v, e, r⟩ := R.slot i _ h1
    exact ⟨v, e, Rep.mono R.fz r⟩
  · obtain ⟨v, e, r⟩ := R.slot i _ h1
    refine ⟨v, e, ?_⟩
    cases s0 with
    | own m1 => cases h2; obtain ⟨a, rfl, r, _⟩ := r; exact Rep.mono (withF_le R.fz) (r.froz R.fz)
    | rd m1 => cases h2; obtain ⟨a, rfl, r, _⟩ := r; exact Rep.mono (withF_le R.fz) (r.froz R.fz)
    | p d => cases h2
    | sref k => cases h2
theorem rd_view {e : CE} {Q : VK} (h : tE Z call (.view e) σ H Q) : tE Z call e σ H Q := by
  obtain ⟨F, ρ, w, ρ', R, ev, k⟩ := h
  simp only [evE, bind_eq_ok] at ev
  obtain ⟨⟨w1, ρ1⟩, e1, ev⟩ := ev
  obtain ⟨Rv, nl⟩ := view_ok R
  refine ⟨H, viewS ρ, w1, ρ1, Rv, e1, fun v F1 H1 R1 A1 W1 f1 => ?_⟩
  have sub : Sub H H1 := fun b o ho => A1.fr b o ho (nl b)
  have RO := R.sub sub
  have AO := R.advSub sub
  cases w1 with
  | p d =>
    simp only [bind_eq_ok, chk_eq_ok] at ev
    obtain ⟨_, hs, ev⟩ := ev
    cases ev
    exact k v F H1 RO AO (Rep.scal hs W1) fresh_p
  | ref j => cases ev
  | tmp m =>
    cases m with
    | lst ds =>
      simp only [bind_eq_ok, chk_eq_ok] at ev
      obtain ⟨_, hs, ev⟩ := ev
      cases ev
      obtain ⟨a, rfl, ⟨vs, h1, r⟩, _⟩ := W1
      have ha : H a = none := f1 a (by simp [fpW, fpL])
      refine k _ F H1 RO AO ⟨a, rfl, ⟨vs, h1, r.scal hs⟩, fun b hb => ?_⟩ f1
      have hb : b = a := by simpa [fpL] using hb
      subst hb
      exact ⟨R.fz_none ha, fun i hh => R.no_held ha i ((R.held_sub sub).mp hh)⟩
    | dk _ => cases ev
    | dn _ => cases ev
    | lo _ => cases ev
/-- a part of slot k's object is another one at the same place -/
theorem own_updG {k : Nat} {m m' : MO} {a b : Addr} {o : HO} (R : SRel Z F ρ σ H) (hk : ρ[k]? = some (some (.own m))) (e : σ[k]? = some (some (.ref a))) (hb : b ∈ fpL H a m) (f1 : ∀ c ∈ fpL (upd H b o) a m', c ∈ fpL H a m)
    (r' : MoRep Z F (upd H b o) a m') : SRel Z F (ρ.set k (some (.own m'))) σ (upd H b o) ∧ Adv [] F ρ σ H F (ρ.set k (some (.own m'))) σ (upd H b o) := by
  have hlt : k < ρ.length := (List.getElem?_eq_some_iff.mp hk).1
  have kh : ∀ c ∈ fpL H a m, Held ρ σ H k c := fun c hc => ⟨_, m, a, hk, rfl, e, hc⟩
  have hFb : F b = none := R.fNone (kh b hb)
  have nea : ∀ {i : Nat} {c : Addr}, i ≠ k → Held ρ σ H i c → c ≠ b := fun {i c} ne hc z => R.dis i k c ne hc (z ▸ kh b hb)
  have fpe : ∀ {i : Nat} {s : Sl} {m1 : MO} {a1 : Addr}, i ≠ k → ρ[i]? = some (some s) → moOf s = some m1 → σ[i]? = some (some (.ref a1)) → MoRep Z F (upd H b o) a1 m1 ∧ fpL (upd H b o) a1 m1 = fpL H a1 m1 := fun {i s m1 a1} ne h1 h2 h3 => by
    obtain ⟨v, e2, r2⟩ := R.slot i s h1
    rw [h3] at e2; cases e2
    have rr : MoRep Z F H a1 m1 := by
      cases s with
      | own m2 => cases h2; obtain ⟨_, q, r2, _⟩ := r2; cases q; exact r2
      | rd m2 => cases h2; obtain ⟨_, q, r2, _⟩ := r2; cases q; exact r2
      | p d => cases h2
      | sref j => cases h2
    exact rr.out fun hm => nea ne ⟨s, m1, a1, h1, h2, h3, hm⟩ rfl
  have held : ∀ {i : Nat} {c : Addr}, Held (ρ.set k (some (.own m'))) σ (upd H b o) i c → Held ρ σ H i c := fun {i c} h => by
    obtain ⟨s, m1, a1, h1, h2, h3, h4⟩ := h
    by_cases hi : k = i
    · subst hi
      rw [List.getElem?_set_self hlt] at h1
      cases h1; cases h2
      rw [e] at h3; cases h3
      exact kh c (f1 c h4)
    · rw [List.getElem?_set_ne hi] at h1
      obtain ⟨_, ef⟩ := fpe (Ne.symm hi) h1 h2 h3
      rw [ef] at h4
      exact ⟨s, m1, a1, h1, h2, h3, h4⟩
  have live : ∀ {c : Addr}, Live (ρ.set k (some (.own m'))) σ (upd H b o) c → Live ρ σ H c := fun {c} h => by
    obtain ⟨i, m1, a1, h1, h3, h4⟩ := h
    by_cases hi : k = i
    · subst hi
      rw [List.getElem?_set_self hlt] at h1
      cases h1
      rw [e] at h3; cases h3
      exact ⟨k, m, a, hk, e, f1 c h4⟩
    · rw [List.getElem?_set_ne hi] at h1
      obtain ⟨_, ef⟩ := fpe (Ne.symm hi) h1 (s := .own m1) rfl h3
      rw [ef] at h4
      exact ⟨i, m1, a1, h1, h3, h4⟩
  refine ⟨⟨fun c u h => ?_, by rw [List.length_set]; exact R.len, fun i s h => ?_, fun i j c ne h1 h2 => R.dis i j c ne (held h1) (held h2)⟩, ⟨.refl, fun c u h nl => ?_, fun c h => ?_, fun i c h => .inl ⟨i, held h⟩, fun c h => .inl (live h), fun c h => .inl h⟩⟩
  · rw [upd_ne (fun z => by rw [z, hFb] at h; cases h)]
    exact R.fz c u h
  · by_cases hi : k = i
    · subst hi
      rw [List.getElem?_set_self hlt] at h
      cases h
      exact ⟨_, e, a, rfl, r', fun c hc => R.fNone (kh c (f1 c hc))⟩
    · rw [List.getElem?_set_ne hi] at h
      obtain ⟨v, e2, r2⟩ := R.slot i s h
      refine ⟨v, e2, ?_⟩
      cases s with
      | p d => exact r2
      | sref j => exact r2
      | own m1 =>
        obtain ⟨a1, rfl, r2, n2⟩ := r2
        obtain ⟨rr, ef⟩ := fpe (Ne.symm hi) h (s := .own m1) rfl e2
        exact ⟨a1, rfl, rr, by rw [ef]; exact n2⟩
      | rd m1 =>
        obtain ⟨a1, rfl, r2, n2⟩ := r2
        obtain ⟨rr, ef⟩ := fpe (Ne.symm hi) h (s := .rd m1) rfl e2
        exact ⟨a1, rfl, rr, by rw [ef]; exact n2⟩
  · refine (upd_ne fun z => ?_).trans h
    subst z
    exact nl ⟨k, m, a, hk, e, hb⟩
  · unfold upd
    split
    · simp
    · exact h
theorem RepLo.at : ∀ {ls : List (List P)} {as : List Addr} {j : Nat} {xs : List P}, RepLo Z F H ls as → ls[j]? = some xs → ∃ b vs, as[j]? = some b ∧ H b = some (.lst vs) ∧ Reps Z F xs vs
  | _, _, _, _, .nil, h => by simp at h
  | _, _, 0, _, .cons h r _, e => by simp at e; subst e; exact ⟨_, _, rfl, h, r⟩
  | _, _, j + 1, _, .cons _ _ t, e => by
    obtain ⟨b, vs, h1, h2⟩ := RepLo.at (j := j) t (by simpa using e)
    exact ⟨b, vs, by simpa using h1, h2⟩
theorem RepLo.put {o : HO} {us : List V} {b : Addr} {ys : List P} (ho : o = .lst us) (rs : Reps Z F ys us) : ∀ {ls : List (List P)} {as : List Addr} {j : Nat}, RepLo Z F H ls as → as.Nodup → as[j]? = some b → RepLo Z F (upd H b o) (ls.set j ys) as
  | _, _, _, .nil, _, h => by simp at h
  | _, _, 0, .cons h r t, nd, e => by
    simp at e; subst e
    refine .cons (by rw [upd_same, ho]) rs (t.keep .refl fun c hc => upd_ne fun z => ?_)
    subst z
    exact (List.nodup_cons.mp nd).1 hc
  | _, _, j + 1, .cons (b := b') h r t, nd, e => by
    have hm : b ∈ _ := List.mem_of_getElem? (show _ = some b by simpa using e)
    refine .cons ?_ r (RepLo.put ho rs t (List.nodup_cons.mp nd).2 (by simpa using e))
    rw [upd_ne fun z => ?_]
    · exact h
    · subst z; exact (List.nodup_cons.mp nd).1 hm
theorem atI_ixN {α : Type} {xs : List α} {i : Int} {j : Nat} {x : α} (h : ixN xs.length i = some j) (hx : xs[j]? = some x) : atI xs i = some x := by
  unfold atI
  rw [h]
  exact hx
theorem rd_appIx {s : Nat} {i a : CE} {Q : VK} (h : tE Z call (.appIx s i a) σ H Q) : tBM Z.K "list" rAppend (tOp (rIxL Z.K) (tVar s) (tE Z call i)) (tCons (tE Z call a) tNil) σ H Q := by
  obtain ⟨F, ρ, w, ρ', R, ev, k⟩ := h
  simp only [evE, bind_eq_ok] at ev
  obtain ⟨⟨x, ρ1⟩, e1, ⟨y, ρ2⟩, e2, ev⟩ := ev
  split at ev
  · rename_i n d q1 q2
    have q1 : x = .p (.int n) := q1
    have q2 : y = .p d := q2
    subst q1 q2
    simp only [bind_eq_ok, chk_eq_ok] at ev
    obtain ⟨_, hs, m, hm, m', hm', ev⟩ := ev
    cases ev
    cases m with
    | lo ls =>
      simp only [setIn, bind_eq_ok, of_eq_ok, chk_eq_ok, decide_eq_true_eq] at hm'
      obtain ⟨j, hj, xs, hx, _, hz, hm'⟩ := hm'
      cases hm'
      have hk := getOwn_ok hm
      obtain ⟨v, ev, A, rfl, ⟨as, hA, rl, nd⟩, fn⟩ := R.slot s _ hk
      obtain ⟨b, vs, hb, hB, rv⟩ := rl.at hx
      obtain ⟨Rv, nl⟩ := view_ok R
      refine ⟨_, ev, H, viewS ρ, _, ρ1, Rv, e1, fun vi F1 H1 R1 A1 W1 f1 => ?_⟩
      have sub : Sub H H1 := fun b o ho => A1.fr b o ho (nl b)
      cases W1
      have hat : atI (as.map V.ref) n = some (.ref b) := atI_ixN (j := j) (by rw [List.length_map, ← rl.length]; exact hj) (by rw [List.getElem?_map, hb]; rfl)
      refine ⟨A, _, n, _, rfl, rfl, SqL.of (sub _ _ hA), hat, ?_⟩
      refine ⟨.inl ⟨rfl, _, SqL.of (sub _ _ hB)⟩, ?_⟩
      have RO := R.sub sub
      obtain ⟨Rv2, nl2⟩ := view_ok RO
      refine ⟨H1, viewS ρ, _, ρ2, Rv2, e2, fun vy F2 H2 R2 A2 W2 f2 => ?_⟩
      have sub2 : Sub H1 H2 := fun b o ho => A2.fr b o ho (nl2 b)
      have sub3 := sub.trans sub2
      have R3 := R.sub sub3
      have A3 := R.advSub sub3
      have hA3 := sub3 _ _ hA
      have fpe : fpL H2 A (.lo ls) = A :: as := by simp only [fpL, refsV_map hA3]
      have hbm : b ∈ as := List.mem_of_getElem? hb
      have nAb : A ≠ b := fun z => (List.nodup_cons.mp nd).1 (z ▸ hbm)
      have hA4 : upd H2 b (.lst (vs ++ [vy])) A = some (.lst (as.map .ref)) := by rw [upd_ne nAb]; exact hA3
      have rl3 : RepLo Z F H2 ls as := rl.keep .refl fun c hc => by
        obtain ⟨o, ho⟩ := (show MoRep Z F H A (.lo ls) from ⟨as, hA, rl, nd⟩).fp_some c (by simp only [fpL, refsV_map hA]; exact List.mem_cons_of_mem _ hc)
        rw [ho]; exact sub3 _ _ ho
      obtain ⟨R4, A4⟩ := own_updG (b := b) (o := .lst (vs ++ [vy])) (m' := .lo (ls.set j (xs ++ [d]))) R3 hk ev (by rw [fpe]; exact List.mem_cons_of_mem _ hbm)
        (fun c hc => by rw [fpe]; simpa only [fpL, refsV_map hA4] using hc) ⟨as, hA4, rl3.put rfl (rv.append (.cons (Rep.scal hs W2) .nil)) (List.nodup_cons.mp nd).2 hb, nd⟩
      exact ⟨b, vs, vy, rfl, rfl, sub3 _ _ hB, by rw [← rv.length]; exact hz, fin_val R4 (adv0_then A3 A4) .non k⟩
    | _ => cases hm'
  · cases ev
end
end Ev

/-! EvM: dict displays. -/
namespace Ev
open PySem PySem.Spec PyProof.Rows L2

def dTrs (Z : Ar) (call : Call) : List P → List CE → List (TE × TE)
  | k :: ks, v :: vs => (tE Z call (.c k), tE Z call v) :: dTrs Z call ks vs
  | _, _ => []
def kvZip : List P → List V → List (V × V)
  | .int i :: ks, v :: vs => (.int i, v) :: kvZip ks vs
  | .str x :: ks, v :: vs => (.str x, v) :: kvZip ks vs
  | _, _ => []
section
variable {Z : Ar} {call : Call} {F F' F'' F0 H H' H'' H0 : Hp} {ρ ρ' ρ'' ρ0 : En} {σ σ' σ0 : St} {w : W} {v : V}
theorem rd_pairs {ks : List P} {es : List CE} {ws : List W} {Q : List (V × V) → Hp → Prop} (hk : ∀ k ∈ ks, (skey k).isSome = true) (hl : ks.length = es.length) (R : SRel Z F ρ σ H) (ev : evEs call es ρ = .ok (ws, ρ'))
    (k : ∀ vs F' H', SRel Z F' ρ' σ H' → Adv [] F ρ σ H F' ρ' σ H' → WReps Z F' ρ' σ H' ws vs → (∀ b ∈ fpsW H' ws vs, H b = none) → Q (kvZip ks vs) H') : tPairs (dTrs Z call ks es) σ H Q := by
  induction ks generalizing es ws F ρ ρ' H Q with
  | nil =>
    cases es with
    | nil => cases ev; exact k [] F H R .refl .nil (by intro b hb; cases hb)
    | cons e es => cases hl
  | cons x ks ih =>
    cases es with
    | nil => cases hl
    | cons e es =>
      simp only [evEs, bind_eq_ok] at ev
      obtain ⟨⟨w, ρ1⟩, e1, ⟨ws', ρ2⟩, e2, ev⟩ := ev
      cases ev
      have hx := hk x (by simp)
      refine ⟨F, ρ, .p x, ρ, R, by simp only [evE], fun u F1 H1 R1 A1 W1 f1 => ⟨F1, ρ, w, ρ1, R1, e1, fun v F2 H2 R2 A2 W2 f2 => ?_⟩⟩
      have A02 := A1.then A2 (by simp)
      refine ih (fun k hk' => hk k (by simp [hk'])) (by simpa using hl) R2 e2 fun vs F3 H3 R3 A3 W3 f3 => ?_
      have efp : fpW H3 w v = fpW H2 w v := W2.fp_adv A3
      have z := k (v :: vs) F3 H3 R3 (A02.then A3 (by simp)) (.cons (W2.adv0 A3) (fun b hb hc => ?_) W3) fun b hb => ?_
      · cases x with
        | int i => cases W1; exact z
        | str i => cases W1; exact z
        | _ => cases hx
      · rw [efp] at hb
        obtain ⟨o, ho⟩ := W2.fp_some b hb
        rw [f3 b hc] at ho
        cases ho
      · rcases List.mem_append.mp hb with hb | hb
        · rw [efp] at hb
          exact A1.key (f2 b hb)
        · exact A02.key (f3 b hb)
theorem zipK_ok {ks : List P} {ds : List P} {vs : List V} {kvs : List (Key × P)} (h : zipK ks ds = .ok kvs) (r : Reps Z F ds vs) : ∃ us : List (Key × V), kvZip ks vs = us.map (fun kv => (kV kv.1, kv.2)) ∧ us.length = ks.length ∧ RepK Z F kvs us := by
  induction ks generalizing ds vs kvs with
  | nil =>
    cases ds with
    | nil => cases r; cases h; exact ⟨[], rfl, rfl, .nil⟩
    | cons d ds => cases h
  | cons x ks ih =>
    cases ds with
    | nil => cases h
    | cons d ds =>
      cases r with
      | @cons _ v _ vs r t =>
        simp only [zipK, bind_eq_ok, of_eq_ok] at h
        obtain ⟨key, h1, kvs', h2, h⟩ := h
        cases h
        obtain ⟨us, e1, e2, e3⟩ := ih h2 t
        refine ⟨(key, v) :: us, ?_, by simp [e2], .cons r e3⟩
        cases x with
        | int i => cases h1; simp only [kvZip, e1, List.map_cons]; rfl
        | str i => cases h1; simp only [kvZip, e1, List.map_cons]; rfl
        | _ => cases h1
theorem rd_dct {ks : List P} {es : List CE} {Q : VK} (hk : ∀ k ∈ ks, (skey k).isSome = true) (hl : ks.length = es.length) (h : tE Z call (.dct ks es) σ H Q) : tDisp (dTrs Z call ks es) σ H Q := by
  obtain ⟨F, ρ, w, ρ', R, ev, k⟩ := h
  simp only [evE, bind_eq_ok, chk_eq_ok, decide_eq_true_eq] at ev
  obtain ⟨⟨ws, ρ1⟩, e1, ⟨ds, ρ2⟩, e2, _, e3, kvs, e4, ev⟩ := ev
  cases ev
  intro p hp
  obtain ⟨R0, A0⟩ := R.new (o := .dK []) hp
  refine rd_pairs hk hl R0 e1 fun vs F1 H1 R1 A1 W1 f1 => ?_
  obtain ⟨F2, R2, A2, r2⟩ := frzs_ok R1 W1 e2
  have A02 := A1.then A2 f1
  have o0 : Out F ρ σ (upd H p (.dK [])) p := ⟨R.fz_none hp, fun i hi => R.no_held hp i ((R.held_sub (upd_grow hp)).mp hi)⟩
  obtain ⟨o2, h2⟩ := o0.adv upd_same A02
  obtain ⟨us, q1, q2, q3⟩ := zipK_ok e4 r2
  refine ⟨h2, us, q1, by omega, ?_⟩
  have mg := q3.merge (kvs := []) (ws := []) .nil
  have A := (A0.then A02 (by simp)).out (o := .dK (mergeK [] us)) R2 o2 hp
  refine k (.ref p) F2 _ (R2.out o2).1 A ⟨p, rfl, ⟨_, upd_same, mg⟩, fun b hb => ?_⟩ fun b hb => ?_
  · have hb : b = p := by simpa [fpL] using hb
    subst hb
    exact ⟨o2.1, fun i hh => o2.2 i ((R2.out o2).2.1 i b hh)⟩
  · have hb : b = p := by simpa [fpW, fpL] using hb
    subst hb
    exact hp
theorem rd_dct0 {Q : VK} (h : tE Z call (.dct [] []) σ H Q) : tDNewK σ H Q := by
  obtain ⟨F, ρ, w, ρ', R, ev, k⟩ := h
  simp [evE, evEs, frzs, zipK, mergeP] at ev
  obtain ⟨rfl, rfl⟩ := ev
  intro p hp
  obtain ⟨R0, A0⟩ := R.new (o := .dK []) hp
  exact k (.ref p) F _ R0 A0 (tmp_new R hp fp_dk ⟨[], upd_same, .nil⟩) (fresh_tmp fp_dk hp)
end
end Ev

/-! EvN: what the compiler of expressions makes is right: the pieces. -/
namespace Ev
open PySem PySem.Spec PyProof.Rows L2

structure IHn (Z : Ar) (call : Call) (n : Nat) : Prop where
  e : ∀ c X e ce, Mt Z call c X → cE n c e = some ce → PE X e (tE Z call ce)
  t : ∀ c X e ce, Mt Z call c X → cT n c e = some ce → PT X e (tT Z call ce)
  o : ∀ c X e ce, Mt Z call c X → cO n c e = some ce → PO X e (tOs Z call ce)
section
variable {Z : Ar} {call : Call} {X : Cx} {c : CC} {n : Nat}
theorem Mt.z (m : Mt Z call c X) : Z = arX X := by
  obtain ⟨p, w, k⟩ := Z
  have h1 := m.pg
  have h2 := m.ww
  have h3 := m.K
  simp only at h1 h2 h3
  simp [arX, h1, h2, h3]
theorem Mt.blt (m : Mt Z call c X) {x : Str} (h : c.free.contains x = true) (g : glB c.sc x = true) : Gl X x ∧ X.mg x = none := ⟨glB_ok (by rw [m.sc]; exact g), m.free x h⟩
theorem star_ok {e : Expr} {es : List Expr} {ce : CE} {env : Env} (h : cE n c e = some ce) : starEach (e :: es) env = (false, eval e env) :: starEach es env := by
  cases n with
  | zero => cases h
  | succ n =>
    cases e with
    | Starred a b => simp only [cE] at h; cases h
    | _ => rfl
theorem args_star {es : List Expr} {ces : List CE} {env : Env} (h : es.mapM (cE n c) = some ces) : starEach es env = es.map fun e => (false, eval e env) := by
  induction es generalizing ces with
  | nil => rfl
  | cons e es ih =>
    simp only [List.mapM_cons, Option.bind_eq_bind, Option.bind_eq_some_iff] at h
    obtain ⟨a, h1, b, h2, h⟩ := h
    rw [star_ok h1, ih h2]; rfl
theorem args_plain {es : List Expr} {ces : List CE} {env : Env} {pos : Pos} (h : es.mapM (cE n c) = some ces) : (backTo pos (starEach es env)).any (·.1) = false := by
  rw [args_star h]
  unfold backTo
  induction es generalizing ces with
  | nil => rfl
  | cons e es ih =>
    simp only [List.mapM_cons, Option.bind_eq_bind, Option.bind_eq_some_iff] at h
    obtain ⟨a, h1, b, h2, h⟩ := h
    simp only [List.map_cons, List.any_cons, Bool.false_or]
    exact ih h2
theorem mapM_len {es : List Expr} {ces : List CE} {f : Expr → Option CE} (h : es.mapM f = some ces) : ces.length = es.length := by
  induction es generalizing ces with
  | nil => simp only [List.mapM_nil] at h; cases h; rfl
  | cons e es ih =>
    simp only [List.mapM_cons, Option.bind_eq_bind, Option.bind_eq_some_iff] at h
    obtain ⟨a, h1, b, h2, h⟩ := h
    cases h
    simp [ih h2]
theorem pa_all (ih : IHn Z call n) (m : Mt Z call c X) {es : List Expr} {ces : List CE} (h : es.mapM (cE n c) = some ces) : PA X es (tEs Z call ces) := by
  induction es generalizing ces with
  | nil =>
    simp only [List.mapM_nil] at h
    cases h
    exact PA.imp pa_nil fun σ H Q q => rd_nil q
  | cons e es ih2 =>
    simp only [List.mapM_cons, Option.bind_eq_bind, Option.bind_eq_some_iff] at h
    obtain ⟨a, h1, b, h2, h⟩ := h
    cases h
    exact PA.imp (pa_cons (ih.e c X e a m h1) (ih2 h2) (star_ok h1)) fun σ H Q q => rd_cons q
theorem c_const (ih : IHn Z call n) (m : Mt Z call c X) {e : Expr} {ce : CE} {k x y} (he : e = .Constant k x y) (h : cE (n + 1) c e = some ce) : PE X e (tE Z call ce) := by
  subst he
  simp only [cE] at h
  cases k with
  | none => cases h; exact PE.imp pe_non fun σ H Q q => rd_const (fun F => .non) q
  | bool b => cases h; exact PE.imp pe_bl fun σ H Q q => rd_const (fun F => .bl b) q
  | int i => cases h; exact PE.imp pe_int fun σ H Q q => rd_const (fun F => .int i) q
  | str i => cases h; exact PE.imp pe_str fun σ H Q q => rd_const (fun F => .str i) q
  | _ => cases h
theorem slot_ok (m : Mt Z call c X) {x : Str} {i : Nat} (h : slotOf c x = some i) {p : Pos} : PE X (.Name x p) (tVar i) := by
  unfold slotOf at h
  split at h
  · rename_i hv
    simp only [Bool.and_eq_true] at hv
    obtain ⟨g1, g2, g3⟩ := plainNm_ok hv.2
    exact pe_var (by rw [m.N]; exact ixOf_ok h) (by rw [m.sc]; exact visB_ok hv.1) g1 g2
  · cases h
theorem c_bool (ih : IHn Z call n) (m : Mt Z call c X) {op : BoolOp} {pos : Pos} : ∀ {vs : List Expr} {ce : CE}, cBv (cE n c) op vs = some ce → PE X (.BoolOp op vs pos) (tE Z call ce)
  | [], _, h => by cases h
  | [a], ce, h => pe_one (ih.e c X a ce m h)
  | a :: b :: rest, ce, h => by
    simp only [cBv, Option.bind_eq_bind, Option.bind_eq_some_iff] at h
    obtain ⟨x, h1, y, h2, h⟩ := h
    cases h
    have hb := c_bool ih m (pos := pos) (vs := b :: rest) h2
    cases op with
    | And => exact PE.imp (pe_and (ih.e c X a x m h1) hb) fun σ H Q q => rd_and q
    | Or => exact PE.imp (pe_or (ih.e c X a x m h1) hb) fun σ H Q q => rd_or q
theorem PW.imp {e : Expr} {t t' : TT} (h : PW X e t) (i : ∀ σ H Q, t' σ H Q → t σ H Q) : PW X e t' := ⟨fun w pins s σ H Q I q => h.run w pins s σ H Q I (i σ H Q q)⟩
theorem c_boolT (ih : IHn Z call n) (m : Mt Z call c X) {op : BoolOp} {pos : Pos} : ∀ {vs : List Expr} {ce : CE}, cBv (cT n c) op vs = some ce → PW X (.BoolOp op vs pos) (tT Z call ce)
  | [], _, h => by cases h
  | [a], ce, h => by
    have z := ih.t c X a ce m h
    cases op with
    | And => exact pw_and1 z
    | Or => exact pw_or1 z
  | a :: b :: rest, ce, h => by
    simp only [cBv, Option.bind_eq_bind, Option.bind_eq_some_iff] at h
    obtain ⟨x, h1, y, h2, h⟩ := h
    cases h
    have hb := c_boolT ih m (pos := pos) (vs := b :: rest) h2
    cases op with
    | And => exact PW.imp (pw_and (ih.t c X a x m h1) hb) fun σ H Q q => rt_and q
    | Or => exact PW.imp (pw_or (ih.t c X a x m h1) hb) fun σ H Q q => rt_or q
theorem set_no {e : Expr} {ce : CE} (h : cE n c e = some ce) : cE.isSetE e = false ∧ ∀ env x, foldedSetIterable e env x = pure x := by
  cases n with
  | zero => cases h
  | succ n =>
    cases e with
    | Set a b c => simp only [cE] at h; cases h
    | _ => exact ⟨rfl, fun _ _ => rfl⟩
theorem plain_ix {e : Expr} (h : isSlice e = false) : PlainIx e := by
  cases e with
  | Slice a b c d => cases h
  | _ => exact fun _ _ => rfl
theorem attr_ok {o : Expr} {ce : CE} {m : Str} {env : Env} (h : cE n c o = some ce) : attributeBase o m env (eval o env) = eval o env := by
  cases n with
  | zero => cases h
  | succ n =>
    cases o with
    | Call f args kws pos =>
      cases f with
      | Name x p =>
        cases args with
        | nil =>
          cases kws with
          | nil =>
            exfalso
            simp only [cE, Option.map_eq_some_iff] at h
            obtain ⟨p, h, _⟩ := h
            unfold cCallN at h
            split at h
            · split at h
              · rename_i k _
                split at h
                · rename_i q; exact q.2 rfl
                · cases h
              · split at h <;> cases h
            · cases h
          | cons k ks => rfl
        | cons a as => rfl
      | _ => rfl
    | _ => rfl
theorem cmp_no {op : CmpOp} {b : Expr} (h : cE.isSetE b = false) : behindInMarks op b = false := by
  cases b with
  | Set a b c => cases h
  | _ => rfl
/-! ### compare -/
theorem c_cmp (ih : IHn Z call n) (m : Mt Z call c X) {a b : Expr} {op : CmpOp} {pos : Pos} {ce : CE} (h : cE (n + 1) c (.Compare a [op] [b] pos) = some ce) :
    ∃ r ta tb, OpR X (compareOp op) r ∧ PE X a ta ∧ PE X b tb ∧ behindInMarks op b = false ∧ (∀ σ H Q, tE Z call ce σ H Q → tOp r ta tb σ H Q) ∧ (∃ f : P → P → R Bool, r = rB2 Z f) ∧ ∃ x y, ta = tE Z call x ∧ tb = tE Z call y := by
  have hK : X.K = Z.K := m.K
  simp only [cE] at h
  split at h
  · simp only [Option.bind_eq_bind, Option.bind_eq_some_iff] at h
    obtain ⟨x, h1, y, h2, h⟩ := h
    cases h
    exact ⟨_, _, _, op_isP, ih.e c X a x m h1, ih.e c X b y m h2, cmp_no (set_no h2).1, fun σ H Q q => rd_is q, ⟨_, rfl⟩, _, _, rfl, rfl⟩
  · simp only [Option.bind_eq_bind, Option.bind_eq_some_iff] at h
    obtain ⟨x, h1, y, h2, h⟩ := h
    cases h
    exact ⟨_, _, _, op_isNotP, ih.e c X a x m h1, ih.e c X b y m h2, cmp_no (set_no h2).1, fun σ H Q q => rd_isnot q, ⟨_, rfl⟩, _, _, rfl, rfl⟩
  · split at h
    · simp only [Option.bind_eq_bind, Option.bind_eq_some_iff] at h
      obtain ⟨x, h1, y, h2, h⟩ := h
      cases h
      exact ⟨_, _, _, op_cmpP m.z m.un, ih.e c X a x m h1, ih.e c X b y m h2, cmp_no (set_no h2).1, fun σ H Q q => rd_cmp q, ⟨_, rfl⟩, _, _, rfl, rfl⟩
    · cases h
/-! ### calls -/
theorem c_b1 (ih : IHn Z call n) (m : Mt Z call c X) {x : Str} {p pos : Pos} {a : Expr} {b : Bl1} {ce : CE} (hg : Gl X x) (hm : X.mg x = none) (hp : plainNm x = true) (hb : b1Of x = some b) (ha : cE n c a = some ce) :
    PE X (.Call (.Name x p) [a] [] pos) (tE Z call (.b1 b ce)) := by
  obtain ⟨g1, g2, g3⟩ := plainNm_ok hp
  have pa := pa_cons (ih.e c X a ce m ha) pa_nil (star_ok ha)
  have hs := star_ok (es := []) (env := X.env) ha
  have ob := op_bl1 m.z m.calm b
  have key : bootBuiltins x = some (b1Val b) := by
    unfold b1Of at hb
    repeat' split at hb
    all_goals first
      | cases hb
      | skip
    all_goals (rename_i e; subst e)
    · exact boot_len
    · exact boot_tuple
    · exact boot_list
    · exact boot_all
    · exact boot_any
    · exact boot_sorted
    · exact boot_int
    · exact boot_dict
  cases b <;> first
    | exact PE.imp (pe_callB ob hg hm key pa g3 g1 hs rfl) fun σ H Q q => rd_b1 q
    | exact PE.imp (pe_callTy ob hg hm key pa g3 g1 hs rfl) fun σ H Q q => rd_b1 q
theorem c_call (ih : IHn Z call n) (m : Mt Z call c X) {x : Str} {p pos : Pos} {args : List Expr} {ce : CE} (h : cCallN (cE n c) c x args = some ce) :
    PE X (.Call (.Name x p) args [] pos) (tE Z call ce) := by
  unfold cCallN at h
  split at h
  · rename_i hv
    simp only [Bool.and_eq_true] at hv
    obtain ⟨g1, g2, g3⟩ := plainNm_ok hv.2
    have hg : Gl X x := glB_ok (by rw [m.sc]; exact hv.1)
    split at h
    · rename_i k hk
      split at h
      · rename_i ha
        obtain ⟨rfl, hne⟩ := ha
        simp only [Option.map_eq_some_iff] at h
        obtain ⟨ces, h1, rfl⟩ := h
        obtain ⟨af, fd, ps, lv, F⟩ := m.fns _ _ hk
        cases args with
        | nil => exact absurd rfl hne
        | cons e es =>
          have hl := mapM_len h1
          have hh := h1
          simp only [List.mapM_cons, Option.bind_eq_bind, Option.bind_eq_some_iff] at hh
          obtain ⟨a, q1, b, q2, _⟩ := hh
          have F2 := F.ok
          rw [← hl] at F2
          exact PE.imp (pe_call F2 F.rm hg F.mg F.kp F.bd .nil pass0 (pa_all ih m h1) g1 (star_ok q1) (args_plain q2)) fun σ H Q q => rd_call q
      · cases h
    · split at h
      · rename_i hf
        have hm := m.free x hf
        split at h
        · rename_i a
          split at h
          · rename_i b hb
            simp only [Option.map_eq_some_iff] at h
            obtain ⟨q, h1, rfl⟩ := h
            exact c_b1 ih m hg hm hv.2 hb h1
          · cases h
        · rename_i a b
          split at h
          · rename_i e
            subst e
            simp only [Option.bind_eq_bind, Option.bind_eq_some_iff] at h
            obtain ⟨x, h1, y, h2, h⟩ := h
            cases h
            exact PE.imp (pe_callB (op_min m.calm) hg hm boot_min (pa_cons (ih.e c X a x m h1) (pa_cons (ih.e c X b y m h2) pa_nil (star_ok h2)) (star_ok h1)) g3 g1 (star_ok h1) (args_plain (n := n) (c := c) (ces := [y]) (by simp [h2]))) fun σ H Q q => rd_min q
          · split at h
            · rename_i e
              subst e
              simp only [Option.bind_eq_bind, Option.bind_eq_some_iff] at h
              obtain ⟨x, h1, y, h2, h⟩ := h
              cases h
              exact PE.imp (pe_callB (op_max m.calm) hg hm boot_max (pa_cons (ih.e c X a x m h1) (pa_cons (ih.e c X b y m h2) pa_nil (star_ok h2)) (star_ok h1)) g3 g1 (star_ok h1) (args_plain (n := n) (c := c) (ces := [y]) (by simp [h2]))) fun σ H Q q => rd_max q
            · split at h
              · rename_i e
                subst e
                split at h
                · rename_i t tp
                  split at h
                  · rename_i ht
                    unfold bltOk at ht
                    simp only [Bool.and_eq_true] at ht
                    simp only [Option.bind_eq_bind, Option.bind_eq_some_iff] at h
                    obtain ⟨x, h1, ty, h2, h⟩ := h
                    cases h
                    obtain ⟨tg, tm⟩ := m.blt ht.2 ht.1
                    have key : bootBuiltins t = some (.type (tyN ty)) ∧ t ≠ ("__name__" : Str) ∧ (t == ("__debug__" : Str)) = false := by
                      unfold tyOf at h2
                      repeat' split at h2
                      all_goals first
                        | cases h2
                        | skip
                      all_goals (rename_i e; subst e)
                      · exact ⟨boot_int, by decide, by decide⟩
                      · exact ⟨boot_bool, by decide, by decide⟩
                      · exact ⟨boot_str, by decide, by decide⟩
                      · exact ⟨boot_tuple, by decide, by decide⟩
                      · exact ⟨boot_list, by decide, by decide⟩
                    have pt : PE X (.Name t tp) (tC (.ty (tyN ty))) := pe_bltn tg tm key.1 rfl key.2.1 key.2.2
                    exact PE.imp (pe_callB (op_isi m.z ty) hg hm boot_isinstance (pa_cons (ih.e c X a x m h1) (pa_cons pt pa_nil) (star_ok h1)) g3 g1 (star_ok h1) rfl) fun σ H Q q => rd_isi q
                  · cases h
                · cases h
              · cases h
        · cases h
      · cases h
  · cases h
theorem m1_of {o e : Expr} {mm : Str} {apos cpos : Pos} {co ce : CE} (ho : cE n c o = some co) (he : cE n c e = some ce) (hl : apos.endLine = cpos.line) : M1 X o mm apos e cpos := by
  have hs : starEach [e] X.env = [(false, eval e X.env)] := star_ok (es := []) he
  refine ⟨attr_ok ho, ?_, by simp [hl], ?_⟩
  · rw [hs]; rfl
  · rw [hs]; rfl
theorem m2_of {o e f : Expr} {mm : Str} {apos cpos : Pos} {co ce cf : CE} (ho : cE n c o = some co) (he : cE n c e = some ce) (hf : cE n c f = some cf) (hl : apos.endLine = cpos.line) : M2 X o mm apos e f cpos := by
  have hs : starEach [e, f] X.env = [(false, eval e X.env), (false, eval f X.env)] := by rw [star_ok he, star_ok hf]; rfl
  refine ⟨attr_ok ho, ?_, by simp [hl], ?_⟩
  · rw [hs]; rfl
  · rw [hs]; rfl
theorem c_bm {o e : Expr} {T id : String} {mm : Str} {apos cpos : Pos} {ce : CE} {to : TE} {te : TE} {r : V → List V → Hp → VK → Prop} (pa : PlainAttrs T) (slot : Slot T mm id) (hty : typeOf (.builtin id) = pure (.type "method_descriptor")) (hm : MtR X id r)
    (ho : PE X o to) (hte : PE X e te) (hb : attributeBase o mm X.env (eval o X.env) = eval o X.env) (he : cE n c e = some ce) (hl : apos.endLine = cpos.line) : PE X (.Call (.Attribute o mm apos) [e] [] cpos) (tBM X.K T r to (tCons te tNil)) := by
  have hs : starEach [e] X.env = (false, eval e X.env) :: starEach [] X.env := star_ok (es := []) he
  exact pe_bm pa slot hty hm ho (pa_cons hte pa_nil hs) hb (by rw [hs]; rfl) (by simp [hl]) hs rfl
theorem c_meth (ih : IHn Z call n) (m : Mt Z call c X) {o : Expr} {mm : Str} {apos cpos : Pos} {args : List Expr} {ce : CE} (hl : apos.endLine = cpos.line) (h : cMeth (cE n c) o mm args = some ce) :
    PE X (.Call (.Attribute o mm apos) args [] cpos) (tE Z call ce) := by
  have hK := m.K
  unfold cMeth at h
  split at h
  · rename_i a
    repeat' split at h
    all_goals first
      | (cases h; done)
      | skip
    all_goals
      rename_i e
      subst e
      simp only [Option.bind_eq_bind, Option.bind_eq_some_iff] at h
      obtain ⟨x, h1, y, h2, h⟩ := h
      cases h
    · exact PE.imp (c_bm PySem.F.plainAttrs_list PySem.F.slot_list_append PySem.F.type_list_append mt_append (ih.e c X o x m h1) (ih.e c X a y m h2) (attr_ok h1) h2 hl) fun σ H Q q => by rw [hK]; exact rd_app q
    · exact PE.imp (c_bm PySem.F.plainAttrs_str PySem.F.slot_str_join PySem.F.type_str_join mt_joinP (ih.e c X o x m h1) (ih.e c X a y m h2) (attr_ok h1) h2 hl) fun σ H Q q => by rw [hK]; exact rd_join q
    · exact PE.imp (c_bm PySem.F.plainAttrs_list PySem.F.slot_list_index PySem.F.type_list_index mt_indexP (ih.e c X o x m h1) (ih.e c X a y m h2) (attr_ok h1) h2 hl) fun σ H Q q => by rw [hK]; exact rd_index q
    · exact PE.imp (c_bm PySem.F.plainAttrs_list PySem.F.slot_list_pop PySem.F.type_list_pop mt_popAt (ih.e c X o x m h1) (ih.e c X a y m h2) (attr_ok h1) h2 hl) fun σ H Q q => by rw [hK]; exact rd_popAt q
  · rename_i a b
    split at h
    · rename_i e
      subst e
      simp only [Option.bind_eq_bind, Option.bind_eq_some_iff] at h
      obtain ⟨x, h1, y, h2, z, h3, h⟩ := h
      cases h
      exact PE.imp (pe_getP m.z m.un (ih.e c X o x m h1) (ih.e c X a y m h2) (ih.e c X b z m h3) (m2_of h1 h2 h3 hl)) fun σ H Q q => rd_get q
    · cases h
  · cases h
theorem c_appIx (ih : IHn Z call n) (m : Mt Z call c X) {o : Expr} {mm : Str} {apos cpos : Pos} {args : List Expr} {ce : CE} (hl : apos.endLine = cpos.line) (h : cAppIx (cE n c) c o mm args = some ce) :
    PE X (.Call (.Attribute o mm apos) args [] cpos) (tE Z call ce) := by
  have hK := m.K
  unfold cAppIx at h
  split at h
  · rename_i x xp i p a
    split at h
    · rename_i e
      obtain ⟨rfl, hs⟩ := e
      simp only [Option.bind_eq_bind, Option.bind_eq_some_iff] at h
      obtain ⟨s, h1, y, h2, z, h3, h⟩ := h
      cases h
      exact PE.imp (c_bm PySem.F.plainAttrs_list PySem.F.slot_list_append PySem.F.type_list_append mt_append (pe_ix ix_list (slot_ok m h1) (ih.e c X i y m h2) (plain_ix hs)) (ih.e c X a z m h3) rfl h3 hl) fun σ H Q q => by rw [hK]; exact rd_appIx q
    · cases h
  · cases h
end
end Ev

/-! EvN2: blocks, targets, sources; the compiler of expressions is right. -/
namespace Ev
open PySem PySem.Spec PyProof.Rows L2

section
variable {Z : Ar} {call : Call} {X : Cx} {c : CC} {n : Nat}
theorem own_mem {N : List Str} {sc : Scope} {x : Str} {i : Nat} (h : (x, i) ∈ ownOf N sc) : ixOf N x = some i ∧ ((x, NameKind.local) ∈ sc.names ∨ (x, NameKind.cell) ∈ sc.names) := by
  unfold ownOf at h
  rw [List.mem_filterMap] at h
  obtain ⟨⟨y, k⟩, h1, h2⟩ := h
  cases k <;> simp only at h2
  all_goals first
    | (cases h2; done)
    | skip
  all_goals
    simp only [Option.map_eq_some_iff] at h2
    obtain ⟨j, h3, h4⟩ := h2
    cases h4
  · exact ⟨h3, .inl h1⟩
  · exact ⟨h3, .inr h1⟩
theorem blkC_uniq {N : List Str} {sc scope : Scope} {own : List (Str × Nat)} (h : blkC N sc scope own = true) : ∀ y ∈ scope.names, scope.names.lookup y.1 = some y.2 := (blkOk_by h).uniq
theorem Mt.blk (m : Mt Z call c X) {scope : Scope} (hb : blkC c.N c.sc scope (ownOf c.N scope) = true) (s : Shared) (H : Hp) (C : Addr) (cl : List (Str × Addr)) (fp : List Addr) :
    Mt Z call (c.blk scope) (X.blk s H scope (compEnvC scope cl C X.env) fp) := by
  refine ⟨m.pg, m.ww, m.K, m.N, m.nd, ?_, (blkOk_by hb).kind, m.calm, rfl, m.un, fun x hx => ?_, m.free, fun f k h => ?_⟩
  · show relS scope X.env.scope = relS scope c.sc
    rw [m.sc]
  · have hx : ((ownOf c.N scope).map (·.1)).contains x = true := hx
    simp only [List.contains_eq_mem, List.mem_map, decide_eq_true_eq] at hx
    obtain ⟨⟨y, i⟩, h1, rfl⟩ := hx
    obtain ⟨_, h2⟩ := own_mem h1
    have u := blkC_uniq hb
    rcases h2 with h2 | h2
    · have q := u _ h2
      have z : List.lookup y (relS scope X.env.scope).names = some .local := lookup_relS_keep (by decide) q
      exact ⟨.inl z, .inr z⟩
    · have q := u _ h2
      have z : List.lookup y (relS scope X.env.scope).names = some .cell := lookup_relS_keep (by decide) q
      refine ⟨.inr z, .inl ?_⟩
      show (List.lookup y scope.names == some NameKind.cell) = true
      rw [q]; rfl
  · obtain ⟨af, fd, ps, lv, F⟩ := m.fns f k h
    exact ⟨af, fd, ps, lv, F.mg, F.kp, F.bd, F.ok, F.rm⟩
/-! ### targets -/
theorem pg_bind (m : Mt Z call c X) {x : Str} {i : Nat} {p : Pos} (h : bindOf c x = some i) : PG X (.Name x p) (gName i) := by
  unfold bindOf at h
  split at h
  · rename_i hw
    obtain ⟨h1, h2⟩ := m.wr x hw
    exact pg_name m.nd (by rw [m.N]; exact ixOf_ok h) h1 h2
  · cases h
def nmOf (c : CC) (e : Expr) : Option Nat := match e with
  | .Name x _ => bindOf c x
  | _ => none
theorem nmOf_ok {e : Expr} {i : Nat} (h : nmOf c e = some i) : ∃ x p, e = .Name x p ∧ bindOf c x = some i := by
  cases e with
  | Name x p => exact ⟨x, p, rfl, h⟩
  | _ => cases h
theorem pg_names (m : Mt Z call c X) {es : List Expr} {is : List Nat} (h : es.mapM (nmOf c) = some is) : PGs X es (gNames is) ∧ (assignEach es X.env).length = is.length ∧ (assignEach es X.env).findIdx? (·.1) = none := by
  induction es generalizing is with
  | nil =>
    simp only [List.mapM_nil] at h
    cases h
    exact ⟨pgs_nil, rfl, rfl⟩
  | cons e es ih =>
    simp only [List.mapM_cons, Option.bind_eq_bind, Option.bind_eq_some_iff] at h
    obtain ⟨i, h1, is', h2, h⟩ := h
    cases h
    obtain ⟨x, p, rfl, h3⟩ := nmOf_ok h1
    obtain ⟨k1, k2, k3⟩ := ih h2
    refine ⟨pgs_cons (pg_bind m h3) k1 rfl, ?_, ?_⟩
    · show (assignEach es X.env).length + 1 = is'.length + 1
      rw [k2]
    · show List.findIdx? (·.1) ((false, assign (.Name x p) X.env) :: assignEach es X.env) = none
      simp only [List.findIdx?_cons, k3]
      rfl
theorem pg_tg (m : Mt Z call c X) {e : Expr} {g : TG} (h : cTG c e = some g) : PG X e (gT Z.K g) := by
  cases e with
  | Name x p =>
    simp only [cTG, Option.map_eq_some_iff] at h
    obtain ⟨i, h, rfl⟩ := h
    exact pg_bind m h
  | Tuple es k p =>
    simp only [cTG, Option.map_eq_some_iff] at h
    obtain ⟨is, h, rfl⟩ := h
    have h : es.mapM (nmOf c) = some is := h
    obtain ⟨k1, k2, k3⟩ := pg_names m h
    have z := pg_tup (pos := p) (k := k) m.calm k1 k2 k3
    rw [m.K] at z
    exact z
  | _ => cases h
theorem tg_many {e : Expr} {is : List Nat} (h : cTG c e = some (.many is)) : ∃ es k p, e = .Tuple es k p := by
  cases e with
  | Name x p => simp [cTG] at h
  | Tuple es k p => exact ⟨es, k, p, rfl⟩
  | _ => cases h
/-! ### sources -/
theorem pi_plain (m : Mt Z call c X) {tgE e : Expr} {g : TG} {p : CE} (he : PE X e (tE Z call p)) : PI X tgE e (iEv Z call g .plain [p]) := by
  have z := pi_seq (tg := tgE) he
  exact PI.imp z fun σ H R q => by rw [m.K]; exact ri_plain q
theorem c_iter (ih : IHn Z call n) (m : Mt Z call c X) {c' : CC} {tgE e : Expr} {g : TG} {ik : IK} {es : List CE} (hg : cTG c' tgE = some g) (h : cIter (cE n c) c g e = some (ik, es)) : PI X tgE e (iEv Z call g ik es) ∧ ∀ env x, foldedSetIterable e env x = pure x := by
  have hK := m.K
  have pl : ∀ {e : Expr}, ((cE n c e).map fun p => ((.plain, [p]) : IK × List CE)) = some (ik, es) → PI X tgE e (iEv Z call g ik es) ∧ ∀ env x, foldedSetIterable e env x = pure x := fun {e} h => by
    simp only [Option.map_eq_some_iff] at h
    obtain ⟨p, h1, h2⟩ := h
    cases h2
    exact ⟨pi_plain m (ih.e c X e p m h1), (set_no h1).2⟩
  unfold cIter at h
  split at h
  · rename_i x px args kws pos
    split at h
    · rename_i hc
      simp only [Bool.and_eq_true, List.isEmpty_iff] at hc
      obtain ⟨⟨⟨⟨⟨c1, c2⟩, c3⟩, c4⟩, c5⟩, c6⟩ := hc
      have hgl : Gl X x := glB_ok (by rw [m.sc]; exact c1)
      have hm := m.free x c3
      subst c5
      refine ⟨?_, fun _ _ => rfl⟩
      split at h
      · rename_i a
        split at h
        · rename_i e
          subst e
          simp only [Option.map_eq_some_iff] at h
          obtain ⟨p, h1, h2⟩ := h
          cases h2
          exact PI.imp (pi_range1 hgl hm (pa_cons (ih.e c X a p m h1) pa_nil (star_ok h1)) (star_ok (es := []) h1)) fun σ H R q => ri_rng1 q
        · split at h
          · rename_i e
            subst e
            split at h
            · rename_i is
              simp only [Option.map_eq_some_iff] at h
              obtain ⟨p, h1, h2⟩ := h
              cases h2
              obtain ⟨ts, k, tp, rfl⟩ := tg_many hg
              exact PI.imp (pi_enum hgl hm (pa_cons (ih.e c X a p m h1) pa_nil (star_ok h1)) (star_ok (es := []) h1)) fun σ H R q => by rw [hK]; exact ri_enum q
            · cases h
          · cases h
      · rename_i a b
        split at h
        · rename_i e
          subst e
          simp only [Option.bind_eq_bind, Option.bind_eq_some_iff] at h
          obtain ⟨p, h1, q, h2, h⟩ := h
          cases h
          have s2 : starEach [b] X.env = [(false, eval b X.env)] := star_ok (es := []) h2
          exact PI.imp (pi_range2 hgl hm (pa_cons (ih.e c X a p m h1) (pa_cons (ih.e c X b q m h2) pa_nil (star_ok h2)) (star_ok h1)) (by rw [star_ok h1, s2]) s2) fun σ H R q => ri_rng2 q
        · split at h
          · rename_i e
            subst e
            split at h
            · rename_i is
              simp only [Option.bind_eq_bind, Option.bind_eq_some_iff] at h
              obtain ⟨p, h1, q, h2, h⟩ := h
              cases h
              obtain ⟨ts, k, tp, rfl⟩ := tg_many hg
              exact PI.imp (pi_zip hgl hm (pa_cons (ih.e c X a p m h1) (pa_cons (ih.e c X b q m h2) pa_nil (star_ok h2)) (star_ok h1)) (star_ok h1) (args_plain (n := n) (c := c) (ces := [q]) (by simp [h2]))) fun σ H R q => by rw [hK]; exact ri_zip q
            · cases h
          · cases h
      · cases h
    · exact pl h
  · exact pl h
/-! ### the step -/
theorem const_keys {ks : List (Option Expr)} {kd : List P} (h : ks.mapM constKey = some kd) : kd.length = ks.length ∧ (∀ k ∈ kd, (skey k).isSome = true) ∧ ks.all (·.isSome) = true := by
  induction ks generalizing kd with
  | nil =>
    simp only [List.mapM_nil] at h
    cases h
    exact ⟨rfl, (fun k hk => by cases hk), rfl⟩
  | cons e es ih =>
    simp only [List.mapM_cons, Option.bind_eq_bind, Option.bind_eq_some_iff] at h
    obtain ⟨i, h1, is', h2, h⟩ := h
    cases h
    obtain ⟨k1, k2, k3⟩ := ih h2
    have kk : (skey i).isSome = true ∧ e.isSome = true := by
      unfold constKey at h1
      split at h1
      · cases h1; exact ⟨rfl, rfl⟩
      · cases h1; exact ⟨rfl, rfl⟩
      · cases h1
    refine ⟨by simp [k1], fun k hk => ?_, by simp [kk.2]; simpa using k3⟩
    rcases List.mem_cons.mp hk with rfl | hk
    · exact kk.1
    · exact k2 k hk
theorem pps_all (ih : IHn Z call n) (m : Mt Z call c X) {pos : Pos} {ks : List (Option Expr)} {vs : List Expr} {kd : List P} {vd : List CE} (hl : ks.length = vs.length) (hk : ks.mapM constKey = some kd) (hv : vs.mapM (cE n c) = some vd) : PPs X pos ks vs (dTrs Z call kd vd) := by
  induction ks generalizing vs kd vd with
  | nil =>
    cases vs with
    | nil =>
      simp only [List.mapM_nil] at hk hv
      cases hk; cases hv
      exact pps_nil
    | cons v vs => cases hl
  | cons k ks ih2 =>
    cases vs with
    | nil => cases hl
    | cons v vs =>
      simp only [List.mapM_cons, Option.bind_eq_bind, Option.bind_eq_some_iff] at hk hv
      obtain ⟨d, h1, ds, h2, hk⟩ := hk
      obtain ⟨w, h3, ws, h4, hv⟩ := hv
      cases hk; cases hv
      have r := ih2 (by simpa using hl) h2 h4
      unfold constKey at h1
      split at h1
      · cases h1
        exact pps_cons (PE.imp pe_str fun σ H Q q => rd_const (fun F => .str _) q) (ih.e c X v w m h3) r
      · cases h1
        exact pps_cons (PE.imp pe_int fun σ H Q q => rd_const (fun F => .int _) q) (ih.e c X v w m h3) r
      · cases h1
theorem view_imp {e : Expr} {p : CE} {b : Bool} (h : PE X e (tE Z call p)) : PE X e (tE Z call (if b = true then .view p else p)) := by
  cases b with
  | true => exact PE.imp h fun σ H Q q => rd_view q
  | false => exact h
theorem PTs.imp {ifs : List Expr} {t t' : TT} (h : PTs X ifs t) (i : ∀ σ H Q, t' σ H Q → t σ H Q) : PTs X ifs t' := ⟨fun pins s σ H Q I q => h.run pins s σ H Q I (i σ H Q q)⟩
theorem comp_e (ih : IHn Z call n) : ∀ c X e ce, Mt Z call c X → cE (n + 1) c e = some ce → PE X e (tE Z call ce) := by
  intro c X e ce m h
  have hK := m.K
  cases e with
  | Constant k x y => exact c_const ih m rfl h
  | Name x p =>
    simp only [cE, Option.map_eq_some_iff] at h
    obtain ⟨i, h, rfl⟩ := h
    exact PE.imp (slot_ok m h) fun σ H Q q => rd_var q
  | Tuple es x1 p =>
    simp only [cE] at h
    split at h
    · rename_i hl
      simp only [Option.map_eq_some_iff] at h
      obtain ⟨ces, h, rfl⟩ := h
      exact PE.imp (pe_tupF (pa_all ih m h)) fun σ H Q q => rd_tup (by rw [mapM_len h]; exact hl) q
    · cases h
  | List es p =>
    simp only [cE] at h
    split at h
    · rename_i hl
      simp only [Option.map_eq_some_iff] at h
      obtain ⟨ces, h, rfl⟩ := h
      exact PE.imp (pe_lst (pa_all ih m h)) fun σ H Q q => rd_lst (by rw [mapM_len h]; exact hl) q
    · cases h
  | Dict ks vs p =>
    simp only [cE] at h
    split at h
    · rename_i hl
      simp only [Option.bind_eq_bind, Option.bind_eq_some_iff] at h
      obtain ⟨kd, h1, vd, h2, h⟩ := h
      cases h
      obtain ⟨k1, k2, k3⟩ := const_keys h1
      have l2 := mapM_len h2
      cases ks with
      | nil =>
        cases vs with
        | nil =>
          simp only [List.mapM_nil] at h1 h2
          cases h1; cases h2
          exact PE.imp pe_dnewK fun σ H Q q => rd_dct0 q
        | cons v vs => cases hl
      | cons k ks =>
        refine ⟨fun pins s σ H Q I q => ?_⟩
        have hq := q
        obtain ⟨F, ρ, w, ρ', R, ev, _⟩ := hq
        simp only [evE, bind_eq_ok, chk_eq_ok, decide_eq_true_eq] at ev
        obtain ⟨_, _, _, _, _, e3, _⟩ := ev
        exact (pe_disp (pps_all ih m hl h1 h2) k3 hl (by simp) (by rw [← k1]; exact e3)).run pins s σ H Q I (rd_dct k2 (by rw [k1, l2, hl]) q)
    · cases h
  | BinOp a op b p =>
    simp only [cE] at h
    split at h
    · simp only [Option.bind_eq_bind, Option.bind_eq_some_iff] at h
      obtain ⟨x, h1, y, h2, h⟩ := h
      cases h
      exact PE.imp (pe_op (op_bin hK) (ih.e c X a x m h1) (ih.e c X b y m h2)) fun σ H Q q => rd_bin q
    · cases h
  | UnaryOp op a p =>
    cases op with
    | Not =>
      simp only [cE, Option.map_eq_some_iff] at h
      obtain ⟨x, h1, rfl⟩ := h
      exact PE.imp (pe_not (ih.e c X a x m h1)) fun σ H Q q => rd_notv q
    | USub =>
      simp only [cE, Option.map_eq_some_iff] at h
      obtain ⟨x, h1, rfl⟩ := h
      exact PE.imp (pe_un un_neg (ih.e c X a x m h1)) fun σ H Q q => rd_neg q
    | _ => simp only [cE] at h; cases h
  | BoolOp op vs p =>
    simp only [cE] at h
    split at h
    · cases h
    · exact c_bool ih m h
  | Compare a ops bs p =>
    cases ops with
    | nil => simp only [cE] at h; cases h
    | cons op ops =>
      cases ops with
      | cons _ _ => simp only [cE] at h; cases h
      | nil =>
        cases bs with
        | nil => simp only [cE] at h; cases h
        | cons b bs =>
          cases bs with
          | cons _ _ => simp only [cE] at h; cases h
          | nil =>
            obtain ⟨r, ta, tb, h1, h2, h3, h4, h5, _, _⟩ := c_cmp ih m h
            exact PE.imp (pe_cmpR h1 h2 h3 h4) h5
  | IfExp t a b p =>
    simp only [cE, Option.bind_eq_bind, Option.bind_eq_some_iff] at h
    obtain ⟨x, h1, y, h2, z, h3, h⟩ := h
    cases h
    exact PE.imp (pe_ifExp (ih.t c X t x m h1) (ih.e c X a y m h2) (ih.e c X b z m h3)) fun σ H Q q => rd_ife q
  | Subscript a i p =>
    by_cases hs : ∃ lo hi p2, i = .Slice lo hi none p2
    · obtain ⟨lo, hi, p2, rfl⟩ := hs
      simp only [cE, Option.bind_eq_bind, Option.bind_eq_some_iff] at h
      obtain ⟨x, h1, y, h2, z, h3, h⟩ := h
      cases h
      exact PE.imp (pe_slice (op_slP hK) (ih.e c X a x m h1) (ih.o c X lo y m h2) (ih.o c X hi z m h3)) fun σ H Q q => rd_sl q
    · rw [cE] at h
      · split at h
        · cases h
        · rename_i hn
          simp only [Option.bind_eq_bind, Option.bind_eq_some_iff] at h
          obtain ⟨x, h1, y, h2, h⟩ := h
          cases h
          exact view_imp (PE.imp (pe_ix (op_ixP m.z m.un) (ih.e c X a x m h1) (ih.e c X i y m h2) (plain_ix (by simpa using hn))) fun σ H Q q => rd_ix q)
      · intro lo hi p2 e
        exact hs ⟨lo, hi, p2, e⟩
  | Call f args kws p =>
    cases kws with
    | cons _ _ => cases f <;> simp only [cE] at h <;> cases h
    | nil =>
      cases f with
      | Name x px =>
        simp only [cE, Option.map_eq_some_iff] at h
        obtain ⟨q, h1, rfl⟩ := h
        exact view_imp (c_call ih m h1)
      | Attribute o mm apos =>
        simp only [cE] at h
        split at h
        · rename_i hl
          split at h
          · exact c_appIx ih m hl h
          · exact c_meth ih m hl h
        · cases h
      | _ => simp only [cE] at h; cases h
  | ListComp elt gs scope p =>
    match gs, h with
    | [], h => simp only [cE] at h; cases h
    | _ :: _ :: _, h => simp only [cE] at h; cases h
    | [⟨tg, it, ifs, as⟩], h =>
      simp only [cE] at h
      split at h
      · rename_i hb
        obtain ⟨rfl, hb⟩ := hb
        simp only [Option.bind_eq_bind, Option.bind_eq_some_iff] at h
        obtain ⟨g, h1, ⟨ik, es⟩, h2, el, h3, cd, h4, h⟩ := h
        have hbk := blkOk_by (show blkC X.N X.env.scope scope (ownOf c.N scope) = true by rw [m.N, m.sc]; exact hb)
        obtain ⟨p1, p2⟩ := c_iter ih m h1 h2
        have main : PE X (.ListComp elt [⟨tg, it, ifs, 0⟩] scope p) (tE Z call (.lc false el g ik es cd ((ownOf c.N scope).map (·.2)))) := by
          refine PE.imp (pe_lc m.calm m.nd p1 hbk (fun s H C cl fp => pg_tg (m.blk hb s H C cl fp) h1) (fun s H C cl fp => ?_) (fun s H C cl fp => ih.e _ _ elt el (m.blk hb s H C cl fp) h3) (fun x => p2 _ x)) fun σ H Q q => rd_lc q
          cases ifs with
          | nil => cases h4; exact PTs.imp pts_nil fun σ H Q q => rc_none q
          | cons t ts =>
            cases ts with
            | nil =>
              simp only [Option.map_eq_some_iff] at h4
              obtain ⟨x, h4, rfl⟩ := h4
              exact PTs.imp (pts_one (ih.t _ _ t x (m.blk hb s H C cl fp) h4)) fun σ H Q q => rc_some q
            | cons _ _ => cases h4
        split at h
        · cases h
          exact PE.imp main fun σ H Q q => rd_view q
        · cases h
          exact main
      · cases h
  | DictComp kx vx gs scope p =>
    match gs, h with
    | [], h => simp only [cE] at h; cases h
    | _ :: _ :: _, h => simp only [cE] at h; cases h
    | [⟨tg, it, ifs, as⟩], h =>
      simp only [cE] at h
      split at h
      · rename_i hb
        obtain ⟨rfl, hi, hb⟩ := hb
        simp only [Option.bind_eq_bind, Option.bind_eq_some_iff] at h
        obtain ⟨g, h1, ⟨ik, es⟩, h2, k, h3, v, h4, h⟩ := h
        cases h
        have hbk := blkOk_by (show blkC X.N X.env.scope scope (ownOf c.N scope) = true by rw [m.N, m.sc]; exact hb)
        obtain ⟨p1, p2⟩ := c_iter ih m h1 h2
        cases ifs with
        | cons _ _ => cases hi
        | nil =>
          exact PE.imp (pe_dc m.calm m.nd p1 hbk (fun s H C cl fp => pg_tg (m.blk hb s H C cl fp) h1) (fun s H C cl fp => pts_nil) (fun s H C cl fp => ih.e _ _ kx k (m.blk hb s H C cl fp) h3) (fun s H C cl fp => ih.e _ _ vx v (m.blk hb s H C cl fp) h4) (fun x => p2 _ x)) fun σ H Q q => rd_dc q
      · cases h
  | _ => simp only [cE] at h; cases h
theorem tE_mono {p : CE} {σ : St} {H : Hp} {Q Q' : VK} (h : tE Z call p σ H Q) (k : ∀ v H', Q v H' → Q' v H') : tE Z call p σ H Q' := by
  obtain ⟨F, ρ, w, ρ', R, ev, q⟩ := h
  exact ⟨F, ρ, w, ρ', R, ev, fun v F' H' a b c d => k v H' (q v F' H' a b c d)⟩
theorem isBool_no {e : Expr} {ce : CE} (hb : isBoolE e = false) (h : cE n c e = some ce) : (∃ a op b pos, e = .Compare a [op] [b] pos) ∨ ∀ env whole, isTrue e env whole = (do let v ← whole; standAt e.pos; holding [v] (truthy v)) := by
  cases n with
  | zero => cases h
  | succ n =>
    cases e with
    | BoolOp _ _ _ => cases hb
    | IfExp _ _ _ _ => cases hb
    | UnaryOp op a p => cases op <;> first | (cases hb; done) | exact .inr fun _ _ => rfl
    | Compare a ops bs p =>
      cases ops with
      | nil => simp only [cE] at h; cases h
      | cons op ops =>
        cases ops with
        | cons _ _ => simp only [cE] at h; cases h
        | nil =>
          cases bs with
          | nil => simp only [cE] at h; cases h
          | cons b bs =>
            cases bs with
            | cons _ _ => simp only [cE] at h; cases h
            | nil => exact .inl ⟨a, op, b, p, rfl⟩
    | _ => exact .inr fun _ _ => rfl
theorem comp_tst (ihs : ∀ k, k < n → IHn Z call k) (ih : IHn Z call n) (m : Mt Z call c X) {e : Expr} {p : CE} (hb : isBoolE e = false) (h : cE n c e = some p) : PT X e (tT Z call (.tst p)) := by
  have hK := m.K
  rcases isBool_no hb h with ⟨a, op, b, pos, rfl⟩ | hi
  · cases n with
    | zero => cases h
    | succ n =>
      obtain ⟨r, ta, tb, h1, h2, h3, h4, h5, ⟨f, rfl⟩, x, y, rfl, rfl⟩ := c_cmp (ihs n (Nat.lt_succ_self n)) m h
      refine PT.imp (pt_cmpR h1 h2 h3 h4) fun σ H Q q => ?_
      have z := h5 _ _ _ (rt_tst q)
      refine tE_mono z fun u H1 q1 => tE_mono q1 fun w H2 q2 => ?_
      obtain ⟨F, dx, dy, b', sub, r1, r2, e, F2, d, b2, sub2, r3, e2, q3⟩ := q2
      refine ⟨F, dx, dy, b', sub, r1, r2, e, b', rfl, ?_⟩
      cases r3
      cases e2
      exact q3
  · refine PT.imp (pt_truth (ih.e c X e p m h) (hi X.env)) fun σ H Q q => ?_
    exact tE_mono (rt_tst q) fun v H' z => tru_of hK z
theorem comp_t (ihs : ∀ k, k < n → IHn Z call k) (ih : IHn Z call n) : ∀ c X e ce, Mt Z call c X → cT (n + 1) c e = some ce → PT X e (tT Z call ce) := by
  intro c X e ce m h
  have dflt : ∀ {e : Expr}, (if isBoolE e = true then none else (cE n c e).map CE.tst) = some ce → PT X e (tT Z call ce) := fun {e} h => by
    split at h
    · cases h
    · rename_i hb
      simp only [Option.map_eq_some_iff] at h
      obtain ⟨p, h1, rfl⟩ := h
      exact comp_tst ihs ih m (by simpa using hb) h1
  cases e with
  | UnaryOp op a p =>
    cases op with
    | Not =>
      simp only [cT, Option.map_eq_some_iff] at h
      obtain ⟨x, h1, rfl⟩ := h
      exact PT.imp (pt_not (ih.t c X a x m h1)) fun σ H Q q => rt_not q
    | _ => simp only [cT] at h; exact dflt h
  | BoolOp op vs p =>
    simp only [cT] at h
    split at h
    · cases h
    · exact (c_boolT ih m h).pt
  | _ => simp only [cT] at h; exact dflt h
theorem comp_o (ih : IHn Z call n) : ∀ c X e ce, Mt Z call c X → cO (n + 1) c e = some ce → PO X e (tOs Z call ce) := by
  intro c X e ce m h
  cases e with
  | none =>
    simp only [cO] at h
    cases h
    exact PO.imp po_none fun σ H Q q => ro_none q
  | some e =>
    simp only [cO, Option.map_eq_some_iff] at h
    obtain ⟨x, h1, rfl⟩ := h
    exact PO.imp (po_some (ih.e c X e x m h1)) fun σ H Q q => ro_some q
theorem comp_all : ∀ n, IHn Z call n := fun n => Nat.strongRecOn n fun n ihs => by
  cases n with
  | zero => exact ⟨(fun c X e ce m h => nomatch h), (fun c X e ce m h => nomatch h), (fun c X e ce m h => nomatch h)⟩
  | succ n =>
    have ih := ihs n (Nat.lt_succ_self n)
    exact ⟨comp_e ih, comp_t (fun k hk => ihs k (Nat.lt_succ_of_lt hk)) ih, comp_o ih⟩
end
end Ev

/-! EvT: readings of statements. -/
namespace Ev
open PySem PySem.Spec PyProof.Rows L2

/-! ### o[k] = v -/
def rSetP (Z : Ar) : TSet := fun o i v H Q => ∃ F a m m' kd vd, o = .ref a ∧ Sub F H ∧ MoRep Z F H a m ∧ RepT Z F H kd i ∧ Rep Z F vd v ∧ putMO m kd vd = .ok m' ∧ ∀ o', MoRep Z F (upd H a o') a m' → Q (upd H a o')
section
variable {X : Cx} {Z : Ar}
theorem storedH_len (xs : NX) (k : NestedKey) (b : Addr) (u : Value) : (storedH xs k b u).length ≤ xs.length + 1 := by
  unfold storedH
  split <;> simp
theorem V.of_value {X : Cx} {v : V} {u : Value} (r : RelV v u) : True := trivial
theorem set_dn {A : Around} {E : Value → Shared → Prop} {pins : List (Addr × Obj)} {σ : St} {H F : Hp} {s : Shared} {a b : Addr} {xs : NX} {kvs : List (P × P)} {kd vd : P} {k : NestedKey} {v : V} {u : Value} {Q : Unit → Shared → Prop} (hu : A.units + 50 < cLine) (I : Inv X pins σ H s)
    (sub : Sub F H) (mu : Mut (H a)) (hm : s.heap.DictOfH (nestedKind X.prog X.w) a xs) (hs : (a == sysModules) = false) (r : RepN (arX X) F kvs xs) (rk : Rep (arX X) F kd (.ref b)) (it : isTup kd = true) (e : nkey kd = some k) (rv : Rep (arX X) F vd v) (ru : RelV v u) (hl : xs.length < sizeLine)
    (h : ∀ o' s', MoRep (arX X) F (upd H a o') a (.dn (putN kvs kd k vd)) → Inv X pins σ (upd H a o') s' → Q () s') : wpAny (model X.prog X.w) A (setItem (.ref a) (.ref b) u) Q E s := by
  refine wpAny_setItem_heap (hsz := Nat.le_of_lt hl) (nk_room hu) (is_key I sub rk e) hm fun h' hm' hsame => ?_
  have hz : (storedH xs k b u).length ≤ sizeLine := by have := storedH_len xs k b u; omega
  obtain ⟨o, es, ep, e1, e2, e3, e4, e5, nd⟩ := id hm'
  have raw : rawN (arX X) a (storedH xs k b u) h' := ⟨o, es, ep, e1, e2, e3, e4⟩
  refine h (.ext (rawN (arX X) a (storedH xs k b u))) _ ⟨_, ⟨upd_same, hs, hz, nd⟩, r.put e rk it rv ru⟩ ?_
  refine d_write I mu hsame ⟨o, e1⟩ ⟨raw, ⟨o, e1⟩, fun h1 h2 ⟨o1, es1, ep1, q1, q2, q3, q4⟩ kk => ⟨o1, es1, ep1, kk _ q1, q2, q3, q4⟩⟩
theorem set_P (hZ : Z = arX X) (hu : X.A.units + 100 < cLine) : PSet X (rSetP Z) := by
  subst hZ
  intro pins s σ H o i v ov iv u Q I ro ri rv h
  obtain ⟨F, a, m, m', kd, vd, rfl, sub, rm, rk, rvd, hp, q⟩ := h
  cases ro
  cases m with
  | lo ls => simp only [putMO, dPut] at hp; cases hp
  | lst xs =>
    obtain ⟨vs, hH, rr⟩ := rm
    simp only [putMO] at hp
    split at hp
    · rename_i n
      simp only [bind_eq_ok, of_eq_ok] at hp
      obtain ⟨j, hj, hp⟩ := hp
      cases hp
      cases rk
      refine set_list pins s σ H (.ref a) (.int n) v _ iv u Q I (show RelV (.ref a) (.ref a) from rfl) ri rv ⟨a, vs, n, j, rfl, rfl, hH, by rw [← rr.length]; exact hj, q _ ⟨_, upd_same, rr.set rvd j⟩⟩
    · cases hp
  | dk kvs =>
    obtain ⟨us, hH, rr⟩ := rm
    simp only [putMO, dPut] at hp
    split at hp
    · rename_i k hk
      simp only [bind_eq_ok, chk_eq_ok, decide_eq_true_eq] at hp
      obtain ⟨_, hl, hp⟩ := hp
      cases hp
      have ek := rk.skey hk
      subst ek
      exact d_setItem (by omega) I (DPut.k hH (by rw [← rr.length]; exact hl)) ri rv fun s' I' => ⟨_, I', q _ ⟨_, upd_same, rr.put k rvd⟩⟩
    · split at hp
      · rename_i hb
        simp only [Bool.and_eq_true, List.isEmpty_iff] at hb
        obtain ⟨it, hn⟩ := hb
        subst hn
        split at hp
        · rename_i k hk
          cases hp
          cases rr
          cases rk with
          | tup h1 h2 =>
            cases ri
            obtain ⟨hm, hs⟩ := dk0_view I hH
            exact set_dn (kvs := []) (by omega) I sub (by rw [hH]; trivial) hm hs .nil (.tup h1 h2) rfl hk rvd rv (by show 0 < sizeLine; rw [sizeLine_eq]; omega) fun o' s' r' I' => ⟨_, I', q _ r'⟩
          | _ => cases it
        · cases hp
      · cases hp
  | dn kvs =>
    obtain ⟨xs, hH, rr⟩ := rm
    simp only [putMO, dPut] at hp
    split at hp
    · rename_i it
      split at hp
      · rename_i k hk
        simp only [bind_eq_ok, chk_eq_ok, decide_eq_true_eq] at hp
        obtain ⟨_, hl, hp⟩ := hp
        cases hp
        cases rk with
        | tup h1 h2 =>
          cases ri
          exact set_dn (by omega) I sub (by rw [hH.1]; trivial) (dn_view I sub hH rr) hH.2.1 rr (.tup h1 h2) rfl hk rvd rv (by rw [← rr.length]; exact hl) fun o' s' r' I' => ⟨_, I', q _ r'⟩
        | _ => cases it
      · cases hp
    · cases hp
end

/-! ### the ends of statements -/
structure StepS (Z : Ar) (lk : List Nat) (F : Hp) (ρ : En) (σ : St) (H : Hp) (F' : Hp) (ρ' : En) (σ' : St) (H' : Hp) : Prop where
  R : SRel Z F' ρ' σ' H'
  A : Adv [] F ρ σ H F' ρ' σ' H'
  k : ∀ j ∈ lk, σ'[j]? = σ[j]?
def WRet (Z : Ar) (lk : List Nat) (F' : Hp) (ρ' : En) (σ' : St) (H' H : Hp) (w : W) (v : V) : Prop :=
  (WRep Z F' ρ' σ' H' w v ∧ Fresh H H' w v ∧ ∀ k, w ≠ .ref k) ∨ ∃ k m, w = .tmp m ∧ k ∉ lk ∧ ρ'[k]? = some (some (.own m)) ∧ σ'[k]? = some (some v) ∧ ∀ j ∈ lk, isHeld ρ'[j]? = true
def EndS (Z : Ar) (lk : List Nat) (F : Hp) (ρ : En) (σ : St) (H : Hp) (f : Fl) (ρ' : En) (D : Ends) : Prop := match f with
  | .nx => ∀ F' σ' H', StepS Z lk F ρ σ H F' ρ' σ' H' → D.nx σ' H'
  | .bk => ∀ F' σ' H', StepS Z lk F ρ σ H F' ρ' σ' H' → D.bk σ' H'
  | .ct => ∀ F' σ' H', StepS Z lk F ρ σ H F' ρ' σ' H' → D.ct σ' H'
  | .rt w => ∀ v F' σ' H', StepS Z lk F ρ σ H F' ρ' σ' H' → WRet Z lk F' ρ' σ' H' H w v → D.rt v H'
def tS (Z : Ar) (call : Call) (lk : List Nat) (s : CS) : TS := fun D σ H => ∃ F ρ f ρ', SRel Z F ρ σ H ∧ evS call lk s ρ = .ok (f, ρ') ∧ EndS Z lk F ρ σ H f ρ' D
def tSs (Z : Ar) (call : Call) (lk : List Nat) (s : List CS) : TS := fun D σ H => ∃ F ρ f ρ', SRel Z F ρ σ H ∧ evSs call lk s ρ = .ok (f, ρ') ∧ EndS Z lk F ρ σ H f ρ' D
theorem PS.imp {X : Cx} {s : Stmt} {t t' : TS} (h : PS X s t) (i : ∀ D σ H, t' D σ H → t D σ H) : PS X s t' := ⟨fun pins s σ H D I q => h.run pins s σ H D I (i D σ H q)⟩
theorem PSs.imp {X : Cx} {s : List Stmt} {t t' : TS} (h : PSs X s t) (i : ∀ D σ H, t' D σ H → t D σ H) : PSs X s t' := ⟨fun pins s σ H D I q => h.run pins s σ H D I (i D σ H q)⟩
section
variable {Z : Ar} {call : Call} {lk : List Nat} {F F' F'' F0 F1 H H' H'' H0 H1 : Hp} {ρ ρ' ρ'' ρ0 ρ1 : En} {σ σ' σ0 σ1 : St} {w : W} {v : V} {D : Ends} {f : Fl}
theorem StepS.ev (R : SRel Z F' ρ' σ H') (A : Adv [] F ρ σ H F' ρ' σ H') : StepS Z lk F ρ σ H F' ρ' σ H' := ⟨R, A, fun _ _ => rfl⟩
theorem StepS.trans (x : StepS Z lk F ρ σ H F1 ρ1 σ1 H1) (y : StepS Z lk F1 ρ1 σ1 H1 F' ρ' σ' H') : StepS Z lk F ρ σ H F' ρ' σ' H' := ⟨y.R, adv0_then x.A y.A, fun j hj => (y.k j hj).trans (x.k j hj)⟩
theorem WRet.key (A : Adv [] F ρ σ H F1 ρ1 σ1 H1) (r : WRet Z lk F' ρ' σ' H' H1 w v) : WRet Z lk F' ρ' σ' H' H w v := r.imp (fun ⟨a, b, c⟩ => ⟨a, fun x hx => A.key (b x hx), c⟩) id
theorem EndS.pre (x : StepS Z lk F ρ σ H F1 ρ1 σ1 H1) (k : EndS Z lk F ρ σ H f ρ' D) : EndS Z lk F1 ρ1 σ1 H1 f ρ' D := by
  cases f with
  | nx => exact fun F' σ' H' y => k F' σ' H' (x.trans y)
  | bk => exact fun F' σ' H' y => k F' σ' H' (x.trans y)
  | ct => exact fun F' σ' H' y => k F' σ' H' (x.trans y)
  | rt w => exact fun v F' σ' H' y r => k v F' σ' H' (x.trans y) (r.key x.A)
theorem EndS.same {D' : Ends} (hn : f ≠ .nx) (hb : D'.bk = D.bk) (hc : D'.ct = D.ct) (hr : D'.rt = D.rt) (k : EndS Z lk F ρ σ H f ρ' D) : EndS Z lk F ρ σ H f ρ' D' := by
  cases f with
  | nx => exact absurd rfl hn
  | bk => intro F' σ' H' y; rw [hb]; exact k F' σ' H' y
  | ct => intro F' σ' H' y; rw [hc]; exact k F' σ' H' y
  | rt w => intro v F' σ' H' y r; rw [hr]; exact k v F' σ' H' y r
theorem rs_nil (h : tSs Z call lk [] D σ H) : tNext D σ H := by
  obtain ⟨F, ρ, f, ρ', R, ev, k⟩ := h
  simp only [evSs] at ev
  cases ev
  exact k F σ H (.ev R .refl)
theorem rs_cons {s : CS} {ss : List CS} (h : tSs Z call lk (s :: ss) D σ H) : tSeq (tS Z call lk s) (tSs Z call lk ss) D σ H := by
  obtain ⟨F, ρ, f, ρ', R, ev, k⟩ := h
  simp only [evSs, bind_eq_ok] at ev
  obtain ⟨⟨f1, ρ1⟩, e1, ev⟩ := ev
  refine ⟨F, ρ, f1, ρ1, R, e1, ?_⟩
  cases f1 with
  | nx => exact fun F' σ' H' y => ⟨F', ρ1, f, ρ', y.R, ev, k.pre y⟩
  | bk => cases ev; exact k
  | ct => cases ev; exact k
  | rt w => cases ev; exact k
theorem rs_ex {e : CE} (h : tS Z call lk (.ex e) D σ H) : tDrop (tE Z call e) D σ H := by
  obtain ⟨F, ρ, f, ρ', R, ev, k⟩ := h
  simp only [evS, bind_eq_ok] at ev
  obtain ⟨⟨w, ρ1⟩, e1, ev⟩ := ev
  cases ev
  exact ⟨F, ρ, w, ρ1, R, e1, fun v F1 H1 R1 A1 W1 f1 => k F1 σ H1 (.ev R1 A1)⟩
theorem bind_step {i : Nat} (R : SRel Z F' ρ' σ H') (A : Adv [] F ρ σ H F' ρ' σ H') (r : WRep Z F' ρ' σ H' w v) (f : Fresh H H' w v) (h : bindS lk i w ρ' = .ok ρ'') : StepS Z lk F ρ σ H F' ρ'' (σ.set i (some v)) H' := by
  obtain ⟨R1, A1, nl, _⟩ := bindS_ok R A r f h
  exact ⟨R1, A1, fun j hj => List.getElem?_set_ne (fun e : i = j => nl (by rw [e]; exact hj))⟩
theorem rs_set {i : Nat} {e : CE} (h : tS Z call lk (.set i e) D σ H) : tAsg (tE Z call e) (gName i) D σ H := by
  obtain ⟨F, ρ, f, ρ', R, ev, k⟩ := h
  simp only [evS, bind_eq_ok] at ev
  obtain ⟨⟨w, ρ1⟩, e1, ρ2, e2, ev⟩ := ev
  cases ev
  exact ⟨F, ρ, w, ρ1, R, e1, fun v F1 H1 R1 A1 W1 f1 => k F1 _ H1 (bind_step R1 A1 W1 f1 e2)⟩
theorem rs_unp {is : List Nat} {e : CE} (h : tS Z call lk (.unp is e) D σ H) : tAsg (tE Z call e) (gT Z.K (.many is)) D σ H := by
  obtain ⟨F, ρ, f, ρ', R, ev, k⟩ := h
  simp only [evS, bind_eq_ok] at ev
  obtain ⟨⟨w, ρ1⟩, e1, d, e2, ρ2, e3, ev⟩ := ev
  cases ev
  refine ⟨F, ρ, w, ρ1, R, e1, fun v F1 H1 R1 A1 W1 f1 => ?_⟩
  have r := peek_rep R1 W1 e2
  have y : YRep Z F1 H1 (.many is) d v := fun ds e => by
    subst e
    cases r with
    | tup h1 h2 => exact ⟨_, _, rfl, R1.fz.sqT h1.sqT, h2⟩
  obtain ⟨σ2, R2, A2, k1, _, k3⟩ := bindT_ok R1 A1 y e3
  exact k3 _ (k F1 σ2 H1 ⟨R2, A2, k1⟩)
theorem rs_par {i j : Nat} {a b : CE} (h : tS Z call lk (.par i j a b) D σ H) : i ≠ j ∧ tPar i j (tCons (tE Z call a) (tCons (tE Z call b) tNil)) D σ H := by
  obtain ⟨F, ρ, f, ρ', R, ev, k⟩ := h
  simp only [evS, bind_eq_ok, chk_eq_ok, bne_iff_ne, ne_eq] at ev
  obtain ⟨⟨x, ρ1⟩, e1, ⟨y, ρ2⟩, e2, _, e3, ρ3, e4, ρ4, e5, ev⟩ := ev
  refine ⟨e3, ?_⟩
  cases ev
  refine ⟨F, ρ, x, ρ1, R, e1, fun v F1 H1 R1 A1 W1 f1 => ⟨F1, ρ1, y, ρ2, R1, e2, fun u F2 H2 R2 A2 W2 f2 => ⟨v, u, rfl, ?_⟩⟩⟩
  have fx : fpW H2 x v = fpW H1 x v := W1.fp_adv A2
  have frx : Fresh H H2 x v := fun b hb => f1 b (by rw [← fx]; exact hb)
  obtain ⟨R3, A3, n3, _, h3⟩ := bindS_ok R2 (adv0_then A1 A2) (W1.adv0 A2) frx e4
  have W2' : WRep Z F2 ρ3 (σ.set i (some v)) H2 y u := by
    cases y with
    | p d => exact W2
    | tmp m =>
      obtain ⟨a, rfl, q1, q2⟩ := W2
      refine ⟨a, rfl, q1, fun b hb => ⟨(q2 b hb).1, fun k hk => ?_⟩⟩
      rcases h3 k b hk with z | z
      · exact (q2 b hb).2 k z
      · rw [fx] at z
        obtain ⟨o, ho⟩ := W1.fp_some b z
        rw [f2 b hb] at ho
        cases ho
    | ref k =>
      simp only [bindS, bind_eq_ok] at e5
      obtain ⟨_, _, e5⟩ := e5
      cases e5
  have fry : Fresh H H2 y u := fun b hb => A1.key (f2 b hb)
  obtain ⟨R4, A4, n4, _⟩ := bindS_ok R3 A3 W2' fry e5
  exact k F2 _ H2 ⟨R4, A4, fun q hq => by rw [List.getElem?_set_ne (fun e : j = q => n4 (by rw [e]; exact hq)), List.getElem?_set_ne (fun e : i = q => n3 (by rw [e]; exact hq))]⟩
theorem putMO_fp {m m' : MO} {kd vd : P} (h : putMO m kd vd = .ok m') (a : Addr) : (∀ H, fpL H a m = [a]) ∧ ∀ H, fpL H a m' = [a] := by
  have dp : ∀ {m m' : MO}, dPut m kd vd = .ok m' → (∀ H, fpL H a m = [a]) ∧ ∀ H, fpL H a m' = [a] := fun {m m'} h => by
    cases m with
    | dk kvs =>
      simp only [dPut] at h
      split at h
      · simp only [bind_eq_ok] at h
        obtain ⟨_, _, h⟩ := h
        cases h; exact ⟨fun _ => rfl, fun _ => rfl⟩
      · split at h
        · split at h
          · cases h; exact ⟨fun _ => rfl, fun _ => rfl⟩
          · cases h
        · cases h
    | dn kvs =>
      simp only [dPut] at h
      split at h
      · split at h
        · simp only [bind_eq_ok] at h
          obtain ⟨_, _, h⟩ := h
          cases h; exact ⟨fun _ => rfl, fun _ => rfl⟩
        · cases h
      · cases h
    | lst xs => cases h
    | lo xs => cases h
  cases m with
  | lst xs =>
    simp only [putMO] at h
    split at h
    · simp only [bind_eq_ok] at h
      obtain ⟨_, _, h⟩ := h
      cases h; exact ⟨fun _ => rfl, fun _ => rfl⟩
    · cases h
  | dk xs => exact dp h
  | dn xs => exact dp h
  | lo xs => exact dp h
theorem rs_put {o k v : CE} (h : tS Z call lk (.put o k v) D σ H) : tAsg (tE Z call v) (gSub (tE Z call o) (tE Z call k) (rSetP Z)) D σ H := by
  obtain ⟨F, ρ, f, ρ', R, ev, kk⟩ := h
  simp only [evS, bind_eq_ok] at ev
  obtain ⟨⟨vw, ρ1⟩, e1, ⟨ow, ρ2⟩, e2, ⟨kw, ρ3⟩, e3, kd, e4, ⟨vd, ρ4⟩, e5, ρ5, e6, ev⟩ := ev
  cases ev
  refine ⟨F, ρ, vw, ρ1, R, e1, fun x F1 H1 R1 A1 W1 f1 => ⟨F1, ρ1, ow, ρ2, R1, e2, fun y F2 H2 R2 A2 W2 f2 => ⟨F2, ρ2, kw, ρ3, R2, e3, fun z F3 H3 R3 A3 W3 f3 => ?_⟩⟩⟩
  have A23 := adv0_then A2 A3
  have A13 := adv0_then A1 A23
  have W1' := W1.adv0 A23
  have efp : fpW H3 vw x = fpW H1 vw x := W1.fp_adv A23
  have rk := peek_rep R3 W3 e4
  obtain ⟨F4, R4, A4, r4⟩ := frz_ok R3 W1' e5
  have A14 := A13.then A4 fun b hb => f1 b (by rw [← efp]; exact hb)
  cases ow with
  | ref j =>
    have W2' : σ[j]? = some (some y) := W2
    simp only [putW, bind_eq_ok] at e6
    obtain ⟨m, g1, m', g2, e6⟩ := e6
    cases e6
    obtain ⟨a, rfl, rm, _⟩ := R4.mo (getOwn_getMO g1) W2'
    obtain ⟨p1, p2⟩ := putMO_fp g2 a
    have rk4 : RepT Z F4 H3 kd z := by
      cases rk with
      | non => exact .non
      | bl b => exact .bl b
      | int b => exact .int b
      | str b => exact .str b
      | tup h r => exact .tup (A4.fz.tupA h) (r.mono A4.fz)
      | lst h r => exact .lst h (r.mono A4.fz)
      | ls h r => exact .ls h (r.mono A4.fz)
      | dk h r => exact .dk h (r.mono A4.fz)
      | dn h r => exact .dn h (r.mono A4.fz)
    refine ⟨F4, a, m, m', kd, vd, rfl, R4.fz, rm, rk4, r4, g2, fun o' rm' => ?_⟩
    obtain ⟨R5, A5⟩ := own_upd R4 (getOwn_ok g1) W2' p1 p2 rm'
    exact kk F4 σ _ (.ev R5 (adv0_then A14 A5))
  | _ => cases e6
theorem rs_aug {i : Nat} {o : Operator} {fo : Int → Int → Int} {e : CE} (ho : (o = .Add ∧ fo = fun i j => i + j) ∨ (o = .Sub ∧ fo = fun i j => i - j)) (h : tS Z call lk (.aug i o e) D σ H) : tAug i (tE Z call e) (ipI fo) D σ H := by
  obtain ⟨F, ρ, f, ρ', R, ev, k⟩ := h
  simp only [evS] at ev
  split at ev
  · rename_i a q1
    simp only [bind_eq_ok] at ev
    obtain ⟨⟨y, ρ1⟩, e1, ev⟩ := ev
    obtain ⟨x, hx, rx⟩ := R.slot i _ q1
    cases rx
    split at ev
    · rename_i b q2
      have q2 : y = .p (.int b) := q2
      subst q2
      have key : ∃ ρ2, bindS lk i (.p (.int (fo a b))) ρ1 = .ok ρ2 ∧ f = .nx ∧ ρ' = ρ2 := by
        rcases ho with ⟨rfl, rfl⟩ | ⟨rfl, rfl⟩
        · simp only [bind_eq_ok] at ev
          obtain ⟨ρ2, e2, ev⟩ := ev
          cases ev
          exact ⟨_, e2, rfl, rfl⟩
        · simp only [bind_eq_ok] at ev
          obtain ⟨ρ2, e2, ev⟩ := ev
          cases ev
          exact ⟨_, e2, rfl, rfl⟩
      obtain ⟨ρ2, e2, rfl, rfl⟩ := key
      refine ⟨_, hx, F, ρ, _, ρ1, R, e1, fun v F1 H1 R1 A1 W1 f1 => ?_⟩
      cases W1
      exact ⟨a, b, rfl, rfl, k F1 _ H1 (bind_step (w := .p (.int (fo a b))) R1 A1 (.int _) fresh_p e2)⟩
    · cases ev
  · cases ev
theorem rs_ret {e : CE} (h : tS Z call lk (.ret e) D σ H) : tRet (tE Z call e) D σ H := by
  obtain ⟨F, ρ, f, ρ', R, ev, k⟩ := h
  simp only [evS, bind_eq_ok] at ev
  obtain ⟨⟨w, ρ1⟩, e1, w2, e2, ev⟩ := ev
  cases ev
  refine ⟨F, ρ, w, ρ1, R, e1, fun v F1 H1 R1 A1 W1 f1 => ?_⟩
  refine k v F1 σ H1 (.ev R1 A1) ?_
  cases w with
  | p d => cases e2; exact .inl ⟨W1, f1, by simp⟩
  | tmp m => cases e2; exact .inl ⟨W1, f1, by simp⟩
  | ref j =>
    simp only [retW, bind_eq_ok, chk_eq_ok, Bool.and_eq_true, Bool.not_eq_true', List.contains_eq_mem, decide_eq_false_iff_not, List.all_eq_true] at e2
    obtain ⟨_, ⟨n, al⟩, m, hm, e2⟩ := e2
    cases e2
    exact .inr ⟨j, m, rfl, n, getOwn_ok hm, W1, al⟩
theorem rs_retN (h : tS Z call lk .retN D σ H) : tRetN D σ H := by
  obtain ⟨F, ρ, f, ρ', R, ev, k⟩ := h
  simp only [evS] at ev
  cases ev
  exact k .non F σ H (.ev R .refl) (.inl ⟨.non, fresh_p, by simp⟩)
theorem rs_pass (h : tS Z call lk .pass D σ H) : tNext D σ H := by
  obtain ⟨F, ρ, f, ρ', R, ev, k⟩ := h
  simp only [evS] at ev
  cases ev
  exact k F σ H (.ev R .refl)
theorem rs_brk (h : tS Z call lk .brk D σ H) : tBreak D σ H := by
  obtain ⟨F, ρ, f, ρ', R, ev, k⟩ := h
  simp only [evS] at ev
  cases ev
  exact k F σ H (.ev R .refl)
theorem rs_cont (h : tS Z call lk .cont D σ H) : tCont D σ H := by
  obtain ⟨F, ρ, f, ρ', R, ev, k⟩ := h
  simp only [evS] at ev
  cases ev
  exact k F σ H (.ev R .refl)
theorem rs_ite {c : CE} {a b : List CS} (h : tS Z call lk (.ite c a b) D σ H) : tIfS (tT Z call c) (tSs Z call lk a) (tSs Z call lk b) D σ H := by
  obtain ⟨F, ρ, f, ρ', R, ev, k⟩ := h
  simp only [evS, bind_eq_ok] at ev
  obtain ⟨⟨t, ρ1⟩, e1, ev⟩ := ev
  refine ⟨F, ρ, t, ρ1, R, e1, fun F1 H1 R1 A1 => ?_⟩
  have st : StepS Z lk F ρ σ H F1 ρ1 σ H1 := .ev R1 A1
  dsimp only at ev
  split at ev
  · rename_i ht
    subst ht
    dsimp only; rw [if_pos rfl]
    exact ⟨F1, ρ1, f, ρ', R1, ev, k.pre st⟩
  · rename_i ht
    dsimp only; rw [if_neg ht]
    exact ⟨F1, ρ1, f, ρ', R1, ev, k.pre st⟩
theorem rs_whl {c : CE} {b : List CS} (h : tS Z call lk (.whl c b) D σ H) : tWhile (tT Z call c) (tSs Z call lk b) D σ H := by
  obtain ⟨F, ρ, f, ρ', R, ev, k⟩ := h
  simp only [evS] at ev
  generalize wFuel = n at ev
  refine ⟨fun m σ1 H1 => ∃ F1 ρ1, StepS Z lk F ρ σ H F1 ρ1 σ1 H1 ∧ whileLoop (evT call c) (evSs call lk b) m ρ1 = .ok (f, ρ'), ⟨n, F, ρ, .ev R .refl, ev⟩, ?_⟩
  rintro m σ1 H1 ⟨F1, ρ1, st, lp⟩
  cases m with
  | zero => simp only [whileLoop] at lp; cases lp
  | succ m =>
    simp only [whileLoop, bind_eq_ok] at lp
    obtain ⟨⟨t, ρ2⟩, e1, lp⟩ := lp
    refine ⟨F1, ρ1, t, ρ2, st.R, e1, fun F2 H2 R2 A2 => ?_⟩
    have st2 : StepS Z lk F ρ σ H F2 ρ2 σ1 H2 := st.trans (.ev R2 A2)
    dsimp only at lp
    split at lp
    · rename_i ht
      subst ht
      dsimp only; rw [if_pos rfl]
      simp only [bind_eq_ok] at lp
      obtain ⟨⟨f1, ρ3⟩, e2, lp⟩ := lp
      refine ⟨fun σ' H' => ∃ F3, StepS Z lk F ρ σ H F3 ρ3 σ' H' ∧ whileLoop (evT call c) (evSs call lk b) m ρ3 = .ok (f, ρ'), fun σ' H' ⟨F3, st3, q⟩ => ⟨m, Nat.lt_succ_self m, F3, ρ3, st3, q⟩, F2, ρ2, f1, ρ3, R2, e2, ?_⟩
      cases f1 with
      | nx => exact fun F' σ' H' y => ⟨F', st2.trans y, lp⟩
      | ct => exact fun F' σ' H' y => ⟨F', st2.trans y, lp⟩
      | bk => cases lp; exact fun F' σ' H' y => k F' σ' H' (st2.trans y)
      | rt w => cases lp; exact fun v F' σ' H' y r => k v F' σ' H' (st2.trans y) (r.key st2.A)
    · rename_i ht
      dsimp only; rw [if_neg ht]
      cases lp
      exact k F2 σ1 H2 st2
/-! ### for -/
theorem freeGo_at {lks : List Nat} : ∀ {ρ ρn ρ' : En} {i : Nat}, freeGo lks i ρ ρn = .ok ρ' → ρ'.length = ρ.length ∧ ρn.length = ρ.length ∧ ∀ (j : Nat) (s : Option Sl), ρ'[j]? = some s → ∃ r n, ρ[j]? = some r ∧ ρn[j]? = some n ∧ freeSl (lks.contains (i + j)) r n = .ok s
  | [], [], ρ', i, h => by cases h; exact ⟨rfl, rfl, fun j s h => by simp at h⟩
  | [], _ :: _, _, _, h => by cases h
  | _ :: _, [], _, _, h => by cases h
  | r :: rs, n :: ns, ρ', i, h => by
    simp only [freeGo, bind_eq_ok] at h
    obtain ⟨s, h1, ss, h2, h⟩ := h
    cases h
    obtain ⟨l1, l2, k⟩ := freeGo_at h2
    refine ⟨by simp [l1], by simp [l2], fun j s' hj => ?_⟩
    cases j with
    | zero => simp at hj; subst hj; exact ⟨r, n, rfl, rfl, h1⟩
    | succ j =>
      obtain ⟨r', n', e1, e2, e3⟩ := k j s' (by simpa using hj)
      exact ⟨r', n', by simpa using e1, by simpa using e2, by rw [show i + (j + 1) = i + 1 + j by omega]; exact e3⟩
theorem inner_lock {ws : List W} : Inner ρ σ (lockAll ws ρ) σ := fun j s h => by
  rcases lockAll_at h with e | ⟨m, _, e, rfl⟩
  · exact ⟨s, e, rfl, .inl ⟨rfl, fun _ _ => rfl⟩⟩
  · exact ⟨_, e, rfl, .inr ⟨m, rfl, rfl⟩⟩
theorem free_cases {lks : List Nat} {ρn : En} (h : freeGo lks 0 ρ ρn = .ok ρ') {j : Nat} {s : Option Sl} (hj : ρ'[j]? = some s) : ρn[j]? = some s ∨ ∃ m m', s = some (.own m) ∧ j ∈ lks ∧ m.flat = true ∧ ρ[j]? = some (some (.own m)) ∧ ρn[j]? = some (some (.rd m')) := by
  obtain ⟨_, _, k⟩ := freeGo_at h
  obtain ⟨r, n, e1, e2, e3⟩ := k j s hj
  rw [Nat.zero_add] at e3
  unfold freeSl at e3
  split at e3
  · rename_i hl
    split at e3
    · rename_i m
      split at e3
      · rename_i m'
        split at e3
        · rename_i hf
          cases e3
          exact .inr ⟨m, m', rfl, by simpa using hl, hf, e1, e2⟩
        · cases e3
      · cases e3
    · cases e3; exact .inl e2
  · cases e3; exact .inl e2
/-- behind a loop -/
theorem leave_for {ws : List W} {ρn : En} {σn : St} {F2 H2 : Hp} (R : SRel Z F ρ σ H) (st : StepS Z (lk ++ refsOf ws) F (lockAll ws ρ) σ H F2 ρn σn H2) (h : freeGo (refsOf ws) 0 ρ ρn = .ok ρ') :
    StepS Z lk F ρ σ H F2 ρ' σn H2 ∧ ∀ j b, Held ρ' σn H2 j b → Held ρn σn H2 j b ∨ Held ρ σ H j b := by
  obtain ⟨l1, l2, _⟩ := freeGo_at h
  obtain ⟨R3, A3, h3⟩ := leave_ok (σ' := σn) R st.R st.A (by rw [l1, ← l2, st.R.len]) inner_lock fun j s hj => by
    rcases free_cases h hj with q | ⟨m, m', e, hl, hf, e1, e2⟩
    · exact .inl ⟨q, rfl, fun _ _ => rfl⟩
    · cases e
      exact .inr (.inr ⟨m, m', rfl, hf, e1, lockAll_lk hl e1, e2, st.k j (List.mem_append_right _ hl), rfl⟩)
  exact ⟨⟨R3, A3, fun j hj => st.k j (List.mem_append_left _ hj)⟩, h3⟩
theorem WRet.leave {ws : List W} {ρn : En} {σn : St} {F2 H2 : Hp} (R : SRel Z F ρ σ H) (h : freeGo (refsOf ws) 0 ρ ρn = .ok ρ') (hh : ∀ j b, Held ρ' σn H2 j b → Held ρn σn H2 j b ∨ Held ρ σ H j b) (r : WRet Z (lk ++ refsOf ws) F2 ρn σn H2 H w v) : WRet Z lk F2 ρ' σn H2 H w v := by
  obtain ⟨l1, l2, fk⟩ := freeGo_at h
  rcases r with ⟨r, f, n⟩ | ⟨k, m, e, hk, h1, h2, al⟩
  · refine .inl ⟨?_, f, n⟩
    cases w with
    | p d => exact r
    | ref k => exact absurd rfl (n k)
    | tmp m =>
      obtain ⟨a, rfl, q1, q2⟩ := r
      refine ⟨a, rfl, q1, fun b hb => ⟨(q2 b hb).1, fun i hi => ?_⟩⟩
      rcases hh i b hi with z | z
      · exact (q2 b hb).2 i z
      · obtain ⟨o, ho⟩ := R.hSome z
        rw [f b hb] at ho; cases ho
  · have get : ∀ {j : Nat} {s : Option Sl}, ρn[j]? = some s → ∃ s', ρ'[j]? = some s' := fun {j s} q => by
      have := (List.getElem?_eq_some_iff.mp q).1
      exact ⟨ρ'[j]'(by omega), by simp⟩
    refine .inr ⟨k, m, e, fun q => hk (List.mem_append_left _ q), ?_, h2, fun j hj => ?_⟩
    · obtain ⟨s', q⟩ := get h1
      rcases free_cases h q with z | ⟨_, _, _, hl, _⟩
      · rw [h1] at z; cases z; exact q
      · exact absurd (List.mem_append_right _ hl) hk
    · have a := al j (List.mem_append_left _ hj)
      cases q : ρn[j]? with
      | none => rw [q] at a; cases a
      | some s =>
        obtain ⟨s', q'⟩ := get q
        rw [q']
        rcases free_cases h q' with z | ⟨m, m', e, _⟩
        · rw [z] at a; exact a
        · rw [e]; rfl
theorem rs_for {tg : TG} {ik : IK} {es : List CE} {b : List CS} (h : tS Z call lk (.for_ tg ik es b) D σ H) :
    ∃ lk', tFor (iEv Z call tg ik es) (gT Z.K tg) (tSs Z call lk' b) D σ H := by
  obtain ⟨F, ρ, f, ρ', R, ev, k⟩ := h
  simp only [evS, bind_eq_ok] at ev
  obtain ⟨⟨ws, ρ1⟩, e1, xs, e2, ⟨f1, ρn⟩, e3, ρ2, e4, ev⟩ := ev
  cases ev
  refine ⟨lk ++ refsOf ws, F, ρ, ws, ρ1, xs, R, e1, e2, fun J F1 H1 R1 A1 walk => ?_⟩
  have wk := walk (lockAll ws ρ1) σ inner_lock fun k hk m q => by
    rcases lockAll_at q with q2 | ⟨m', _, _, q3⟩
    · rw [lockAll_lk hk q2] at q; cases q
    · cases q3
  obtain ⟨Ri, _⟩ := narrow R1 (ρ' := lockAll ws ρ1) (σ' := σ) (by rw [lockAll_len, R1.len]) inner_lock
  have outer : ∀ {Fk Hk : Hp} {σk : St}, StepS Z (lk ++ refsOf ws) F1 (lockAll ws ρ1) σ H1 Fk ρn σk Hk → StepS Z lk F ρ σ H Fk ρ' σk Hk ∧ ∀ j b, Held ρ' σk Hk j b → Held ρn σk Hk j b ∨ Held ρ1 σ H1 j b := fun {Fk Hk σk} st => by
    obtain ⟨s1, s2⟩ := leave_for R1 st e4
    exact ⟨(StepS.ev R1 A1).trans s1, s2⟩
  refine ⟨fun i m σk Hk => m = xs.length - i ∧ i ≤ xs.length ∧ ∃ Fk ρk, StepS Z (lk ++ refsOf ws) F1 (lockAll ws ρ1) σ H1 Fk ρk σk Hk ∧ forLoop (fun x ρ => do
      let ρ ← bindT (lk ++ refsOf ws) tg x ρ
      evSs call (lk ++ refsOf ws) b ρ) (xs.drop i) ρk = .ok (f1, ρn), ⟨xs.length, by simp, Nat.zero_le _, F1, _, .ev Ri .refl, by simpa using e3⟩, ?_⟩
  rintro i m σk Hk ⟨rfl, hi, Fk, ρk, st, lp⟩
  by_cases hlt : i < xs.length
  · have hx : xs[i]? = some xs[i] := by simp [hlt]
    generalize xs[i] = x at hx
    rw [lenLe_drop hx] at lp
    simp only [forLoop, bind_eq_ok] at lp
    obtain ⟨⟨f2, ρb⟩, ⟨ρa, b1, b2⟩, lp⟩ := lp
    have bb := wk.turn i x hx Fk ρk _ Hk st.A st.R.fz
    refine .inr ⟨bb.1, fun σ' H' => ∃ F3, StepS Z (lk ++ refsOf ws) F1 (lockAll ws ρ1) σ H1 F3 ρb σ' H' ∧ forLoop (fun x ρ => do
      let ρ ← bindT (lk ++ refsOf ws) tg x ρ
      evSs call (lk ++ refsOf ws) b ρ) (xs.drop (i + 1)) ρb = .ok (f1, ρn), fun σ' H' ⟨F3, s3, q⟩ => ⟨xs.length - (i + 1), by omega, rfl, hlt, F3, ρb, s3, q⟩, fun v Hy y => ?_⟩
    obtain ⟨sy, ry⟩ := bb.2 v Hy y
    obtain ⟨σ2, Ra, Aa, kk, _, kg⟩ := bindT_ok (st.R.sub sy) (st.R.advSub sy) ry b1
    refine kg _ ?_
    have sa : StepS Z (lk ++ refsOf ws) F1 (lockAll ws ρ1) σ H1 Fk ρa σ2 Hy := st.trans ⟨Ra, Aa, kk⟩
    refine ⟨Fk, ρa, f2, ρb, Ra, b2, ?_⟩
    cases f2 with
    | nx => exact fun F' σ' H' z => ⟨F', sa.trans z, lp⟩
    | ct => exact fun F' σ' H' z => ⟨F', sa.trans z, lp⟩
    | bk => cases lp; exact fun F' σ' H' z => k F' σ' H' (outer (sa.trans z)).1
    | rt w =>
      cases lp
      intro v F' σ' H' z r
      obtain ⟨o1, o2⟩ := outer (sa.trans z)
      exact k v F' σ' H' o1 (((r.key sa.A).leave R1 e4 o2).key A1)
  · have hi' : i = xs.length := by omega
    subst hi'
    refine .inl ⟨wk.stop Fk ρk _ Hk st.A st.R.fz, ?_⟩
    simp only [List.drop_length, forLoop] at lp
    cases lp
    exact k Fk σk Hk (outer st).1
end
end Ev

/-! EvT2: loops over written rows. -/
namespace Ev
open PySem PySem.Spec PyProof.Rows L2

inductive RW (Z : Ar) (F : Hp) (σ : St) : List W → List V → Prop
  | nil : RW Z F σ [] []
  | p {d : P} {v : V} {ws : List W} {vs : List V} : Rep Z F d v → RW Z F σ ws vs → RW Z F σ (.p d :: ws) (v :: vs)
  | ref {k : Nat} {v : V} {ws : List W} {vs : List V} : σ[k]? = some (some v) → RW Z F σ ws vs → RW Z F σ (.ref k :: ws) (v :: vs)
inductive RWs (Z : Ar) (F : Hp) (ρ : En) (σ : St) (H : Hp) : List (List W) → List Addr → Prop
  | nil : RWs Z F ρ σ H [] []
  | cons {ws : List W} {vs : List V} {a : Addr} {wss : List (List W)} {as : List Addr} : H a = some (.tup vs) → Out F ρ σ H a → RW Z F σ ws vs → RWs Z F ρ σ H wss as → RWs Z F ρ σ H (ws :: wss) (a :: as)
def tRows (Z : Ar) (call : Call) : List (List CE) → TA
  | [] => tNil
  | r :: rs => tCons (tTup (tEs Z call r)) (tRows Z call rs)
section
variable {Z : Ar} {call : Call} {lk : List Nat} {F F' F'' F0 F1 H H' H'' H0 H1 : Hp} {ρ ρ' ρ'' ρ0 ρ1 : En} {σ σ' σ0 σ1 : St} {w : W} {v : V} {D : Ends} {f : Fl} {ws : List W} {vs : List V} {wss : List (List W)} {as : List Addr}
theorem RW.mono (s : Sub F F') (hk : ∀ k ∈ refsOf ws, σ'[k]? = σ[k]?) (r : RW Z F σ ws vs) : RW Z F' σ' ws vs := by
  induction r with
  | nil => exact .nil
  | p r _ ih => exact .p (r.mono s) (ih fun k h => hk k h)
  | ref e _ ih => exact .ref ((hk _ (by simp [refsOf])).trans e) (ih fun k h => hk k (by simp [refsOf, h]))
theorem RW.of (o : okTT ws = true) (r : WReps Z F ρ σ H ws vs) : RW Z F σ ws vs := by
  induction r with
  | nil => exact .nil
  | @cons w v ws vs r _ _ ih =>
    cases w with
    | p d => exact .p r (ih o)
    | ref k => exact .ref r (ih o)
    | tmp m => cases o
theorem RWs.adv (A : Adv [] F ρ σ H F' ρ' σ' H') (hk : ∀ k ∈ refsOf wss.flatten, σ'[k]? = σ[k]?) (r : RWs Z F ρ σ H wss as) : RWs Z F' ρ' σ' H' wss as := by
  induction r with
  | nil => exact .nil
  | @cons ws vs a wss as h o r _ ih =>
    have app : ∀ {a b : List W} {k : Nat}, k ∈ refsOf a ∨ k ∈ refsOf b → k ∈ refsOf (a ++ b) := fun {a b k} h => by
      induction a with
      | nil => exact h.elim (fun z => by cases z) id
      | cons x xs ih =>
        cases x with
        | p d => exact ih h
        | tmp d => exact ih h
        | ref q =>
          show k ∈ q :: refsOf (xs ++ b)
          rcases h with h | h
          · rcases List.mem_cons.mp h with h | h
            · simp [h]
            · exact List.mem_cons_of_mem _ (ih (.inl h))
          · exact List.mem_cons_of_mem _ (ih (.inr h))
    obtain ⟨o1, o2⟩ := o.adv h A
    exact .cons o2 o1 (r.mono A.fz fun k h => hk k (by rw [List.flatten_cons]; exact app (.inl h))) (ih fun k h => hk k (by rw [List.flatten_cons]; exact app (.inr h)))
theorem rd_rows {rows : List (List CE)} {Q : List V → Hp → Prop} (R : SRel Z F ρ σ H) (hl : ∀ r ∈ rows, r.length ≤ 1000) (ev : evRows call rows ρ = .ok (wss, ρ')) (ok : wss.all okTT = true)
    (k : ∀ as F' H', SRel Z F' ρ' σ H' → Adv [] F ρ σ H F' ρ' σ H' → RWs Z F' ρ' σ H' wss as → Q (as.map .ref) H') : tRows Z call rows σ H Q := by
  induction rows generalizing wss F ρ H Q with
  | nil =>
    simp only [evRows] at ev
    cases ev
    exact k [] F H R .refl .nil
  | cons r rows ih =>
    simp only [evRows, bind_eq_ok] at ev
    obtain ⟨⟨ws, ρ1⟩, e1, ⟨wss', ρ2⟩, e2, ev⟩ := ev
    cases ev
    simp only [List.all_cons, Bool.and_eq_true] at ok
    refine ⟨F, ρ, ws, ρ1, R, e1, fun vs F1 H1 R1 A1 W1 f1 => ⟨?_, fun p hp => ?_⟩⟩
    · rw [← W1.length, evEs_len e1]
      have := hl r (by simp)
      rw [sizeLine_eq]; omega
    · obtain ⟨R2, A2⟩ := R1.new (o := .tup vs) hp
      have o2 : Out F1 ρ1 σ (upd H1 p (.tup vs)) p := ⟨R1.fz_none hp, fun i hi => R1.no_held hp i ((R1.held_sub (upd_grow hp)).mp hi)⟩
      refine ih R2 (fun r h => hl r (by simp [h])) e2 ok.2 fun as F3 H3 R3 A3 rr => ?_
      obtain ⟨o3, h3⟩ := o2.adv upd_same A3
      exact k (p :: as) F3 H3 R3 (adv0_then (adv0_then A1 A2) A3) (.cons h3 o3 ((RW.of ok.1 W1).mono A3.fz fun _ _ => rfl) rr)
theorem bindW_ok {i : Nat} (R : SRel Z F ρ σ H) (A : Adv [] F0 ρ0 σ0 H0 F ρ σ H) (r : (∃ d, w = .p d ∧ Rep Z F d v) ∨ ∃ k, w = .ref k ∧ σ[k]? = some (some v)) (h : bindW lk i w ρ = .ok ρ') :
    SRel Z F ρ' (σ.set i (some v)) H ∧ Adv [] F0 ρ0 σ0 H0 F ρ' (σ.set i (some v)) H ∧ i ∉ lk := by
  rcases r with ⟨d, rfl, r⟩ | ⟨k, rfl, r⟩
  · obtain ⟨a, b, c, _⟩ := bindS_ok (w := .p d) R A r fresh_p h
    exact ⟨a, b, c⟩
  · simp only [bindW, bind_eq_ok, chk_eq_ok, Bool.and_eq_true, decide_eq_true_eq, Bool.not_eq_true', List.contains_eq_mem, decide_eq_false_iff_not, bne_iff_ne, ne_eq] at h
    obtain ⟨_, ⟨⟨⟨ns, nl⟩, hlt⟩, nik⟩, h⟩ := h
    split at h
    · rename_i m hm
      cases h
      have hlt' : i < σ.length := by rw [← R.len]; exact hlt
      have held : ∀ {j : Nat} {b : Addr}, Held (ρ.set i (some (.sref k))) (σ.set i (some v)) H j b → Held ρ σ H j b := fun {j b} hb => by
        obtain ⟨s', m', a, h1, h2, h3, h4⟩ := hb
        by_cases e : i = j
        · subst e
          rw [List.getElem?_set_self hlt] at h1
          cases h1; cases h2
        · rw [List.getElem?_set_ne e] at h1 h3
          exact ⟨s', m', a, h1, h2, h3, h4⟩
      refine ⟨⟨R.fz, by rw [List.length_set, List.length_set]; exact R.len, fun j s' h1 => ?_, fun p q b ne h1 h2 => R.dis p q b ne (held h1) (held h2)⟩, ⟨A.fz, A.fr, A.tr, fun j b hb => A.nl j b (held hb), fun b hb => ?_, A.nf⟩, nl⟩
      · by_cases e : i = j
        · subst e
          rw [List.getElem?_set_self hlt] at h1
          cases h1
          refine ⟨v, by rw [List.getElem?_set_self hlt'], ?_⟩
          show (σ.set i (some v))[k]? = some (some v)
          rw [List.getElem?_set_ne nik]
          exact r
        · rw [List.getElem?_set_ne e] at h1
          obtain ⟨u, e1, r1⟩ := R.slot j s' h1
          refine ⟨u, by rw [List.getElem?_set_ne e]; exact e1, ?_⟩
          cases s' with
          | p d => exact r1
          | own m => exact r1
          | rd m => exact r1
          | sref q =>
            show (σ.set i (some v))[q]? = some (some u)
            rw [List.getElem?_set_ne (Ne.symm (noSref_at ns h1))]
            exact r1
      · obtain ⟨j, m', a, h1, h3, h4⟩ := hb
        by_cases e : i = j
        · subst e
          rw [List.getElem?_set_self hlt] at h1
          cases h1
        · rw [List.getElem?_set_ne e] at h1 h3
          exact A.nv b ⟨j, m', a, h1, h3, h4⟩
    · cases h
theorem bindWs_ok {is : List Nat} (R : SRel Z F ρ σ H) (A : Adv [] F0 ρ0 σ0 H0 F ρ σ H) (r : RW Z F σ ws vs) (hs : ∀ k ∈ refsOf ws, k ∈ lk) (h : bindWs lk is ws ρ = .ok ρ') :
    ∃ σ', SRel Z F ρ' σ' H ∧ Adv [] F0 ρ0 σ0 H0 F ρ' σ' H ∧ (∀ j ∈ lk, σ'[j]? = σ[j]?) ∧ vs.length = is.length ∧ ∀ Q, Q σ' H → gNames is vs σ H Q := by
  induction is generalizing ws vs ρ σ with
  | nil =>
    cases ws with
    | nil => cases r; cases h; exact ⟨σ, R, A, fun _ _ => rfl, rfl, fun Q q => ⟨rfl, q⟩⟩
    | cons d ds => cases h
  | cons i is ih =>
    cases ws with
    | nil => cases h
    | cons w ws =>
      simp only [bindWs, bind_eq_ok] at h
      obtain ⟨ρ1, h1, h2⟩ := h
      have key : ∃ v vs', vs = v :: vs' ∧ ((∃ d, w = .p d ∧ Rep Z F d v) ∨ ∃ k, w = .ref k ∧ σ[k]? = some (some v)) ∧ RW Z F σ ws vs' := by
        cases r with
        | p r t => exact ⟨_, _, rfl, .inl ⟨_, rfl, r⟩, t⟩
        | ref r t => exact ⟨_, _, rfl, .inr ⟨_, rfl, r⟩, t⟩
      obtain ⟨v, vs', rfl, rv, t⟩ := key
      have hs' : ∀ k ∈ refsOf ws, k ∈ lk := fun k hk => hs k (by cases w <;> simp [refsOf, hk])
      obtain ⟨R1, A1, nl⟩ := bindW_ok R A rv h1
      have ne : ∀ j ∈ lk, (σ.set i (some v))[j]? = σ[j]? := fun j hj => List.getElem?_set_ne (fun e : i = j => nl (by rw [e]; exact hj))
      obtain ⟨σ2, R2, A2, k1, l, k3⟩ := ih R1 A1 (t.mono .refl fun k hk => ne k (hs' k hk)) hs' h2
      exact ⟨σ2, R2, A2, fun j hj => (k1 j hj).trans (ne j hj), by simp [l], fun Q q => ⟨v, vs', rfl, k3 Q q⟩⟩
theorem wipeS_at {j : Nat} {s : Sl} : ∀ {is : List Nat}, (wipeS ρ is)[j]? = some (some s) → ρ[j]? = some (some s)
  | [], h => h
  | i :: is, h => by
    unfold wipeS at h
    by_cases e : i = j
    · subst e
      by_cases hl : i < (wipeS ρ is).length
      · rw [List.getElem?_set_self hl] at h; cases h
      · rw [List.getElem?_eq_none (by simpa using hl)] at h; cases h
    · rw [List.getElem?_set_ne e] at h
      exact wipeS_at h
theorem wipeS_len : ∀ {is : List Nat}, (wipeS ρ is).length = ρ.length
  | [] => rfl
  | i :: is => by unfold wipeS; rw [List.length_set]; exact wipeS_len
theorem RWs.at {i : Nat} (r : RWs Z F ρ σ H wss as) (h : wss[i]? = some ws) : ∃ a vs, as[i]? = some a ∧ H a = some (.tup vs) ∧ RW Z F σ ws vs := by
  induction r generalizing i with
  | nil => simp at h
  | cons h1 o r t ih =>
    cases i with
    | zero => simp at h; subst h; exact ⟨_, _, rfl, h1, r⟩
    | succ i =>
      obtain ⟨a, vs, q1, q2⟩ := ih (i := i) (by simpa using h)
      exact ⟨a, vs, by simpa using q1, q2⟩
theorem RWs.len (r : RWs Z F ρ σ H wss as) : wss.length = as.length := by
  induction r with
  | nil => rfl
  | cons _ _ _ _ ih => simp [ih]
theorem refs_flat {i k : Nat} (h : wss[i]? = some ws) (hk : k ∈ refsOf ws) : k ∈ refsOf wss.flatten := by
  have app : ∀ {a b : List W} {k : Nat}, k ∈ refsOf a ∨ k ∈ refsOf b → k ∈ refsOf (a ++ b) := fun {a b k} h => by
    induction a with
    | nil => exact h.elim (fun z => by cases z) id
    | cons x xs ih =>
      cases x with
      | p d => exact ih h
      | tmp d => exact ih h
      | ref q =>
        show k ∈ q :: refsOf (xs ++ b)
        rcases h with h | h
        · rcases List.mem_cons.mp h with h | h
          · simp [h]
          · exact List.mem_cons_of_mem _ (ih (.inl h))
        · exact List.mem_cons_of_mem _ (ih (.inr h))
  induction wss generalizing i with
  | nil => simp at h
  | cons x xs ih =>
    rw [List.flatten_cons]
    cases i with
    | zero => simp at h; subst h; exact app (.inl hk)
    | succ i => exact app (.inr (ih (i := i) (by simpa using h)))
theorem evRows_len {rows : List (List CE)} {ρ ρ' : En} {wss : List (List W)} (h : evRows call rows ρ = .ok (wss, ρ')) : wss.length = rows.length := by
  induction rows generalizing wss ρ with
  | nil => simp only [evRows] at h; cases h; rfl
  | cons r rows ih =>
    simp only [evRows, bind_eq_ok] at h
    obtain ⟨⟨ws, ρ1⟩, _, ⟨wss', ρ2⟩, q2, h⟩ := h
    cases h
    simp [ih q2]
theorem rs_forTT {is : List Nat} {rows : List (List CE)} {b : List CS} (hr : ∀ r ∈ rows, r.length ≤ 1000) (hrl : rows.length ≤ 1000) (h : tS Z call lk (.forTT is rows b) D σ H) :
    ∃ lk', tFor (iTup Z.K (tTup (tRows Z call rows))) (gT Z.K (.many is)) (tSs Z call lk' b) D σ H := by
  obtain ⟨F, ρ, f, ρ', R, ev, k⟩ := h
  simp only [evS, bind_eq_ok, chk_eq_ok] at ev
  obtain ⟨⟨wss, ρ1⟩, e1, _, e2, ⟨f1, ρn⟩, e3, ev⟩ := ev
  dsimp only at e2 e3 ev
  generalize hlk : lk ++ refsOf wss.flatten = lk' at e3
  have sublk : ∀ j ∈ lk, j ∈ lk' := fun j hj => by rw [← hlk]; exact List.mem_append_left _ hj
  have subrf : ∀ j ∈ refsOf wss.flatten, j ∈ lk' := fun j hj => by rw [← hlk]; exact List.mem_append_right _ hj
  have wl := evRows_len e1
  refine ⟨lk', rd_rows R hr e1 e2 fun as F1 H1 R1 A1 rr => ⟨?_, fun T hT => ?_⟩⟩
  · rw [List.length_map, ← rr.len, wl]
    rw [sizeLine_eq]; omega
  obtain ⟨R2, A2⟩ := R1.new (o := .tup (as.map .ref)) hT
  have oT : Out F1 ρ1 σ (upd H1 T (.tup (as.map .ref))) T := ⟨R1.fz_none hT, fun i hi => R1.no_held hT i ((R1.held_sub (upd_grow hT)).mp hi)⟩
  have rr2 := rr.adv A2 (fun _ _ => rfl)
  generalize hH2 : upd H1 T (.tup (as.map V.ref)) = H2 at R2 A2 oT rr2
  have hT2 : H2 T = some (.tup (as.map .ref)) := by rw [← hH2]; exact upd_same
  have st0 : StepS Z lk' F ρ σ H F1 ρ1 σ H2 := .ev R2 (adv0_then A1 A2)
  have weak : ∀ {F' H' : Hp} {ρ' : En} {σ' : St}, StepS Z lk' F ρ σ H F' ρ' σ' H' → StepS Z lk F ρ σ H F' ρ' σ' H' := fun s => ⟨s.R, s.A, fun j hj => s.k j (sublk j hj)⟩
  have wiped : ∀ {F' H' : Hp} {ρ' : En} {σ' : St}, StepS Z lk' F ρ σ H F' ρ' σ' H' → StepS Z lk F ρ σ H F' (wipeS ρ' is) σ' H' := fun {F' H' ρ' σ'} s => by
    obtain ⟨r, a⟩ := narrow s.R (ρ' := wipeS ρ' is) (σ' := σ') (by rw [wipeS_len, s.R.len]) fun j sl hj => ⟨sl, wipeS_at hj, rfl, .inl ⟨rfl, fun _ _ => rfl⟩⟩
    exact ⟨r, adv0_then s.A a, fun j hj => s.k j (sublk j hj)⟩
  have sq : ∀ {Fk Hk : Hp} {ρk : En} {σk : St}, StepS Z lk' F1 ρ1 σ H2 Fk ρk σk Hk → SqT Z.K Hk T (as.map .ref) ∧ RWs Z Fk ρk σk Hk wss as := fun s =>
    ⟨.inl (.inl (oT.adv hT2 s.A).2), rr2.adv s.A fun j hj => s.k j (subrf j hj)⟩
  refine ⟨T, rfl, ⟨_, .inl (.inl hT2)⟩, fun i m σk Hk => m = wss.length - i ∧ i ≤ wss.length ∧ ∃ Fk ρk, StepS Z lk' F1 ρ1 σ H2 Fk ρk σk Hk ∧ ttLoop (fun ws ρ => do
      let ρ ← bindWs lk' is ws ρ
      evSs call lk' b ρ) (wss.drop i) ρk = .ok (f1, ρn), ⟨wss.length, by simp, Nat.zero_le _, F1, ρ1, .ev R2 .refl, by simpa using e3⟩, ?_⟩
  rintro i m σk Hk ⟨rfl, hi, Fk, ρk, st, lp⟩
  obtain ⟨q1, q2⟩ := sq st
  by_cases hlt : i < wss.length
  · have hx : wss[i]? = some wss[i] := by simp [hlt]
    generalize wss[i] = ws at hx
    rw [lenLe_drop hx] at lp
    simp only [ttLoop, bind_eq_ok] at lp
    obtain ⟨⟨f2, ρb⟩, ⟨ρa, b1, b2⟩, lp⟩ := lp
    obtain ⟨a, vs, ha, hHa, rw1⟩ := q2.at hx
    have hv : (as.map V.ref)[i]? = some (.ref a) := by rw [List.getElem?_map, ha]; rfl
    refine .inr ⟨⟨_, _, q1, hv⟩, fun σ' H' => ∃ F3, StepS Z lk' F1 ρ1 σ H2 F3 ρb σ' H' ∧ ttLoop (fun ws ρ => do
      let ρ ← bindWs lk' is ws ρ
      evSs call lk' b ρ) (wss.drop (i + 1)) ρb = .ok (f1, ρn), fun σ' H' ⟨F3, s3, q⟩ => ⟨wss.length - (i + 1), by omega, rfl, hlt, F3, ρb, s3, q⟩, fun v Hy ⟨y1, y2⟩ => ?_⟩
    subst y1
    have := y2 _ q1
    rw [hv] at this; cases this
    obtain ⟨σ2, Ra, Aa, kk, l, kg⟩ := bindWs_ok st.R .refl rw1 (fun k hk => subrf k (refs_flat hx hk)) b1
    refine ⟨a, vs, rfl, .inl (.inl hHa), l, kg _ ?_⟩
    have sa : StepS Z lk' F1 ρ1 σ H2 Fk ρa σ2 _ := st.trans ⟨Ra, Aa, kk⟩
    refine ⟨Fk, ρa, f2, ρb, Ra, b2, ?_⟩
    cases f2 with
    | nx => exact fun F' σ' H' z => ⟨F', sa.trans z, lp⟩
    | ct => exact fun F' σ' H' z => ⟨F', sa.trans z, lp⟩
    | bk => cases lp; cases ev; exact fun F' σ' H' z => k F' σ' H' (wiped (st0.trans (sa.trans z)))
    | rt w =>
      cases lp
      cases ev
      intro v F' σ' H' z r
      have r2 := (r.key sa.A).key st0.A
      refine k v F' σ' H' (weak (st0.trans (sa.trans z))) ?_
      rcases r2 with r2 | ⟨k2, m2, g1, g2, g3, g4, g5⟩
      · exact .inl r2
      · exact .inr ⟨k2, m2, g1, fun q => g2 (sublk _ q), g3, g4, fun j hj => g5 j (sublk j hj)⟩
  · have hi' : i = wss.length := by omega
    subst hi'
    refine .inl ⟨⟨_, q1, by rw [List.length_map, ← rr.len]; exact Nat.le_refl _⟩, ?_⟩
    simp only [List.drop_length, ttLoop] at lp
    cases lp
    cases ev
    exact k Fk σk Hk (wiped (st0.trans st))
end
end Ev

/-! EvU: what the compiler of statements makes is right. -/
namespace Ev
open PySem PySem.Spec PyProof.Rows L2

section
variable {Z : Ar} {call : Call} {X : Cx} {c : CC} {n : Nat}
theorem sw_no {e : Expr} {t : Option Expr} {l : Nat} {env : Env} (h : isCompE e = false) : swapsWith e t l env = pure false := by
  cases e with
  | ListComp _ _ _ _ => cases h
  | SetComp _ _ _ _ => cases h
  | DictComp _ _ _ _ _ => cases h
  | _ => rfl
theorem sole_no {e t : Expr} {l : Nat} {env : Env} (h : isCompE e = false) : swapsWithSole [t] e l env = pure false := by
  show swapsWith e (some t) l env = pure false
  exact sw_no h
theorem sw_cell {t : Str} {env : Env} {px : Pos} {l : Nat} (hc : env.scope.names.lookup t = some .cell) (e : Expr) : swapsWith e (some (.Name t px)) l env = pure false := by
  have k : env.kindOf t = some .cell := hc
  have z : (NameKind.cell == NameKind.local) = false := rfl
  cases e <;> first
    | rfl
    | (unfold swapsWith; simp [k, z]; done)
theorem sw_local {t : Str} {env : Env} {px : Pos} {l : Nat} {elt : Expr} {gs : List Comprehension} {scope : Scope} {pos : Pos} (hl : (px.line == pos.line) = false) : swapsWith (.ListComp elt gs scope pos) (some (.Name t px)) l env = pure false := by
  unfold swapsWith
  simp [Expr.pos, hl]
theorem stores_no {ts : List Expr} {k : Nat} {p : Pos} {e : Expr} {env : Env} (h : isTupE e = false) : swappedStores [.Tuple ts k p] e env = pure none := by
  cases e with
  | Tuple _ _ _ => cases h
  | _ => rfl
theorem stores_par {x y : Str} {px py pt pt2 : Pos} {kt k2 : Nat} {a b : Expr} {env : Env} (hk : env.scope.kind = .function) (h : parOk c x y px py a b = true) (hs : env.scope = c.sc) :
    swappedStores [.Tuple [.Name x px, .Name y py] kt pt] (.Tuple [a, b] k2 pt2) env = pure (some [x, y]) := by
  unfold parOk at h
  simp only [Bool.and_eq_true, decide_eq_true_eq, Bool.not_eq_true', bne_iff_ne, ne_eq, beq_iff_eq] at h
  obtain ⟨⟨⟨⟨⟨⟨h1, h2⟩, h3⟩, h4⟩, h5⟩, h6⟩, h7⟩ := h
  have k1 : env.kindOf x = some .local := by unfold Env.kindOf; rw [hs]; exact h1
  have k2 : env.kindOf y = some .local := by unfold Env.kindOf; rw [hs]; exact h2
  have hb : env.blockKind = .function := by unfold Env.blockKind; rw [hk]; rfl
  unfold swappedStores
  have hd : [x, y].eraseDups = [x, y] := by
    have : ¬ (y == x) = true := by simpa using fun e => h4 e.symm
    simp [List.eraseDups_cons, this]
  simp [k1, k2, hb, h3, Expr.pos, h5, h6, h7, hd, h4]
  simp only [List.any_cons, List.any_nil, Bool.or_false, Bool.or_eq_false_iff] at h7
  obtain ⟨h8, h9⟩ := h7
  rintro (z | z)
  · exact absurd (h8.symm.trans z) (by decide)
  · exact absurd (h9.symm.trans z) (by decide)
/-- a list comprehension's parts -/
theorem c_lcA (m : Mt Z call c X) {elt : Expr} {gs : List Comprehension} {scope : Scope} {p : Pos} {ce : CE} (h : cE n c (.ListComp elt gs scope p) = some ce) :
    ∃ tg it ifs wi g tt te own, gs = [⟨tg, it, ifs, 0⟩] ∧ PI X tg it wi ∧ BlkOk X.N X.env.scope scope own ∧
      (∀ (s : Shared) (H : Hp) (C : Addr) (cl : List (Str × Addr)) (fp : List Addr), PG (X.blk s H scope (compEnvC scope cl C X.env) fp) tg g) ∧ (∀ (s : Shared) (H : Hp) (C : Addr) (cl : List (Str × Addr)) (fp : List Addr), PTs (X.blk s H scope (compEnvC scope cl C X.env) fp) ifs tt) ∧
      (∀ (s : Shared) (H : Hp) (C : Addr) (cl : List (Str × Addr)) (fp : List Addr), PE (X.blk s H scope (compEnvC scope cl C X.env) fp) elt te) ∧ (∀ env x, foldedSetIterable it env x = pure x) ∧
      (∀ σ H Q, tE Z call ce σ H Q → tLc wi g tt te (own.map (·.2)) σ H Q) ∧ ∀ σ H Q, tE Z call (deepOf ce) σ H Q → tLc wi g tt te (own.map (·.2)) σ H Q := by
  cases n with
  | zero => cases h
  | succ n =>
    have ih := comp_all (Z := Z) (call := call) n
    match gs, h with
    | [], h => simp only [cE] at h; cases h
    | _ :: _ :: _, h => simp only [cE] at h; cases h
    | [⟨tg, it, ifs, as⟩], h =>
      simp only [cE] at h
      split at h
      · rename_i hb
        obtain ⟨rfl, hb⟩ := hb
        simp only [Option.bind_eq_bind, Option.bind_eq_some_iff] at h
        obtain ⟨g, h1, ⟨ik, es⟩, h2, el, h3, cd, h4, h⟩ := h
        have hbk := blkOk_by (show blkC X.N X.env.scope scope (ownOf c.N scope) = true by rw [m.N, m.sc]; exact hb)
        obtain ⟨p1, p2⟩ := c_iter ih m h1 h2
        have ht : ∀ (s : Shared) (H : Hp) (C : Addr) (cl : List (Str × Addr)) (fp : List Addr), PTs (X.blk s H scope (compEnvC scope cl C X.env) fp) ifs (tOc Z call cd) := fun s H C cl fp => by
          cases ifs with
          | nil => cases h4; exact PTs.imp pts_nil fun σ H Q q => rc_none q
          | cons t ts =>
            cases ts with
            | nil =>
              simp only [Option.map_eq_some_iff] at h4
              obtain ⟨x, h4, rfl⟩ := h4
              exact PTs.imp (pts_one (ih.t _ _ t x (m.blk hb s H C cl fp) h4)) fun σ H Q q => rc_some q
            | cons _ _ => cases h4
        refine ⟨tg, it, ifs, _, _, _, _, ownOf c.N scope, rfl, p1, hbk, fun s H C cl fp => pg_tg (m.blk hb s H C cl fp) h1, ht, fun s H C cl fp => ih.e _ _ elt el (m.blk hb s H C cl fp) h3, p2, ?_⟩
        split at h
        · cases h
          exact ⟨fun σ H Q q => rd_lc (rd_view q), fun σ H Q q => rd_lc (rd_view q)⟩
        · cases h
          exact ⟨fun σ H Q q => rd_lc q, fun σ H Q q => rd_lc q⟩
      · cases h
theorem c_set (m : Mt Z call c X) {x : Str} {px pos : Pos} {e : Expr} {v : CE} {i : Nat} (ok : setOk c x px e = true) (hb : bindOf c x = some i) (h : cE n c e = some v) :
    PS X (.Assign [.Name x px] e pos) (tAsg (tE Z call (dv c x e v)) (gName i)) := by
  unfold bindOf at hb
  split at hb
  · rename_i hw
    obtain ⟨h1, h2⟩ := m.wr x hw
    have hi : X.N[i]? = some x := by rw [m.N]; exact ixOf_ok hb
    have plain : isCompE e = false → PS X (.Assign [.Name x px] e pos) (tAsg (tE Z call v) (gName i)) := fun hn =>
      ps_set m.nd hi h1 ((comp_all n).e c X e v m h) (sw_no hn) h2
    cases e with
    | ListComp elt gs scope p =>
      obtain ⟨tg, it, ifs, wi, g, tt, te, own, rfl, p1, p2, p3, p4, p5, p6, p7, p8⟩ := c_lcA m h
      have rd : ∀ σ H Q, tE Z call (dv c x (.ListComp elt [⟨tg, it, ifs, 0⟩] scope p) v) σ H Q → tLc wi g tt te (own.map (·.2)) σ H Q := fun σ H Q q => by
        unfold dv at q
        dsimp only at q
        split at q
        · exact p8 σ H Q q
        · exact p7 σ H Q q
      unfold setOk at ok
      split at ok
      · rename_i _ _ _ _ q
        cases q
        split at ok
        · rename_i hl
          simp only [Bool.and_eq_true, Bool.not_eq_true'] at ok
          have hl : X.env.scope.names.lookup x = some .local := by rw [m.sc]; exact hl
          exact PS.imp (ps_setLc m.calm m.nd hi hl (sw_true m.kd hl ok.1 ok.2) p1 p2 p3 p4 p5 (fun x => p6 _ x)) fun D σ H q => rd _ _ _ q
        · rename_i hl
          have hl : X.env.scope.names.lookup x = some .cell := by rw [m.sc]; exact hl
          exact PS.imp (ps_set m.nd hi h1 (pe_lc m.calm m.nd p1 p2 p3 p4 p5 (fun x => p6 _ x)) (sw_cell hl _) h2) fun D σ H q => rd _ _ _ q
        · cases ok
      · rename_i q; cases q
      · rename_i q; cases q
      · rename_i q _ _; exact (q _ _ _ _ rfl).elim
    | DictComp kx vx gs scope p =>
      unfold setOk at ok
      split at ok
      · rename_i q; cases q
      · rename_i _ _ _ _ _ q
        cases q
        split at ok
        · cases ok
        · rename_i hl
          have hl : X.env.scope.names.lookup x = some .cell := by rw [m.sc]; exact hl
          exact ps_set m.nd hi h1 ((comp_all n).e c X _ v m h) (sw_cell hl _) h2
        · cases ok
      · rename_i q; cases q
      · rename_i _ q _; exact (q _ _ _ _ _ rfl).elim
    | SetComp elt gs scope p => cases ok
    | _ => exact plain rfl
  · cases hb
/-! ### statements -/
theorem c_row (m : Mt Z call c X) {r : Expr} {ces : List CE} (h : cRow (cE n c) r = some ces) : PE X r (tTup (tEs Z call ces)) ∧ ces.length ≤ 1000 ∧ ∀ es env, starEach (r :: es) env = (false, eval r env) :: starEach es env := by
  cases r with
  | Tuple es k p =>
    simp only [cRow] at h
    split at h
    · rename_i hl
      exact ⟨pe_tup (pa_all (comp_all n) m h), by rw [mapM_len h]; exact hl, fun _ _ => rfl⟩
    · cases h
  | _ => cases h
theorem c_rows (m : Mt Z call c X) {rows : List Expr} {rs : List (List CE)} (h : rows.mapM (cRow (cE n c)) = some rs) : PA X rows (tRows Z call rs) ∧ (∀ r ∈ rs, r.length ≤ 1000) ∧ rs.length = rows.length := by
  induction rows generalizing rs with
  | nil =>
    simp only [List.mapM_nil] at h
    cases h
    exact ⟨pa_nil, (fun r hr => by cases hr), rfl⟩
  | cons e es ih =>
    simp only [List.mapM_cons, Option.bind_eq_bind, Option.bind_eq_some_iff] at h
    obtain ⟨a, h1, b, h2, h⟩ := h
    cases h
    obtain ⟨k1, k2, k3⟩ := ih h2
    obtain ⟨q1, q2, q3⟩ := c_row m h1
    refine ⟨pa_cons q1 k1 (q3 es _), fun r hr => ?_, by simp [k3]⟩
    rcases List.mem_cons.mp hr with rfl | hr
    · exact q2
    · exact k2 r hr
def SIH (Z : Ar) (call : Call) (n : Nat) : Prop := ∀ c X st cs lk, Mt Z call c X → cS n c st = some cs → PS X st (tS Z call lk cs)
theorem pss_all (ih : SIH Z call n) (m : Mt Z call c X) (lk : List Nat) {b : List Stmt} {cs : List CS} (h : b.mapM (cS n c) = some cs) : PSs X b (tSs Z call lk cs) := by
  induction b generalizing cs with
  | nil =>
    simp only [List.mapM_nil] at h
    cases h
    exact PSs.imp pss_nil fun D σ H q => rs_nil q
  | cons e es ih2 =>
    simp only [List.mapM_cons, Option.bind_eq_bind, Option.bind_eq_some_iff] at h
    obtain ⟨a, h1, b, h2, h⟩ := h
    cases h
    exact PSs.imp (pss_cons (ih c X e a lk m h1) (ih2 h2)) fun D σ H q => rs_cons q
theorem own_of (m : Mt Z call c X) : PassesOwn (model X.prog X.w) X.A X.env X.xe := by rw [m.xe]; exact PassesOwn.never
theorem c_for (ih : SIH Z call n) (m : Mt Z call c X) (lk : List Nat) {tg it : Expr} {b : List Stmt} {g : TG} {ik : IK} {es : List CE} {cs : List CS} {pos : Pos} (hg : cTG c tg = some g) (hi : cIter (cE n c) c g it = some (ik, es)) (hb : b.mapM (cS n c) = some cs) :
    PS X (.For tg it b [] pos) (tS Z call lk (.for_ g ik es cs)) := by
  obtain ⟨p1, p2⟩ := c_iter (comp_all n) m hg hi
  refine ⟨fun pins s σ H D I q => ?_⟩
  obtain ⟨lk', q'⟩ := rs_for q
  exact (ps_for (own_of m) m.calm p1 (pg_tg m hg) (pss_all ih m lk' hb) (fun x => p2 _ x)).run pins s σ H D I q'
theorem c_forTT (ih : SIH Z call n) (m : Mt Z call c X) (lk : List Nat) {tg : Expr} {rows : List Expr} {k : Nat} {p : Pos} {b : List Stmt} {is : List Nat} {rs : List (List CE)} {cs : List CS} {pos : Pos} (hg : cTG c tg = some (.many is)) (hl : rows.length ≤ 1000)
    (hr : rows.mapM (cRow (cE n c)) = some rs) (hb : b.mapM (cS n c) = some cs) : PS X (.For tg (.Tuple rows k p) b [] pos) (tS Z call lk (.forTT is rs cs)) := by
  obtain ⟨k1, k2, k3⟩ := c_rows m hr
  have hK := m.K
  refine ⟨fun pins s σ H D I q => ?_⟩
  obtain ⟨lk', q'⟩ := rs_forTT k2 (by omega) q
  have pi := pi_tup (tg := tg) (pe_tup (x1 := k) (pos := p) k1)
  rw [hK] at pi
  exact (ps_for (own_of m) m.calm pi (pg_tg m hg) (pss_all ih m lk' hb) (fun _ => rfl)).run pins s σ H D I q'
theorem sub_assign {o i : Expr} {p : Pos} {env : Env} (h : isSlice i = false) : ∀ v, assign (.Subscript o i p) env v = (do
      let ov ← holding [v] (eval o env)
      let iv ← holding [v, ov] (eval i env)
      standAt p
      holding [v, ov, iv] (setItem ov iv v)
      release [v, ov, iv] []) := by
  cases i with
  | Slice _ _ _ _ => cases h
  | _ => intro v; rfl
theorem comp_s : ∀ n, SIH Z call n := by
  intro n
  induction n with
  | zero => intro c X st cs lk m h; cases h
  | succ n ih =>
    intro c X st cs lk m h
    have hK := m.K
    have hE := comp_all (Z := Z) (call := call) n
    cases st with
    | Expr e p =>
      simp only [cS] at h
      split at h
      · cases h
      · rename_i hc
        split at h
        · cases h
          exact PS.imp ps_doc fun D σ H q => rs_pass q
        · simp only [Option.map_eq_some_iff] at h
          obtain ⟨x, h1, rfl⟩ := h
          exact PS.imp (ps_expr (hE.e c X e x m h1) (sw_no (by simpa using hc))) fun D σ H q => rs_ex q
    | AugAssign tg op e p =>
      cases tg with
      | Name x px =>
        simp only [cS] at h
        have go : ∀ {o : Operator} {fo : Int → Int → Int} {i : Nat} {v : CE}, ((o = .Add ∧ fo = fun i j => i + j) ∨ (o = .Sub ∧ fo = fun i j => i - j)) → PIp X o (ipI fo) → bindOf c x = some i → cE n c e = some v → PS X (.AugAssign (.Name x px) o e p) (tS Z call lk (.aug i o v)) := fun {o fo i v} hf hp hb hv => by
          unfold bindOf at hb
          split at hb
          · rename_i hw
            obtain ⟨h1, h2⟩ := m.wr x hw
            exact PS.imp (ps_aug m.nd (by rw [m.N]; exact ixOf_ok hb) h1 (hE.e c X e v m hv) hp h2) fun D σ H q => rs_aug hf q
          · cases hb
        split at h
        · simp only [Option.bind_eq_bind, Option.bind_eq_some_iff] at h
          obtain ⟨i, h1, v, h2, h⟩ := h
          cases h
          exact go (.inl ⟨rfl, rfl⟩) ip_add h1 h2
        · simp only [Option.bind_eq_bind, Option.bind_eq_some_iff] at h
          obtain ⟨i, h1, v, h2, h⟩ := h
          cases h
          exact go (.inr ⟨rfl, rfl⟩) ip_sub h1 h2
        · cases h
      | _ => simp only [cS] at h; cases h
    | Return v p =>
      cases v with
      | none =>
        simp only [cS] at h
        cases h
        exact PS.imp ps_retN fun D σ H q => rs_retN q
      | some e =>
        simp only [cS, Option.map_eq_some_iff] at h
        obtain ⟨x, h1, rfl⟩ := h
        exact PS.imp (ps_ret (hE.e c X e x m h1)) fun D σ H q => rs_ret q
    | If t a b p =>
      simp only [cS, Option.bind_eq_bind, Option.bind_eq_some_iff] at h
      obtain ⟨x, h1, y, h2, z, h3, h⟩ := h
      cases h
      exact PS.imp (ps_if (hE.t c X t x m h1) (pss_all ih m lk h2) (pss_all ih m lk h3)) fun D σ H q => rs_ite q
    | While t b els p =>
      cases els with
      | cons _ _ => simp only [cS] at h; cases h
      | nil =>
        simp only [cS, Option.bind_eq_bind, Option.bind_eq_some_iff] at h
        obtain ⟨x, h1, y, h2, h⟩ := h
        cases h
        exact PS.imp (ps_while (own_of m) (hE.t c X t x m h1) (pss_all ih m lk h2)) fun D σ H q => rs_whl q
    | For tg it b els p =>
      cases els with
      | cons _ _ => simp only [cS] at h; cases h
      | nil =>
        simp only [cS, Option.bind_eq_bind, Option.bind_eq_some_iff] at h
        obtain ⟨g, hg, h⟩ := h
        split at h
        · split at h
          · split at h
            · rename_i hl
              simp only [Option.bind_eq_some_iff] at h
              obtain ⟨rs, h1, y, h2, h⟩ := h
              cases h
              exact c_forTT ih m lk hg hl h1 h2
            · cases h
          · cases h
        · split at h
          · cases h
          · simp only [Option.bind_eq_some_iff] at h
            obtain ⟨⟨ik, es⟩, h1, y, h2, h⟩ := h
            cases h
            exact c_for ih m lk hg h1 h2
    | Break p => simp only [cS] at h; cases h; exact PS.imp ps_break fun D σ H q => rs_brk q
    | Continue p => simp only [cS] at h; cases h; exact PS.imp ps_continue fun D σ H q => rs_cont q
    | Pass p => simp only [cS] at h; cases h; exact PS.imp ps_pass fun D σ H q => rs_pass q
    | Assign tgs e p =>
      cases tgs with
      | nil => simp only [cS] at h; cases h
      | cons tg tgs =>
        cases tgs with
        | cons _ _ => simp only [cS] at h; cases h
        | nil =>
          cases tg with
          | Name x px =>
            simp only [cS] at h
            split at h
            · rename_i ok
              simp only [Option.bind_eq_bind, Option.bind_eq_some_iff] at h
              obtain ⟨i, h1, v, h2, h⟩ := h
              cases h
              exact PS.imp (c_set m ok h1 h2) fun D σ H q => rs_set q
            · cases h
          | Subscript o i ps =>
            simp only [cS] at h
            split at h
            · cases h
            · rename_i hc
              simp only [Bool.or_eq_true, not_or, Bool.not_eq_true] at hc
              simp only [Option.bind_eq_bind, Option.bind_eq_some_iff] at h
              obtain ⟨ov, h1, iv, h2, vv, h3, h⟩ := h
              cases h
              refine PS.imp (ps_asg (hE.e c X e vv m h3) (pg_sub (hE.e c X o ov m h1) (hE.e c X i iv m h2) (set_P m.z m.un) (sub_assign hc.1)) (sole_no hc.2) ?_ rfl) fun D σ H q => rs_put q
              cases e <;> rfl
          | Tuple ts k pt =>
            have gen : ∀ {e : Expr} {cs : CS}, (if isTupE e || isCompE e then none else (match cTG c (.Tuple ts k pt) with
                | some (.many is) => do
                  let v ← cE n c e
                  some (CS.unp is v)
                | _ => none)) = some cs → PS X (.Assign [.Tuple ts k pt] e p) (tS Z call lk cs) := fun {e cs} h => by
              split at h
              · cases h
              · rename_i hc
                simp only [Bool.or_eq_true, not_or, Bool.not_eq_true] at hc
                split at h
                · rename_i is hg
                  simp only [Option.bind_eq_bind, Option.bind_eq_some_iff] at h
                  obtain ⟨v, h1, h⟩ := h
                  cases h
                  exact PS.imp (ps_asg (hE.e c X e v m h1) (pg_tg m hg) (sole_no hc.2) (stores_no hc.1) rfl) fun D σ H q => rs_unp q
                · cases h
            by_cases h2 : ∃ a b k2 p2, e = .Tuple [a, b] k2 p2
            · obtain ⟨a, b, k2, p2, rfl⟩ := h2
              simp only [cS] at h
              split at h
              · rename_i x px y py
                split at h
                · rename_i ok
                  simp only [Option.bind_eq_bind, Option.bind_eq_some_iff] at h
                  obtain ⟨i, h1, j, h2, u, h3, w, h4, h⟩ := h
                  cases h
                  have ok' := ok
                  unfold parOk at ok'
                  simp only [Bool.and_eq_true, decide_eq_true_eq] at ok'
                  have lx := ok'.1.1.1.1.1.1
                  have ly := ok'.1.1.1.1.1.2
                  have ix : ∀ {z : Str} {q : Nat}, bindOf c z = some q → X.N[q]? = some z := fun {z q} hz => by
                    unfold bindOf at hz
                    split at hz
                    · rw [m.N]; exact ixOf_ok hz
                    · cases hz
                  have pa := pa_cons (hE.e c X a u m h3) (pa_cons (hE.e c X b w m h4) pa_nil (star_ok h4)) (star_ok h3)
                  refine ⟨fun pins s σ H D I q => ?_⟩
                  obtain ⟨ne, q'⟩ := rs_par q
                  exact (ps_par m.calm m.nd (ix h1) (ix h2) ne (by rw [m.sc]; exact lx) (by rw [m.sc]; exact ly) pa (stores_par m.kd ok m.sc) rfl).run pins s σ H D I q'
                · cases h
              · cases h
            · rw [cS] at h
              · exact gen h
              · intro a b k2 p2 z
                exact h2 ⟨a, b, k2, p2, z⟩
          | _ => simp only [cS] at h; cases h
    | _ => simp only [cS] at h; cases h
end
end Ev

/-! EvV: defs. -/
namespace Ev
open PySem PySem.Spec PyProof.Rows L2

section
variable {Z : Ar} {call : Call} {F F' H H' : Hp} {as as' : List Sl} {vs : List V} {ρ ρ' : En} {σ σ' : St}
theorem refArgs_mem {i j : Nat} {s : Sl} (h : as[j]? = some s) (hm : (moOf s).isSome = true) : i + j ∈ refArgs i as := by
  induction as generalizing i j with
  | nil => simp at h
  | cons x xs ih =>
    cases j with
    | zero =>
      simp at h
      subst h
      cases x with
      | own m => simp [refArgs]
      | rd m => simp [refArgs]
      | p d => cases hm
      | sref k => cases hm
    | succ j =>
      have z := ih (i := i + 1) (j := j) (by simpa using h)
      rw [show i + 1 + j = i + (j + 1) by omega] at z
      cases x <;> simp [refArgs, z]
theorem pad_at {α : Type} {xs : List α} {m i : Nat} {x : α} : (xs.map some ++ List.replicate m none)[i]? = some (some x) ↔ xs[i]? = some x := by
  by_cases h : i < xs.length
  · rw [List.getElem?_append_left (by simpa using h), List.getElem?_map]
    simp [List.getElem?_eq_getElem h]
  · rw [List.getElem?_append_right (by simpa using h)]
    rw [List.getElem?_eq_none (by omega : xs.length ≤ i)]
    simp only [List.getElem?_replicate]
    split <;> simp
theorem map_at {α : Type} {xs : List α} {i : Nat} {x : α} : (xs.map some)[i]? = some (some x) ↔ xs[i]? = some x := by
  rw [List.getElem?_map]
  cases xs[i]? <;> simp
theorem pad_held {m : Nat} {i : Nat} {b : Addr} : Held (as.map some ++ List.replicate m none) (vs.map some ++ List.replicate m none) H i b ↔ Held (as.map some) (vs.map some) H i b := by
  unfold Held
  simp only [pad_at, map_at]
theorem pad_live {m : Nat} {b : Addr} : Live (as.map some ++ List.replicate m none) (vs.map some ++ List.replicate m none) H b ↔ Live (as.map some) (vs.map some) H b := by
  unfold Live
  simp only [pad_at, map_at]
theorem pad_rel {m : Nat} (ns : noSrefA as = true) (R : SRel Z F (as.map some) (vs.map some) H) : SRel Z F (as.map some ++ List.replicate m none) (vs.map some ++ List.replicate m none) H := by
  have hl := R.len
  simp only [List.length_map] at hl
  refine ⟨R.fz, by simp [hl], fun i s h => ?_, fun i j b ne h1 h2 => R.dis i j b ne (pad_held.mp h1) (pad_held.mp h2)⟩
  obtain ⟨v, e, r⟩ := R.slot i s (map_at.mpr (pad_at.mp h))
  refine ⟨v, pad_at.mpr (map_at.mp e), ?_⟩
  cases s with
  | p d => exact r
  | own m => exact r
  | rd m => exact r
  | sref k => exact (noSrefA_at ns (pad_at.mp h)).elim
theorem outs_at : ∀ {as : List Sl} {ρ : En} {as' : List Sl}, outs as ρ = .ok as' → as'.length = as.length ∧ ∀ (i : Nat) (s' : Sl), as'[i]? = some s' → ∃ s x, as[i]? = some s ∧ ρ[i]? = some x ∧ outSl s x = .ok s'
  | [], ρ, as', h => by cases h; exact ⟨rfl, fun i s h => by simp at h⟩
  | s :: ss, [], as', h => by cases h
  | s :: ss, x :: xs, as', h => by
    simp only [outs, bind_eq_ok] at h
    obtain ⟨s', h1, r, h2, h⟩ := h
    cases h
    obtain ⟨l, k⟩ := outs_at h2
    refine ⟨by simp [l], fun i t ht => ?_⟩
    cases i with
    | zero => simp at ht; subst ht; exact ⟨s, x, rfl, rfl, h1⟩
    | succ i =>
      obtain ⟨s1, x1, q1, q2, q3⟩ := k i t (by simpa using ht)
      exact ⟨s1, x1, by simpa using q1, by simpa using q2, q3⟩
theorem outSl_ok {s s' : Sl} {x : Option Sl} (h : outSl s x = .ok s') : (∃ d, s = .p d ∧ s' = .p d) ∨ ((moOf s).isSome = true ∧ x = some s' ∧ ∀ k, s' ≠ .sref k) := by
  cases s with
  | p d => cases h; exact .inl ⟨d, rfl, rfl⟩
  | own m =>
    right
    cases x with
    | none => cases h
    | some t => cases t with
      | own m' => cases h; exact ⟨rfl, rfl, by simp⟩
      | p d => cases h; exact ⟨rfl, rfl, by simp⟩
      | rd m => cases h
      | sref k => cases h
  | rd m =>
    right
    cases x with
    | none => cases h
    | some t => cases t with
      | rd m' => cases h; exact ⟨rfl, rfl, by simp⟩
      | p d => cases h
      | own m => cases h
      | sref k => cases h
  | sref k => cases x <;> cases h
/-- a def's end -/
theorem fn_end {m : Nat} (R : SRel Z F (as.map some) (vs.map some) H) (st : StepS Z (refArgs 0 as) F (as.map some ++ List.replicate m none) (vs.map some ++ List.replicate m none) H F' ρ' σ' H') (h : outs as ρ' = .ok as') :
    SRel Z F' (as'.map some) (vs.map some) H' ∧ Adv [] F (as.map some) (vs.map some) H F' (as'.map some) (vs.map some) H' ∧ ∀ i b, Held (as'.map some) (vs.map some) H' i b → Held ρ' σ' H' i b ∧ i ∈ refArgs 0 as := by
  obtain ⟨l, k⟩ := outs_at h
  have hl := R.len
  simp only [List.length_map] at hl
  have at_ : ∀ {i : Nat} {s' : Sl}, (as'.map some)[i]? = some (some s') → (∃ d, as[i]? = some (.p d) ∧ s' = .p d) ∨ (i ∈ refArgs 0 as ∧ ρ'[i]? = some (some s') ∧ (vs.map some)[i]? = σ'[i]? ∧ ∀ k, s' ≠ .sref k) := fun {i s'} q => by
    obtain ⟨s, x, q1, q2, q3⟩ := k i s' (map_at.mp q)
    rcases outSl_ok q3 with ⟨d, rfl, rfl⟩ | ⟨g1, rfl, g3⟩
    · exact .inl ⟨d, q1, rfl⟩
    · have mem := refArgs_mem (i := 0) q1 g1
      rw [Nat.zero_add] at mem
      refine .inr ⟨mem, q2, ?_, g3⟩
      rw [st.k i mem]
      have : i < vs.length := by rw [← hl]; exact (List.getElem?_eq_some_iff.mp q1).1
      rw [List.getElem?_append_left (by simpa using this)]
  have held : ∀ {i : Nat} {b : Addr}, Held (as'.map some) (vs.map some) H' i b → Held ρ' σ' H' i b ∧ i ∈ refArgs 0 as := fun {i b} q => by
    obtain ⟨s, m1, a, h1, h2, h3, h4⟩ := q
    rcases at_ h1 with ⟨d, _, rfl⟩ | ⟨g1, g2, g3, _⟩
    · cases h2
    · rw [g3] at h3
      exact ⟨⟨s, m1, a, g2, h2, h3, h4⟩, g1⟩
  refine ⟨⟨st.R.fz, by simp [l, hl], fun i s hs => ?_, fun i j b ne h1 h2 => st.R.dis i j b ne (held h1).1 (held h2).1⟩, ⟨st.A.fz, fun b o ho n => st.A.fr b o ho fun q => n (pad_live.mp q), st.A.tr, fun i b q => ?_, fun b q => ?_, fun b q => ?_⟩, fun i b q => held q⟩
  · rcases at_ hs with ⟨d, g1, rfl⟩ | ⟨g1, g2, g3, g4⟩
    · obtain ⟨v, e, r⟩ := R.slot i _ (map_at.mpr g1)
      exact ⟨v, e, Rep.mono st.A.fz r⟩
    · obtain ⟨v, e, r⟩ := st.R.slot i s g2
      refine ⟨v, g3.trans e, ?_⟩
      cases s with
      | p d => exact r
      | own m => exact r
      | rd m => exact r
      | sref k => exact absurd rfl (g4 k)
  · rcases st.A.nl i b (held q).1 with ⟨j, z⟩ | z
    · exact .inl ⟨j, pad_held.mp z⟩
    · exact .inr z
  · obtain ⟨i, m1, a, h1, h3, h4⟩ := q
    rcases at_ h1 with ⟨d, _, e⟩ | ⟨g1, g2, g3, _⟩
    · cases e
    · rw [g3] at h3
      rcases st.A.nv b ⟨i, m1, a, g2, h3, h4⟩ with z | z
      · exact .inl (pad_live.mp z)
      · exact .inr z
  · rcases st.A.nf b q with z | z | z | z
    · exact .inl z
    · exact .inr (.inl (pad_live.mp z))
    · exact .inr (.inr (.inl z))
    · exact .inr (.inr (.inr z))
theorem flat_at : ∀ {as : List Sl} {i : Nat} {s : Sl} {m : MO}, as.all flatSl = true → as[i]? = some s → moOf s = some m → m.flat = true := fun {as i s m} h e hm => by
  have := List.all_eq_true.mp h s (List.mem_of_getElem? e)
  cases s with
  | own m' => cases hm; exact this
  | rd m' => cases hm; exact this
  | p d => cases hm
  | sref k => cases hm
theorem fn_ret {m : Nat} {w : W} {v : V} (fl : as.all flatSl = true) (R : SRel Z F (as.map some) (vs.map some) H) (st : StepS Z (refArgs 0 as) F (as.map some ++ List.replicate m none) (vs.map some ++ List.replicate m none) H F' ρ' σ' H')
    (hh : ∀ i b, Held (as'.map some) (vs.map some) H' i b → Held ρ' σ' H' i b ∧ i ∈ refArgs 0 as) (r : WRet Z (refArgs 0 as) F' ρ' σ' H' H w v) : WRep Z F' (as'.map some) (vs.map some) H' w v ∧ Fresh H H' w v := by
  rcases r with ⟨r, f, n⟩ | ⟨k, m1, rfl, hk, h1, h2, al⟩
  · refine ⟨?_, f⟩
    cases w with
    | p d => exact r
    | ref k => exact absurd rfl (n k)
    | tmp m => obtain ⟨a, rfl, q1, q2⟩ := r; exact ⟨a, rfl, q1, fun b hb => ⟨(q2 b hb).1, fun i hi => (q2 b hb).2 i (hh i b hi).1⟩⟩
  · obtain ⟨v', e, a, rfl, rm, nf⟩ := st.R.slot k _ h1
    rw [h2] at e; cases e
    have kh : ∀ b ∈ fpL H' a m1, Held ρ' σ' H' k b := fun b hb => ⟨_, m1, a, h1, rfl, h2, hb⟩
    refine ⟨⟨a, rfl, rm, fun b hb => ⟨nf b hb, fun i hi => ?_⟩⟩, fun b hb => ?_⟩
    · obtain ⟨q1, q2⟩ := hh i b hi
      exact st.R.dis i k b (fun e => hk (e ▸ q2)) q1 (kh b hb)
    · have hb : b ∈ fpL H' a m1 := hb
      rcases st.A.nl k b (kh b hb) with ⟨j, z⟩ | z
      · exfalso
        obtain ⟨s, m2, a2, g1, g2, g3, g4⟩ := pad_held.mp z
        have g1 := map_at.mp g1
        have hf := flat_at fl g1 g2
        have mem := refArgs_mem (i := 0) g1 (by rw [g2]; rfl)
        rw [Nat.zero_add] at mem
        have eb : b = a2 := by
          cases m2 with
          | lo ls => cases hf
          | lst xs => simpa [fpL] using g4
          | dk xs => simpa [fpL] using g4
          | dn xs => simpa [fpL] using g4
        subst eb
        have s2 : σ'[j]? = some (some (.ref b)) := (st.k j mem).trans (pad_at.mpr (map_at.mp g3))
        have hd := al j mem
        have jh : Held ρ' σ' H' j b := by
          cases q : ρ'[j]? with
          | none => rw [q] at hd; cases hd
          | some x =>
            rw [q] at hd
            cases x with
            | none => cases hd
            | some x =>
              cases x with
              | own m3 => exact ⟨_, m3, b, q, rfl, s2, fpL_self⟩
              | rd m3 => exact ⟨_, m3, b, q, rfl, s2, fpL_self⟩
              | p d => cases hd
              | sref d => cases hd
        exact st.R.dis j k b (fun e => hk (e ▸ mem)) jh (kh b hb)
      · exact z
end
/-! ### the table -/
structure DefE where
  x : Str
  st : Stmt
  ps : List Str
  N : List Str
  deep : List Str
  views : List Nat
  F : Fn
def fnsT (T : List DefE) : List (Str × Nat) := T.map fun e => (e.x, e.ps.length)
def gT2 (T : List DefE) : Fns := T.map fun e => (e.x, e.F)
/-- what is seen of a table's texts -/
structure TabOk (T : List DefE) (free : List Str) : Prop where
  comp : ∀ e ∈ T, cDef e.N e.ps.length (defScope e.st) (fnsT T) free e.deep e.views (defBody e.st) = some e.F
  sc : ∀ e ∈ T, FnScope e.N e.ps (defScope e.st)
  look : ∀ e ∈ T, (gT2 T).lookup e.x = some e.F
/-- .. and of the module -/
structure ModOk (T : List DefE) (free : List Str) (K : PySem.W.Frag) (mg : Str → Option Value) : Prop where
  fn : ∀ e ∈ T, ∃ af fd, FunD K e.x e.x (defArgs e.st) (defBody e.st) (defScope e.st) [] [] af fd ∧ mg e.x = some (.ref af) ∧ Binds K fd e.ps []
  free : ∀ x ∈ free, mg x = none
section
variable {T : List DefE} {free : List Str} {P : Program} {w : World} {K : PySem.W.Frag} {mg : Str → Option Value} {base : Heap}
theorem fn_zero {k : Nat} {f : Addr} {fd : FuncData} {ps : List Str} {x : Str} (hk : k = ps.length) : FnOk P w K mg base CX0 0 f fd ps (spF ⟨P, w, K⟩ (evF (gT2 T) 0) x k) := by
  refine ⟨fun vs H Q E h => by rw [h.1, hk], fun A outer s H args us vs Q E _ _ _ _ h => ?_⟩
  obtain ⟨_, F, as, w', as', _, e, _⟩ := h
  cases e
theorem fns_ok (tab : TabOk T free) (md : ModOk T free K mg) : ∀ n, ∀ e ∈ T, ∀ af fd, FunD K e.x e.x (defArgs e.st) (defBody e.st) (defScope e.st) [] [] af fd → FnOk P w K mg base CX0 n af fd e.ps (spF ⟨P, w, K⟩ (evF (gT2 T) n) e.x e.ps.length) := by
  intro n
  induction n with
  | zero => exact fun e _ af fd _ => fn_zero rfl
  | succ n ih =>
    intro e he af fd FD
    have S := tab.sc e he
    refine FD.ok S (fun vs H Q E h => h.1) fun cdv A outer s H vs Q E hr h => ?_
    obtain ⟨hl, F, as, w', as', R, ev, kk⟩ := h
    simp only [evF, tab.look e he, runFn, bind_eq_ok, chk_eq_ok, Bool.and_eq_true, decide_eq_true_eq] at ev
    obtain ⟨_, ⟨⟨⟨q1, q2⟩, q3⟩, q4⟩, ⟨f, ρ'⟩, e1, w2, e2, r, e3, ev⟩ := ev
    cases ev
    have hc := tab.comp e he
    unfold cDef at hc
    simp only [Option.map_eq_some_iff] at hc
    obtain ⟨cs, hc, hF⟩ := hc
    have hb : cs = e.F.body := by rw [← hF]
    have hnl : e.F.nl = e.N.length := by rw [← hF]
    have hnp : e.F.np = e.ps.length := by rw [← hF]
    have m : Mt ⟨P, w, K⟩ (evF (gT2 T) n) ⟨e.N, defScope e.st, wrOf (defScope e.st), fnsT T, free, e.deep, e.views⟩ (cxOf CX0 P w K mg base e.N e.x (defScope e.st) af cdv A outer s H E).nox := by
      refine ⟨rfl, rfl, rfl, rfl, S.nd, rfl, S.kind, rfl, rfl, ?_, fun x hx => ?_, fun x hx => md.free x (by simpa using hx), fun g k hg => ?_⟩
      · have := hr.un
        show (A.deeper _).units + 100 < cLine
        omega
      · have hx : (wrOf (defScope e.st)).contains x = true := hx
        simp only [List.contains_eq_mem, decide_eq_true_eq, wrOf, List.mem_filterMap] at hx
        obtain ⟨⟨y, k⟩, h1, h2⟩ := hx
        refine ⟨?_, .inl rfl⟩
        show (defScope e.st).names.lookup x = some .local ∨ (defScope e.st).names.lookup x = some .cell
        split at h2
        · rename_i q; cases h2; exact .inl q
        · rename_i q; cases h2; exact .inr q
        · cases h2
      · have hg : (fnsT T).lookup g = some k := hg
        have mem := PySem.mem_of_lookup hg
        simp only [fnsT, List.mem_map] at mem
        obtain ⟨e2, h1, h2⟩ := mem
        cases h2
        obtain ⟨af2, fd2, FD2, hm2, hb2⟩ := md.fn e2 h1
        exact ⟨af2, fd2, e2.ps, n, hm2, FD2.kp, hb2, ih e2 h1 af2 fd2 FD2, hr⟩
    refine ⟨tSs ⟨P, w, K⟩ (evF (gT2 T) n) (refArgs 0 as) cs, PSs.nox (pss_all (comp_s 60) m _ hc), ?_⟩
    have hst : L2.start e.N vs = vs.map some ++ List.replicate (e.F.nl - e.F.np) none := by
      unfold L2.start
      rw [hnl, hnp, hl]
    rw [hst]
    refine ⟨F, _, f, ρ', pad_rel q2 R, by rw [hb]; exact e1, ?_⟩
    cases f with
    | nx =>
      cases e2
      intro F' σ' H' st
      obtain ⟨r1, r2, r3⟩ := fn_end R st e3
      exact kk .non F' H' r1 r2 .non fresh_p
    | bk => cases e2
    | ct => cases e2
    | rt w3 =>
      cases e2
      intro v F' σ' H' st wr
      obtain ⟨r1, r2, r3⟩ := fn_end R st e3
      obtain ⟨g1, g2⟩ := fn_ret q3 R st r3 wr
      exact kk v F' H' r1 r2 g1 g2
end
end Ev

/-! EvH: from a table of defs to the law's run. -/
namespace Ev
open PySem PySem.Spec PyProof.Rows L2

theorem fa_nil {α : Type} {p : α → Prop} : ∀ x ∈ ([] : List α), p x := fun x h => by cases h
theorem fa_cons {α : Type} {p : α → Prop} {a : α} {l : List α} (h : p a) (t : ∀ x ∈ l, p x) : ∀ x ∈ a :: l, p x := fun x hx => by
  rcases List.mem_cons.mp hx with rfl | hx
  · exact h
  · exact t x hx
theorem look_ok : ∀ {T : List DefE}, (T.map (·.x)).Nodup → ∀ e ∈ T, (gT2 T).lookup e.x = some e.F
  | [], _, e, h => by cases h
  | a :: T, nd, e, h => by
    simp only [List.map_cons, List.nodup_cons] at nd
    rcases List.mem_cons.mp h with rfl | h
    · simp [gT2]
    · have ne : e.x ≠ a.x := fun z => nd.1 (z ▸ List.mem_map_of_mem h)
      have := look_ok nd.2 e h
      have nb : (e.x == a.x) = false := by simpa using ne
      simp only [gT2, List.map_cons, List.lookup_cons, nb]
      exact this
theorem tab_of {T : List DefE} {free : List Str} (nd : (T.map (·.x)).Nodup) (sc : (T.all fun e => C8.scC e.N e.ps (defScope e.st)) = true) (cm : ∀ e ∈ T, cDef e.N e.ps.length (defScope e.st) (fnsT T) free e.deep e.views (defBody e.st) = some e.F) : TabOk T free :=
  ⟨cm, fun e he => C8.fnScope_by (List.all_eq_true.mp sc e he), look_ok nd⟩
def dOf (e : DefE) : He.DefD := ⟨(e.x, none), e.x, e.x, defArgs e.st, defBody e.st, defScope e.st, [], []⟩
def faT (T : List DefE) (free : List Str) : List He.Fa := T.map (fun e => .glo e.x) ++ free.map .free
def fnT (T : List DefE) : List He.DefD := T.map dOf
abbrev BindT (e : DefE) : Prop := ∀ (K : PySem.W.Frag) (af : Addr) (fd : FuncData), FunD K e.x e.x (defArgs e.st) (defBody e.st) (defScope e.st) [] [] af fd → Binds K fd e.ps []
section
variable {T : List DefE} {free : List Str} {P : Program} {w : World} {K : PySem.W.Frag} {mg : Str → Option Value} {h : Heap}
theorem mod_of (X : K.In h) (G : h.Ns mainGlobals mg) (c : He.SaysD (faT T free) (fnT T) K) (hb : ∀ e ∈ T, BindT e) : ModOk T free K mg := by
  refine ⟨fun e he => ?_, fun x hx => He.free_ok X G (c.facts (List.mem_append_right _ (List.mem_map_of_mem hx)))⟩
  obtain ⟨fd, F⟩ := c.defs (d := dOf e) (List.mem_map_of_mem he)
  exact ⟨_, fd, F, He.glo_ok X G (c.facts (List.mem_append_left _ (List.mem_map.mpr ⟨e, he, rfl⟩))), hb e he K _ fd F⟩
/-- the script's numbers -/
theorem reps_ints {Z : Ar} {F : Hp} : ∀ ns : List Int, Reps Z F (ns.map .int) (ns.map V.int)
  | [] => .nil
  | n :: ns => .cons (.int n) (reps_ints ns)
theorem law_sp {Z : Ar} {call : Call} {f : Str} {H : Hp} {a : Addr} {ns : List Int} {E : XK} (hS : SqL Z.K H a (ns.map V.int)) (hc : ∃ as', call f [.p (.ls (ns.map .int))] = .ok (.p (.bl true), as')) : spF Z call f 1 [.ref a] H (fun v _ => v = .bl true) E := by
  obtain ⟨as', hc⟩ := hc
  have nh : ∀ i b, ¬ Held ([Sl.p (.ls (ns.map P.int))].map some) ([V.ref a].map some) H i b := fun i b ⟨s, m, a', h1, h2, _⟩ => by
    have h1 := map_at.mp h1
    cases i with
    | zero => simp at h1; subst h1; cases h2
    | succ i => simp at h1
  refine ⟨rfl, H, [.p (.ls (ns.map .int))], _, as', ⟨.refl, rfl, fun i s hs => ?_, fun i j b _ q _ => nh i b q⟩, hc, fun v F' H' _ _ W _ => ?_⟩
  · have hs := map_at.mp hs
    cases i with
    | zero => simp at hs; subst hs; exact ⟨_, rfl, .ls hS (reps_ints ns)⟩
    | succ i => simp at hs
  · cases W; rfl
theorem facts {e : DefE} {f : Addr} {n : Nat} (tab : TabOk T free) (hb : ∀ e ∈ T, BindT e) (he : e ∈ T) (hp : e.ps = [("script" : Str)]) (hba : ∀ (K : PySem.W.Frag) (af : Addr) (fd : FuncData), FunD K e.x e.x (defArgs e.st) (defBody e.st) (defScope e.st) [] [] af fd → ∀ (s : Shared) (v : Value), BindsTo s fd ⟨[v], []⟩ [("script", v)])
    (X : K.In h) (G : h.Ns mainGlobals mg) (hfa : mg e.x = some (.ref f)) (c : He.SaysD (faT T free) (fnT T) K) :
    ∃ fd : FuncData, (∀ (s : Shared) (v : Value), BindsTo s fd ⟨[v], []⟩ [("script", v)]) ∧ ∀ base : Heap, K.In base → base.Ns mainGlobals mg → FnOk P w K mg base CX0 n f fd ["script"] (spF ⟨P, w, K⟩ (evF (gT2 T) n) e.x 1) := by
  have md := mod_of X G c hb
  obtain ⟨fd, F⟩ := c.defs (d := dOf e) (List.mem_map_of_mem he)
  have e1 := hfa.symm.trans (He.glo_ok X G (c.facts (List.mem_append_left _ (List.mem_map.mpr ⟨e, he, rfl⟩))))
  cases e1
  refine ⟨fd, hba K _ fd F, fun base _ _ => ?_⟩
  have := fns_ok (P := P) (w := w) (base := base) tab md n e he _ fd F
  rw [hp] at this
  exact this
end
end Ev

/-! EvSim: the evaluator on terms with unknowns in them. -/
namespace Ev
open PySem PySem.Spec PyProof.Rows L2
theorem str_eq (a b : String) : (Str.ofString a = Str.ofString b) = (a = b) := by
  refine propext ⟨fun h => ?_, fun h => by rw [h]⟩
  rw [Str.ofString_eq_toList, Str.ofString_eq_toList] at h
  have h := Array.mk.inj (Str.mk.inj h)
  have h : a.toList = b.toList := by
    have inj : ∀ {xs ys : List Char}, xs.map Char.toNat = ys.map Char.toNat → xs = ys := fun {xs} => by
      induction xs with
      | nil => intro ys h; cases ys with
        | nil => rfl
        | cons y ys => cases h
      | cons x xs ih => intro ys h; cases ys with
        | nil => cases h
        | cons y ys =>
          simp only [List.map_cons, List.cons.injEq] at h
          rw [Char.toNat_inj.mp h.1, ih h.2]
    exact inj h
  exact String.toList_inj.mp h
theorem inr_eq (a b : Str) : ((Sum.inr a : Key) = Sum.inr b) = (a = b) := by simp
theorem R_bind {α β : Type} (a : α) (f : α → R β) : (R.ok a).bind f = f a := rfl
theorem at_pos {α : Type} {xs : List α} {i : Nat} {x : α} (h : xs[i]? = some x) : atI xs (i : Int) = some x := by
  have hl := (List.getElem?_eq_some_iff.mp h).1
  unfold atI ixN
  rw [if_pos (by omega), if_pos (by omega)]
  simpa using h
theorem bind_congr1 {α β : Type} {x x' : R α} {f : α → R β} (h : x = x') : (x >>= f) = (x' >>= f) := by rw [h]
theorem nkey_str (x : Str) : nkey (.str x) = some (.text x) := rfl
theorem nkey_int (x : Int) : nkey (.int x) = some (.num x) := rfl
theorem nkey_non : nkey .non = some .none := rfl
theorem eqP_ss (a b : String) : eqP (.str (Str.ofString a)) (.str (Str.ofString b)) = .ok (decide (a = b)) := by simp [eqP, nkey_str, str_eq]
theorem eqP_str (a b : Str) : eqP (.str a) (.str b) = .ok (decide (a = b)) := by simp [eqP, nkey_str]
theorem eqP_int (a b : Int) : eqP (.int a) (.int b) = .ok (decide (a = b)) := by simp [eqP, nkey_int]
theorem inP_nil (k : P) (h : (nkey k).isSome = true) : inP k (.tup []) = .ok false := by
  cases q : nkey k with
  | none => rw [q] at h; cases h
  | some x => simp [inP, q, anyEq]
theorem inP_ss (a b : String) (r : List P) : inP (.str (Str.ofString a)) (.tup (.str (Str.ofString b) :: r)) = (inP (.str (Str.ofString a)) (.tup r) >>= fun z => .ok (decide (b = a) || z)) := by
  simp [inP, nkey_str, anyEq, str_eq]
theorem inP_s0 (a : String) : inP (.str (Str.ofString a)) (.tup []) = .ok false := inP_nil _ rfl
theorem ix_tup (xs : List P) (i : Int) : ixP (.tup xs) (.int i) = R.of (atI xs i) := rfl
theorem ix_lst (xs : List P) (i : Int) : ixP (.lst xs) (.int i) = R.of (atI xs i) := rfl
theorem peek_p (d : P) (ρ : En) : peek (.p d) ρ = .ok d := rfl
theorem peek_lst (xs : List P) (ρ : En) : peek (.tmp (.lst xs)) ρ = .ok (.lst xs) := rfl
theorem peek_ref (k : Nat) (ρ : En) : peek (.ref k) ρ = (getMO ρ k >>= fun m => R.chk m.flat >>= fun _ => .ok m.toP) := rfl
theorem frz_p (d : P) (ρ : En) : frz (.p d) ρ = .ok (d, ρ) := rfl
theorem frz_tmp (m : MO) (ρ : En) : frz (.tmp m) ρ = .ok (m.toP, ρ) := rfl
theorem bindS_p (lk : List Nat) (i : Nat) (d : P) (ρ : En) : bindS lk i (.p d) ρ = (R.chk (noSref ρ i && !lk.contains i && decide (i < ρ.length)) >>= fun _ => .ok (ρ.set i (some (.p d)))) := rfl
theorem bindS_tmp (lk : List Nat) (i : Nat) (m : MO) (ρ : En) : bindS lk i (.tmp m) ρ = (R.chk (noSref ρ i && !lk.contains i && decide (i < ρ.length)) >>= fun _ => .ok (ρ.set i (some (.own m)))) := rfl
/-! ### loops of comprehensions -/
inductive All2 {α β : Type} (Q : α → β → Prop) : List α → List β → Prop
  | nil : All2 Q [] []
  | cons {a : α} {b : β} {as : List α} {bs : List β} : Q a b → All2 Q as bs → All2 Q (a :: as) (b :: bs)
theorem All2.length {α β : Type} {Q : α → β → Prop} {as : List α} {bs : List β} (h : All2 Q as bs) : as.length = bs.length := by
  induction h with
  | nil => rfl
  | cons _ _ ih => simp [ih]
theorem All2.mono {α β : Type} {Q Q' : α → β → Prop} {as : List α} {bs : List β} (h : All2 Q as bs) (k : ∀ a b, Q a b → Q' a b) : All2 Q' as bs := by
  induction h with
  | nil => exact .nil
  | cons q _ ih => exact .cons (k _ _ q) ih
theorem All2.right {α β : Type} {Q : α → β → Prop} {as : List α} {bs : List β} (h : All2 Q as bs) : ∀ b ∈ bs, ∃ a ∈ as, Q a b := by
  induction h with
  | nil => intro b hb; cases hb
  | cons q _ ih =>
    intro b hb
    rcases List.mem_cons.mp hb with rfl | hb
    · exact ⟨_, List.mem_cons_self, q⟩
    · obtain ⟨a, h1, h2⟩ := ih b hb; exact ⟨a, List.mem_cons_of_mem _ h1, h2⟩
/-- each turn yields, by a state I -/
theorem lcLoop_all {α S : Type} {step : P → En → R (Option α × En)} {I : S → En} {Q : P → α → Prop} {xs : List P}
    (h : ∀ x ∈ xs, ∀ s, ∃ a s', step x (I s) = .ok (some a, I s') ∧ Q x a) : ∀ s, ∃ r s', lcLoop step xs (I s) = .ok (r, I s') ∧ All2 Q xs r := by
  induction xs with
  | nil => exact fun s => ⟨[], s, rfl, .nil⟩
  | cons x xs ih =>
    intro s
    obtain ⟨a, s1, e1, q⟩ := h x List.mem_cons_self s
    obtain ⟨r, s2, e2, q2⟩ := ih (fun y hy => h y (List.mem_cons_of_mem _ hy)) s1
    exact ⟨a :: r, s2, by simp [lcLoop, e1, e2], .cons q q2⟩
/-- each turn yields or not -/
theorem lcLoop_some {α S : Type} {step : P → En → R (Option α × En)} {I : S → En} {Q : P → α → Prop} {xs : List P}
    (h : ∀ x ∈ xs, ∀ s, ∃ o s', step x (I s) = .ok (o, I s') ∧ ∀ a, o = some a → Q x a) : ∀ s, ∃ r s', lcLoop step xs (I s) = .ok (r, I s') ∧ ∃ ys, ys.Sublist xs ∧ All2 Q ys r := by
  induction xs with
  | nil => exact fun s => ⟨[], s, rfl, [], .slnil, .nil⟩
  | cons x xs ih =>
    intro s
    obtain ⟨o, s1, e1, q⟩ := h x List.mem_cons_self s
    obtain ⟨r, s2, e2, ys, sl, q2⟩ := ih (fun y hy => h y (List.mem_cons_of_mem _ hy)) s1
    cases o with
    | none => exact ⟨r, s2, by simp [lcLoop, e1, e2], ys, .cons _ sl, q2⟩
    | some a => exact ⟨a :: r, s2, by simp [lcLoop, e1, e2], x :: ys, .cons₂ _ sl, .cons (q a rfl) q2⟩
/-- a comprehension that changes nothing -/
theorem lcLoop_pure {α : Type} {step : P → En → R (Option α × En)} {ρ : En} {f : P → Option α} {xs : List P} (h : ∀ x ∈ xs, step x ρ = .ok (f x, ρ)) : lcLoop step xs ρ = .ok (xs.filterMap f, ρ) := by
  induction xs with
  | nil => rfl
  | cons x xs ih =>
    have e1 := h x List.mem_cons_self
    have e2 := ih fun y hy => h y (List.mem_cons_of_mem _ hy)
    simp only [lcLoop, e1, e2, bind_ok]
    cases q : f x <;> simp [q]
theorem ev_lc {call : Call} {elt : CE} {tg : TG} {ik : IK} {es : List CE} {cond : Option CE} {own : List Nat} {ρ ρ1 ρn ρ2 : En} {ws : List W} {xs : List P} {r : List W} {ds : List P} (h1 : evEs call es ρ = .ok (ws, ρ1)) (h2 : items ik ws ρ1 = .ok xs) (h3 : tgIn own tg = true) (h4 : xs.length < sizeLine)
    (h5 : lcLoop (lcStep call false elt tg cond own) xs (hideS own (lockAll ws ρ1)) = .ok (r, ρn)) (h6 : leaveGo own (refsOf ws) 0 ρ1 ρn = .ok ρ2) (h7 : pOf r = .ok ds) : evE call (.lc false elt tg ik es cond own) ρ = .ok (.tmp (.lst ds), ρ2) := by
  simp only [evE, bind_eq_ok, chk_eq_ok, Bool.and_eq_true, decide_eq_true_eq]
  exact ⟨_, h1, _, h2, (), ⟨h3, h4⟩, (r, ρn), h5, ρ2, h6, by simp [h7]⟩
theorem evE_c (call : Call) (d : P) (ρ : En) : evE call (.c d) ρ = .ok (.p d, ρ) := by simp only [evE]
theorem evE_join (call : Call) (s a : CE) (ρ : En) : evE call (.join s a) ρ = (do
    let (x, ρ) ← evE call s ρ
    let d0 ← peek x ρ
    R.chk (isStrP d0)
    let (y, ρ) ← evE call a ρ
    let dx ← peek x ρ
    let dy ← peek y ρ
    let r ← joinP dx dy
    .ok (.p r, ρ)) := by simp only [evE]
end Ev

/-! EvKp: the evaluator with what comes next as an argument: what is stuck stands in front. -/
namespace Ev
open PySem PySem.Spec PyProof.Rows L2
noncomputable section
/-- the same, sealed -/
theorem evEo_ex : ∃ f : Call → CE → En → R (W × En), f = evE := ⟨_, rfl⟩
def evEo : Call → CE → En → R (W × En) := Classical.choose evEo_ex
theorem evEo_eq : evEo = evE := Classical.choose_spec evEo_ex
theorem evSo_ex : ∃ f : Call → List Nat → CS → En → R (Fl × En), f = evS := ⟨_, rfl⟩
def evSo : Call → List Nat → CS → En → R (Fl × En) := Classical.choose evSo_ex
theorem evSo_eq : evSo = evS := Classical.choose_spec evSo_ex
theorem popMo_ex : ∃ f : MO → Int → R (P × MO), f = popM := ⟨_, rfl⟩
def popMo : MO → Int → R (P × MO) := Classical.choose popMo_ex
theorem popMo_eq : popMo = popM := Classical.choose_spec popMo_ex
theorem cmpPo_ex : ∃ f : CmpOp → P → P → R Bool, f = cmpP := ⟨_, rfl⟩
def cmpPo : CmpOp → P → P → R Bool := Classical.choose cmpPo_ex
theorem cmpPo_eq : cmpPo = cmpP := Classical.choose_spec cmpPo_ex
variable {β : Type}
mutual
def kE (call : Call) : CE → En → (W → En → R β) → R β
  | .c d, ρ, k => k (.p d) ρ
  | .v i, ρ, k => (match ρ[i]? with
    | some (some (.p d)) => k (.p d) ρ
    | some (some (.own _)) => k (.ref i) ρ
    | some (some (.rd _)) => k (.ref i) ρ
    | some (some (.sref j)) => k (.ref j) ρ
    | _ => .fail)
  | .tup es, ρ, k => kEs call es ρ fun ws ρ => R.bind (frzs ws ρ) fun z => k (.p (.tup z.1)) z.2
  | .lst es, ρ, k => kEs call es ρ fun ws ρ => R.bind (frzs ws ρ) fun z => k (.tmp (.lst z.1)) z.2
  | .dct ks vs, ρ, k => kEs call vs ρ fun ws ρ => R.bind (frzs ws ρ) fun z => R.bind (R.chk (decide (ks.length ≤ 15))) fun _ => R.bind (zipK ks z.1) fun kvs => k (.tmp (.dk (mergeP [] kvs))) z.2
  | .bin o a b, ρ, k => kE call a ρ fun x ρ => kE call b ρ fun y ρ => R.bind (peek x ρ) fun dx => R.bind (peek y ρ) fun dy => R.bind (binP o dx dy) fun w => k w ρ
  | .neg a, ρ, k => kE call a ρ fun x ρ => R.bind (peek x ρ) fun d => R.bind (partP d) fun n => k (.p (.int (-n))) ρ
  | .notv a, ρ, k => kE call a ρ fun x ρ => match x with
    | .p (.bl b) => k (.p (.bl (!b))) ρ
    | _ => .fail
  | .bop .And a b, ρ, k => kE call a ρ fun x ρ => match x with
    | .p (.bl true) => kE call b ρ k
    | .p (.bl false) => k (.p (.bl false)) ρ
    | _ => .fail
  | .bop .Or a b, ρ, k => kE call a ρ fun x ρ => match x with
    | .p (.bl true) => k (.p (.bl true)) ρ
    | .p (.bl false) => kE call b ρ k
    | _ => .fail
  | .cmp o a b, ρ, k => kE call a ρ fun x ρ => kE call b ρ fun y ρ => R.bind (peek x ρ) fun dx => R.bind (peek y ρ) fun dy => R.bind (cmpPo o dx dy) fun r => k (.p (.bl r)) ρ
  | .isn neg a b, ρ, k => kE call a ρ fun x ρ => kE call b ρ fun y ρ => R.bind (peek x ρ) fun dx => R.bind (peek y ρ) fun dy => R.bind (isP dx dy) fun r => k (.p (.bl (if neg then !r else r))) ρ
  | .ife c a b, ρ, k => kT call c ρ fun t ρ => match t with
    | true => kE call a ρ k
    | false => kE call b ρ k
  | .ix a i, ρ, k => kE call a ρ fun x ρ => kE call i ρ fun y ρ => R.bind (peek x ρ) fun dx => R.bind (peek y ρ) fun dy => R.bind (ixP dx dy) fun r => k (.p r) ρ
  | .sl a lo hi, ρ, k => kE call a ρ fun x ρ => kO call lo ρ fun l ρ => kO call hi ρ fun h ρ => R.bind (peek x ρ) fun d => R.bind (slP d l h) fun w => k w ρ
  | .call f es, ρ, k => kEs call es ρ fun ws ρ => R.bind (R.chk (nodupB (refsOf ws))) fun _ => R.bind (argSs ws ρ) fun ss => R.bind (call f ss) fun z =>
      R.bind (R.chk (noSrefA z.2 && decide (z.2.length = ss.length))) fun _ => R.bind (noRef z.1) fun w => R.bind (backS ws z.2 ρ) fun ρ => k w ρ
  | .b1 b a, ρ, k => kE call a ρ fun x ρ => R.bind (peek x ρ) fun d => R.bind (bl1 b d) fun w => k w ρ
  | .min2 a b, ρ, k => kE call a ρ fun x ρ => kE call b ρ fun y ρ => R.bind (peek x ρ) fun dx => R.bind (peek y ρ) fun dy => R.bind (minP dx dy) fun r => k (.p r) ρ
  | .max2 a b, ρ, k => kE call a ρ fun x ρ => kE call b ρ fun y ρ => R.bind (peek x ρ) fun dx => R.bind (peek y ρ) fun dy => R.bind (maxP dx dy) fun r => k (.p r) ρ
  | .isi a t, ρ, k => kE call a ρ fun x ρ => R.bind (peek x ρ) fun d => R.bind (isiP d t) fun r => k (.p (.bl r)) ρ
  | .get d q x, ρ, k => kE call d ρ fun dw ρ => R.bind (peek dw ρ) fun d0 => R.bind (R.chk (isDictP d0)) fun _ => kE call q ρ fun kw ρ => kE call x ρ fun xw ρ =>
      R.bind (peek dw ρ) fun dd => R.bind (peek kw ρ) fun kd => R.bind (frz xw ρ) fun z => R.bind (dLook dd kd) fun o => k (.p (o.getD z.1)) z.2
  | .join s a, ρ, k => kE call s ρ fun x ρ => R.bind (peek x ρ) fun d0 => R.bind (R.chk (isStrP d0)) fun _ => kE call a ρ fun y ρ =>
      R.bind (peek x ρ) fun dx => R.bind (peek y ρ) fun dy => R.bind (joinP dx dy) fun r => k (.p r) ρ
  | .index l a, ρ, k => kE call l ρ fun x ρ => R.bind (peek x ρ) fun d0 => R.bind (R.chk (isLstP d0)) fun _ => kE call a ρ fun y ρ => R.bind (peek x ρ) fun dx => R.bind (peek y ρ) fun dy =>
      R.bind (R.of (nkey dy)) fun q => R.bind (lstP dx) fun xs => R.bind (R.chk (scalP dy && xs.all scalP)) fun _ => R.bind (indexOf q xs) fun n => k (.p (.int n)) ρ
  | .app l a, ρ, k => kE call l ρ fun x ρ => R.bind (peek x ρ) fun d0 => R.bind (R.chk (isLstP d0)) fun _ => kE call a ρ fun y ρ =>
      R.bind (frz y ρ) fun z => R.bind (appW x z.1 z.2) fun ρ => k (.p .non) ρ
  | .appIx s i a, ρ, k => R.bind (evEo call (.appIx s i a) ρ) fun z => k z.1 z.2
  | .popAt l i, ρ, k => kE call l ρ fun x ρ => R.bind (peek x ρ) fun d0 => R.bind (R.chk (isLstP d0)) fun _ => kE call i ρ fun y ρ => R.bind (peek y ρ) fun d => R.bind (partP d) fun n => match x with
    | .ref q => R.bind (getOwn ρ q) fun m => R.bind (popMo m n) fun z => k (.p z.1) (ρ.set q (some (.own z.2)))
    | _ => .fail
  | .lc deep elt tg ik es cond own, ρ, k => R.bind (evEo call (.lc deep elt tg ik es cond own) ρ) fun z => k z.1 z.2
  | .dc kx vx tg ik es own, ρ, k => R.bind (evEo call (.dc kx vx tg ik es own) ρ) fun z => k z.1 z.2
  | .view e, ρ, k => R.bind (evEo call (.view e) ρ) fun z => k z.1 z.2
  | .tst _, _, _ => .fail
  | .not_ _, _, _ => .fail
def kEs (call : Call) : List CE → En → (List W → En → R β) → R β
  | [], ρ, k => k [] ρ
  | e :: es, ρ, k => kE call e ρ fun w ρ => kEs call es ρ fun ws ρ => k (w :: ws) ρ
def kO (call : Call) : Option CE → En → (Option Int → En → R β) → R β
  | none, ρ, k => k none ρ
  | some e, ρ, k => kE call e ρ fun x ρ => R.bind (peek x ρ) fun d => R.bind (partP d) fun n => k (some n) ρ
def kT (call : Call) : CE → En → (Bool → En → R β) → R β
  | .not_ a, ρ, k => kT call a ρ fun b ρ => k (!b) ρ
  | .bop .And a b, ρ, k => kT call a ρ fun x ρ => match x with
    | true => kT call b ρ k
    | false => k false ρ
  | .bop .Or a b, ρ, k => kT call a ρ fun x ρ => match x with
    | true => k true ρ
    | false => kT call b ρ k
  | .tst e, ρ, k => kE call e ρ fun x ρ => R.bind (peek x ρ) fun d => R.bind (truthP d) fun b => k b ρ
  | _, _, _ => .fail
end
mutual
def kS (call : Call) (lk : List Nat) : CS → En → (Fl → En → R β) → R β
  | .ex e, ρ, k => kE call e ρ fun _ ρ => k .nx ρ
  | .set i e, ρ, k => kE call e ρ fun w ρ => R.bind (bindS lk i w ρ) fun ρ => k .nx ρ
  | .unp is e, ρ, k => kE call e ρ fun w ρ => R.bind (peek w ρ) fun d => R.bind (bindT lk (.many is) d ρ) fun ρ => k .nx ρ
  | .par i j a b, ρ, k => kE call a ρ fun x ρ => kE call b ρ fun y ρ => R.bind (R.chk (i != j)) fun _ => R.bind (bindS lk i x ρ) fun ρ => R.bind (bindS lk j y ρ) fun ρ => k .nx ρ
  | .put o q v, ρ, k => kE call v ρ fun vw ρ => kE call o ρ fun ow ρ => kE call q ρ fun kw ρ => R.bind (peek kw ρ) fun kd => R.bind (frz vw ρ) fun z => R.bind (putW ow kd z.1 z.2) fun ρ => k .nx ρ
  | .ret e, ρ, k => kE call e ρ fun w ρ => R.bind (retW lk w ρ) fun w => k (.rt w) ρ
  | .retN, ρ, k => k (.rt (.p .non)) ρ
  | .ite c a b, ρ, k => kT call c ρ fun t ρ => match t with
    | true => kSs call lk a ρ k
    | false => kSs call lk b ρ k
  | .aug i o e, ρ, k => (match ρ[i]? with
    | some (some (.p (.int a))) => kE call e ρ fun y ρ => (match y with
      | .p (.int b) => (match o with
        | .Add => R.bind (bindS lk i (.p (.int (a + b))) ρ) fun ρ => k .nx ρ
        | .Sub => R.bind (bindS lk i (.p (.int (a - b))) ρ) fun ρ => k .nx ρ
        | _ => .fail)
      | _ => .fail)
    | _ => .fail)
  | .whl c b, ρ, k => R.bind (evSo call lk (.whl c b) ρ) fun z => k z.1 z.2
  | .for_ tg ik es b, ρ, k => R.bind (evSo call lk (.for_ tg ik es b) ρ) fun z => k z.1 z.2
  | .forTT is rows b, ρ, k => R.bind (evSo call lk (.forTT is rows b) ρ) fun z => k z.1 z.2
  | .brk, ρ, k => k .bk ρ
  | .cont, ρ, k => k .ct ρ
  | .pass, ρ, k => k .nx ρ
def kSs (call : Call) (lk : List Nat) : List CS → En → (Fl → En → R β) → R β
  | [], ρ, k => k .nx ρ
  | s :: ss, ρ, k => kS call lk s ρ fun f ρ => match f with
    | .nx => kSs call lk ss ρ k
    | f => k f ρ
end

theorem bindD {α γ : Type} (x : R α) (f : α → R γ) : (x >>= f) = R.bind x f := rfl
theorem bindF {α γ : Type} (f : α → R γ) : R.bind .fail f = .fail := rfl
theorem bindA {α γ δ : Type} (x : R α) (f : α → R γ) (g : γ → R δ) : R.bind (R.bind x f) g = R.bind x fun a => R.bind (f a) g := by cases x <;> rfl
mutual
theorem kE_eq (call : Call) : ∀ (e : CE) (ρ : En) (k : W → En → R β), kE call e ρ k = R.bind (evE call e ρ) fun z => k z.1 z.2
  | .c d, ρ, k => by simp only [kE, evE, R_bind]
  | .v i, ρ, k => by
    simp only [kE, evE]
    all_goals (split <;> simp only [R_bind, bindF, *])
  | .tup es, ρ, k => by
    simp only [kE, evE, bindD, bindA, R_bind, kE_eq call, kEs_eq call, kO_eq call, kT_eq call]
    all_goals (rcases evEs call es ρ with _ | ⟨ws, ρ1⟩; focus rfl)
    all_goals try simp only [bindD, bindA, R_bind, kE_eq call, kEs_eq call, kO_eq call, kT_eq call]
    all_goals (rcases frzs ws ρ1 with _ | ⟨ds, ρ2⟩; focus rfl)
    all_goals try simp only [bindD, bindA, R_bind, kE_eq call, kEs_eq call, kO_eq call, kT_eq call]
  | .lst es, ρ, k => by
    simp only [kE, evE, bindD, bindA, R_bind, kE_eq call, kEs_eq call, kO_eq call, kT_eq call]
    all_goals (rcases evEs call es ρ with _ | ⟨ws, ρ1⟩; focus rfl)
    all_goals try simp only [bindD, bindA, R_bind, kE_eq call, kEs_eq call, kO_eq call, kT_eq call]
    all_goals (rcases frzs ws ρ1 with _ | ⟨ds, ρ2⟩; focus rfl)
    all_goals try simp only [bindD, bindA, R_bind, kE_eq call, kEs_eq call, kO_eq call, kT_eq call]
  | .dct ks es, ρ, k => by
    simp only [kE, evE, bindD, bindA, R_bind, kE_eq call, kEs_eq call, kO_eq call, kT_eq call]
    all_goals (rcases evEs call es ρ with _ | ⟨ws, ρ1⟩; focus rfl)
    all_goals try simp only [bindD, bindA, R_bind, kE_eq call, kEs_eq call, kO_eq call, kT_eq call]
    all_goals (rcases frzs ws ρ1 with _ | ⟨ds, ρ2⟩; focus rfl)
    all_goals try simp only [bindD, bindA, R_bind, kE_eq call, kEs_eq call, kO_eq call, kT_eq call]
  | .bin o a b, ρ, k => by
    simp only [kE, evE, bindD, bindA, R_bind, kE_eq call, kEs_eq call, kO_eq call, kT_eq call]
    all_goals (rcases evE call a ρ with _ | ⟨x, ρ1⟩; focus rfl)
    all_goals try simp only [bindD, bindA, R_bind, kE_eq call, kEs_eq call, kO_eq call, kT_eq call]
    all_goals (rcases evE call b ρ1 with _ | ⟨y, ρ2⟩; focus rfl)
    all_goals try simp only [bindD, bindA, R_bind, kE_eq call, kEs_eq call, kO_eq call, kT_eq call]
  | .neg a, ρ, k => by
    simp only [kE, evE, bindD, bindA, R_bind, kE_eq call, kEs_eq call, kO_eq call, kT_eq call]
    all_goals (rcases evE call a ρ with _ | ⟨x, ρ1⟩; focus rfl)
    all_goals try simp only [bindD, bindA, R_bind, kE_eq call, kEs_eq call, kO_eq call, kT_eq call]
  | .notv a, ρ, k => by
    simp only [kE, evE, bindD, bindA, R_bind, kE_eq call, kEs_eq call, kO_eq call, kT_eq call]
    all_goals (rcases evE call a ρ with _ | ⟨x, ρ1⟩; focus rfl)
    all_goals try simp only [bindD, bindA, R_bind, kE_eq call, kEs_eq call, kO_eq call, kT_eq call]
    all_goals (split <;> first | rfl | simp only [R_bind, bindF])
  | .bop .And a b, ρ, k => by
    simp only [kE, evE, bindD, bindA, R_bind, kE_eq call, kEs_eq call, kO_eq call, kT_eq call]
    all_goals (rcases evE call a ρ with _ | ⟨x, ρ1⟩; focus rfl)
    all_goals try simp only [bindD, bindA, R_bind, kE_eq call, kEs_eq call, kO_eq call, kT_eq call]
    all_goals (split <;> (try simp only [bindD, bindA, R_bind, kE_eq call, kEs_eq call, kO_eq call, kT_eq call]) <;> rfl)
  | .bop .Or a b, ρ, k => by
    simp only [kE, evE, bindD, bindA, R_bind, kE_eq call, kEs_eq call, kO_eq call, kT_eq call]
    all_goals (rcases evE call a ρ with _ | ⟨x, ρ1⟩; focus rfl)
    all_goals try simp only [bindD, bindA, R_bind, kE_eq call, kEs_eq call, kO_eq call, kT_eq call]
    all_goals (split <;> (try simp only [bindD, bindA, R_bind, kE_eq call, kEs_eq call, kO_eq call, kT_eq call]) <;> rfl)
  | .cmp o a b, ρ, k => by
    simp only [kE, evE, cmpPo_eq, bindD, bindA, R_bind, kE_eq call, kEs_eq call, kO_eq call, kT_eq call]
    all_goals (rcases evE call a ρ with _ | ⟨x, ρ1⟩; focus rfl)
    all_goals try simp only [bindD, bindA, R_bind, kE_eq call, kEs_eq call, kO_eq call, kT_eq call]
    all_goals (rcases evE call b ρ1 with _ | ⟨y, ρ2⟩; focus rfl)
    all_goals try simp only [bindD, bindA, R_bind, kE_eq call, kEs_eq call, kO_eq call, kT_eq call]
  | .isn neg a b, ρ, k => by
    simp only [kE, evE, bindD, bindA, R_bind, kE_eq call, kEs_eq call, kO_eq call, kT_eq call]
    all_goals (rcases evE call a ρ with _ | ⟨x, ρ1⟩; focus rfl)
    all_goals try simp only [bindD, bindA, R_bind, kE_eq call, kEs_eq call, kO_eq call, kT_eq call]
    all_goals (rcases evE call b ρ1 with _ | ⟨y, ρ2⟩; focus rfl)
    all_goals try simp only [bindD, bindA, R_bind, kE_eq call, kEs_eq call, kO_eq call, kT_eq call]
  | .ife c a b, ρ, k => by
    simp only [kE, evE, bindD, bindA, R_bind, kE_eq call, kEs_eq call, kO_eq call, kT_eq call]
    all_goals (rcases evT call c ρ with _ | ⟨x, ρ1⟩; focus rfl)
    all_goals try simp only [bindD, bindA, R_bind, kE_eq call, kEs_eq call, kO_eq call, kT_eq call]
    all_goals (cases x <;> simp)
  | .ix a b, ρ, k => by
    simp only [kE, evE, bindD, bindA, R_bind, kE_eq call, kEs_eq call, kO_eq call, kT_eq call]
    all_goals (rcases evE call a ρ with _ | ⟨x, ρ1⟩; focus rfl)
    all_goals try simp only [bindD, bindA, R_bind, kE_eq call, kEs_eq call, kO_eq call, kT_eq call]
    all_goals (rcases evE call b ρ1 with _ | ⟨y, ρ2⟩; focus rfl)
    all_goals try simp only [bindD, bindA, R_bind, kE_eq call, kEs_eq call, kO_eq call, kT_eq call]
  | .sl a lo hi, ρ, k => by
    simp only [kE, evE, bindD, bindA, R_bind, kE_eq call, kEs_eq call, kO_eq call, kT_eq call]
    all_goals (rcases evE call a ρ with _ | ⟨x, ρ1⟩; focus rfl)
    all_goals try simp only [bindD, bindA, R_bind, kE_eq call, kEs_eq call, kO_eq call, kT_eq call]
    all_goals (rcases evO call lo ρ1 with _ | ⟨l, ρ2⟩; focus rfl)
    all_goals try simp only [bindD, bindA, R_bind, kE_eq call, kEs_eq call, kO_eq call, kT_eq call]
    all_goals (rcases evO call hi ρ2 with _ | ⟨h, ρ3⟩; focus rfl)
    all_goals try simp only [bindD, bindA, R_bind, kE_eq call, kEs_eq call, kO_eq call, kT_eq call]
  | .call f es, ρ, k => by
    simp only [kE, evE, bindD, bindA, R_bind, kE_eq call, kEs_eq call, kO_eq call, kT_eq call]
    all_goals (rcases evEs call es ρ with _ | ⟨ws, ρ1⟩; focus rfl)
    all_goals try simp only [bindD, bindA, R_bind, kE_eq call, kEs_eq call, kO_eq call, kT_eq call]
    all_goals try simp only [callW, bindD, bindA]
    all_goals (rcases R.chk (nodupB (refsOf ws)) with _ | u; focus rfl)
    all_goals try simp only [R_bind]
    all_goals (rcases argSs ws ρ1 with _ | ss; focus rfl)
    all_goals try simp only [R_bind]
    all_goals (rcases call f ss with _ | ⟨w, s2⟩; focus rfl)
    all_goals try simp only [R_bind, bindA]
  | .b1 b a, ρ, k => by
    simp only [kE, evE, bindD, bindA, R_bind, kE_eq call, kEs_eq call, kO_eq call, kT_eq call]
    all_goals (rcases evE call a ρ with _ | ⟨x, ρ1⟩; focus rfl)
    all_goals try simp only [bindD, bindA, R_bind, kE_eq call, kEs_eq call, kO_eq call, kT_eq call]
  | .min2 a b, ρ, k => by
    simp only [kE, evE, bindD, bindA, R_bind, kE_eq call, kEs_eq call, kO_eq call, kT_eq call]
    all_goals (rcases evE call a ρ with _ | ⟨x, ρ1⟩; focus rfl)
    all_goals try simp only [bindD, bindA, R_bind, kE_eq call, kEs_eq call, kO_eq call, kT_eq call]
    all_goals (rcases evE call b ρ1 with _ | ⟨y, ρ2⟩; focus rfl)
    all_goals try simp only [bindD, bindA, R_bind, kE_eq call, kEs_eq call, kO_eq call, kT_eq call]
  | .max2 a b, ρ, k => by
    simp only [kE, evE, bindD, bindA, R_bind, kE_eq call, kEs_eq call, kO_eq call, kT_eq call]
    all_goals (rcases evE call a ρ with _ | ⟨x, ρ1⟩; focus rfl)
    all_goals try simp only [bindD, bindA, R_bind, kE_eq call, kEs_eq call, kO_eq call, kT_eq call]
    all_goals (rcases evE call b ρ1 with _ | ⟨y, ρ2⟩; focus rfl)
    all_goals try simp only [bindD, bindA, R_bind, kE_eq call, kEs_eq call, kO_eq call, kT_eq call]
  | .isi a t, ρ, k => by
    simp only [kE, evE, bindD, bindA, R_bind, kE_eq call, kEs_eq call, kO_eq call, kT_eq call]
    all_goals (rcases evE call a ρ with _ | ⟨x, ρ1⟩; focus rfl)
    all_goals try simp only [bindD, bindA, R_bind, kE_eq call, kEs_eq call, kO_eq call, kT_eq call]
  | .get d q x, ρ, k => by
    simp only [kE, evE, bindD, bindA, R_bind, kE_eq call, kEs_eq call, kO_eq call, kT_eq call]
    all_goals (rcases evE call d ρ with _ | ⟨dw, ρ1⟩; focus rfl)
    all_goals try simp only [bindD, bindA, R_bind, kE_eq call, kEs_eq call, kO_eq call, kT_eq call]
    all_goals (rcases peek dw ρ1 with _ | d0; focus rfl)
    all_goals try simp only [bindD, bindA, R_bind, kE_eq call, kEs_eq call, kO_eq call, kT_eq call]
    all_goals (rcases R.chk (isDictP d0) with _ | u; focus rfl)
    all_goals try simp only [bindD, bindA, R_bind, kE_eq call, kEs_eq call, kO_eq call, kT_eq call]
    all_goals (rcases evE call q ρ1 with _ | ⟨kw, ρ2⟩; focus rfl)
    all_goals try simp only [bindD, bindA, R_bind, kE_eq call, kEs_eq call, kO_eq call, kT_eq call]
    all_goals (rcases evE call x ρ2 with _ | ⟨xw, ρ3⟩; focus rfl)
    all_goals try simp only [bindD, bindA, R_bind, kE_eq call, kEs_eq call, kO_eq call, kT_eq call]
    all_goals (rcases peek dw ρ3 with _ | dd; focus rfl)
    all_goals try simp only [bindD, bindA, R_bind, kE_eq call, kEs_eq call, kO_eq call, kT_eq call]
    all_goals (rcases peek kw ρ3 with _ | kd; focus rfl)
    all_goals try simp only [bindD, bindA, R_bind, kE_eq call, kEs_eq call, kO_eq call, kT_eq call]
    all_goals (rcases frz xw ρ3 with _ | ⟨xd, ρ4⟩; focus rfl)
    all_goals try simp only [bindD, bindA, R_bind, kE_eq call, kEs_eq call, kO_eq call, kT_eq call]
  | .join s a, ρ, k => by
    simp only [kE, evE, bindD, bindA, R_bind, kE_eq call, kEs_eq call, kO_eq call, kT_eq call]
    all_goals (rcases evE call s ρ with _ | ⟨dw, ρ1⟩; focus rfl)
    all_goals try simp only [bindD, bindA, R_bind, kE_eq call, kEs_eq call, kO_eq call, kT_eq call]
    all_goals (rcases peek dw ρ1 with _ | d0; focus rfl)
    all_goals try simp only [bindD, bindA, R_bind, kE_eq call, kEs_eq call, kO_eq call, kT_eq call]
    all_goals (rcases R.chk (isStrP d0) with _ | u; focus rfl)
    all_goals try simp only [bindD, bindA, R_bind, kE_eq call, kEs_eq call, kO_eq call, kT_eq call]
    all_goals (rcases evE call a ρ1 with _ | ⟨kw, ρ2⟩; focus rfl)
    all_goals try simp only [bindD, bindA, R_bind, kE_eq call, kEs_eq call, kO_eq call, kT_eq call]
  | .app l a, ρ, k => by
    simp only [kE, evE, bindD, bindA, R_bind, kE_eq call, kEs_eq call, kO_eq call, kT_eq call]
    all_goals (rcases evE call l ρ with _ | ⟨dw, ρ1⟩; focus rfl)
    all_goals try simp only [bindD, bindA, R_bind, kE_eq call, kEs_eq call, kO_eq call, kT_eq call]
    all_goals (rcases peek dw ρ1 with _ | d0; focus rfl)
    all_goals try simp only [bindD, bindA, R_bind, kE_eq call, kEs_eq call, kO_eq call, kT_eq call]
    all_goals (rcases R.chk (isLstP d0) with _ | u; focus rfl)
    all_goals try simp only [bindD, bindA, R_bind, kE_eq call, kEs_eq call, kO_eq call, kT_eq call]
    all_goals (rcases evE call a ρ1 with _ | ⟨kw, ρ2⟩; focus rfl)
    all_goals try simp only [bindD, bindA, R_bind, kE_eq call, kEs_eq call, kO_eq call, kT_eq call]
    all_goals (rcases frz kw ρ2 with _ | ⟨xd, ρ4⟩; focus rfl)
    all_goals try simp only [bindD, bindA, R_bind, kE_eq call, kEs_eq call, kO_eq call, kT_eq call]
  | .index l a, ρ, k => by
    simp only [kE, evE, bindD, bindA, R_bind, kE_eq call, kEs_eq call, kO_eq call, kT_eq call]
    all_goals (rcases evE call l ρ with _ | ⟨dw, ρ1⟩; focus rfl)
    all_goals try simp only [bindD, bindA, R_bind, kE_eq call, kEs_eq call, kO_eq call, kT_eq call]
    all_goals (rcases peek dw ρ1 with _ | d0; focus rfl)
    all_goals try simp only [bindD, bindA, R_bind, kE_eq call, kEs_eq call, kO_eq call, kT_eq call]
    all_goals (rcases R.chk (isLstP d0) with _ | u; focus rfl)
    all_goals try simp only [bindD, bindA, R_bind, kE_eq call, kEs_eq call, kO_eq call, kT_eq call]
    all_goals (rcases evE call a ρ1 with _ | ⟨kw, ρ2⟩; focus rfl)
    all_goals try simp only [bindD, bindA, R_bind, kE_eq call, kEs_eq call, kO_eq call, kT_eq call]
  | .appIx s i a, ρ, k => by simp only [kE, evEo_eq]
  | .popAt l i, ρ, k => by
    simp only [kE, evE, popMo_eq, bindD, bindA, R_bind, kE_eq call, kEs_eq call, kO_eq call, kT_eq call]
    all_goals (rcases evE call l ρ with _ | ⟨dw, ρ1⟩; focus rfl)
    all_goals try simp only [bindD, bindA, R_bind, kE_eq call, kEs_eq call, kO_eq call, kT_eq call]
    all_goals (rcases peek dw ρ1 with _ | d0; focus rfl)
    all_goals try simp only [bindD, bindA, R_bind, kE_eq call, kEs_eq call, kO_eq call, kT_eq call]
    all_goals (rcases R.chk (isLstP d0) with _ | u; focus rfl)
    all_goals try simp only [bindD, bindA, R_bind, kE_eq call, kEs_eq call, kO_eq call, kT_eq call]
    all_goals (rcases evE call i ρ1 with _ | ⟨kw, ρ2⟩; focus rfl)
    all_goals try simp only [bindD, bindA, R_bind, kE_eq call, kEs_eq call, kO_eq call, kT_eq call]
    all_goals (rcases peek kw ρ2 with _ | d; focus rfl)
    all_goals try simp only [bindD, bindA, R_bind, kE_eq call, kEs_eq call, kO_eq call, kT_eq call]
    all_goals (rcases partP d with _ | n; focus rfl)
    all_goals try simp only [bindD, bindA, R_bind, kE_eq call, kEs_eq call, kO_eq call, kT_eq call]
    all_goals (cases dw <;> first | rfl | simp only [bindD, bindA, R_bind])
  | .lc deep elt tg ik es cond own, ρ, k => by simp only [kE, evEo_eq]
  | .dc kx vx tg ik es own, ρ, k => by simp only [kE, evEo_eq]
  | .view e, ρ, k => by simp only [kE, evEo_eq]
  | .tst e, ρ, k => by simp only [kE, evE, bindF]
  | .not_ e, ρ, k => by simp only [kE, evE, bindF]
theorem kEs_eq (call : Call) : ∀ (es : List CE) (ρ : En) (k : List W → En → R β), kEs call es ρ k = R.bind (evEs call es ρ) fun z => k z.1 z.2
  | [], ρ, k => by simp only [kEs, evEs, R_bind]
  | e :: es, ρ, k => by
    simp only [kEs, evEs, bindD, bindA, R_bind, kE_eq call, kEs_eq call, kO_eq call, kT_eq call]
    all_goals (rcases evE call e ρ with _ | ⟨w, ρ1⟩; focus rfl)
    all_goals try simp only [bindD, bindA, R_bind, kE_eq call, kEs_eq call, kO_eq call, kT_eq call]
    all_goals (rcases evEs call es ρ1 with _ | ⟨ws, ρ2⟩; focus rfl)
    all_goals try simp only [bindD, bindA, R_bind, kE_eq call, kEs_eq call, kO_eq call, kT_eq call]
theorem kO_eq (call : Call) : ∀ (o : Option CE) (ρ : En) (k : Option Int → En → R β), kO call o ρ k = R.bind (evO call o ρ) fun z => k z.1 z.2
  | none, ρ, k => by simp only [kO, evO, R_bind]
  | some e, ρ, k => by
    simp only [kO, evO, bindD, bindA, R_bind, kE_eq call, kEs_eq call, kO_eq call, kT_eq call]
    all_goals (rcases evE call e ρ with _ | ⟨w, ρ1⟩; focus rfl)
    all_goals try simp only [bindD, bindA, R_bind, kE_eq call, kEs_eq call, kO_eq call, kT_eq call]
theorem kT_eq (call : Call) : ∀ (e : CE) (ρ : En) (k : Bool → En → R β), kT call e ρ k = R.bind (evT call e ρ) fun z => k z.1 z.2
  | .not_ a, ρ, k => by
    simp only [kT, evT, bindD, bindA, R_bind, kE_eq call, kEs_eq call, kO_eq call, kT_eq call]
    all_goals (rcases evT call a ρ with _ | ⟨x, ρ1⟩; focus rfl)
    all_goals try simp only [bindD, bindA, R_bind, kE_eq call, kEs_eq call, kO_eq call, kT_eq call]
  | .bop .And a b, ρ, k => by
    simp only [kT, evT, bindD, bindA, R_bind, kE_eq call, kEs_eq call, kO_eq call, kT_eq call]
    all_goals (rcases evT call a ρ with _ | ⟨x, ρ1⟩; focus rfl)
    all_goals try simp only [bindD, bindA, R_bind, kE_eq call, kEs_eq call, kO_eq call, kT_eq call]
    all_goals (cases x <;> simp [R_bind])
  | .bop .Or a b, ρ, k => by
    simp only [kT, evT, bindD, bindA, R_bind, kE_eq call, kEs_eq call, kO_eq call, kT_eq call]
    all_goals (rcases evT call a ρ with _ | ⟨x, ρ1⟩; focus rfl)
    all_goals try simp only [bindD, bindA, R_bind, kE_eq call, kEs_eq call, kO_eq call, kT_eq call]
    all_goals (cases x <;> simp [R_bind])
  | .tst e, ρ, k => by
    simp only [kT, evT, bindD, bindA, R_bind, kE_eq call, kEs_eq call, kO_eq call, kT_eq call]
    all_goals (rcases evE call e ρ with _ | ⟨x, ρ1⟩; focus rfl)
    all_goals try simp only [bindD, bindA, R_bind, kE_eq call, kEs_eq call, kO_eq call, kT_eq call]
  | .c d, ρ, k => by simp only [kT, evT, bindF]
  | .v i, ρ, k => by simp only [kT, evT, bindF]
  | .tup es, ρ, k => by simp only [kT, evT, bindF]
  | .lst es, ρ, k => by simp only [kT, evT, bindF]
  | .dct ks vs, ρ, k => by simp only [kT, evT, bindF]
  | .bin o a b, ρ, k => by simp only [kT, evT, bindF]
  | .neg a, ρ, k => by simp only [kT, evT, bindF]
  | .notv a, ρ, k => by simp only [kT, evT, bindF]
  | .view a, ρ, k => by simp only [kT, evT, bindF]
  | .cmp o a b, ρ, k => by simp only [kT, evT, bindF]
  | .isn n a b, ρ, k => by simp only [kT, evT, bindF]
  | .ife c a b, ρ, k => by simp only [kT, evT, bindF]
  | .ix a b, ρ, k => by simp only [kT, evT, bindF]
  | .sl a b c, ρ, k => by simp only [kT, evT, bindF]
  | .call f es, ρ, k => by simp only [kT, evT, bindF]
  | .b1 b a, ρ, k => by simp only [kT, evT, bindF]
  | .min2 a b, ρ, k => by simp only [kT, evT, bindF]
  | .max2 a b, ρ, k => by simp only [kT, evT, bindF]
  | .isi a t, ρ, k => by simp only [kT, evT, bindF]
  | .get a b c, ρ, k => by simp only [kT, evT, bindF]
  | .join a b, ρ, k => by simp only [kT, evT, bindF]
  | .index a b, ρ, k => by simp only [kT, evT, bindF]
  | .app a b, ρ, k => by simp only [kT, evT, bindF]
  | .appIx a b c, ρ, k => by simp only [kT, evT, bindF]
  | .popAt a b, ρ, k => by simp only [kT, evT, bindF]
  | .lc a b c d e f g, ρ, k => by simp only [kT, evT, bindF]
  | .dc a b c d e f, ρ, k => by simp only [kT, evT, bindF]
end
mutual
theorem kS_eq (call : Call) (lk : List Nat) : ∀ (s : CS) (ρ : En) (k : Fl → En → R β), kS call lk s ρ k = R.bind (evS call lk s ρ) fun z => k z.1 z.2
  | .ex e, ρ, k => by
    simp only [kS, evS, bindD, bindA, R_bind, kE_eq call, kEs_eq call, kO_eq call, kT_eq call, kS_eq call lk, kSs_eq call lk]
    all_goals (rcases evE call e ρ with _ | ⟨w, ρ1⟩; focus rfl)
    all_goals try simp only [bindD, bindA, R_bind, kE_eq call, kEs_eq call, kO_eq call, kT_eq call, kS_eq call lk, kSs_eq call lk]
  | .set i e, ρ, k => by
    simp only [kS, evS, bindD, bindA, R_bind, kE_eq call, kEs_eq call, kO_eq call, kT_eq call, kS_eq call lk, kSs_eq call lk]
    all_goals (rcases evE call e ρ with _ | ⟨w, ρ1⟩; focus rfl)
    all_goals try simp only [bindD, bindA, R_bind, kE_eq call, kEs_eq call, kO_eq call, kT_eq call, kS_eq call lk, kSs_eq call lk]
  | .unp is e, ρ, k => by
    simp only [kS, evS, bindD, bindA, R_bind, kE_eq call, kEs_eq call, kO_eq call, kT_eq call, kS_eq call lk, kSs_eq call lk]
    all_goals (rcases evE call e ρ with _ | ⟨w, ρ1⟩; focus rfl)
    all_goals try simp only [bindD, bindA, R_bind, kE_eq call, kEs_eq call, kO_eq call, kT_eq call, kS_eq call lk, kSs_eq call lk]
  | .par i j a b, ρ, k => by
    simp only [kS, evS, bindD, bindA, R_bind, kE_eq call, kEs_eq call, kO_eq call, kT_eq call, kS_eq call lk, kSs_eq call lk]
    all_goals (rcases evE call a ρ with _ | ⟨w, ρ1⟩; focus rfl)
    all_goals try simp only [bindD, bindA, R_bind, kE_eq call, kEs_eq call, kO_eq call, kT_eq call, kS_eq call lk, kSs_eq call lk]
    all_goals (rcases evE call b ρ1 with _ | ⟨u, ρ2⟩; focus rfl)
    all_goals try simp only [bindD, bindA, R_bind, kE_eq call, kEs_eq call, kO_eq call, kT_eq call, kS_eq call lk, kSs_eq call lk]
  | .put o q v, ρ, k => by
    simp only [kS, evS, bindD, bindA, R_bind, kE_eq call, kEs_eq call, kO_eq call, kT_eq call, kS_eq call lk, kSs_eq call lk]
    all_goals (rcases evE call v ρ with _ | ⟨vw, ρ1⟩; focus rfl)
    all_goals try simp only [bindD, bindA, R_bind, kE_eq call, kEs_eq call, kO_eq call, kT_eq call, kS_eq call lk, kSs_eq call lk]
    all_goals (rcases evE call o ρ1 with _ | ⟨ow, ρ2⟩; focus rfl)
    all_goals try simp only [bindD, bindA, R_bind, kE_eq call, kEs_eq call, kO_eq call, kT_eq call, kS_eq call lk, kSs_eq call lk]
    all_goals (rcases evE call q ρ2 with _ | ⟨kw, ρ3⟩; focus rfl)
    all_goals try simp only [bindD, bindA, R_bind, kE_eq call, kEs_eq call, kO_eq call, kT_eq call, kS_eq call lk, kSs_eq call lk]
    all_goals (rcases peek kw ρ3 with _ | kd; focus rfl)
    all_goals try simp only [bindD, bindA, R_bind, kE_eq call, kEs_eq call, kO_eq call, kT_eq call, kS_eq call lk, kSs_eq call lk]
    all_goals (rcases frz vw ρ3 with _ | ⟨vd, ρ4⟩; focus rfl)
    all_goals try simp only [bindD, bindA, R_bind, kE_eq call, kEs_eq call, kO_eq call, kT_eq call, kS_eq call lk, kSs_eq call lk]
  | .ret e, ρ, k => by
    simp only [kS, evS, bindD, bindA, R_bind, kE_eq call, kEs_eq call, kO_eq call, kT_eq call, kS_eq call lk, kSs_eq call lk]
    all_goals (rcases evE call e ρ with _ | ⟨w, ρ1⟩; focus rfl)
    all_goals try simp only [bindD, bindA, R_bind, kE_eq call, kEs_eq call, kO_eq call, kT_eq call, kS_eq call lk, kSs_eq call lk]
  | .retN, ρ, k => by simp only [kS, evS, R_bind]
  | .ite c a b, ρ, k => by
    simp only [kS, evS, bindD, bindA, R_bind, kE_eq call, kEs_eq call, kO_eq call, kT_eq call, kS_eq call lk, kSs_eq call lk]
    all_goals (rcases evT call c ρ with _ | ⟨t, ρ1⟩; focus rfl)
    all_goals try simp only [bindD, bindA, R_bind, kE_eq call, kEs_eq call, kO_eq call, kT_eq call, kS_eq call lk, kSs_eq call lk]
    all_goals (cases t <;> simp)
  | .aug i o e, ρ, k => by
    simp only [kS, evS, kE_eq call, kEs_eq call, kO_eq call, kT_eq call]
    generalize ρ[i]? = s
    rcases s with _ | _ | d
    · rfl
    · rfl
    cases d with
    | p d => cases d with
      | int a =>
        simp only [bindD, bindA]
        rcases evE call e ρ with _ | ⟨y, ρ1⟩
        · rfl
        simp only [R_bind]
        cases y with
        | p d => cases d with
          | int b => cases o <;> first | rfl | simp only [bindD, bindA, R_bind]
          | _ => rfl
        | _ => rfl
      | _ => rfl
    | _ => rfl
  | .whl c b, ρ, k => by simp only [kS, evSo_eq]
  | .for_ tg ik es b, ρ, k => by simp only [kS, evSo_eq]
  | .forTT is rows b, ρ, k => by simp only [kS, evSo_eq]
  | .brk, ρ, k => by simp only [kS, evS, R_bind]
  | .cont, ρ, k => by simp only [kS, evS, R_bind]
  | .pass, ρ, k => by simp only [kS, evS, R_bind]
theorem kSs_eq (call : Call) (lk : List Nat) : ∀ (ss : List CS) (ρ : En) (k : Fl → En → R β), kSs call lk ss ρ k = R.bind (evSs call lk ss ρ) fun z => k z.1 z.2
  | [], ρ, k => by simp only [kSs, evSs, R_bind]
  | s :: ss, ρ, k => by
    simp only [kSs, evSs, bindD, bindA, R_bind, kE_eq call, kEs_eq call, kO_eq call, kT_eq call, kS_eq call lk, kSs_eq call lk]
    all_goals (rcases evS call lk s ρ with _ | ⟨f, ρ1⟩; focus rfl)
    all_goals try simp only [bindD, bindA, R_bind, kE_eq call, kEs_eq call, kO_eq call, kT_eq call, kS_eq call lk, kSs_eq call lk]
    all_goals (cases f <;> simp only [R_bind, kE_eq call, kEs_eq call, kO_eq call, kT_eq call, kS_eq call lk, kSs_eq call lk])
end
end

/-- a def's run -/
noncomputable def kF (call : Call) (F : Fn) (as : List Sl) : R (W × List Sl) :=
  R.bind (R.chk (decide (as.length = F.np) && noSrefA as && as.all flatSl && decide (F.np ≤ F.nl))) fun _ =>
    kSs call (refArgs 0 as) F.body (as.map some ++ List.replicate (F.nl - F.np) none) fun f ρ => R.bind (flW f) fun w => R.bind (outs as ρ) fun r => .ok (w, r)
theorem kF_eq (call : Call) (F : Fn) (as : List Sl) : kF call F as = runFn call F as := by
  simp only [kF, runFn, kSs_eq, bindD]
/-- what is stuck is told -/
theorem stp {α γ : Type} {x : R α} {a : α} {f : α → R γ} {r : R γ} (h : x = .ok a) (g : f a = r) : R.bind x f = r := by rw [h]; exact g
end Ev

/-! EvRun: loops and comprehensions for the run with what is stuck in front. -/
namespace Ev
open PySem PySem.Spec PyProof.Rows L2
theorem bind_id {α γ : Type} (x : R (α × γ)) : (R.bind x fun z => .ok (z.1, z.2)) = x := by cases x <;> rfl
theorem kSs_run {call : Call} {lk : List Nat} {b : List CS} {ρ : En} {r : R (Fl × En)} (h : kSs call lk b ρ (fun f ρ => .ok (f, ρ)) = r) : evSs call lk b ρ = r := by
  rw [kSs_eq] at h; rw [← h]; exact (bind_id _).symm
theorem kE_run {call : Call} {e : CE} {ρ : En} {r : R (W × En)} (h : kE call e ρ (fun f ρ => .ok (f, ρ)) = r) : evE call e ρ = r := by
  rw [kE_eq] at h; rw [← h]; exact (bind_id _).symm
theorem kEs_run {call : Call} {e : List CE} {ρ : En} {r : R (List W × En)} (h : kEs call e ρ (fun f ρ => .ok (f, ρ)) = r) : evEs call e ρ = r := by
  rw [kEs_eq] at h; rw [← h]; exact (bind_id _).symm
theorem kT_run {call : Call} {e : CE} {ρ : En} {r : R (Bool × En)} (h : kT call e ρ (fun f ρ => .ok (f, ρ)) = r) : evT call e ρ = r := by
  rw [kT_eq] at h; rw [← h]; exact (bind_id _).symm
theorem kF_run {call : Call} {F : Fn} {as : List Sl} {r : R (W × List Sl)} (h : kF call F as = r) : runFn call F as = r := by rw [← kF_eq]; exact h
/-! ### for -/
noncomputable def forK (call : Call) (lk : List Nat) (tg : TG) (b : List CS) : P → En → R (Fl × En) := fun x ρ => R.bind (bindT lk tg x ρ) fun ρ => kSs call lk b ρ fun f ρ => .ok (f, ρ)
theorem for_run {call : Call} {lk : List Nat} {tg : TG} {ik : IK} {es : List CE} {b : List CS} {ρ ρ1 ρ2 ρ3 : En} {ws : List W} {xs : List P} {f : Fl} (h1 : evEs call es ρ = .ok (ws, ρ1)) (h2 : items ik ws ρ1 = .ok xs)
    (h3 : forLoop (forK call (lk ++ refsOf ws) tg b) xs (lockAll ws ρ1) = .ok (f, ρ2)) (h4 : freeGo (refsOf ws) 0 ρ1 ρ2 = .ok ρ3) : evS call lk (.for_ tg ik es b) ρ = .ok (f, ρ3) := by
  have e : forK call (lk ++ refsOf ws) tg b = fun x ρ => (do
      let ρ ← bindT (lk ++ refsOf ws) tg x ρ
      evSs call (lk ++ refsOf ws) b ρ) := by
    funext x ρ
    simp only [forK, bindD, kSs_eq, bind_id]
  rw [e] at h3
  simp only [evS, h1, h2, h3, h4, bind_ok]
/-- the loop ends by itself; the invariant speaks of what is done -/
theorem forLoop_inv {step : P → En → R (Fl × En)} {xs : List P} (Inv : List P → En → Prop) (h : ∀ pre x post ρ, xs = pre ++ x :: post → Inv pre ρ → ∃ f ρ', step x ρ = .ok (f, ρ') ∧ (f = .nx ∨ f = .ct) ∧ Inv (pre ++ [x]) ρ') {ρ : En} (h0 : Inv [] ρ) :
    ∃ ρ', forLoop step xs ρ = .ok (.nx, ρ') ∧ Inv xs ρ' := by
  suffices H : ∀ post pre ρ, xs = pre ++ post → Inv pre ρ → ∃ ρ', forLoop step post ρ = .ok (.nx, ρ') ∧ Inv xs ρ' from H xs [] ρ rfl h0
  intro post
  induction post with
  | nil => intro pre ρ e i; exact ⟨ρ, rfl, by rw [e, List.append_nil]; exact i⟩
  | cons x post ih =>
    intro pre ρ e i
    obtain ⟨f, ρ1, e1, hf, i1⟩ := h pre x post ρ e i
    obtain ⟨ρ2, e2, i2⟩ := ih (pre ++ [x]) ρ1 (by simp [e]) i1
    refine ⟨ρ2, ?_, i2⟩
    rcases hf with rfl | rfl <;> simp [forLoop, e1, e2]
theorem forLoop_invM {α : Type} {enc : α → P} {step : P → En → R (Fl × En)} {ys : List α} (Inv : List α → En → Prop) (h : ∀ pre x post ρ, ys = pre ++ x :: post → Inv pre ρ → ∃ f ρ', step (enc x) ρ = .ok (f, ρ') ∧ (f = .nx ∨ f = .ct) ∧ Inv (pre ++ [x]) ρ') {ρ : En} (h0 : Inv [] ρ) :
    ∃ ρ', forLoop step (ys.map enc) ρ = .ok (.nx, ρ') ∧ Inv ys ρ' := by
  suffices H : ∀ post pre ρ, ys = pre ++ post → Inv pre ρ → ∃ ρ', forLoop step (post.map enc) ρ = .ok (.nx, ρ') ∧ Inv ys ρ' from H ys [] ρ rfl h0
  intro post
  induction post with
  | nil => intro pre ρ e i; exact ⟨ρ, rfl, by rw [e, List.append_nil]; exact i⟩
  | cons x post ih =>
    intro pre ρ e i
    obtain ⟨f, ρ1, e1, hf, i1⟩ := h pre x post ρ e i
    obtain ⟨ρ2, e2, i2⟩ := ih (pre ++ [x]) ρ1 (by simp [e]) i1
    refine ⟨ρ2, ?_, i2⟩
    rcases hf with rfl | rfl <;> simp [forLoop, e1, e2]
/-- over a range -/
theorem forLoop_rng {step : P → En → R (Fl × En)} {m : Int} {n : Nat} (Inv : Nat → En → Prop) (h : ∀ k ρ, k < n → Inv k ρ → ∃ f ρ', step (.int (m + k)) ρ = .ok (f, ρ') ∧ (f = .nx ∨ f = .ct) ∧ Inv (k + 1) ρ') {ρ : En} (h0 : Inv 0 ρ) :
    ∃ ρ', forLoop step (rngP m (m + n)) ρ = .ok (.nx, ρ') ∧ Inv n ρ' := by
  have e : rngP m (m + n) = (List.range n).map fun (k : Nat) => P.int (m + k) := by
    have : (m + (n : Int) - m).toNat = n := by omega
    simp only [rngP, this]
  rw [e]
  obtain ⟨ρ', e1, i⟩ := forLoop_invM (enc := fun (k : Nat) => P.int (m + k)) (ys := List.range n) (step := step) (fun pre ρ => Inv pre.length ρ) (fun pre x post ρ e i => by
    have hx : x = pre.length ∧ pre.length < n := by
      have hl := congrArg List.length e
      simp at hl
      have := congrArg (fun l => l[pre.length]?) e
      simp [List.getElem?_range (show pre.length < n by omega)] at this
      exact ⟨this.symm, by omega⟩
    obtain ⟨rfl, hl⟩ := hx
    obtain ⟨f, ρ', a, b, c⟩ := h pre.length ρ hl i
    exact ⟨f, ρ', a, b, by simpa using c⟩) (ρ := ρ) h0
  exact ⟨ρ', e1, by simpa using i⟩
/-! ### comprehensions -/
noncomputable section
variable {β : Type}
def kC (call : Call) (o : Option CE) (ρ : En) (k : Bool → En → R β) : R β := match o with
  | none => k true ρ
  | some e => kT call e ρ k
theorem kC_eq (call : Call) (o : Option CE) (ρ : En) (k : Bool → En → R β) : kC call o ρ k = R.bind (evC call o ρ) fun z => k z.1 z.2 := by
  cases o with
  | none => rfl
  | some e => exact kT_eq call e ρ k
end
noncomputable def lcK (call : Call) (elt : CE) (tg : TG) (cond : Option CE) (own : List Nat) : P → En → R (Option W × En) := fun x ρ => R.bind (bindT [] tg x ρ) fun ρ => kC call cond ρ fun t ρ => match t with
  | true => kE call elt ρ fun w ρ => R.bind (frzW w ρ) fun z => .ok (some z.1, hideS own z.2)
  | false => .ok (none, hideS own ρ)
theorem lcK_eq (call : Call) (elt : CE) (tg : TG) (cond : Option CE) (own : List Nat) : lcK call elt tg cond own = lcStep call false elt tg cond own := by
  funext x ρ
  simp only [lcK, lcStep, bindD, kC_eq, kE_eq]
  rcases bindT [] tg x ρ with _ | ρ1
  · rfl
  simp only [R_bind]
  rcases evC call cond ρ1 with _ | ⟨t, ρ2⟩
  · rfl
  cases t <;> simp [R_bind]
theorem lc_run {call : Call} {elt : CE} {tg : TG} {ik : IK} {es : List CE} {cond : Option CE} {own : List Nat} {ρ ρ1 ρh ρn ρ2 : En} {ws : List W} {xs : List P} {r : List W} {ds : List P} (h1 : evEs call es ρ = .ok (ws, ρ1)) (h2 : items ik ws ρ1 = .ok xs) (h3 : tgIn own tg = true) (h4 : xs.length < sizeLine)
    (h0 : hideS own (lockAll ws ρ1) = ρh) (h5 : lcLoop (lcK call elt tg cond own) xs ρh = .ok (r, ρn)) (h6 : leaveGo own (refsOf ws) 0 ρ1 ρn = .ok ρ2) (h7 : pOf r = .ok ds) : evE call (.lc false elt tg ik es cond own) ρ = .ok (.tmp (.lst ds), ρ2) := by
  subst h0
  rw [lcK_eq] at h5
  exact ev_lc h1 h2 h3 h4 h5 h6 h7
/-- nothing is changed; each item is kept or not -/
theorem lc_filter0 {α : Type} {enc : α → P} (ys : List α) (c : α → Bool) (g : α → P) {call : Call} {elt : CE} {tg : TG} {ik : IK} {es : List CE} {cond : Option CE} {own : List Nat} {ρ ρ1 ρh ρ2 : En} {ws : List W} {xs : List P} (h1 : evEs call es ρ = .ok (ws, ρ1)) (h2 : items ik ws ρ1 = .ok xs) (hx : xs = ys.map enc) (h3 : tgIn own tg = true) (h4 : ys.length < sizeLine)
    (h0 : hideS own (lockAll ws ρ1) = ρh) (h5 : ∀ y ∈ ys, lcK call elt tg cond own (enc y) ρh = .ok (if c y then some (.p (g y)) else none, ρh)) (h6 : leaveGo own (refsOf ws) 0 ρ1 ρh = .ok ρ2) : evE call (.lc false elt tg ik es cond own) ρ = .ok (.tmp (.lst ((ys.filter c).map g)), ρ2) := by
  subst hx
  have : ∃ r, lcLoop (lcK call elt tg cond own) (ys.map enc) ρh = .ok (r, ρh) ∧ pOf r = .ok ((ys.filter c).map g) := by
    clear h1 h2 h4
    induction ys with
    | nil => exact ⟨[], rfl, rfl⟩
    | cons y ys ih =>
      obtain ⟨r, e1, e2⟩ := ih fun z hz => h5 z (List.mem_cons_of_mem _ hz)
      have e3 := h5 y List.mem_cons_self
      cases hc : c y with
      | true => exact ⟨.p (g y) :: r, by simp [lcLoop, e3, e1, hc], by simp [pOf, e2, hc]⟩
      | false => exact ⟨r, by simp [lcLoop, e3, e1, hc], by simp [e2, hc]⟩
  obtain ⟨r, e1, e2⟩ := this
  exact lc_run h1 h2 h3 (by simpa using h4) h0 e1 h6 e2
theorem lc_map0 {α : Type} {enc : α → P} (ys : List α) (g : α → P) {call : Call} {elt : CE} {tg : TG} {ik : IK} {es : List CE} {cond : Option CE} {own : List Nat} {ρ ρ1 ρh ρ2 : En} {ws : List W} {xs : List P} (h1 : evEs call es ρ = .ok (ws, ρ1)) (h2 : items ik ws ρ1 = .ok xs) (hx : xs = ys.map enc) (h3 : tgIn own tg = true) (h4 : ys.length < sizeLine)
    (h0 : hideS own (lockAll ws ρ1) = ρh) (h5 : ∀ y ∈ ys, lcK call elt tg cond own (enc y) ρh = .ok (some (.p (g y)), ρh)) (h6 : leaveGo own (refsOf ws) 0 ρ1 ρh = .ok ρ2) : evE call (.lc false elt tg ik es cond own) ρ = .ok (.tmp (.lst (ys.map g)), ρ2) := by
  have := lc_filter0 ys (fun _ => true) g h1 h2 hx h3 h4 h0 (by simpa using h5) h6
  rwa [List.filter_eq_self.mpr (fun _ _ => rfl)] at this
/-- by a state -/
theorem lc_state {α S : Type} {enc : α → P} (ys : List α) (I : S → En) (Q : List α → List P → S → Prop) {call : Call} {elt : CE} {tg : TG} {ik : IK} {es : List CE} {cond : Option CE} {own : List Nat} {ρ ρ1 : En} {ws : List W} {xs : List P} (s : S) (h1 : evEs call es ρ = .ok (ws, ρ1)) (h2 : items ik ws ρ1 = .ok xs) (hx : xs = ys.map enc) (h3 : tgIn own tg = true) (h4 : ys.length < sizeLine)
    (h0 : hideS own (lockAll ws ρ1) = I s) (hq : Q [] [] s)
    (h5 : ∀ pre y post ds s, ys = pre ++ y :: post → Q pre ds s → ∃ (o : Option P) (s' : S), lcK call elt tg cond own (enc y) (I s) = .ok (o.map .p, I s') ∧ Q (pre ++ [y]) (ds ++ o.toList) s') (h6 : ∀ s, ∃ ρ2, leaveGo own (refsOf ws) 0 ρ1 (I s) = .ok ρ2) :
    ∃ ds s', Q ys ds s' ∧ ∀ ρ2, leaveGo own (refsOf ws) 0 ρ1 (I s') = .ok ρ2 → evE call (.lc false elt tg ik es cond own) ρ = .ok (.tmp (.lst ds), ρ2) := by
  subst hx
  have : ∀ post pre ds s, ys = pre ++ post → Q pre ds s → ∃ r es s', lcLoop (lcK call elt tg cond own) (post.map enc) (I s) = .ok (r, I s') ∧ pOf r = .ok es ∧ Q ys (ds ++ es) s' := by
    intro post
    induction post with
    | nil => intro pre ds s e q; exact ⟨[], [], s, rfl, rfl, by rw [e]; simpa using q⟩
    | cons y post ih =>
      intro pre ds s e q
      obtain ⟨o, s1, e1, q1⟩ := h5 pre y post ds s e q
      obtain ⟨r, es, s2, e2, e3, q2⟩ := ih (pre ++ [y]) (ds ++ o.toList) s1 (by simp [e]) q1
      cases o with
      | none => exact ⟨r, es, s2, by simp [lcLoop, e1, e2], e3, by simpa using q2⟩
      | some d => exact ⟨.p d :: r, d :: es, s2, by simp [lcLoop, e1, e2], by simp [pOf, e3], by simpa using q2⟩
  obtain ⟨r, es', s', e1, e2, q⟩ := this ys [] [] s rfl hq
  exact ⟨es', s', by simpa using q, fun ρ2 h6 => lc_run h1 h2 h3 (by simpa using h4) h0 e1 h6 e2⟩
/-! ### what a run ends with -/
def Tri {α : Type} (x : R α) (Q : α → Prop) : Prop := ∃ a, x = .ok a ∧ Q a
theorem tri_ret {α : Type} {a : α} {Q : α → Prop} (h : Q a) : Tri (.ok a) Q := ⟨a, rfl, h⟩
theorem tri_of {α : Type} {x : R α} {a : α} {Q : α → Prop} (e : x = .ok a) (h : Q a) : Tri x Q := ⟨a, e, h⟩
theorem tri_stp {α γ : Type} {x : R α} {a : α} {f : α → R γ} {Q : γ → Prop} (h : x = .ok a) (g : Tri (f a) Q) : Tri (R.bind x f) Q := by rw [h]; exact g
theorem tri_bind {α γ : Type} {x : R α} {f : α → R γ} {P0 : α → Prop} {Q : γ → Prop} (h : Tri x P0) (g : ∀ a, P0 a → Tri (f a) Q) : Tri (R.bind x f) Q := by
  obtain ⟨a, e, p⟩ := h; rw [e]; exact g a p
theorem tri_mono {α : Type} {x : R α} {P0 Q : α → Prop} (h : Tri x P0) (g : ∀ a, P0 a → Q a) : Tri x Q := by
  obtain ⟨a, e, p⟩ := h; exact ⟨a, e, g a p⟩
theorem tri_F {call : Call} {F : Fn} {as : List Sl} {Q : W × List Sl → Prop} (h : Tri (kF call F as) Q) : Tri (runFn call F as) Q := by rw [← kF_eq]; exact h
/-- a loop that ends by itself -/
theorem tri_for1 {α γ : Type} {enc : α → P} (ys : List α) (Inv : List α → En → Prop) {call : Call} {lk : List Nat} {tg : TG} {ik : IK} {es : List CE} {b : List CS} {ρ ρ1 : En} {ws : List W} {k : Fl × En → R γ} {Q : γ → Prop}
    (h1 : evEs call es ρ = .ok (ws, ρ1)) (h2 : items ik ws ρ1 = .ok (ys.map enc)) (h0 : Inv [] (lockAll ws ρ1))
    (hs : ∀ pre y post ρ, ys = pre ++ y :: post → Inv pre ρ → Tri (forK call (lk ++ refsOf ws) tg b (enc y) ρ) fun z => (z.1 = .nx ∨ z.1 = .ct) ∧ Inv (pre ++ [y]) z.2)
    (hk : ∀ ρ', Inv ys ρ' → Tri (R.bind (freeGo (refsOf ws) 0 ρ1 ρ') fun ρ3 => k (.nx, ρ3)) Q) : Tri (R.bind (evSo call lk (.for_ tg ik es b) ρ) k) Q := by
  obtain ⟨ρ', e, i⟩ := forLoop_invM (enc := enc) (ys := ys) (step := forK call (lk ++ refsOf ws) tg b) Inv (fun pre y post ρ e i => by
    obtain ⟨⟨f, ρ'⟩, e1, hf, i1⟩ := hs pre y post ρ e i
    exact ⟨f, ρ', e1, hf, i1⟩) h0
  obtain ⟨a, e2, q⟩ := hk ρ' i
  cases h4 : freeGo (refsOf ws) 0 ρ1 ρ' with
  | fail => rw [h4] at e2; cases e2
  | ok ρ3 =>
    rw [h4] at e2
    rw [evSo_eq, for_run h1 h2 e h4]
    exact ⟨a, e2, q⟩
/-- a loop that may return -/
theorem tri_forR1 {α γ : Type} {enc : α → P} (ys : List α) (Inv : List α → En → Prop) (Ret : W → En → Prop) {call : Call} {lk : List Nat} {tg : TG} {ik : IK} {es : List CE} {b : List CS} {ρ ρ1 : En} {ws : List W} {k : Fl × En → R γ} {Q : γ → Prop}
    (h1 : evEs call es ρ = .ok (ws, ρ1)) (h2 : items ik ws ρ1 = .ok (ys.map enc)) (h0 : Inv [] (lockAll ws ρ1))
    (hs : ∀ pre y post ρ, ys = pre ++ y :: post → Inv pre ρ → Tri (forK call (lk ++ refsOf ws) tg b (enc y) ρ) fun z => ((z.1 = .nx ∨ z.1 = .ct) ∧ Inv (pre ++ [y]) z.2) ∨ (∃ w, z.1 = .rt w ∧ Ret w z.2))
    (hk : ∀ ρ', Inv ys ρ' → Tri (R.bind (freeGo (refsOf ws) 0 ρ1 ρ') fun ρ3 => k (.nx, ρ3)) Q)
    (hr : ∀ w ρ', Ret w ρ' → Tri (R.bind (freeGo (refsOf ws) 0 ρ1 ρ') fun ρ3 => k (.rt w, ρ3)) Q) : Tri (R.bind (evSo call lk (.for_ tg ik es b) ρ) k) Q := by
  have H : ∀ post pre ρ, ys = pre ++ post → Inv pre ρ → ∃ f ρ', forLoop (forK call (lk ++ refsOf ws) tg b) (post.map enc) ρ = .ok (f, ρ') ∧ ((f = .nx ∧ Inv ys ρ') ∨ ∃ w, f = .rt w ∧ Ret w ρ') := by
    intro post
    induction post with
    | nil => intro pre ρ e i; exact ⟨.nx, ρ, rfl, .inl ⟨rfl, by rw [e, List.append_nil]; exact i⟩⟩
    | cons x post ih =>
      intro pre ρ e i
      obtain ⟨⟨f, ρ'⟩, e1, hf⟩ := hs pre x post ρ e i
      rcases hf with ⟨hf, i1⟩ | ⟨w, hw, i1⟩
      · obtain ⟨f2, ρ2, e2, i2⟩ := ih (pre ++ [x]) ρ' (by simp [e]) i1
        refine ⟨f2, ρ2, ?_, i2⟩
        rcases hf with hf | hf <;> (simp only at hf; subst hf; simp [forLoop, e1, e2])
      · simp only at hw; subst hw
        exact ⟨.rt w, ρ', by simp [forLoop, e1], .inr ⟨w, rfl, i1⟩⟩
  obtain ⟨f, ρ', e, i⟩ := H ys [] _ rfl h0
  rcases i with ⟨rfl, i⟩ | ⟨w, rfl, i⟩
  · obtain ⟨a, e2, q⟩ := hk ρ' i
    cases h4 : freeGo (refsOf ws) 0 ρ1 ρ' with
    | fail => rw [h4] at e2; cases e2
    | ok ρ3 =>
      rw [h4] at e2
      rw [evSo_eq, for_run h1 h2 e h4]
      exact ⟨a, e2, q⟩
  · obtain ⟨a, e2, q⟩ := hr w ρ' i
    cases h4 : freeGo (refsOf ws) 0 ρ1 ρ' with
    | fail => rw [h4] at e2; cases e2
    | ok ρ3 =>
      rw [h4] at e2
      rw [evSo_eq, for_run h1 h2 e h4]
      exact ⟨a, e2, q⟩
/-- a comprehension by a state -/
theorem tri_lc1 {α S γ : Type} {enc : α → P} (ys : List α) (I : S → En) (Inv : List α → List P → S → Prop) (s : S) {call : Call} {elt : CE} {tg : TG} {ik : IK} {es : List CE} {cond : Option CE} {own : List Nat} {ρ ρ1 : En} {ws : List W} {k : W × En → R γ} {Q : γ → Prop}
    (h1 : evEs call es ρ = .ok (ws, ρ1)) (h2 : items ik ws ρ1 = .ok (ys.map enc)) (h3 : tgIn own tg = true) (h4 : ys.length < sizeLine)
    (h0 : hideS own (lockAll ws ρ1) = I s) (hq : Inv [] [] s)
    (h5 : ∀ pre y post ds s, ys = pre ++ y :: post → Inv pre ds s → Tri (lcK call elt tg cond own (enc y) (I s)) fun z => ∃ (o : Option P) (s' : S), z = (o.map .p, I s') ∧ Inv (pre ++ [y]) (ds ++ o.toList) s')
    (hk : ∀ ds s', Inv ys ds s' → Tri (R.bind (leaveGo own (refsOf ws) 0 ρ1 (I s')) fun ρ2 => k (.tmp (.lst ds), ρ2)) Q) : Tri (R.bind (evEo call (.lc false elt tg ik es cond own) ρ) k) Q := by
  have : ∀ post pre ds s, ys = pre ++ post → Inv pre ds s → ∃ r es s', lcLoop (lcK call elt tg cond own) (post.map enc) (I s) = .ok (r, I s') ∧ pOf r = .ok es ∧ Inv ys (ds ++ es) s' := by
    intro post
    induction post with
    | nil => intro pre ds s e q; exact ⟨[], [], s, rfl, rfl, by rw [e]; simpa using q⟩
    | cons y post ih =>
      intro pre ds s e q
      obtain ⟨_, e1, o, s1, rfl, q1⟩ := h5 pre y post ds s e q
      obtain ⟨r, es, s2, e2, e3, q2⟩ := ih (pre ++ [y]) (ds ++ o.toList) s1 (by simp [e]) q1
      cases o with
      | none => exact ⟨r, es, s2, by simp [lcLoop, e1, e2], e3, by simpa using q2⟩
      | some d => exact ⟨.p d :: r, d :: es, s2, by simp [lcLoop, e1, e2], by simp [pOf, e3], by simpa using q2⟩
  obtain ⟨r, es', s', e1, e2, q⟩ := this ys [] [] s rfl hq
  obtain ⟨a, e3, qa⟩ := hk es' s' (by simpa using q)
  cases h6 : leaveGo own (refsOf ws) 0 ρ1 (I s') with
  | fail => rw [h6] at e3; cases e3
  | ok ρ2 =>
    rw [h6] at e3
    rw [evEo_eq, lc_run h1 h2 h3 (by simpa using h4) h0 e1 h6 e2]
    exact ⟨a, e3, qa⟩
/-- while, by a measure -/
theorem tri_whl {γ : Type} (Inv : Nat → En → Prop) (Done : En → Prop) (Ret : W → En → Prop) (m : Nat) {call : Call} {lk : List Nat} {c : CE} {b : List CS} {ρ : En} {k : Fl × En → R γ} {Q : γ → Prop} (hm : m < 1000000) (h0 : Inv m ρ)
    (hs : ∀ m ρ, Inv m ρ → Tri (kT call c ρ fun t ρ => match t with
      | true => kSs call lk b ρ fun f ρ => .ok (some f, ρ)
      | false => .ok (none, ρ)) fun z => (z.1 = none ∧ Done z.2) ∨ ((z.1 = some .nx ∨ z.1 = some .ct) ∧ ∃ m', m' < m ∧ Inv m' z.2) ∨ (z.1 = some .bk ∧ Done z.2) ∨ (∃ w, z.1 = some (.rt w) ∧ Ret w z.2))
    (hk : ∀ ρ', Done ρ' → Tri (k (.nx, ρ')) Q) (hr : ∀ w ρ', Ret w ρ' → Tri (k (.rt w, ρ')) Q) : Tri (R.bind (evSo call lk (.whl c b) ρ) k) Q := by
  have H : ∀ n m ρ, m < n → Inv m ρ → ∃ f ρ', whileLoop (evT call c) (evSs call lk b) n ρ = .ok (f, ρ') ∧ ((f = .nx ∧ Done ρ') ∨ ∃ w, f = .rt w ∧ Ret w ρ') := by
    intro n
    induction n with
    | zero => intro m ρ h; omega
    | succ n ih =>
      intro m ρ hl i
      obtain ⟨⟨o, ρ'⟩, e, q⟩ := hs m ρ i
      rw [kT_eq] at e
      simp only [whileLoop]
      cases ht : evT call c ρ with
      | fail => rw [ht] at e; cases e
      | ok z =>
        rw [ht] at e
        obtain ⟨t, ρ1⟩ := z
        cases t with
        | false =>
          cases e
          rcases q with ⟨_, d⟩ | ⟨h | h, _⟩ | ⟨h, _⟩ | ⟨w, h, _⟩
          · exact ⟨.nx, _, by simp, .inl ⟨rfl, d⟩⟩
          all_goals cases h
        | true =>
          have e : R.bind (evSs call lk b ρ1) (fun z => R.ok (some z.1, z.2)) = .ok (o, ρ') := by
            rw [← kSs_eq (k := fun f ρ => R.ok (some f, ρ))]; exact e
          cases hb : evSs call lk b ρ1 with
          | fail => rw [hb] at e; cases e
          | ok z2 =>
            rw [hb] at e
            obtain ⟨f, ρ2⟩ := z2
            cases e
            rcases q with ⟨h, _⟩ | ⟨h, m', hm', i'⟩ | ⟨h, d⟩ | ⟨w, h, r⟩
            · cases h
            · obtain ⟨f2, ρ3, e3, q3⟩ := ih m' _ (by omega) i'
              refine ⟨f2, ρ3, ?_, q3⟩
              rcases h with h | h <;> (cases h; simpa [hb] using e3)
            · cases h
              exact ⟨.nx, _, by simp [hb], .inl ⟨rfl, d⟩⟩
            · cases h
              exact ⟨.rt w, _, by simp [hb], .inr ⟨w, rfl, r⟩⟩
  obtain ⟨f, ρ', e, q⟩ := H wFuel m ρ hm h0
  have e : evS call lk (.whl c b) ρ = .ok (f, ρ') := by simp only [evS]; exact e
  rw [evSo_eq, e]
  rcases q with ⟨rfl, d⟩ | ⟨w, rfl, r⟩
  · exact hk ρ' d
  · exact hr w ρ' r
/-! ### a loop over rows that are written out -/
noncomputable section
variable {β : Type}
def kRows (call : Call) : List (List CE) → En → (List (List W) → En → R β) → R β
  | [], ρ, k => k [] ρ
  | r :: rs, ρ, k => kEs call r ρ fun ws ρ => kRows call rs ρ fun wss ρ => k (ws :: wss) ρ
theorem kRows_eq (call : Call) : ∀ (rs : List (List CE)) (ρ : En) (k : List (List W) → En → R β), kRows call rs ρ k = R.bind (evRows call rs ρ) fun z => k z.1 z.2
  | [], ρ, k => by simp only [kRows, evRows, R_bind]
  | r :: rs, ρ, k => by simp only [kRows, evRows, kEs_eq, kRows_eq call rs, bindD, bindA, R_bind]
def kTT (step : List W → En → (Fl → En → R β) → R β) : List (List W) → En → (Fl → En → R β) → R β
  | [], ρ, k => k .nx ρ
  | x :: xs, ρ, k => step x ρ fun f ρ => match f with
    | .nx => kTT step xs ρ k
    | .ct => kTT step xs ρ k
    | .bk => k .nx ρ
    | .rt w => k (.rt w) ρ
theorem kTT_eq {st : List W → En → (Fl → En → R β) → R β} {step : List W → En → R (Fl × En)} (h : ∀ x ρ k, st x ρ k = R.bind (step x ρ) fun z => k z.1 z.2) : ∀ (xs : List (List W)) (ρ : En) (k : Fl → En → R β), kTT st xs ρ k = R.bind (ttLoop step xs ρ) fun z => k z.1 z.2
  | [], ρ, k => by simp only [kTT, ttLoop, R_bind]
  | x :: xs, ρ, k => by
    simp only [kTT, ttLoop, h, bindD, bindA]
    rcases step x ρ with _ | ⟨f, ρ1⟩
    · rfl
    cases f <;> simp only [R_bind, kTT_eq h xs]
theorem forTT_eq {call : Call} {lk : List Nat} {is : List Nat} {rows : List (List CE)} {b : List CS} {ρ : En} {k : Fl × En → R β} : R.bind (evSo call lk (.forTT is rows b) ρ) k =
    kRows call rows ρ fun wss ρ => R.bind (R.chk (wss.all okTT)) fun _ => kTT (fun ws ρ k => R.bind (bindWs (lk ++ refsOf wss.flatten) is ws ρ) fun ρ => kSs call (lk ++ refsOf wss.flatten) b ρ k) wss ρ fun f ρ => match f with
      | .rt w => k (.rt w, ρ)
      | f => k (f, wipeS ρ is) := by
  simp only [kRows_eq, evSo_eq, evS, bindD, bindA]
  rcases evRows call rows ρ with _ | ⟨wss, ρ1⟩
  · rfl
  simp only [R_bind]
  rcases R.chk (wss.all okTT) with _ | u
  · rfl
  simp only [R_bind]
  rw [kTT_eq (step := fun ws ρ => do
      let ρ ← bindWs (lk ++ refsOf wss.flatten) is ws ρ
      evSs call (lk ++ refsOf wss.flatten) b ρ) (fun x ρ k => by simp only [kSs_eq, bindD, bindA])]
  simp only [bindD]
  rcases ttLoop _ wss ρ1 with _ | ⟨f, ρ2⟩
  · rfl
  cases f <;> simp only [R_bind]
end

theorem lc_filter1 {α : Type} {enc : α → P} (ys : List α) (c : α → Bool) (g : α → P) {call : Call} {elt : CE} {tg : TG} {ik : IK} {es : List CE} {cond : Option CE} {own : List Nat} {ρ ρ1 ρh ρ2 : En} {ws : List W} {xs : List P} (h1 : evEs call es ρ = .ok (ws, ρ1)) (h2 : items ik ws ρ1 = .ok xs) (hx : xs = ys.map enc) (h3 : tgIn own tg = true) (h4 : ys.length < sizeLine)
    (h0 : hideS own (lockAll ws ρ1) = ρh) (h5 : ∀ y ∈ ys, lcK call elt tg cond own (enc y) ρh = .ok (if c y then some (.p (g y)) else none, ρh)) (h6 : leaveGo own (refsOf ws) 0 ρ1 ρh = .ok ρ2) : evEo call (.lc false elt tg ik es cond own) ρ = .ok (.tmp (.lst ((ys.filter c).map g)), ρ2) := by
  rw [evEo_eq]; exact lc_filter0 ys c g h1 h2 hx h3 h4 h0 h5 h6
theorem lc_map1 {α : Type} {enc : α → P} (ys : List α) (g : α → P) {call : Call} {elt : CE} {tg : TG} {ik : IK} {es : List CE} {cond : Option CE} {own : List Nat} {ρ ρ1 ρh ρ2 : En} {ws : List W} {xs : List P} (h1 : evEs call es ρ = .ok (ws, ρ1)) (h2 : items ik ws ρ1 = .ok xs) (hx : xs = ys.map enc) (h3 : tgIn own tg = true) (h4 : ys.length < sizeLine)
    (h0 : hideS own (lockAll ws ρ1) = ρh) (h5 : ∀ y ∈ ys, lcK call elt tg cond own (enc y) ρh = .ok (some (.p (g y)), ρh)) (h6 : leaveGo own (refsOf ws) 0 ρ1 ρh = .ok ρ2) : evEo call (.lc false elt tg ik es cond own) ρ = .ok (.tmp (.lst (ys.map g)), ρ2) := by
  rw [evEo_eq]; exact lc_map0 ys g h1 h2 hx h3 h4 h0 h5 h6
theorem chk_lt {n : Nat} (h : n < sizeLine) : R.chk (decide (n < sizeLine)) = .ok () := by rw [decide_eq_true h]; rfl
def enI (j : Nat) : P := .int (j : Int)
theorem inR_nat {k : Nat} (h : k < 1000000000) : inR (k : Int) = true := by
  simp only [inR, Bool.and_eq_true, decide_eq_true_eq]; omega
theorem it_rng0 (n : Int) (ρ : En) : items .rng1 [.p (.int n)] ρ = (R.chk (inR n) >>= fun _ => .ok (rngP 0 n)) := rfl
theorem rngP_nat (k : Nat) : rngP 0 k = (List.range k).map enI := by
  simp only [rngP]
  have : ((k : Int) - 0).toNat = k := by omega
  rw [this]
  exact List.map_congr_left fun j _ => by rw [Int.zero_add]; rfl
theorem it_rng1 {k : Nat} {ρ : En} (h : k < 1000000000) : items .rng1 [.p (.int k)] ρ = .ok ((List.range k).map enI) := by
  rw [it_rng0, inR_nat h, rngP_nat]; rfl
theorem it_rng1' {k : Nat} {n : Int} {ρ : En} (e : n = k) (h : k < 1000000000) : items .rng1 [.p (.int n)] ρ = .ok ((List.range k).map enI) := by subst e; exact it_rng1 h
theorem rng_at {n : Nat} {pre post : List Nat} {y : Nat} (e : List.range n = pre ++ y :: post) : y = pre.length ∧ y < n := by
  have hl := congrArg List.length e
  simp at hl
  have := congrArg (fun l => l[pre.length]?) e
  simp [List.getElem?_range (show pre.length < n by omega)] at this
  omega
theorem chk_le {n : Nat} (h : n ≤ sizeLine) : R.chk (decide (n ≤ sizeLine)) = .ok () := by rw [decide_eq_true h]; rfl
theorem tri_for {α γ : Type} {enc : α → P} (ys : List α) (Inv : List α → En → Prop) {call : Call} {lk : List Nat} {tg : TG} {ik : IK} {es : List CE} {b : List CS} {ρ : En} {ws : List W} {k : Fl × En → R γ} {Q : γ → Prop}
    (h1 : evEs call es ρ = .ok (ws, ρ)) (h2 : items ik ws ρ = .ok (ys.map enc)) (h0 : Inv [] (lockAll ws ρ))
    (hs : ∀ pre y post ρ, ys = pre ++ y :: post → Inv pre ρ → Tri (forK call (lk ++ refsOf ws) tg b (enc y) ρ) fun z => (z.1 = .nx ∨ z.1 = .ct) ∧ Inv (pre ++ [y]) z.2)
    (hk : ∀ ρ', Inv ys ρ' → Tri (R.bind (freeGo (refsOf ws) 0 ρ ρ') fun ρ3 => k (.nx, ρ3)) Q) : Tri (R.bind (evSo call lk (.for_ tg ik es b) ρ) k) Q := by
  exact tri_for1 ys Inv h1 h2 h0 hs hk
theorem tri_forR {α γ : Type} {enc : α → P} (ys : List α) (Inv : List α → En → Prop) (Ret : W → En → Prop) {call : Call} {lk : List Nat} {tg : TG} {ik : IK} {es : List CE} {b : List CS} {ρ : En} {ws : List W} {k : Fl × En → R γ} {Q : γ → Prop}
    (h1 : evEs call es ρ = .ok (ws, ρ)) (h2 : items ik ws ρ = .ok (ys.map enc)) (h0 : Inv [] (lockAll ws ρ))
    (hs : ∀ pre y post ρ, ys = pre ++ y :: post → Inv pre ρ → Tri (forK call (lk ++ refsOf ws) tg b (enc y) ρ) fun z => ((z.1 = .nx ∨ z.1 = .ct) ∧ Inv (pre ++ [y]) z.2) ∨ (∃ w, z.1 = .rt w ∧ Ret w z.2))
    (hk : ∀ ρ', Inv ys ρ' → Tri (R.bind (freeGo (refsOf ws) 0 ρ ρ') fun ρ3 => k (.nx, ρ3)) Q)
    (hr : ∀ w ρ', Ret w ρ' → Tri (R.bind (freeGo (refsOf ws) 0 ρ ρ') fun ρ3 => k (.rt w, ρ3)) Q) : Tri (R.bind (evSo call lk (.for_ tg ik es b) ρ) k) Q := by
  exact tri_forR1 ys Inv Ret h1 h2 h0 hs hk hr
theorem tri_lc {α S γ : Type} {enc : α → P} (ys : List α) (I : S → En) (Inv : List α → List P → S → Prop) (s : S) {call : Call} {elt : CE} {tg : TG} {ik : IK} {es : List CE} {cond : Option CE} {own : List Nat} {ρ : En} {ws : List W} {k : W × En → R γ} {Q : γ → Prop}
    (h1 : evEs call es ρ = .ok (ws, ρ)) (h2 : items ik ws ρ = .ok (ys.map enc)) (h3 : tgIn own tg = true) (h4 : ys.length < sizeLine)
    (h0 : hideS own (lockAll ws ρ) = I s) (hq : Inv [] [] s)
    (h5 : ∀ pre y post ds s, ys = pre ++ y :: post → Inv pre ds s → Tri (lcK call elt tg cond own (enc y) (I s)) fun z => ∃ (o : Option P) (s' : S), z = (o.map .p, I s') ∧ Inv (pre ++ [y]) (ds ++ o.toList) s')
    (hk : ∀ ds s', Inv ys ds s' → Tri (R.bind (leaveGo own (refsOf ws) 0 ρ (I s')) fun ρ2 => k (.tmp (.lst ds), ρ2)) Q) : Tri (R.bind (evEo call (.lc false elt tg ik es cond own) ρ) k) Q := by
  exact tri_lc1 ys I Inv s h1 h2 h3 h4 h0 hq h5 hk
theorem lc_filter {α : Type} {enc : α → P} (ys : List α) (c : α → Bool) (g : α → P) {call : Call} {elt : CE} {tg : TG} {ik : IK} {es : List CE} {cond : Option CE} {own : List Nat} {ρ ρh ρ2 : En} {ws : List W} {xs : List P} (h1 : evEs call es ρ = .ok (ws, ρ)) (h2 : items ik ws ρ = .ok xs) (hx : xs = ys.map enc) (h3 : tgIn own tg = true) (h4 : ys.length < sizeLine)
    (h0 : hideS own (lockAll ws ρ) = ρh) (h5 : ∀ y ∈ ys, lcK call elt tg cond own (enc y) ρh = .ok (if c y then some (.p (g y)) else none, ρh)) (h6 : leaveGo own (refsOf ws) 0 ρ ρh = .ok ρ2) : evEo call (.lc false elt tg ik es cond own) ρ = .ok (.tmp (.lst ((ys.filter c).map g)), ρ2) := by
  exact lc_filter1 ys c g h1 h2 hx h3 h4 h0 h5 h6
theorem lc_map {α : Type} {enc : α → P} (ys : List α) (g : α → P) {call : Call} {elt : CE} {tg : TG} {ik : IK} {es : List CE} {cond : Option CE} {own : List Nat} {ρ ρh ρ2 : En} {ws : List W} {xs : List P} (h1 : evEs call es ρ = .ok (ws, ρ)) (h2 : items ik ws ρ = .ok xs) (hx : xs = ys.map enc) (h3 : tgIn own tg = true) (h4 : ys.length < sizeLine)
    (h0 : hideS own (lockAll ws ρ) = ρh) (h5 : ∀ y ∈ ys, lcK call elt tg cond own (enc y) ρh = .ok (some (.p (g y)), ρh)) (h6 : leaveGo own (refsOf ws) 0 ρ ρh = .ok ρ2) : evEo call (.lc false elt tg ik es cond own) ρ = .ok (.tmp (.lst (ys.map g)), ρ2) := by
  exact lc_map1 ys g h1 h2 hx h3 h4 h0 h5 h6
end Ev

/-! EvFx: facts for what is stuck; slots of which it is not known whether they are filled. -/
namespace Ev
open PySem PySem.Spec PyProof.Rows L2
/-- a slot that may be filled -/
def jk (b : Option P) : Option Sl := b.map .p
theorem jk_some (d : P) : some (Sl.p d) = jk (some d) := rfl
theorem jk_none : (none : Option Sl) = jk none := rfl
theorem ns_nil (i : Nat) : noSref [] i = true := rfl
theorem ns_none (r : En) (i : Nat) : noSref (none :: r) i = noSref r i := rfl
theorem ns_p (d : P) (r : En) (i : Nat) : noSref (some (.p d) :: r) i = noSref r i := rfl
theorem ns_own (m : MO) (r : En) (i : Nat) : noSref (some (.own m) :: r) i = noSref r i := rfl
theorem ns_rd (m : MO) (r : En) (i : Nat) : noSref (some (.rd m) :: r) i = noSref r i := rfl
theorem ns_jk (b : Option P) (r : En) (i : Nat) : noSref (jk b :: r) i = noSref r i := by cases b <;> rfl
theorem bs_p {lk : List Nat} {i : Nat} {d : P} {ρ : En} (h1 : noSref ρ i = true) (h2 : lk.contains i = false) (h3 : i < ρ.length) : bindS lk i (.p d) ρ = .ok (ρ.set i (some (.p d))) := by
  rw [bindS_p, h1, h2, decide_eq_true h3]; rfl
theorem bs_t {lk : List Nat} {i : Nat} {m : MO} {ρ : En} (h1 : noSref ρ i = true) (h2 : lk.contains i = false) (h3 : i < ρ.length) : bindS lk i (.tmp m) ρ = .ok (ρ.set i (some (.own m))) := by
  rw [bindS_tmp, h1, h2, decide_eq_true h3]; rfl
theorem bt_1 {lk : List Nat} {i : Nat} {d : P} {ρ : En} (h1 : noSref ρ i = true) (h2 : lk.contains i = false) (h3 : i < ρ.length) : bindT lk (.one i) d ρ = .ok (ρ.set i (some (.p d))) := bs_p h1 h2 h3
theorem ns_set {ρ : En} {i j : Nat} {d : P} (h : noSref ρ j = true) : noSref (ρ.set i (some (.p d))) j = true := by
  induction ρ generalizing i with
  | nil => rfl
  | cons s r ih =>
    simp only [noSref, List.all_cons, Bool.and_eq_true] at h
    cases i with
    | zero => exact h.2
    | succ i =>
      simp only [noSref, List.set_cons_succ, List.all_cons, Bool.and_eq_true]
      exact ⟨h.1, ih h.2⟩
theorem bt_2 {lk : List Nat} {i j : Nat} {a b : P} {ρ : En} (h1 : noSref ρ i = true) (h1' : noSref ρ j = true) (h2 : lk.contains i = false) (h2' : lk.contains j = false) (h3 : i < ρ.length) (h3' : j < ρ.length) : bindT lk (.many [i, j]) (.tup [a, b]) ρ = .ok ((ρ.set i (some (.p a))).set j (some (.p b))) := by
  have e1 := bs_p (d := a) h1 h2 h3
  have e2 := bs_p (d := b) (ρ := ρ.set i (some (.p a))) (ns_set h1') h2' (by simpa using h3')
  simp only [bindT, bindAll, e1, e2, bind_ok]
theorem app_ok {k : Nat} {d : P} {ρ : En} {xs : List P} (h : ρ[k]? = some (some (.own (.lst xs)))) (hl : xs.length < sizeLine) : appW (.ref k) d ρ = .ok (ρ.set k (some (.own (.lst (xs ++ [d]))))) := by
  simp only [appW, getOwn, h, appM, bind_ok, chk_lt hl]
theorem put_dk {k : Nat} {kd vd : P} {q : Key} {ρ : En} {kvs : List (Key × P)} (h : ρ[k]? = some (some (.own (.dk kvs)))) (hk : skey kd = some q) (hl : kvs.length < sizeLine) : putW (.ref k) kd vd ρ = .ok (ρ.set k (some (.own (.dk (putP kvs q vd))))) := by
  simp only [putW, getOwn, h, putMO, dPut, hk, bind_ok, chk_lt hl]
theorem hide_jk (o : Bool) (b : Option P) : hideSl o (jk b) = jk (if o then none else b) := by cases o <;> cases b <;> rfl
theorem cat_str {x y : Str} (h : x.length + y.length ≤ sizeLine) : binP .Add (.str x) (.str y) = .ok (.p (.str (x ++ y))) := by simp only [binP, h, if_true]
theorem cat_tup {x y : List P} (h : x.length + y.length ≤ sizeLine) : binP .Add (.tup x) (.tup y) = .ok (.p (.tup (x ++ y))) := by simp only [binP, h, if_true]
theorem cat_lst {x y : List P} (h : x.length + y.length ≤ sizeLine) : binP .Add (.lst x) (.lst y) = .ok (.tmp (.lst (x ++ y))) := by simp only [binP, h, if_true]
theorem mod_ok {i j : Int} (h : 0 < j) : binP .Mod (.int i) (.int j) = .ok (.p (.int (i % j))) := by simp only [binP, h, if_true]
theorem fdiv_ok {i j : Int} (h : 0 < j) (h2 : j < 1073741824) : binP .FloorDiv (.int i) (.int j) = .ok (.p (.int (i / j))) := by simp only [binP, h, h2, and_self, if_true]
/-- texts in lists of texts -/
theorem anyEq_str (x : Str) : ∀ ys : List Str, anyEq (.text x) (ys.map .str) = .ok (decide (x ∈ ys))
  | [] => by simp [anyEq]
  | y :: ys => by
    simp only [List.map_cons, anyEq, nkey_str, of_some, bind_ok, anyEq_str x ys]
    congr 1
    simp only [NestedKey.text.injEq]
    by_cases h : x = y <;> by_cases h2 : x ∈ ys <;> simp [h, h2, eq_comm (a := y)]
theorem in_strs (x : Str) (ys : List Str) : inP (.str x) (.lst (ys.map .str)) = .ok (decide (x ∈ ys)) := by
  simp only [inP, nkey_str, of_some, bind_ok, anyEq_str]
theorem in_strsT (x : Str) (ys : List Str) : inP (.str x) (.tup (ys.map .str)) = .ok (decide (x ∈ ys)) := by
  simp only [inP, nkey_str, of_some, bind_ok, anyEq_str]
theorem cmp_in (a b : P) : cmpP .In a b = inP a b := rfl
theorem cmp_notin {a b : P} {r : Bool} (h : inP a b = .ok r) : cmpP .NotIn a b = .ok (!r) := by simp only [cmpP, h, bind_ok]
theorem cmp_ne {a b : P} {r : Bool} (h : eqP a b = .ok r) : cmpP .NotEq a b = .ok (!r) := by simp only [cmpP, h, bind_ok]
theorem cmp_eq {a b : P} {r : Bool} (h : eqP a b = .ok r) : cmpP .Eq a b = .ok r := h
theorem cmp_str (a b : Str) : cmpP .Eq (.str a) (.str b) = .ok (decide (a = b)) := eqP_str a b
theorem cmp_int (a b : Int) : cmpP .Eq (.int a) (.int b) = .ok (decide (a = b)) := eqP_int a b
theorem strs_map (ys : List Str) : strs? (ys.map P.str) = some ys := by
  induction ys with
  | nil => rfl
  | cons y ys ih => simp [strs?, ih]
/-! ### comparisons -/
instance {α : Type} [DecidableEq α] : DecidableEq (R α)
  | .fail, .fail => .isTrue rfl
  | .ok a, .ok b => if h : a = b then .isTrue (by rw [h]) else .isFalse (fun e => h (R.ok.inj e))
  | .fail, .ok _ => .isFalse (fun e => nomatch e)
  | .ok _, .fail => .isFalse (fun e => nomatch e)
theorem co {o : CmpOp} {a b : P} {r : Bool} (h : cmpP o a b = .ok r) : cmpPo o a b = .ok r := by rw [cmpPo_eq]; exact h
theorem co_eq (a b : Int) : cmpPo .Eq (.int a) (.int b) = .ok (decide (a = b)) := co (cmp_int a b)
theorem co_ne (a b : Int) : cmpPo .NotEq (.int a) (.int b) = .ok (!decide (a = b)) := co (cmp_ne (eqP_int a b))
theorem co_lt (a b : Int) : cmpPo .Lt (.int a) (.int b) = .ok (decide (a < b)) := co rfl
theorem co_le (a b : Int) : cmpPo .LtE (.int a) (.int b) = .ok (decide (a ≤ b)) := co rfl
theorem co_gt (a b : Int) : cmpPo .Gt (.int a) (.int b) = .ok (decide (b < a)) := co rfl
theorem co_ge (a b : Int) : cmpPo .GtE (.int a) (.int b) = .ok (decide (b ≤ a)) := co rfl
theorem co_str (a b : Str) : cmpPo .Eq (.str a) (.str b) = .ok (decide (a = b)) := co (cmp_str a b)
theorem co_slt (a b : Str) : cmpPo .Lt (.str a) (.str b) = .ok (decide (a.cps.toList < b.cps.toList)) := co rfl
theorem co_inL (x : Str) (ys : List Str) : cmpPo .In (.str x) (.lst (ys.map .str)) = .ok (decide (x ∈ ys)) := co (in_strs x ys)
theorem co_inT (x : Str) (ys : List Str) : cmpPo .In (.str x) (.tup (ys.map .str)) = .ok (decide (x ∈ ys)) := co (in_strsT x ys)
theorem co_niL (x : Str) (ys : List Str) : cmpPo .NotIn (.str x) (.lst (ys.map .str)) = .ok (!decide (x ∈ ys)) := co (cmp_notin (in_strs x ys))
theorem co_niT (x : Str) (ys : List Str) : cmpPo .NotIn (.str x) (.tup (ys.map .str)) = .ok (!decide (x ∈ ys)) := co (cmp_notin (in_strsT x ys))
/-! ### sorting -/
def sLt (x y : Str) : Prop := x.cps.toList < y.cps.toList
instance (x y : Str) : Decidable (sLt x y) := inferInstanceAs (Decidable (x.cps.toList < y.cps.toList))
theorem sLt_trans {x y z : Str} (h1 : sLt x y) (h2 : sLt y z) : sLt x z := List.lt_trans h1 h2
theorem str_ext {x y : Str} (h : x.cps.toList = y.cps.toList) : x = y := by
  cases x; cases y; simp at h; rw [h]
theorem sLt_of_le {x y : Str} (h : ¬ sLt y x) (ne : x ≠ y) : sLt x y := by
  by_cases h2 : sLt x y
  · exact h2
  · exact absurd (str_ext (List.le_antisymm (List.not_lt.mp h) (List.not_lt.mp h2))) ne
theorem sLt_irrefl (x : Str) : ¬ sLt x x := List.lt_irrefl _
theorem sortS_asc {xs : List Str} (h : xs.Nodup) : (sortS xs).Pairwise sLt := by
  have h2 : (sortS xs).Nodup := (sortS_perm xs).nodup_iff.mpr h
  refine List.Pairwise.imp₂ (fun a b hle hne => ?_) (sortS_sorted xs) h2
  simp only [strLe, Bool.not_eq_true', decide_eq_false_iff_not] at hle
  exact sLt_of_le hle hne
theorem asc_nodup {xs : List Str} (h : xs.Pairwise sLt) : xs.Nodup := List.Pairwise.imp (fun {a b} h e => by subst e; exact sLt_irrefl _ h) h
theorem bl_sorted {xs : List Str} (h : xs.length < 64) : bl1 .sorted (.lst (xs.map .str)) = .ok (.tmp (.lst ((sortS xs).map .str))) := by
  simp only [bl1, strs_map, of_some, bind_ok, decide_eq_true h, chk_true]
/-! ### joins -/
theorem tri_S {γ : Type} {call : Call} {lk : List Nat} {s : CS} {ss : List CS} {ρ : En} {k : Fl → En → R γ} {Q : γ → Prop} (P0 : Fl → En → Prop) (h : Tri (kS call lk s ρ fun f ρ => .ok (f, ρ)) fun z => P0 z.1 z.2)
    (g : ∀ f ρ', P0 f ρ' → Tri (match f with
      | .nx => kSs call lk ss ρ' k
      | f => k f ρ') Q) : Tri (kSs call lk (s :: ss) ρ k) Q := by
  obtain ⟨⟨f, ρ'⟩, e, p⟩ := h
  rw [kS_eq, bind_id] at e
  have g := g f ρ' p
  obtain ⟨a, g1, g2⟩ := g
  refine ⟨a, ?_, g2⟩
  rw [kSs, kS_eq, e]
  exact g1
/-- behind a statement that goes on -/
theorem tri_Sn {γ : Type} {call : Call} {lk : List Nat} {s : CS} {ss : List CS} {ρ : En} {k : Fl → En → R γ} {Q : γ → Prop} (P0 : En → Prop) (h : Tri (kS call lk s ρ fun f ρ => .ok (f, ρ)) fun z => z.1 = .nx ∧ P0 z.2)
    (g : ∀ ρ', P0 ρ' → Tri (kSs call lk ss ρ' k) Q) : Tri (kSs call lk (s :: ss) ρ k) Q :=
  tri_S (fun f ρ => f = .nx ∧ P0 ρ) h fun f ρ' ⟨e, p⟩ => by subst e; exact g ρ' p
theorem tri_if {γ : Type} {b : Bool} {A B : R γ} {Q : γ → Prop} (h1 : b = true → Tri A Q) (h2 : b = false → Tri B Q) : Tri (match b with
  | true => A
  | false => B) Q := by
  cases b
  · exact h2 rfl
  · exact h1 rfl
theorem tri_ifT {γ : Type} {b : Bool} {A B : R γ} {Q : γ → Prop} (h : b = true) (g : Tri A Q) : Tri (match b with
  | true => A
  | false => B) Q := by subst h; exact g
theorem tri_ifF {γ : Type} {b : Bool} {A B : R γ} {Q : γ → Prop} (h : b = false) (g : Tri B Q) : Tri (match b with
  | true => A
  | false => B) Q := by subst h; exact g
theorem tri_eq {α : Type} {x : R α} {a : α} (h : Tri x fun z => z = a) : x = .ok a := by
  obtain ⟨_, e, rfl⟩ := h; exact e
theorem mul_ok {i j : Int} (h : -18446744073709551616 < i ∧ i < 18446744073709551616) : binP .Mult (.int i) (.int j) = .ok (.p (.int (i * j))) := by
  simp only [binP]; rw [if_pos (Or.inl (by simpa using h))]
/-- a loop that may end by a break -/
theorem tri_forB {α γ : Type} {enc : α → P} (ys : List α) (Inv : List α → En → Prop) (Done : En → Prop) {call : Call} {lk : List Nat} {tg : TG} {ik : IK} {es : List CE} {b : List CS} {ρ : En} {ws : List W} {k : Fl × En → R γ} {Q : γ → Prop}
    (h1 : evEs call es ρ = .ok (ws, ρ)) (h2 : items ik ws ρ = .ok (ys.map enc)) (h0 : Inv [] (lockAll ws ρ))
    (hs : ∀ pre y post ρ, ys = pre ++ y :: post → Inv pre ρ → Tri (forK call (lk ++ refsOf ws) tg b (enc y) ρ) fun z => ((z.1 = .nx ∨ z.1 = .ct) ∧ Inv (pre ++ [y]) z.2) ∨ (z.1 = .bk ∧ Done z.2))
    (hk : ∀ ρ', (Inv ys ρ' ∨ Done ρ') → Tri (R.bind (freeGo (refsOf ws) 0 ρ ρ') fun ρ3 => k (.nx, ρ3)) Q) : Tri (R.bind (evSo call lk (.for_ tg ik es b) ρ) k) Q := by
  have H : ∀ post pre ρ, ys = pre ++ post → Inv pre ρ → ∃ ρ', forLoop (forK call (lk ++ refsOf ws) tg b) (post.map enc) ρ = .ok (.nx, ρ') ∧ (Inv ys ρ' ∨ Done ρ') := by
    intro post
    induction post with
    | nil => intro pre ρ e i; exact ⟨ρ, rfl, .inl (by rw [e, List.append_nil]; exact i)⟩
    | cons x post ih =>
      intro pre ρ e i
      obtain ⟨⟨f, ρ'⟩, e1, hf⟩ := hs pre x post ρ e i
      rcases hf with ⟨hf, i1⟩ | ⟨hw, i1⟩
      · obtain ⟨ρ2, e2, i2⟩ := ih (pre ++ [x]) ρ' (by simp [e]) i1
        refine ⟨ρ2, ?_, i2⟩
        rcases hf with hf | hf <;> (simp only at hf; subst hf; simp [forLoop, e1, e2])
      · simp only at hw; subst hw
        exact ⟨ρ', by simp [forLoop, e1], .inr i1⟩
  obtain ⟨ρ', e, i⟩ := H ys [] _ rfl h0
  obtain ⟨a, e2, q⟩ := hk ρ' i
  cases h4 : freeGo (refsOf ws) 0 ρ ρ' with
  | fail => rw [h4] at e2; cases e2
  | ok ρ3 =>
    rw [h4] at e2
    rw [evSo_eq, for_run h1 h2 e h4]
    exact ⟨a, e2, q⟩
/-! ### dicts with texts as keys -/
section
variable {α : Type}
def look (kvs : List (Str × α)) (x : Str) : Option α := (kvs.find? fun kv => decide (kv.1 = x)).map (·.2)
def dkP (g : α → P) (kvs : List (Str × α)) : List (Key × P) := kvs.map fun kv => (.inr kv.1, g kv.2)
theorem val_dk (g : α → P) (kvs : List (Str × α)) (x : Str) : valP (dkP g kvs) (.inr x) = (look kvs x).map g := by
  induction kvs with
  | nil => rfl
  | cons kv kvs ih =>
    simp only [valP, dkP, look, List.map_cons, List.find?_cons] at ih ⊢
    by_cases h : kv.1 = x
    · simp [h]
    · have h2 : ¬ ((Sum.inr kv.1 : Key) = Sum.inr x) := fun e => h (Sum.inr.inj e)
      simp only [h, h2, decide_false]
      exact ih
theorem look_some {kvs : List (Str × α)} {x : Str} {f : α} (h : look kvs x = some f) : (x, f) ∈ kvs := by
  simp only [look, Option.map_eq_some_iff] at h
  obtain ⟨kv, h1, rfl⟩ := h
  have h2 := List.find?_some h1
  have h3 := List.mem_of_find?_eq_some h1
  simp at h2
  rw [← h2]; exact h3
theorem look_mem {kvs : List (Str × α)} (nd : (kvs.map (·.1)).Nodup) {x : Str} {f : α} (h : (x, f) ∈ kvs) : look kvs x = some f := by
  induction kvs with
  | nil => cases h
  | cons kv kvs ih =>
    simp only [List.map_cons, List.nodup_cons] at nd
    rcases List.mem_cons.mp h with rfl | h
    · simp [look]
    · have ne : kv.1 ≠ x := fun e => nd.1 (e ▸ List.mem_map_of_mem h)
      have := ih nd.2 h
      simp only [look, List.find?_cons, ne, decide_false] at this ⊢
      exact this
theorem look_none {kvs : List (Str × α)} {x : Str} : look kvs x = none ↔ x ∉ kvs.map (·.1) := by
  simp only [look, Option.map_eq_none_iff, List.find?_eq_none, decide_eq_true_eq, List.mem_map, not_exists, not_and]
theorem look_isSome {kvs : List (Str × α)} {x : Str} : (look kvs x).isSome = decide (x ∈ kvs.map (·.1)) := by
  cases h : look kvs x with
  | none => have := look_none.mp h; simp [this]
  | some f => have := List.mem_map_of_mem (f := (·.1)) (look_some h); simp only [Option.isSome_some]; exact (decide_eq_true this).symm
theorem merge_dk (g : α → P) (kvs : List (Str × α)) (nd : (kvs.map (·.1)).Nodup) : mergeP [] (dkP g kvs) = dkP g kvs := by
  suffices H : ∀ (b a : List (Str × α)), ((a ++ b).map (·.1)).Nodup → (dkP g b).foldl (fun acc kv => putP acc kv.1 kv.2) (dkP g a) = dkP g (a ++ b) from H kvs [] nd
  intro b
  induction b with
  | nil => intro a _; simp [dkP]
  | cons kv b ih =>
    intro a nd
    have h1 : putP (dkP g a) (.inr kv.1) (g kv.2) = dkP g (a ++ [kv]) := by
      unfold putP
      rw [if_neg]
      · simp [dkP]
      · intro h
        rw [List.any_eq_true] at h
        obtain ⟨q, hq, e⟩ := h
        obtain ⟨p, hp, rfl⟩ := List.mem_map.mp hq
        have e : p.1 = kv.1 := Sum.inr.inj (of_decide_eq_true e)
        simp only [List.map_append, List.map_cons] at nd
        have := (List.nodup_append.mp nd).2.2 p.1 (List.mem_map_of_mem hp) kv.1 (by simp)
        exact this e
    show (dkP g b).foldl _ (putP (dkP g a) (.inr kv.1) (g kv.2)) = _
    rw [h1, ih (a ++ [kv]) (by simpa using nd)]
    simp
theorem look_dk (g : α → P) (kvs : List (Str × α)) (x : Str) : dLook (.dk (dkP g kvs)) (.str x) = .ok ((look kvs x).map g) := by
  simp only [dLook, skey, val_dk]
theorem in_dk (g : α → P) (kvs : List (Str × α)) (x : Str) : inP (.str x) (.dk (dkP g kvs)) = .ok (decide (x ∈ kvs.map (·.1))) := by
  simp only [inP, look_dk, bind_ok, Option.isSome_map, look_isSome]
theorem ix_dk (g : α → P) {kvs : List (Str × α)} {x : Str} {f : α} (h : look kvs x = some f) : ixP (.dk (dkP g kvs)) (.str x) = .ok (g f) := by
  simp only [ixP, look_dk, h, bind_ok]; rfl
def enP (g : α → P) (kv : Str × α) : P := .tup [.str kv.1, g kv.2]
theorem pairs_en (g : α → P) (kvs : List (Str × α)) : pairs? (kvs.map (enP g)) = some (dkP g kvs) := by
  induction kvs with
  | nil => rfl
  | cons kv kvs ih =>
    simp only [List.map_cons, pairs?, ih, enP, pair1, skey, Option.map_some, dkP]
/-- dict of a tuple of pairs -/
theorem bl_dict (g : α → P) (kvs : List (Str × α)) (nd : (kvs.map (·.1)).Nodup) (hl : kvs.length ≤ 10000) : bl1 .dict (.tup (kvs.map (enP g))) = .ok (.tmp (.dk (dkP g kvs))) := by
  simp only [bl1, pairs_en, of_some, bind_ok, List.length_map, decide_eq_true hl, chk_true, merge_dk g kvs nd]
end
theorem bools_map {α : Type} (p : α → Bool) (ys : List α) : bools? (ys.map fun y => P.bl (p y)) = some (ys.map p) := by
  induction ys with
  | nil => rfl
  | cons y ys ih => simp [bools?, ih]
theorem bl_all {α : Type} (p : α → Bool) (ys : List α) : bl1 .all (.lst (ys.map fun y => P.bl (p y))) = .ok (.p (.bl (ys.all p))) := by
  simp only [bl1, bools_map, of_some, bind_ok]; congr 3; simp [List.all_map]
theorem bl_any {α : Type} (p : α → Bool) (ys : List α) : bl1 .any (.lst (ys.map fun y => P.bl (p y))) = .ok (.p (.bl (ys.any p))) := by
  simp only [bl1, bools_map, of_some, bind_ok]; congr 3; simp [List.any_map]
theorem co_inD {α : Type} (g : α → P) (kvs : List (Str × α)) (x : Str) : cmpPo .In (.str x) (.dk (dkP g kvs)) = .ok (decide (x ∈ kvs.map (·.1))) := co (in_dk g kvs x)
theorem co_niD {α : Type} (g : α → P) (kvs : List (Str × α)) (x : Str) : cmpPo .NotIn (.str x) (.dk (dkP g kvs)) = .ok (!decide (x ∈ kvs.map (·.1))) := co (cmp_notin (in_dk g kvs x))
/-! ### a loop over what is written out -/
noncomputable section
variable {β : Type}
def forU (call : Call) (lk : List Nat) (tg : TG) (b : List CS) : List P → En → (Fl → En → R β) → R β
  | [], ρ, k => k .nx ρ
  | x :: xs, ρ, k => R.bind (bindT lk tg x ρ) fun ρ => kSs call lk b ρ fun f ρ => match f with
    | .nx => forU call lk tg b xs ρ k
    | .ct => forU call lk tg b xs ρ k
    | .bk => k .nx ρ
    | .rt w => k (.rt w) ρ
theorem forU_eq (call : Call) (lk : List Nat) (tg : TG) (b : List CS) : ∀ (xs : List P) (ρ : En) (k : Fl → En → R β), forU call lk tg b xs ρ k = R.bind (forLoop (forK call lk tg b) xs ρ) fun z => k z.1 z.2
  | [], ρ, k => rfl
  | x :: xs, ρ, k => by
    simp only [forU, forLoop, forK, bindD, bindA, kSs_eq]
    rcases bindT lk tg x ρ with _ | ρ1
    · rfl
    simp only [R_bind]
    rcases evSs call lk b ρ1 with _ | ⟨f, ρ2⟩
    · rfl
    cases f <;> simp only [R_bind, forU_eq call lk tg b xs, forK, bindD, bindA, kSs_eq] <;> rfl
end
theorem tri_forU {γ : Type} (xs : List P) {call : Call} {lk : List Nat} {tg : TG} {ik : IK} {es : List CE} {b : List CS} {ρ : En} {ws : List W} {k : Fl × En → R γ} {Q : γ → Prop}
    (h1 : evEs call es ρ = .ok (ws, ρ)) (h2 : items ik ws ρ = .ok xs)
    (h : Tri (forU call (lk ++ refsOf ws) tg b xs (lockAll ws ρ) fun f ρ' => R.bind (freeGo (refsOf ws) 0 ρ ρ') fun ρ3 => k (f, ρ3)) Q) : Tri (R.bind (evSo call lk (.for_ tg ik es b) ρ) k) Q := by
  obtain ⟨a, e, q⟩ := h
  rw [forU_eq] at e
  cases h3 : forLoop (forK call (lk ++ refsOf ws) tg b) xs (lockAll ws ρ) with
  | fail => rw [h3] at e; cases e
  | ok z =>
    obtain ⟨f, ρ'⟩ := z
    rw [h3] at e
    simp only [R_bind] at e
    cases h4 : freeGo (refsOf ws) 0 ρ ρ' with
    | fail => rw [h4] at e; cases e
    | ok ρ3 =>
      rw [h4] at e
      rw [evSo_eq, for_run h1 h2 h3 h4]
      exact ⟨a, e, q⟩
/-! ### a list of lists that is changed within -/
noncomputable def lcKd (call : Call) (elt : CE) (tg : TG) (cond : Option CE) (own : List Nat) : P → En → R (Option W × En) := fun x ρ => R.bind (bindT [] tg x ρ) fun ρ => kC call cond ρ fun t ρ => match t with
  | true => kE call elt ρ fun w ρ => R.bind (isTl w ρ) fun z => .ok (some z.1, hideS own z.2)
  | false => .ok (none, hideS own ρ)
theorem lcKd_eq (call : Call) (elt : CE) (tg : TG) (cond : Option CE) (own : List Nat) : lcKd call elt tg cond own = lcStep call true elt tg cond own := by
  funext x ρ
  simp only [lcKd, lcStep, bindD, kC_eq, kE_eq]
  rcases bindT [] tg x ρ with _ | ρ1
  · rfl
  simp only [R_bind]
  rcases evC call cond ρ1 with _ | ⟨t, ρ2⟩
  · rfl
  cases t <;> simp [R_bind]
theorem lc_deep {α : Type} {enc : α → P} (ys : List α) (g : α → List P) {call : Call} {elt : CE} {tg : TG} {ik : IK} {es : List CE} {cond : Option CE} {own : List Nat} {ρ ρh ρ2 : En} {ws : List W} (h1 : evEs call es ρ = .ok (ws, ρ)) (h2 : items ik ws ρ = .ok (ys.map enc)) (h3 : tgIn own tg = true) (h4 : ys.length < sizeLine)
    (h0 : hideS own (lockAll ws ρ) = ρh) (h5 : ∀ y ∈ ys, lcKd call elt tg cond own (enc y) ρh = .ok (some (.tmp (.lst (g y))), ρh)) (h6 : leaveGo own (refsOf ws) 0 ρ ρh = .ok ρ2) : evEo call (.lc true elt tg ik es cond own) ρ = .ok (.tmp (.lo (ys.map g)), ρ2) := by
  have : ∃ r, lcLoop (lcStep call true elt tg cond own) (ys.map enc) ρh = .ok (r, ρh) ∧ tmpLs r = .ok (ys.map g) := by
    rw [← lcKd_eq]
    clear h1 h2 h4
    induction ys with
    | nil => exact ⟨[], rfl, rfl⟩
    | cons y ys ih =>
      obtain ⟨r, e1, e2⟩ := ih fun z hz => h5 z (List.mem_cons_of_mem _ hz)
      have e3 := h5 y List.mem_cons_self
      exact ⟨.tmp (.lst (g y)) :: r, by simp [lcLoop, e3, e1], by simp [tmpLs, e2]⟩
  obtain ⟨r, e1, e2⟩ := this
  subst h0
  rw [evEo_eq]
  simp only [evE, bind_eq_ok, chk_eq_ok, Bool.and_eq_true, decide_eq_true_eq]
  exact ⟨_, h1, _, h2, (), ⟨h3, by simpa using h4⟩, (r, _), e1, ρ2, h6, by simp [e2]⟩
theorem tri_tt {γ : Type} {call : Call} {lk : List Nat} {is : List Nat} {rows : List (List CE)} {b : List CS} {ρ : En} {k : Fl × En → R γ} {Q : γ → Prop}
    (h : Tri (kRows call rows ρ fun wss ρ => R.bind (R.chk (wss.all okTT)) fun _ => kTT (fun ws ρ k => R.bind (bindWs (lk ++ refsOf wss.flatten) is ws ρ) fun ρ => kSs call (lk ++ refsOf wss.flatten) b ρ k) wss ρ fun f ρ => match f with
      | .rt w => k (.rt w, ρ)
      | f => k (f, wipeS ρ is)) Q) : Tri (R.bind (evSo call lk (.forTT is rows b) ρ) k) Q := by
  rw [forTT_eq]; exact h
end Ev

/-! EvDc: comprehensions that make dicts. -/
namespace Ev
open PySem PySem.Spec PyProof.Rows L2
noncomputable def dcK (call : Call) (kx vx : CE) (tg : TG) (own : List Nat) : P → En → R (Option (Key × P) × En) := fun x ρ => R.bind (bindT [] tg x ρ) fun ρ => kE call kx ρ fun kw ρ => kE call vx ρ fun w ρ => R.bind (peek kw ρ) fun kd => R.bind (frz w ρ) fun z => R.bind (R.of (skey kd)) fun k => .ok (some (k, z.1), hideS own z.2)
def dcS (call : Call) (kx vx : CE) (tg : TG) (own : List Nat) : P → En → R (Option (Key × P) × En) := fun x ρ => do
  let ρ ← bindT [] tg x ρ
  let (kw, ρ) ← evE call kx ρ
  let (w, ρ) ← evE call vx ρ
  let kd ← peek kw ρ
  let (d, ρ) ← frz w ρ
  let k ← R.of (skey kd)
  .ok (some (k, d), hideS own ρ)
theorem dcK_eq (call : Call) (kx vx : CE) (tg : TG) (own : List Nat) : dcK call kx vx tg own = dcS call kx vx tg own := by
  funext x ρ
  simp only [dcK, dcS, bindD, kE_eq]
theorem dc_map {α : Type} {enc : α → P} (ys : List α) (kf : α → Key) (g : α → P) {call : Call} {kx vx : CE} {tg : TG} {ik : IK} {es : List CE} {own : List Nat} {ρ ρh ρ2 : En} {ws : List W} (h1 : evEs call es ρ = .ok (ws, ρ)) (h2 : items ik ws ρ = .ok (ys.map enc)) (h3 : tgIn own tg = true) (h4 : ys.length < sizeLine)
    (h0 : hideS own (lockAll ws ρ) = ρh) (h5 : ∀ y ∈ ys, dcK call kx vx tg own (enc y) ρh = .ok (some (kf y, g y), ρh)) (h6 : leaveGo own (refsOf ws) 0 ρ ρh = .ok ρ2) : evEo call (.dc kx vx tg ik es own) ρ = .ok (.tmp (.dk (mergeP [] (ys.map fun y => (kf y, g y)))), ρ2) := by
  have e1 : lcLoop (dcS call kx vx tg own) (ys.map enc) ρh = .ok (ys.map fun y => (kf y, g y), ρh) := by
    rw [← dcK_eq]
    clear h1 h2 h4
    induction ys with
    | nil => rfl
    | cons y ys ih =>
      have e1 := ih fun z hz => h5 z (List.mem_cons_of_mem _ hz)
      have e3 := h5 y List.mem_cons_self
      simp [lcLoop, e3, e1]
  subst h0
  rw [evEo_eq]
  simp only [evE, bind_eq_ok, chk_eq_ok, Bool.and_eq_true, decide_eq_true_eq]
  exact ⟨_, h1, _, h2, (), ⟨h3, by simpa using h4⟩, (_, _), e1, ρ2, h6, rfl⟩
end Ev

namespace Ev
open PySem PySem.Spec PyProof.Rows L2
def n_is_integer : List Str := ["value"]
def F_is_integer : Fn := ⟨1, 1, [(.ret (.bop .And (.isi (.v 0) .int) (.notv (.isi (.v 0) .bool))))]⟩
def n_is_between : List Str := ["value", "low", "high"]
def F_is_between : Fn := ⟨3, 3, [(.ret (.bop .And (.call "is_integer" [(.v 0)]) (.bop .And (.cmp .GtE (.v 0) (.v 1)) (.bop .Or (.isn false (.v 2) (.c .non)) (.cmp .LtE (.v 0) (.v 2))))))]⟩
def n_is_row : List Str := ["value", "size"]
def F_is_row : Fn := ⟨2, 2, [(.ret (.bop .And (.isi (.v 0) .tuple) (.cmp .Eq (.b1 .len (.v 0)) (.v 1))))]⟩
def n_is_ascending : List Str := ["row", "at"]
def F_is_ascending : Fn := ⟨1, 2, [(.ret (.b1 .all (.lc false (.cmp .Lt (.ix (.v 0) (.v 1)) (.ix (.v 0) (.bin .Add (.v 1) (.c (.int 1))))) (.one 1) .rng1 [(.bin .Sub (.b1 .len (.v 0)) (.c (.int 1)))] none [1])))]⟩
def n_is_worth : List Str := ["value", "size"]
def F_is_worth : Fn := ⟨2, 2, [(.ret (.call "is_between" [(.v 0), (.c (.int 0)), (.bin .Sub (.v 1) (.c (.int 1)))]))]⟩
def n_is_worth_or_none : List Str := ["value", "size"]
def F_is_worth_or_none : Fn := ⟨2, 2, [(.ret (.bop .Or (.isn false (.v 0) (.c .non)) (.call "is_worth" [(.v 0), (.v 1)])))]⟩
def n_names_in : List Str := ["form"]
def F_names_in : Fn := ⟨1, 1, [(.ite (.tst (.cmp .Eq (.ix (.v 0) (.c (.int 0))) (.c (.str "worth")))) [(.ret (.tup []))] []),
    (.ite (.tst (.cmp .In (.ix (.v 0) (.c (.int 0))) (.tup [(.c (.str "copy")), (.c (.str "there")), (.c (.str "turn")), (.c (.str "held")), (.c (.str "before")), (.c (.str "late"))]))) [(.ret (.tup [(.ix (.v 0) (.c (.int 1)))]))] []),
    (.ret (.ife (.tst (.cmp .Eq (.ix (.v 0) (.c (.int 0))) (.c (.str "match")))) (.sl (.v 0) (some (.c (.int 2))) none) (.sl (.v 0) (some (.c (.int 1))) none)))]⟩
def n_paired : List Str := ["word", "one", "two", "size"]
def F_paired : Fn := ⟨4, 4, [(.ite (.tst (.cmp .Eq (.v 0) (.c (.str "add")))) [(.ret (.bin .Mod (.bin .Add (.v 1) (.v 2)) (.v 3)))] []),
    (.ite (.tst (.cmp .Eq (.v 0) (.c (.str "times")))) [(.ret (.bin .Mod (.bin .Mult (.v 1) (.v 2)) (.v 3)))] []),
    (.ite (.tst (.cmp .Eq (.v 0) (.c (.str "least")))) [(.ret (.min2 (.v 1) (.v 2)))] []),
    (.ite (.tst (.cmp .Eq (.v 0) (.c (.str "most")))) [(.ret (.max2 (.v 1) (.v 2)))] []),
    (.ite (.tst (.cmp .Eq (.v 0) (.c (.str "alike")))) [(.ret (.ife (.tst (.cmp .Eq (.v 1) (.v 2))) (.c (.int 1)) (.c (.int 0))))] []),
    (.ret (.ife (.tst (.cmp .Lt (.v 1) (.v 2))) (.c (.int 1)) (.c (.int 0))))]⟩
def n_shown : List Str := ["form", "worths", "size", "word"]
def F_shown : Fn := ⟨3, 4, [(.set 3 (.ix (.v 0) (.c (.int 0)))),
    (.ite (.tst (.cmp .Eq (.v 3) (.c (.str "worth")))) [(.ret (.ix (.v 0) (.c (.int 1))))] []),
    (.ite (.tst (.cmp .Eq (.v 3) (.c (.str "copy")))) [(.ret (.ix (.v 1) (.c (.int 0))))] []),
    (.ite (.tst (.cmp .Eq (.v 3) (.c (.str "there")))) [(.ret (.ife (.tst (.isn false (.ix (.v 1) (.c (.int 0))) (.c .non))) (.c (.int 0)) (.c (.int 1))))] []),
    (.ite (.tst (.cmp .Eq (.v 3) (.c (.str "turn")))) [(.ret (.ife (.tst (.isn false (.ix (.v 1) (.c (.int 0))) (.c .non))) (.c .non) (.ix (.ix (.v 0) (.c (.int 2))) (.ix (.v 1) (.c (.int 0))))))] []),
    (.ite (.tst (.cmp .Eq (.v 3) (.c (.str "else")))) [(.ret (.ife (.tst (.isn false (.ix (.v 1) (.c (.int 0))) (.c .non))) (.ix (.v 1) (.c (.int 1))) (.ix (.v 1) (.c (.int 0)))))] []),
    (.ite (.tst (.cmp .Eq (.v 3) (.c (.str "when")))) [(.ret (.ife (.bop .Or (.tst (.isn false (.ix (.v 1) (.c (.int 1))) (.c .non))) (.tst (.cmp .Eq (.ix (.v 1) (.c (.int 1))) (.c (.int 0))))) (.c .non) (.ix (.v 1) (.c (.int 0)))))] []),
    (.ret (.ife (.tst (.cmp .In (.c .non) (.v 1))) (.c .non) (.call "paired" [(.v 3), (.ix (.v 1) (.c (.int 0))), (.ix (.v 1) (.c (.int 1))), (.v 2)])))]⟩
def n_cell_names : List Str := ["net", "name", "form"]
def F_cell_names : Fn := ⟨1, 3, [(.ret (.lc false (.v 1) (.many [1, 2]) .plain [(.ix (.v 0) (.c (.int 2)))] none [1, 2]))]⟩
def n_form_table : List Str := ["net", "name", "form"]
def F_form_table : Fn := ⟨1, 3, [(.ret (.dc (.v 1) (.v 2) (.many [1, 2]) .plain [(.ix (.v 0) (.c (.int 2)))] [1, 2]))]⟩
def n_meaning : List Str := ["net", "rows", "known", "names", "table", "found", "instant", "name", "form"]
def F_meaning : Fn := ⟨2, 9, [(.set 2 (.dct [] [])),
    (.set 3 (.lc false (.v 7) (.many [7, 8]) .plain [(.ix (.v 0) (.c (.int 2)))] none [7, 8])),
    (.set 4 (.call "form_table" [(.v 0)])),
    (.set 5 (.lst [])),
    (.for_ (.one 6) .rng1 [(.b1 .len (.v 1))] [(.ex (.app (.v 5) (.b1 .tuple (.lc false (.call "shows" [(.v 0), (.v 4), (.v 1), (.v 2), (.v 7), (.v 6)]) (.one 7) .plain [(.v 3)] none [7]))))]),
    (.ret (.b1 .tuple (.v 5)))]⟩
def n_shows : List Str := ["net", "table", "rows", "known", "name", "instant", "key"]
def F_shows : Fn := ⟨6, 7, [(.ite (.tst (.cmp .In (.v 4) (.ix (.v 0) (.c (.int 1))))) [(.ret (.get (.b1 .dict (.ix (.v 2) (.v 5))) (.v 4) (.c .non)))] []),
    (.set 6 (.tup [(.v 4), (.v 5)])),
    (.ite (.tst (.cmp .NotIn (.v 6) (.v 3))) [(.put (.v 3) (.v 6) (.call "told" [(.v 0), (.v 1), (.v 2), (.v 3), (.ix (.v 1) (.v 4)), (.v 5)]))] []),
    (.ret (.ix (.v 3) (.v 6)))]⟩
def n_told : List Str := ["net", "table", "rows", "known", "form", "instant", "word", "name"]
def F_told : Fn := ⟨6, 8, [(.set 6 (.ix (.v 4) (.c (.int 0)))),
    (.ite (.tst (.cmp .Eq (.v 6) (.c (.str "late")))) [(.ret (.ife (.tst (.cmp .Eq (.v 5) (.c (.int 0)))) (.ix (.v 4) (.c (.int 2))) (.call "shows" [(.v 0), (.v 1), (.v 2), (.v 3), (.ix (.v 4) (.c (.int 1))), (.bin .Sub (.v 5) (.c (.int 1)))])))] []),
    (.ite (.tst (.cmp .In (.v 6) (.tup [(.c (.str "held")), (.c (.str "before"))]))) [(.ret (.call "remembered" [(.v 0), (.v 1), (.v 2), (.v 3), (.v 4), (.v 5)]))] []),
    (.ite (.tst (.cmp .Eq (.v 6) (.c (.str "match")))) [(.ret (.call "matched" [(.v 0), (.v 1), (.v 2), (.v 3), (.v 4), (.v 5)]))] []),
    (.ret (.call "shown" [(.v 4), (.lc false (.call "shows" [(.v 0), (.v 1), (.v 2), (.v 3), (.v 7), (.v 5)]) (.one 7) .plain [(.call "names_in" [(.v 4)])] none [7]), (.ix (.v 0) (.c (.int 0)))]))]⟩
def n_remembered : List Str := ["net", "table", "rows", "known", "form", "instant", "last", "worth"]
def F_remembered : Fn := ⟨6, 8, [(.ite (.bop .And (.tst (.cmp .Eq (.ix (.v 4) (.c (.int 0))) (.c (.str "before")))) (.tst (.isn false (.call "shows" [(.v 0), (.v 1), (.v 2), (.v 3), (.ix (.v 4) (.c (.int 1))), (.v 5)]) (.c .non)))) [(.ret (.c .non))] []),
    (.set 6 (.ife (.tst (.cmp .Eq (.ix (.v 4) (.c (.int 0))) (.c (.str "held")))) (.v 5) (.bin .Sub (.v 5) (.c (.int 1))))),
    (.whl (.tst (.cmp .GtE (.v 6) (.c (.int 0)))) [(.set 7 (.call "shows" [(.v 0), (.v 1), (.v 2), (.v 3), (.ix (.v 4) (.c (.int 1))), (.v 6)])), (.ite (.tst (.isn true (.v 7) (.c .non))) [(.ret (.v 7))] []), (.aug 6 .Sub (.c (.int 1)))]),
    (.ret (.ix (.v 4) (.c (.int 2))))]⟩
def n_matched : List Str := ["net", "table", "rows", "known", "form", "instant", "ahead", "place", "many", "lefts", "rights", "row", "name", "worth"]
def F_matched : Fn := ⟨6, 14, [(.par 9 10 (.lst []) (.lst [])),
    (.set 6 (.c (.int 0))),
    (.for_ (.one 7) .rng1 [(.bin .Add (.v 5) (.c (.int 1)))] [(.set 6 (.min2 (.b1 .len (.v 9)) (.b1 .len (.v 10)))), (.forTT [11, 12] [[(.v 9), (.ix (.v 4) (.c (.int 2)))], [(.v 10), (.ix (.v 4) (.c (.int 3)))]] [(.set 13 (.call "shows" [(.v 0), (.v 1), (.v 2), (.v 3), (.v 12), (.v 7)])), (.ite (.tst (.isn true (.v 13) (.c .non))) [(.ex (.app (.v 11) (.v 13)))] [])])]),
    (.set 8 (.min2 (.b1 .len (.v 9)) (.b1 .len (.v 10)))),
    (.ret (.ife (.tst (.cmp .Gt (.v 8) (.v 6))) (.call "paired" [(.ix (.v 4) (.c (.int 1))), (.ix (.v 9) (.bin .Sub (.v 8) (.c (.int 1)))), (.ix (.v 10) (.bin .Sub (.v 8) (.c (.int 1)))), (.ix (.v 0) (.c (.int 0)))]) (.c .non)))]⟩
def n_history : List Str := ["net", "rows", "name", "place", "moment", "event", "other", "form"]
def F_history : Fn := ⟨3, 8, [(.ite (.tst (.cmp .In (.v 2) (.ix (.v 0) (.c (.int 1))))) [(.ret (.b1 .tuple (.lc false (.get (.b1 .dict (.v 5)) (.v 2) (.c .non)) (.one 5) .plain [(.v 1)] none [5])))] []),
    (.set 3 (.index (.lc false (.v 6) (.many [6, 7]) .plain [(.ix (.v 0) (.c (.int 2)))] none [6, 7]) (.v 2))),
    (.ret (.b1 .tuple (.lc false (.ix (.v 4) (.v 3)) (.one 4) .plain [(.call "meaning" [(.v 0), (.v 1)])] none [4])))]⟩
def n_value_at : List Str := ["net", "rows", "name", "instant"]
def F_value_at : Fn := ⟨4, 4, [(.ret (.ix (.call "history" [(.v 0), (.sl (.v 1) none (some (.bin .Add (.v 3) (.c (.int 1))))), (.v 2)]) (.v 3)))]⟩
def n_changes : List Str := ["net", "before", "after", "names", "at", "name"]
def F_changes : Fn := ⟨3, 6, [(.set 3 (.call "cell_names" [(.v 0)])),
    (.ite (.tst (.isn false (.v 1) (.c .non))) [(.ret (.b1 .tuple (.lc false (.tup [(.v 5), (.ix (.v 2) (.v 4))]) (.many [4, 5]) .enum [(.v 3)] (some (.tst (.isn true (.ix (.v 2) (.v 4)) (.c .non)))) [4, 5])))] []),
    (.ret (.b1 .tuple (.lc false (.tup [(.v 5), (.ix (.v 2) (.v 4))]) (.many [4, 5]) .enum [(.v 3)] (some (.tst (.cmp .NotEq (.ix (.v 2) (.v 4)) (.ix (.v 1) (.v 4))))) [4, 5])))]⟩
def n_applied : List Str := ["net", "before", "told", "table", "names", "now", "name", "at"]
def F_applied : Fn := ⟨3, 8, [(.set 3 (.b1 .dict (.v 2))),
    (.set 4 (.call "cell_names" [(.v 0)])),
    (.set 5 (.ife (.tst (.isn false (.v 1) (.c .non))) (.lc false (.c .non) (.one 6) .plain [(.v 4)] none [6]) (.v 1))),
    (.ret (.b1 .tuple (.lc false (.get (.v 3) (.v 6) (.ix (.v 5) (.v 7))) (.many [7, 6]) .enum [(.v 4)] none [7, 6])))]⟩
def n_are_changes : List Str := ["net", "value", "names", "pair"]
def F_are_changes : Fn := ⟨2, 4, [(.ite (.bop .Or (.not_ (.tst (.isi (.v 1) .tuple))) (.not_ (.tst (.b1 .all (.lc false (.call "is_row" [(.v 3), (.c (.int 2))]) (.one 3) .plain [(.v 1)] none [3]))))) [(.ret (.c (.bl false)))] []),
    (.set 2 (.call "cell_names" [(.v 0)])),
    (.ite (.not_ (.tst (.b1 .all (.lc false (.bop .And (.isi (.ix (.v 3) (.c (.int 0))) .str) (.bop .And (.cmp .In (.ix (.v 3) (.c (.int 0))) (.v 2)) (.call "is_worth_or_none" [(.ix (.v 3) (.c (.int 1))), (.ix (.v 0) (.c (.int 0)))]))) (.one 3) .plain [(.v 1)] none [3])))) [(.ret (.c (.bl false)))] []),
    (.ret (.call "is_ascending" [(.lc false (.ix (.v 3) (.c (.int 0))) (.one 3) .plain [(.v 1)] none [3])]))]⟩
def n_all_changes : List Str := ["net", "moments", "found", "before", "moment"]
def F_all_changes : Fn := ⟨2, 5, [(.set 2 (.lst [])),
    (.set 3 (.c .non)),
    (.for_ (.one 4) .plain [(.v 1)] [(.ex (.app (.v 2) (.call "changes" [(.v 0), (.v 3), (.v 4)]))), (.set 3 (.v 4))]),
    (.ret (.b1 .tuple (.v 2)))]⟩
def n_replayed : List Str := ["net", "rows", "found", "now", "told"]
def F_replayed : Fn := ⟨2, 5, [(.set 2 (.lst [])),
    (.set 3 (.c .non)),
    (.for_ (.one 4) .plain [(.v 1)] [(.set 3 (.call "applied" [(.v 0), (.v 3), (.v 4)])), (.ex (.app (.v 2) (.v 3)))]),
    (.ret (.b1 .tuple (.v 2)))]⟩
def n_law_digits : List Str := ["cell", "count", "number", "row", "k", "mixed"]
def F_law_digits : Fn := ⟨2, 6, [(.set 2 (.v 0)),
    (.ite (.tst (.cmp .Lt (.v 2) (.c (.int 0)))) [(.set 2 (.bin .Sub (.bin .Sub (.c (.int 0)) (.c (.int 1))) (.v 2)))] []),
    (.set 3 (.lst [])),
    (.ite (.tst (.cmp .GtE (.v 2) (.bin .Pow (.c (.int 10)) (.c (.int 18))))) [(.for_ (.one 4) .rng1 [(.v 1)] [(.ex (.app (.v 3) (.bin .Mod (.b1 .int (.v 2)) (.c (.int 1000003))))), (.set 2 (.bin .FloorDiv (.v 2) (.c (.int 1000003)))), (.ite (.tst (.cmp .Eq (.v 2) (.c (.int 0)))) [.brk] [])]), (.ret (.v 3))] []),
    (.for_ (.one 4) .rng1 [(.v 1)] [(.set 5 (.bin .Mod (.b1 .int (.bin .Mult (.bin .Add (.bin .Add (.v 2) (.bin .Mult (.c (.int 11)) (.v 4))) (.c (.int 3))) (.c (.int 48271)))) (.c (.int 2147483647)))), (.set 5 (.bin .Mod (.b1 .int (.bin .Add (.bin .Add (.bin .Mult (.v 5) (.c (.int 69621))) (.bin .Mult (.c (.int 37)) (.v 4))) (.c (.int 5)))) (.c (.int 2147483629)))), (.ex (.app (.v 3) (.bin .Mod (.b1 .int (.bin .FloorDiv (.v 5) (.c (.int 5)))) (.c (.int 1000003)))))]),
    (.ret (.v 3))]⟩
def n_law_box : List Str := ["script", "row", "cell"]
def F_law_box : Fn := ⟨1, 3, [(.set 1 (.lst [])),
    (.for_ (.one 2) .plain [(.v 0)] [(.set 1 (.bin .Add (.v 1) (.call "_law_digits" [(.v 2), (.c (.int 6))])))]),
    (.ite (.tst (.cmp .Eq (.b1 .len (.v 1)) (.c (.int 0)))) [(.set 1 (.lst [(.c (.int 5)), (.c (.int 77)), (.c (.int 1031)), (.c (.int 40009)), (.c (.int 3)), (.c (.int 900001)), (.c (.int 12))]))] []),
    (.ret (.dct [(.str "row"), (.str "at")] [(.v 1), (.c (.int 0))]))]⟩
def n_law_take : List Str := ["box", "many", "at", "number"]
def F_law_take : Fn := ⟨2, 4, [(.set 2 (.ix (.v 0) (.c (.str "at")))),
    (.put (.v 0) (.c (.str "at")) (.bin .Add (.v 2) (.c (.int 1)))),
    (.set 3 (.ix (.ix (.v 0) (.c (.str "row"))) (.bin .Mod (.b1 .int (.v 2)) (.b1 .len (.ix (.v 0) (.c (.str "row"))))))),
    (.ret (.bin .Mod (.b1 .int (.bin .Add (.v 3) (.bin .Mult (.c (.int 104729)) (.bin .FloorDiv (.v 2) (.b1 .len (.ix (.v 0) (.c (.str "row")))))))) (.v 1)))]⟩
def n_law_pick : List Str := ["box", "row"]
def F_law_pick : Fn := ⟨2, 2, [(.ret (.ix (.v 1) (.call "_law_take" [(.v 0), (.b1 .len (.v 1))])))]⟩
def n_law_some : List Str := ["box", "letters", "size", "k"]
def F_law_some : Fn := ⟨3, 4, [(.ret (.join (.c (.str "")) (.lc false (.ix (.v 1) (.call "_law_take" [(.v 0), (.b1 .len (.v 1))])) (.one 3) .rng1 [(.v 2)] none [3])))]⟩
def n_law_names : List Str := ["box", "many", "words", "found", "k", "name"]
def F_law_names : Fn := ⟨2, 6, [(.set 2 (.lst [(.c (.str "add")), (.c (.str "and")), (.c (.str "any")), (.c (.str "cell")), (.c (.str "drop")), (.c (.str "end")), (.c (.str "event")), (.c (.str "held")), (.c (.str "input")), (.c (.str "keeps")), (.c (.str "late")), (.c (.str "loop")), (.c (.str "match")), (.c (.str "net")), (.c (.str "state")), (.c (.str "strike")), (.c (.str "when")), (.c (.str "worth")), (.c (.str "yes"))])),
    (.set 3 (.lst [])),
    (.for_ (.one 4) .rng1 [(.c (.int 60))] [(.set 5 (.ife (.tst (.cmp .Eq (.call "_law_take" [(.v 0), (.c (.int 5))]) (.c (.int 0)))) (.call "_law_pick" [(.v 0), (.v 2)]) (.call "_law_some" [(.v 0), (.c (.str "abcxyz")), (.bin .Add (.c (.int 1)) (.call "_law_take" [(.v 0), (.c (.int 3))]))]))), (.ite (.bop .And (.tst (.cmp .Lt (.b1 .len (.v 3)) (.v 1))) (.tst (.cmp .NotIn (.v 5) (.v 3)))) [(.ex (.app (.v 3) (.v 5)))] [])]),
    (.for_ (.one 4) .rng1 [(.bin .Sub (.v 1) (.b1 .len (.v 3)))] [(.ex (.app (.v 3) (.bin .Add (.bin .Add (.c (.str "q")) (.ix (.c (.str "abcdefghijklmnopqrstuvwxyz")) (.v 4))) (.c (.str "q")))))]),
    (.ret (.b1 .sorted (.v 3)))]⟩
def n_law_form : List Str := ["box", "size", "names", "word", "one", "two", "k"]
def F_law_form : Fn := ⟨3, 7, [(.set 3 (.call "_law_pick" [(.v 0), (.lst [(.c (.str "worth")), (.c (.str "copy")), (.c (.str "there")), (.c (.str "add")), (.c (.str "times")), (.c (.str "least")), (.c (.str "most")), (.c (.str "alike")), (.c (.str "less")), (.c (.str "turn")), (.c (.str "when")), (.c (.str "when")), (.c (.str "else")), (.c (.str "else")), (.c (.str "held")), (.c (.str "held")), (.c (.str "before")), (.c (.str "late")), (.c (.str "late")), (.c (.str "match"))])])),
    (.par 4 5 (.call "_law_pick" [(.v 0), (.v 2)]) (.call "_law_pick" [(.v 0), (.v 2)])),
    (.ite (.tst (.cmp .Eq (.v 3) (.c (.str "worth")))) [(.ret (.tup [(.v 3), (.call "_law_take" [(.v 0), (.v 1)])]))] []),
    (.ite (.tst (.cmp .In (.v 3) (.tup [(.c (.str "copy")), (.c (.str "there"))]))) [(.ret (.tup [(.v 3), (.v 4)]))] []),
    (.ite (.tst (.cmp .Eq (.v 3) (.c (.str "turn")))) [(.ret (.tup [(.v 3), (.v 4), (.b1 .tuple (.lc false (.call "_law_take" [(.v 0), (.v 1)]) (.one 6) .rng1 [(.v 1)] none [6]))]))] []),
    (.ite (.tst (.cmp .In (.v 3) (.tup [(.c (.str "held")), (.c (.str "before"))]))) [(.ret (.tup [(.v 3), (.v 4), (.call "_law_take" [(.v 0), (.v 1)])]))] []),
    (.ite (.tst (.cmp .Eq (.v 3) (.c (.str "late")))) [(.ret (.tup [(.v 3), (.v 4), (.call "_law_pick" [(.v 0), (.lst [(.c .non), (.call "_law_take" [(.v 0), (.v 1)])])])]))] []),
    (.ite (.tst (.cmp .Eq (.v 3) (.c (.str "match")))) [(.ret (.tup [(.v 3), (.call "_law_pick" [(.v 0), (.lst [(.c (.str "add")), (.c (.str "times")), (.c (.str "least")), (.c (.str "most")), (.c (.str "alike")), (.c (.str "less"))])]), (.v 4), (.v 5)]))] []),
    (.ret (.tup [(.v 3), (.v 4), (.v 5)]))]⟩
def n_law_names_in : List Str := ["form"]
def F_law_names_in : Fn := ⟨1, 1, [(.ite (.tst (.cmp .Eq (.ix (.v 0) (.c (.int 0))) (.c (.str "worth")))) [(.ret (.tup []))] []),
    (.ite (.tst (.cmp .In (.ix (.v 0) (.c (.int 0))) (.tup [(.c (.str "copy")), (.c (.str "there")), (.c (.str "turn")), (.c (.str "held")), (.c (.str "before")), (.c (.str "late"))]))) [(.ret (.tup [(.ix (.v 0) (.c (.int 1)))]))] []),
    (.ret (.ife (.tst (.cmp .Eq (.ix (.v 0) (.c (.int 0))) (.c (.str "match")))) (.sl (.v 0) (some (.c (.int 2))) none) (.sl (.v 0) (some (.c (.int 1))) none)))]⟩
def n_law_under : List Str := ["net", "names", "table", "found", "step", "at", "name"]
def F_law_under : Fn := ⟨2, 7, [(.set 2 (.b1 .dict (.ix (.v 0) (.c (.int 2))))),
    (.set 3 (.b1 .list (.v 1))),
    (.for_ (.one 4) .rng1 [(.c (.int 60))] [(.ite (.tst (.cmp .GtE (.v 4) (.b1 .len (.v 3)))) [.brk] []), (.ite (.tst (.cmp .In (.ix (.v 3) (.v 4)) (.v 2))) [(.set 3 (.bin .Add (.v 3) (.lc false (.v 6) (.one 6) .plain [(.call "_law_names_in" [(.ix (.v 2) (.ix (.v 3) (.v 4)))])] (some (.tst (.cmp .NotIn (.v 6) (.v 3)))) [6])))] [])]),
    (.ret (.lc false (.ix (.v 3) (.v 5)) (.one 5) .rng1 [(.b1 .len (.v 3))] (some (.tst (.cmp .NotIn (.ix (.v 3) (.v 5)) (.sl (.v 3) none (some (.v 5)))))) [5]))]⟩
def n_law_order : List Str := ["net", "done", "row", "step", "name", "form", "other"]
def F_law_order : Fn := ⟨1, 7, [(.set 1 (.b1 .list (.ix (.v 0) (.c (.int 1))))),
    (.set 2 (.lst [])),
    (.for_ (.one 3) .rng1 [(.b1 .len (.ix (.v 0) (.c (.int 2))))] [(.for_ (.many [4, 5]) .plain [(.ix (.v 0) (.c (.int 2)))] [(.ite (.bop .And (.tst (.cmp .Eq (.b1 .len (.v 2)) (.v 3))) (.bop .And (.tst (.cmp .NotIn (.v 4) (.v 1))) (.bop .Or (.tst (.cmp .Eq (.ix (.v 5) (.c (.int 0))) (.c (.str "late")))) (.tst (.b1 .all (.lc false (.cmp .In (.v 6) (.v 1)) (.one 6) .plain [(.call "_law_names_in" [(.v 5)])] none [6])))))) [(.ex (.app (.v 2) (.v 4)))] [])]), (.ite (.tst (.cmp .Gt (.b1 .len (.v 2)) (.v 3))) [(.ex (.app (.v 1) (.ix (.v 2) (.v 3))))] [])]),
    (.ret (.v 2))]⟩
def n_law_sound : List Str := ["net", "name", "form"]
def F_law_sound : Fn := ⟨1, 3, [(.ite (.tst (.cmp .Lt (.b1 .len (.call "_law_order" [(.v 0)])) (.b1 .len (.ix (.v 0) (.c (.int 2)))))) [(.ret (.c (.bl false)))] []),
    (.ret (.notv (.b1 .any (.lc false (.bop .And (.cmp .Eq (.ix (.v 2) (.c (.int 0))) (.c (.str "match"))) (.cmp .In (.v 1) (.call "_law_under" [(.v 0), (.call "_law_names_in" [(.v 2)])]))) (.many [1, 2]) .plain [(.ix (.v 0) (.c (.int 2)))] none [1, 2]))))]⟩
def n_law_net : List Str := ["box", "inputs", "cells", "most", "matches", "size", "many", "names", "left", "chosen", "net", "turn", "name", "form", "k", "after", "one", "old"]
def F_law_net : Fn := ⟨5, 18, [(.set 5 (.bin .Add (.c (.int 2)) (.call "_law_take" [(.v 0), (.bin .Sub (.v 3) (.c (.int 1)))]))),
    (.set 6 (.bin .Add (.c (.int 1)) (.call "_law_take" [(.v 0), (.v 1)]))),
    (.set 7 (.call "_law_names" [(.v 0), (.bin .Add (.bin .Add (.v 6) (.c (.int 2))) (.call "_law_take" [(.v 0), (.bin .Sub (.v 2) (.c (.int 1)))]))])),
    (.set 8 (.b1 .list (.v 7))),
    (.set 9 (.b1 .sorted (.lc false (.popAt (.v 8) (.call "_law_take" [(.v 0), (.b1 .len (.v 8))])) (.one 14) .rng1 [(.v 6)] none [14]))),
    (.set 10 (.tup [(.v 5), (.b1 .tuple (.v 9)), (.b1 .tuple (.lc false (.tup [(.v 12), (.tup [(.c (.str "worth")), (.call "_law_take" [(.v 0), (.v 5)])])]) (.one 12) .plain [(.v 8)] none [12]))])),
    (.for_ (.one 11) .rng1 [(.c (.int 2))] [(.for_ (.one 12) .plain [(.v 8)] [(.set 13 (.call "_law_form" [(.v 0), (.v 5), (.v 7)])), (.ite (.bop .Or (.tst (.cmp .NotEq (.ix (.v 13) (.c (.int 0))) (.c (.str "match")))) (.tst (.v 4))) [(.set 15 (.tup [(.v 5), (.ix (.v 10) (.c (.int 1))), (.b1 .tuple (.lc false (.tup [(.v 16), (.ife (.tst (.cmp .Eq (.v 16) (.v 12))) (.v 13) (.v 17))]) (.many [16, 17]) .plain [(.ix (.v 10) (.c (.int 2)))] none [16, 17]))])), (.ite (.tst (.call "_law_sound" [(.v 15)])) [(.set 10 (.v 15))] [])] [])])]),
    (.ret (.v 10))]⟩
def n_law_paired : List Str := ["word", "one", "two", "size"]
def F_law_paired : Fn := ⟨4, 4, [(.ite (.tst (.cmp .Eq (.v 0) (.c (.str "add")))) [(.ret (.bin .Mod (.b1 .int (.bin .Add (.v 1) (.v 2))) (.v 3)))] []),
    (.ite (.tst (.cmp .Eq (.v 0) (.c (.str "times")))) [(.ret (.bin .Mod (.b1 .int (.bin .Mult (.v 1) (.v 2))) (.v 3)))] []),
    (.ite (.tst (.cmp .In (.v 0) (.tup [(.c (.str "least")), (.c (.str "most"))]))) [(.ret (.ife (.tst (.cmp .Eq (.v 0) (.c (.str "least")))) (.min2 (.v 1) (.v 2)) (.max2 (.v 1) (.v 2))))] []),
    (.ret (.ife (.tst (.cmp .Eq (.v 0) (.c (.str "alike")))) (.b1 .int (.cmp .Eq (.v 1) (.v 2))) (.b1 .int (.cmp .Lt (.v 1) (.v 2)))))]⟩
def n_law_shown : List Str := ["form", "worths", "size", "word"]
def F_law_shown : Fn := ⟨3, 4, [(.set 3 (.ix (.v 0) (.c (.int 0)))),
    (.ite (.tst (.cmp .Eq (.v 3) (.c (.str "worth")))) [(.ret (.ix (.v 0) (.c (.int 1))))] []),
    (.ite (.tst (.cmp .In (.v 3) (.tup [(.c (.str "copy")), (.c (.str "there"))]))) [(.ret (.ife (.tst (.cmp .Eq (.v 3) (.c (.str "copy")))) (.ix (.v 1) (.c (.int 0))) (.b1 .int (.isn true (.ix (.v 1) (.c (.int 0))) (.c .non)))))] []),
    (.ite (.tst (.cmp .Eq (.v 3) (.c (.str "turn")))) [(.ret (.ife (.tst (.isn false (.ix (.v 1) (.c (.int 0))) (.c .non))) (.c .non) (.ix (.ix (.v 0) (.c (.int 2))) (.ix (.v 1) (.c (.int 0))))))] []),
    (.ite (.tst (.cmp .Eq (.v 3) (.c (.str "else")))) [(.ret (.ife (.tst (.isn false (.ix (.v 1) (.c (.int 0))) (.c .non))) (.ix (.v 1) (.c (.int 1))) (.ix (.v 1) (.c (.int 0)))))] []),
    (.ite (.tst (.cmp .Eq (.v 3) (.c (.str "when")))) [(.ret (.ife (.bop .And (.tst (.isn true (.ix (.v 1) (.c (.int 1))) (.c .non))) (.tst (.cmp .NotEq (.ix (.v 1) (.c (.int 1))) (.c (.int 0))))) (.ix (.v 1) (.c (.int 0))) (.c .non)))] []),
    (.ret (.ife (.bop .Or (.tst (.isn false (.ix (.v 1) (.c (.int 0))) (.c .non))) (.tst (.isn false (.ix (.v 1) (.c (.int 1))) (.c .non)))) (.c .non) (.call "_law_paired" [(.v 3), (.ix (.v 1) (.c (.int 0))), (.ix (.v 1) (.c (.int 1))), (.v 2)])))]⟩
def n_law_event : List Str := ["box", "net", "name"]
def F_law_event : Fn := ⟨2, 3, [(.ret (.b1 .tuple (.lc false (.tup [(.v 2), (.call "_law_take" [(.v 0), (.ix (.v 1) (.c (.int 0)))])]) (.one 2) .plain [(.ix (.v 1) (.c (.int 1)))] (some (.tst (.cmp .Gt (.call "_law_take" [(.v 0), (.c (.int 5))]) (.c (.int 1))))) [2])))]⟩
def n_law_rows : List Str := ["box", "net", "many", "k"]
def F_law_rows : Fn := ⟨3, 4, [(.ret (.b1 .tuple (.lc false (.call "_law_event" [(.v 0), (.v 1)]) (.one 3) .rng1 [(.v 2)] none [3])))]⟩
def n_law_past : List Str := ["form", "past", "now", "size", "sides", "ahead", "k", "many", "rows", "name", "moment"]
def F_law_past : Fn := ⟨4, 11, [(.ite (.tst (.cmp .Eq (.ix (.v 0) (.c (.int 0))) (.c (.str "late")))) [(.ret (.ife (.tst (.cmp .Gt (.b1 .len (.v 1)) (.c (.int 0)))) (.ix (.ix (.v 1) (.bin .Sub (.b1 .len (.v 1)) (.c (.int 1)))) (.ix (.v 0) (.c (.int 1)))) (.ix (.v 0) (.c (.int 2)))))] []),
    (.ite (.tst (.cmp .In (.ix (.v 0) (.c (.int 0))) (.tup [(.c (.str "held")), (.c (.str "before"))]))) [(.ite (.bop .And (.tst (.cmp .Eq (.ix (.v 0) (.c (.int 0))) (.c (.str "before")))) (.tst (.isn false (.ix (.v 2) (.ix (.v 0) (.c (.int 1)))) (.c .non)))) [(.ret (.c .non))] []), (.set 8 (.view (.lc false (.ix (.v 10) (.ix (.v 0) (.c (.int 1)))) (.one 10) .plain [(.bin .Add (.v 1) (.ife (.tst (.cmp .Eq (.ix (.v 0) (.c (.int 0))) (.c (.str "held")))) (.lst [(.v 2)]) (.lst [])))] (some (.tst (.isn true (.ix (.v 10) (.ix (.v 0) (.c (.int 1)))) (.c .non)))) [10]))), (.ret (.ife (.tst (.cmp .Gt (.b1 .len (.v 8)) (.c (.int 0)))) (.ix (.v 8) (.bin .Sub (.b1 .len (.v 8)) (.c (.int 1)))) (.ix (.v 0) (.c (.int 2)))))] []),
    (.set 4 (.lc true (.lc false (.ix (.v 10) (.v 9)) (.one 10) .plain [(.v 1)] (some (.tst (.isn true (.ix (.v 10) (.v 9)) (.c .non)))) [10]) (.one 9) .plain [(.sl (.v 0) (some (.c (.int 2))) none)] none [9])),
    (.set 5 (.min2 (.view (.b1 .len (.ix (.v 4) (.c (.int 0))))) (.view (.b1 .len (.ix (.v 4) (.c (.int 1))))))),
    (.for_ (.one 6) .rng1 [(.c (.int 2))] [(.ite (.tst (.isn true (.ix (.v 2) (.ix (.v 0) (.bin .Add (.c (.int 2)) (.v 6)))) (.c .non))) [(.ex (.appIx 4 (.v 6) (.ix (.v 2) (.ix (.v 0) (.bin .Add (.c (.int 2)) (.v 6))))))] [])]),
    (.set 7 (.min2 (.view (.b1 .len (.ix (.v 4) (.c (.int 0))))) (.view (.b1 .len (.ix (.v 4) (.c (.int 1))))))),
    (.ret (.ife (.tst (.cmp .Gt (.v 7) (.v 5))) (.call "_law_paired" [(.ix (.v 0) (.c (.int 1))), (.view (.ix (.ix (.v 4) (.c (.int 0))) (.bin .Sub (.v 7) (.c (.int 1))))), (.view (.ix (.ix (.v 4) (.c (.int 1))) (.bin .Sub (.v 7) (.c (.int 1))))), (.v 3)]) (.c .non)))]⟩
def n_law_tables : List Str := ["net", "rows", "past", "event", "now", "name", "form", "other"]
def F_law_tables : Fn := ⟨2, 8, [(.set 2 (.lst [])),
    (.for_ (.one 3) .plain [(.v 1)] [(.set 4 (.dct [] [])), (.for_ (.one 5) .plain [(.ix (.v 0) (.c (.int 1)))] [(.put (.v 4) (.v 5) (.get (.b1 .dict (.v 3)) (.v 5) (.c .non)))]), (.for_ (.one 5) .plain [(.call "_law_order" [(.v 0)])] [(.set 6 (.ix (.b1 .dict (.ix (.v 0) (.c (.int 2)))) (.v 5))), (.ite (.tst (.cmp .In (.ix (.v 6) (.c (.int 0))) (.tup [(.c (.str "held")), (.c (.str "before")), (.c (.str "late")), (.c (.str "match"))]))) [(.put (.v 4) (.v 5) (.call "_law_past" [(.v 6), (.v 2), (.v 4), (.ix (.v 0) (.c (.int 0)))]))] [(.put (.v 4) (.v 5) (.call "_law_shown" [(.v 6), (.lc false (.ix (.v 4) (.v 7)) (.one 7) .plain [(.call "_law_names_in" [(.v 6)])] none [7]), (.ix (.v 0) (.c (.int 0)))]))])]), (.ex (.app (.v 2) (.v 4)))]),
    (.ret (.v 2))]⟩
def n_law_all_names : List Str := ["net", "name", "form"]
def F_law_all_names : Fn := ⟨1, 3, [(.ret (.bin .Add (.b1 .list (.ix (.v 0) (.c (.int 1)))) (.lc false (.v 1) (.many [1, 2]) .plain [(.ix (.v 0) (.c (.int 2)))] none [1, 2])))]⟩
def n_law_same : List Str := ["one", "two", "k"]
def F_law_same : Fn := ⟨2, 3, [(.ite (.tst (.isi (.v 0) .tuple)) [(.ret (.bop .And (.isi (.v 1) .tuple) (.bop .And (.cmp .Eq (.b1 .len (.v 0)) (.b1 .len (.v 1))) (.b1 .all (.lc false (.call "_law_same" [(.ix (.v 0) (.v 2)), (.ix (.v 1) (.v 2))]) (.one 2) .rng1 [(.b1 .len (.v 0))] none [2])))))] []),
    (.ret (.bop .And (.cmp .Eq (.v 0) (.v 1)) (.notv (.bop .Or (.isn false (.v 1) (.c (.bl true))) (.isn false (.v 1) (.c (.bl false)))))))]⟩
def n_law_mixed : List Str := ["box", "row", "left", "k"]
def F_law_mixed : Fn := ⟨2, 4, [(.set 2 (.b1 .list (.v 1))),
    (.ret (.lc false (.popAt (.v 2) (.call "_law_take" [(.v 0), (.b1 .len (.v 2))])) (.one 3) .rng1 [(.b1 .len (.v 1))] none [3]))]⟩
def n_law_moment : List Str := ["net", "now", "name", "form"]
def F_law_moment : Fn := ⟨2, 4, [(.ret (.b1 .tuple (.lc false (.ix (.v 1) (.v 2)) (.many [2, 3]) .plain [(.ix (.v 0) (.c (.int 2)))] none [2, 3])))]⟩
def n_law : List Str := ["script", "box", "net", "rows", "tables", "moments", "name", "strange", "trail", "k", "told_v", "some", "after", "at", "before", "old", "due", "now", "pair", "cell"]
def F_law : Fn := ⟨1, 20, [(.set 1 (.call "_law_box" [(.v 0)])),
    (.set 2 (.call "_law_net" [(.v 1), (.c (.int 3)), (.c (.int 6)), (.c (.int 5)), (.c (.bl true))])),
    (.set 3 (.call "_law_rows" [(.v 1), (.v 2), (.bin .Add (.c (.int 1)) (.call "_law_take" [(.v 1), (.c (.int 8))]))])),
    (.set 3 (.bin .Add (.v 3) (.sl (.v 3) none (some (.c (.int 1)))))),
    (.set 4 (.call "_law_tables" [(.v 2), (.v 3)])),
    (.set 5 (.b1 .tuple (.lc false (.call "_law_moment" [(.v 2), (.v 17)]) (.one 17) .plain [(.v 4)] none [17]))),
    (.ite (.bop .Or (.not_ (.tst (.call "_law_same" [(.v 5), (.call "meaning" [(.v 2), (.v 3)])]))) (.tst (.cmp .NotEq (.call "meaning" [(.v 2), (.tup [])]) (.tup [])))) [(.ret (.c (.bl false)))] []),
    (.for_ (.one 6) .plain [(.call "_law_all_names" [(.v 2)])] [(.ite (.not_ (.tst (.call "_law_same" [(.b1 .tuple (.lc false (.ix (.v 17) (.v 6)) (.one 17) .plain [(.v 4)] none [17])), (.call "history" [(.v 2), (.v 3), (.v 6)])]))) [(.ret (.c (.bl false)))] []), (.set 13 (.call "_law_take" [(.v 1), (.b1 .len (.v 3))])), (.ite (.bop .Or (.not_ (.tst (.call "_law_same" [(.tup [(.ix (.ix (.v 4) (.v 13)) (.v 6))]), (.tup [(.call "value_at" [(.v 2), (.v 3), (.v 6), (.v 13)])])]))) (.tst (.cmp .NotEq (.call "value_at" [(.v 2), (.sl (.v 3) none (some (.bin .Add (.v 13) (.c (.int 1))))), (.v 6), (.v 13)]) (.ix (.ix (.v 4) (.v 13)) (.v 6))))) [(.ret (.c (.bl false)))] [])]),
    (.set 7 (.lc false (.b1 .tuple (.lc false (.call "_law_pick" [(.v 1), (.lst [(.c .non), (.call "_law_take" [(.v 1), (.ix (.v 2) (.c (.int 0)))])])]) (.one 19) .plain [(.ix (.v 2) (.c (.int 2)))] none [19])) (.one 9) .rng1 [(.c (.int 4))] none [9])),
    (.set 8 (.call "_law_mixed" [(.v 1), (.bin .Add (.b1 .list (.v 5)) (.v 7))])),
    (.for_ (.one 9) .rng1 [(.b1 .len (.v 8))] [(.set 14 (.ife (.tst (.cmp .Gt (.v 9) (.c (.int 0)))) (.ix (.v 8) (.bin .Sub (.v 9) (.c (.int 1)))) (.c .non))), (.set 10 (.call "changes" [(.v 2), (.v 14), (.ix (.v 8) (.v 9))])), (.set 15 (.ife (.tst (.isn false (.v 14) (.c .non))) (.lc false (.c .non) (.one 19) .plain [(.ix (.v 2) (.c (.int 2)))] none [19]) (.b1 .list (.v 14)))), (.set 16 (.b1 .tuple (.lc false (.tup [(.ix (.ix (.ix (.v 2) (.c (.int 2))) (.v 13)) (.c (.int 0))), (.ix (.ix (.v 8) (.v 9)) (.v 13))]) (.one 13) .rng1 [(.b1 .len (.ix (.v 2) (.c (.int 2))))] (some (.tst (.cmp .NotEq (.ix (.ix (.v 8) (.v 9)) (.v 13)) (.ix (.v 15) (.v 13))))) [13]))), (.ite (.bop .Or (.not_ (.tst (.call "_law_same" [(.v 16), (.v 10)]))) (.bop .Or (.tst (.isn true (.call "are_changes" [(.v 2), (.v 10)]) (.c (.bl true)))) (.not_ (.tst (.call "_law_same" [(.ix (.v 8) (.v 9)), (.call "applied" [(.v 2), (.v 14), (.v 10)])]))))) [(.ret (.c (.bl false)))] []), (.ite (.bop .Or (.not_ (.tst (.call "_law_same" [(.ix (.v 8) (.v 9)), (.call "applied" [(.v 2), (.ix (.v 8) (.v 9)), (.tup [])])]))) (.tst (.cmp .NotEq (.call "changes" [(.v 2), (.ix (.v 8) (.v 9)), (.ix (.v 8) (.v 9))]) (.tup [])))) [(.ret (.c (.bl false)))] [])]),
    (.set 10 (.call "all_changes" [(.v 2), (.b1 .tuple (.v 8))])),
    (.ite (.bop .Or (.not_ (.tst (.isi (.v 10) .tuple))) (.bop .Or (.tst (.cmp .NotEq (.b1 .len (.v 10)) (.b1 .len (.v 8)))) (.not_ (.tst (.call "_law_same" [(.b1 .tuple (.v 8)), (.call "replayed" [(.v 2), (.v 10)])]))))) [(.ret (.c (.bl false)))] []),
    (.set 11 (.b1 .tuple (.lc false (.v 18) (.one 18) .plain [(.call "changes" [(.v 2), (.c .non), (.ix (.v 8) (.c (.int 0)))])] (some (.tst (.cmp .Eq (.call "_law_take" [(.v 1), (.c (.int 2))]) (.c (.int 0))))) [18]))),
    (.set 12 (.b1 .tuple (.lc false (.get (.b1 .dict (.v 11)) (.ix (.ix (.ix (.v 2) (.c (.int 2))) (.v 13)) (.c (.int 0))) (.ix (.ix (.v 8) (.c (.int 0))) (.v 13))) (.one 13) .rng1 [(.b1 .len (.ix (.v 2) (.c (.int 2))))] none [13]))),
    (.ret (.bop .And (.cmp .Eq (.call "applied" [(.v 2), (.ix (.v 8) (.c (.int 0))), (.v 11)]) (.v 12)) (.bop .And (.cmp .Eq (.call "replayed" [(.v 2), (.tup [])]) (.tup [])) (.cmp .Eq (.call "all_changes" [(.v 2), (.tup [])]) (.tup [])))))]⟩
abbrev prog : PySem.Program := PySem.Challenge.pw_cellmoments_k65_whole_values_at_all_inst
def top (i : Nat) : Stmt := prog.main.body.getD i (.Pass ⟨0, 0, 0, 0⟩)
def free : List Str := ["len", "tuple", "list", "all", "any", "sorted", "int", "dict", "min", "max", "isinstance", "bool", "str", "range", "enumerate"]
abbrev s_is_integer : Stmt := top 1
abbrev e_is_integer : DefE := ⟨"is_integer", s_is_integer, ["value"], n_is_integer, [], [], F_is_integer⟩
abbrev s_is_between : Stmt := top 2
abbrev e_is_between : DefE := ⟨"is_between", s_is_between, ["value", "low", "high"], n_is_between, [], [], F_is_between⟩
abbrev s_is_row : Stmt := top 3
abbrev e_is_row : DefE := ⟨"is_row", s_is_row, ["value", "size"], n_is_row, [], [], F_is_row⟩
abbrev s_is_ascending : Stmt := top 4
abbrev e_is_ascending : DefE := ⟨"is_ascending", s_is_ascending, ["row"], n_is_ascending, [], [], F_is_ascending⟩
abbrev s_is_worth : Stmt := top 5
abbrev e_is_worth : DefE := ⟨"is_worth", s_is_worth, ["value", "size"], n_is_worth, [], [], F_is_worth⟩
abbrev s_is_worth_or_none : Stmt := top 6
abbrev e_is_worth_or_none : DefE := ⟨"is_worth_or_none", s_is_worth_or_none, ["value", "size"], n_is_worth_or_none, [], [], F_is_worth_or_none⟩
abbrev s_names_in : Stmt := top 8
abbrev e_names_in : DefE := ⟨"names_in", s_names_in, ["form"], n_names_in, [], [], F_names_in⟩
abbrev s_paired : Stmt := top 9
abbrev e_paired : DefE := ⟨"paired", s_paired, ["word", "one", "two", "size"], n_paired, [], [], F_paired⟩
abbrev s_shown : Stmt := top 10
abbrev e_shown : DefE := ⟨"shown", s_shown, ["form", "worths", "size"], n_shown, [], [], F_shown⟩
abbrev s_cell_names : Stmt := top 12
abbrev e_cell_names : DefE := ⟨"cell_names", s_cell_names, ["net"], n_cell_names, [], [], F_cell_names⟩
abbrev s_form_table : Stmt := top 13
abbrev e_form_table : DefE := ⟨"form_table", s_form_table, ["net"], n_form_table, [], [], F_form_table⟩
abbrev s_meaning : Stmt := top 15
abbrev e_meaning : DefE := ⟨"meaning", s_meaning, ["net", "rows"], n_meaning, [], [], F_meaning⟩
abbrev s_shows : Stmt := top 16
abbrev e_shows : DefE := ⟨"shows", s_shows, ["net", "table", "rows", "known", "name", "instant"], n_shows, [], [], F_shows⟩
abbrev s_told : Stmt := top 17
abbrev e_told : DefE := ⟨"told", s_told, ["net", "table", "rows", "known", "form", "instant"], n_told, [], [], F_told⟩
abbrev s_remembered : Stmt := top 18
abbrev e_remembered : DefE := ⟨"remembered", s_remembered, ["net", "table", "rows", "known", "form", "instant"], n_remembered, [], [], F_remembered⟩
abbrev s_matched : Stmt := top 19
abbrev e_matched : DefE := ⟨"matched", s_matched, ["net", "table", "rows", "known", "form", "instant"], n_matched, [], [], F_matched⟩
abbrev s_history : Stmt := top 20
abbrev e_history : DefE := ⟨"history", s_history, ["net", "rows", "name"], n_history, [], [], F_history⟩
abbrev s_value_at : Stmt := top 21
abbrev e_value_at : DefE := ⟨"value_at", s_value_at, ["net", "rows", "name", "instant"], n_value_at, [], [], F_value_at⟩
abbrev s_changes : Stmt := top 23
abbrev e_changes : DefE := ⟨"changes", s_changes, ["net", "before", "after"], n_changes, [], [], F_changes⟩
abbrev s_applied : Stmt := top 24
abbrev e_applied : DefE := ⟨"applied", s_applied, ["net", "before", "told"], n_applied, [], [], F_applied⟩
abbrev s_are_changes : Stmt := top 25
abbrev e_are_changes : DefE := ⟨"are_changes", s_are_changes, ["net", "value"], n_are_changes, [], [], F_are_changes⟩
abbrev s_all_changes : Stmt := top 26
abbrev e_all_changes : DefE := ⟨"all_changes", s_all_changes, ["net", "moments"], n_all_changes, [], [], F_all_changes⟩
abbrev s_replayed : Stmt := top 27
abbrev e_replayed : DefE := ⟨"replayed", s_replayed, ["net", "rows"], n_replayed, [], [], F_replayed⟩
abbrev s_law_digits : Stmt := top 29
abbrev e_law_digits : DefE := ⟨"_law_digits", s_law_digits, ["cell", "count"], n_law_digits, [], [], F_law_digits⟩
abbrev s_law_box : Stmt := top 30
abbrev e_law_box : DefE := ⟨"_law_box", s_law_box, ["script"], n_law_box, [], [], F_law_box⟩
abbrev s_law_take : Stmt := top 31
abbrev e_law_take : DefE := ⟨"_law_take", s_law_take, ["box", "many"], n_law_take, [], [], F_law_take⟩
abbrev s_law_pick : Stmt := top 32
abbrev e_law_pick : DefE := ⟨"_law_pick", s_law_pick, ["box", "row"], n_law_pick, [], [], F_law_pick⟩
abbrev s_law_some : Stmt := top 33
abbrev e_law_some : DefE := ⟨"_law_some", s_law_some, ["box", "letters", "size"], n_law_some, [], [], F_law_some⟩
abbrev s_law_names : Stmt := top 34
abbrev e_law_names : DefE := ⟨"_law_names", s_law_names, ["box", "many"], n_law_names, [], [], F_law_names⟩
abbrev s_law_form : Stmt := top 35
abbrev e_law_form : DefE := ⟨"_law_form", s_law_form, ["box", "size", "names"], n_law_form, [], [], F_law_form⟩
abbrev s_law_names_in : Stmt := top 36
abbrev e_law_names_in : DefE := ⟨"_law_names_in", s_law_names_in, ["form"], n_law_names_in, [], [], F_law_names_in⟩
abbrev s_law_under : Stmt := top 37
abbrev e_law_under : DefE := ⟨"_law_under", s_law_under, ["net", "names"], n_law_under, [], [], F_law_under⟩
abbrev s_law_order : Stmt := top 38
abbrev e_law_order : DefE := ⟨"_law_order", s_law_order, ["net"], n_law_order, [], [], F_law_order⟩
abbrev s_law_sound : Stmt := top 39
abbrev e_law_sound : DefE := ⟨"_law_sound", s_law_sound, ["net"], n_law_sound, [], [], F_law_sound⟩
abbrev s_law_net : Stmt := top 40
abbrev e_law_net : DefE := ⟨"_law_net", s_law_net, ["box", "inputs", "cells", "most", "matches"], n_law_net, [], [], F_law_net⟩
abbrev s_law_paired : Stmt := top 41
abbrev e_law_paired : DefE := ⟨"_law_paired", s_law_paired, ["word", "one", "two", "size"], n_law_paired, [], [], F_law_paired⟩
abbrev s_law_shown : Stmt := top 42
abbrev e_law_shown : DefE := ⟨"_law_shown", s_law_shown, ["form", "worths", "size"], n_law_shown, [], [], F_law_shown⟩
abbrev s_law_event : Stmt := top 43
abbrev e_law_event : DefE := ⟨"_law_event", s_law_event, ["box", "net"], n_law_event, [], [], F_law_event⟩
abbrev s_law_rows : Stmt := top 44
abbrev e_law_rows : DefE := ⟨"_law_rows", s_law_rows, ["box", "net", "many"], n_law_rows, [], [], F_law_rows⟩
abbrev s_law_past : Stmt := top 45
abbrev e_law_past : DefE := ⟨"_law_past", s_law_past, ["form", "past", "now", "size"], n_law_past, ["sides"], [273], F_law_past⟩
abbrev s_law_tables : Stmt := top 46
abbrev e_law_tables : DefE := ⟨"_law_tables", s_law_tables, ["net", "rows"], n_law_tables, [], [], F_law_tables⟩
abbrev s_law_all_names : Stmt := top 47
abbrev e_law_all_names : DefE := ⟨"_law_all_names", s_law_all_names, ["net"], n_law_all_names, [], [], F_law_all_names⟩
abbrev s_law_same : Stmt := top 48
abbrev e_law_same : DefE := ⟨"_law_same", s_law_same, ["one", "two"], n_law_same, [], [], F_law_same⟩
abbrev s_law_mixed : Stmt := top 49
abbrev e_law_mixed : DefE := ⟨"_law_mixed", s_law_mixed, ["box", "row"], n_law_mixed, [], [], F_law_mixed⟩
abbrev s_law_moment : Stmt := top 50
abbrev e_law_moment : DefE := ⟨"_law_moment", s_law_moment, ["net", "now"], n_law_moment, [], [], F_law_moment⟩
abbrev s_law : Stmt := top 51
abbrev e_law : DefE := ⟨"law", s_law, ["script"], n_law, [], [], F_law⟩
def eT : List DefE := [e_is_integer, e_is_between, e_is_row, e_is_ascending, e_is_worth, e_is_worth_or_none, e_names_in, e_paired, e_shown, e_cell_names, e_form_table, e_meaning, e_shows, e_told, e_remembered, e_matched, e_history, e_value_at, e_changes, e_applied, e_are_changes, e_all_changes, e_replayed, e_law_digits, e_law_box, e_law_take, e_law_pick, e_law_some, e_law_names, e_law_form, e_law_names_in, e_law_under, e_law_order, e_law_sound, e_law_net, e_law_paired, e_law_shown, e_law_event, e_law_rows, e_law_past, e_law_tables, e_law_all_names, e_law_same, e_law_mixed, e_law_moment, e_law]
abbrev GG : Fns := gT2 eT
theorem cl_ex : ∃ f : Nat → Call, f = evF GG := ⟨_, rfl⟩
/-- the defs of the table, sealed -/
noncomputable def cl : Nat → Call := Classical.choose cl_ex
theorem cl_eq : cl = evF GG := Classical.choose_spec cl_ex
theorem ev_is_integer (n : Nat) (as : List Sl) : cl (n + 1) "is_integer" as = runFn (cl n) F_is_integer as := by rw [cl_eq]; rfl
theorem ev_is_between (n : Nat) (as : List Sl) : cl (n + 1) "is_between" as = runFn (cl n) F_is_between as := by rw [cl_eq]; rfl
theorem ev_is_row (n : Nat) (as : List Sl) : cl (n + 1) "is_row" as = runFn (cl n) F_is_row as := by rw [cl_eq]; rfl
theorem ev_is_ascending (n : Nat) (as : List Sl) : cl (n + 1) "is_ascending" as = runFn (cl n) F_is_ascending as := by rw [cl_eq]; rfl
theorem ev_is_worth (n : Nat) (as : List Sl) : cl (n + 1) "is_worth" as = runFn (cl n) F_is_worth as := by rw [cl_eq]; rfl
theorem ev_is_worth_or_none (n : Nat) (as : List Sl) : cl (n + 1) "is_worth_or_none" as = runFn (cl n) F_is_worth_or_none as := by rw [cl_eq]; rfl
theorem ev_names_in (n : Nat) (as : List Sl) : cl (n + 1) "names_in" as = runFn (cl n) F_names_in as := by rw [cl_eq]; rfl
theorem ev_paired (n : Nat) (as : List Sl) : cl (n + 1) "paired" as = runFn (cl n) F_paired as := by rw [cl_eq]; rfl
theorem ev_shown (n : Nat) (as : List Sl) : cl (n + 1) "shown" as = runFn (cl n) F_shown as := by rw [cl_eq]; rfl
theorem ev_cell_names (n : Nat) (as : List Sl) : cl (n + 1) "cell_names" as = runFn (cl n) F_cell_names as := by rw [cl_eq]; rfl
theorem ev_form_table (n : Nat) (as : List Sl) : cl (n + 1) "form_table" as = runFn (cl n) F_form_table as := by rw [cl_eq]; rfl
theorem ev_meaning (n : Nat) (as : List Sl) : cl (n + 1) "meaning" as = runFn (cl n) F_meaning as := by rw [cl_eq]; rfl
theorem ev_shows (n : Nat) (as : List Sl) : cl (n + 1) "shows" as = runFn (cl n) F_shows as := by rw [cl_eq]; rfl
theorem ev_told (n : Nat) (as : List Sl) : cl (n + 1) "told" as = runFn (cl n) F_told as := by rw [cl_eq]; rfl
theorem ev_remembered (n : Nat) (as : List Sl) : cl (n + 1) "remembered" as = runFn (cl n) F_remembered as := by rw [cl_eq]; rfl
theorem ev_matched (n : Nat) (as : List Sl) : cl (n + 1) "matched" as = runFn (cl n) F_matched as := by rw [cl_eq]; rfl
theorem ev_history (n : Nat) (as : List Sl) : cl (n + 1) "history" as = runFn (cl n) F_history as := by rw [cl_eq]; rfl
theorem ev_value_at (n : Nat) (as : List Sl) : cl (n + 1) "value_at" as = runFn (cl n) F_value_at as := by rw [cl_eq]; rfl
theorem ev_changes (n : Nat) (as : List Sl) : cl (n + 1) "changes" as = runFn (cl n) F_changes as := by rw [cl_eq]; rfl
theorem ev_applied (n : Nat) (as : List Sl) : cl (n + 1) "applied" as = runFn (cl n) F_applied as := by rw [cl_eq]; rfl
theorem ev_are_changes (n : Nat) (as : List Sl) : cl (n + 1) "are_changes" as = runFn (cl n) F_are_changes as := by rw [cl_eq]; rfl
theorem ev_all_changes (n : Nat) (as : List Sl) : cl (n + 1) "all_changes" as = runFn (cl n) F_all_changes as := by rw [cl_eq]; rfl
theorem ev_replayed (n : Nat) (as : List Sl) : cl (n + 1) "replayed" as = runFn (cl n) F_replayed as := by rw [cl_eq]; rfl
theorem ev_law_digits (n : Nat) (as : List Sl) : cl (n + 1) "_law_digits" as = runFn (cl n) F_law_digits as := by rw [cl_eq]; rfl
theorem ev_law_box (n : Nat) (as : List Sl) : cl (n + 1) "_law_box" as = runFn (cl n) F_law_box as := by rw [cl_eq]; rfl
theorem ev_law_take (n : Nat) (as : List Sl) : cl (n + 1) "_law_take" as = runFn (cl n) F_law_take as := by rw [cl_eq]; rfl
theorem ev_law_pick (n : Nat) (as : List Sl) : cl (n + 1) "_law_pick" as = runFn (cl n) F_law_pick as := by rw [cl_eq]; rfl
theorem ev_law_some (n : Nat) (as : List Sl) : cl (n + 1) "_law_some" as = runFn (cl n) F_law_some as := by rw [cl_eq]; rfl
theorem ev_law_names (n : Nat) (as : List Sl) : cl (n + 1) "_law_names" as = runFn (cl n) F_law_names as := by rw [cl_eq]; rfl
theorem ev_law_form (n : Nat) (as : List Sl) : cl (n + 1) "_law_form" as = runFn (cl n) F_law_form as := by rw [cl_eq]; rfl
theorem ev_law_names_in (n : Nat) (as : List Sl) : cl (n + 1) "_law_names_in" as = runFn (cl n) F_law_names_in as := by rw [cl_eq]; rfl
theorem ev_law_under (n : Nat) (as : List Sl) : cl (n + 1) "_law_under" as = runFn (cl n) F_law_under as := by rw [cl_eq]; rfl
theorem ev_law_order (n : Nat) (as : List Sl) : cl (n + 1) "_law_order" as = runFn (cl n) F_law_order as := by rw [cl_eq]; rfl
theorem ev_law_sound (n : Nat) (as : List Sl) : cl (n + 1) "_law_sound" as = runFn (cl n) F_law_sound as := by rw [cl_eq]; rfl
theorem ev_law_net (n : Nat) (as : List Sl) : cl (n + 1) "_law_net" as = runFn (cl n) F_law_net as := by rw [cl_eq]; rfl
theorem ev_law_paired (n : Nat) (as : List Sl) : cl (n + 1) "_law_paired" as = runFn (cl n) F_law_paired as := by rw [cl_eq]; rfl
theorem ev_law_shown (n : Nat) (as : List Sl) : cl (n + 1) "_law_shown" as = runFn (cl n) F_law_shown as := by rw [cl_eq]; rfl
theorem ev_law_event (n : Nat) (as : List Sl) : cl (n + 1) "_law_event" as = runFn (cl n) F_law_event as := by rw [cl_eq]; rfl
theorem ev_law_rows (n : Nat) (as : List Sl) : cl (n + 1) "_law_rows" as = runFn (cl n) F_law_rows as := by rw [cl_eq]; rfl
theorem ev_law_past (n : Nat) (as : List Sl) : cl (n + 1) "_law_past" as = runFn (cl n) F_law_past as := by rw [cl_eq]; rfl
theorem ev_law_tables (n : Nat) (as : List Sl) : cl (n + 1) "_law_tables" as = runFn (cl n) F_law_tables as := by rw [cl_eq]; rfl
theorem ev_law_all_names (n : Nat) (as : List Sl) : cl (n + 1) "_law_all_names" as = runFn (cl n) F_law_all_names as := by rw [cl_eq]; rfl
theorem ev_law_same (n : Nat) (as : List Sl) : cl (n + 1) "_law_same" as = runFn (cl n) F_law_same as := by rw [cl_eq]; rfl
theorem ev_law_mixed (n : Nat) (as : List Sl) : cl (n + 1) "_law_mixed" as = runFn (cl n) F_law_mixed as := by rw [cl_eq]; rfl
theorem ev_law_moment (n : Nat) (as : List Sl) : cl (n + 1) "_law_moment" as = runFn (cl n) F_law_moment as := by rw [cl_eq]; rfl
theorem ev_law (n : Nat) (as : List Sl) : cl (n + 1) "law" as = runFn (cl n) F_law as := by rw [cl_eq]; rfl
end Ev

namespace Ev
open PySem PySem.Spec PyProof.Rows L2
/-! the box, forms -/
def bx (row : List Int) (at_ : Nat) : MO := .dk [(.inr "row", .lst (row.map .int)), (.inr "at", .int at_)]
def tk (row : List Int) (at_ : Nat) (many : Int) : Int := (row.getD (at_ % row.length) 0 + 104729 * (at_ / row.length : Nat)) % many
theorem tk_lt (row : List Int) (at_ : Nat) (many : Int) (h : 0 < many) : 0 ≤ tk row at_ many ∧ tk row at_ many < many := ⟨Int.emod_nonneg _ (by omega), Int.emod_lt_of_pos _ h⟩
theorem law_take (n : Nat) (row : List Int) (at_ : Nat) (many : Int) (hr : row ≠ []) (hl : row.length < 10000) (hm : 0 < many) :
    cl (n + 1) "_law_take" [.own (bx row at_), .p (.int many)] = .ok (.p (.int (tk row at_ many)), [.own (bx row (at_ + 1)), .p (.int many)]) := by
  have hat : atI (row.map P.int) ((at_ : Int) % (row.length : Int)) = some (.int (row.getD (at_ % row.length) 0)) := by
    have : at_ % row.length < row.length := Nat.mod_lt _ (by cases row with | nil => exact absurd rfl hr | cons _ _ => simp)
    refine at_pos (i := at_ % row.length) ?_
    simp [List.getElem?_eq_getElem this]
  have hl0 : 0 < row.length := by cases row with | nil => exact absurd rfl hr | cons _ _ => simp
  have hl1 : (row.length : Int) < 1073741824 := by omega
  have e1 : binP .Mod (.int at_) (.int (row.map P.int).length) = .ok (.p (.int ((at_:Int) % row.length))) := by
    simp [binP, hl0]
  have e2 : ixP (.lst (row.map P.int)) (.int ((at_ : Int) % (row.length : Int))) = .ok (.int (row.getD (at_ % row.length) 0)) := by
    rw [ixP, hat]; rfl
  have e3 : binP .FloorDiv (.int at_) (.int (row.map P.int).length) = .ok (.p (.int ((at_:Int) / row.length))) := by
    simp [binP, hl0, hl1]
  apply tri_eq
  rw [ev_law_take]
  refine tri_F ?_
  conv => arg 1; whnf
  refine tri_stp (e1) ?_
  conv => arg 1; whnf
  refine tri_stp (e2) ?_
  conv => arg 1; whnf
  refine tri_stp (e3) ?_
  conv => arg 1; whnf
  refine tri_stp (mod_ok hm) ?_
  conv => arg 1; whnf
  refine tri_ret ?_
  rfl
inductive Bop where
  | add | times | least | most | alike | less
  deriving DecidableEq
def Bop.w : Bop → String
  | .add => "add"
  | .times => "times"
  | .least => "least"
  | .most => "most"
  | .alike => "alike"
  | .less => "less"
inductive Fm where
  | worth (i : Int) | copy (x : Str) | there (x : Str) | turn (x : Str) (row : List Int) | els (x y : Str) | wen (x y : Str)
  | two (o : Bop) (x y : Str) | held (x : Str) (i : Int) | before (x : Str) (i : Int) | late (x : Str) (i : Option Int) | mat (o : Bop) (x y : Str)
def vP : Option Int → P
  | none => .non
  | some i => .int i
def sP (s : String) : P := .str s
def Fm.toP : Fm → P
  | .worth i => .tup [sP "worth", .int i]
  | .copy x => .tup [sP "copy", .str x]
  | .there x => .tup [sP "there", .str x]
  | .turn x row => .tup [sP "turn", .str x, .tup (row.map .int)]
  | .els x y => .tup [sP "else", .str x, .str y]
  | .wen x y => .tup [sP "when", .str x, .str y]
  | .two o x y => .tup [sP o.w, .str x, .str y]
  | .held x i => .tup [sP "held", .str x, .int i]
  | .before x i => .tup [sP "before", .str x, .int i]
  | .late x i => .tup [sP "late", .str x, vP i]
  | .mat o x y => .tup [sP "match", sP o.w, .str x, .str y]
def Fm.ns : Fm → List Str
  | .worth _ => []
  | .copy x => [x]
  | .there x => [x]
  | .turn x _ => [x]
  | .els x y => [x, y]
  | .wen x y => [x, y]
  | .two _ x y => [x, y]
  | .held x _ => [x]
  | .before x _ => [x]
  | .late x _ => [x]
  | .mat _ x y => [x, y]
def Bop.f (o : Bop) (a b z : Int) : Int := match o with
  | .add => (a + b) % z
  | .times => (a * b) % z
  | .least => if b < a then b else a
  | .most => if b > a then b else a
  | .alike => if a = b then 1 else 0
  | .less => if a < b then 1 else 0
theorem law_names_in (n : Nat) (f : Fm) : cl (n + 1) "_law_names_in" [.p f.toP] = .ok (.p (.tup (f.ns.map .str)), [.p f.toP]) := by
  rw [ev_law_names_in]
  cases f with
  | two o x y => cases o <;> kernel_rfl
  | _ => kernel_rfl
theorem names_in (n : Nat) (f : Fm) : cl (n + 1) "names_in" [.p f.toP] = .ok (.p (.tup (f.ns.map .str)), [.p f.toP]) := by
  rw [ev_names_in]
  cases f with
  | two o x y => cases o <;> kernel_rfl
  | _ => kernel_rfl
theorem law_paired (n : Nat) (o : Bop) (a b z : Int) (hz : 0 < z) (ha : -18446744073709551616 < a ∧ a < 18446744073709551616) : cl (n + 1) "_law_paired" [.p (sP o.w), .p (.int a), .p (.int b), .p (.int z)] = .ok (.p (.int (o.f a b z)), [.p (sP o.w), .p (.int a), .p (.int b), .p (.int z)]) := by
  apply tri_eq
  cases o with
  | add =>
    rw [ev_law_paired]
    refine tri_F ?_
    repeat (conv => arg 1; whnf
            first
            | (refine tri_stp (co (r := false) ?_) ?_; focus ((try dsimp only); decide +kernel))
            | (refine tri_stp (co (r := true) ?_) ?_; focus ((try dsimp only); decide +kernel)))
    conv => arg 1; whnf
    refine tri_stp (mod_ok hz) ?_
    conv => arg 1; whnf
    refine tri_ret ?_
    rfl
  | times =>
    rw [ev_law_paired]
    refine tri_F ?_
    repeat (conv => arg 1; whnf
            first
            | (refine tri_stp (co (r := false) ?_) ?_; focus ((try dsimp only); decide +kernel))
            | (refine tri_stp (co (r := true) ?_) ?_; focus ((try dsimp only); decide +kernel)))
    conv => arg 1; whnf
    refine tri_stp (mul_ok ha) ?_
    conv => arg 1; whnf
    refine tri_stp (mod_ok hz) ?_
    conv => arg 1; whnf
    refine tri_ret ?_
    rfl
  | alike =>
    rw [ev_law_paired]
    refine tri_F ?_
    repeat (conv => arg 1; whnf
            first
            | (refine tri_stp (co (r := false) ?_) ?_; focus ((try dsimp only); decide +kernel))
            | (refine tri_stp (co (r := true) ?_) ?_; focus ((try dsimp only); decide +kernel)))
    conv => arg 1; whnf
    refine tri_stp (co_eq _ _) ?_
    conv => arg 1; whnf
    refine tri_ret ?_
    by_cases h : a = b <;> simp [b2i, h, Bop.f]
  | less =>
    rw [ev_law_paired]
    refine tri_F ?_
    repeat (conv => arg 1; whnf
            first
            | (refine tri_stp (co (r := false) ?_) ?_; focus ((try dsimp only); decide +kernel))
            | (refine tri_stp (co (r := true) ?_) ?_; focus ((try dsimp only); decide +kernel)))
    conv => arg 1; whnf
    refine tri_stp (co_lt _ _) ?_
    conv => arg 1; whnf
    refine tri_ret ?_
    by_cases h : a < b <;> simp [b2i, h, Bop.f]
  | least =>
    rw [ev_law_paired]
    refine tri_F ?_
    repeat (conv => arg 1; whnf
            first
            | (refine tri_stp (co (r := false) ?_) ?_; focus ((try dsimp only); decide +kernel))
            | (refine tri_stp (co (r := true) ?_) ?_; focus ((try dsimp only); decide +kernel)))
    conv => arg 1; whnf
    refine tri_ret ?_
    rfl
  | most =>
    rw [ev_law_paired]
    refine tri_F ?_
    repeat (conv => arg 1; whnf
            first
            | (refine tri_stp (co (r := false) ?_) ?_; focus ((try dsimp only); decide +kernel))
            | (refine tri_stp (co (r := true) ?_) ?_; focus ((try dsimp only); decide +kernel)))
    conv => arg 1; whnf
    refine tri_ret ?_
    rfl
theorem paired (n : Nat) (o : Bop) (a b z : Int) (hz : 0 < z) (ha : -18446744073709551616 < a ∧ a < 18446744073709551616) : cl (n + 1) "paired" [.p (sP o.w), .p (.int a), .p (.int b), .p (.int z)] = .ok (.p (.int (o.f a b z)), [.p (sP o.w), .p (.int a), .p (.int b), .p (.int z)]) := by
  apply tri_eq
  cases o with
  | add =>
    rw [ev_paired]
    refine tri_F ?_
    repeat (conv => arg 1; whnf
            first
            | (refine tri_stp (co (r := false) ?_) ?_; focus ((try dsimp only); decide +kernel))
            | (refine tri_stp (co (r := true) ?_) ?_; focus ((try dsimp only); decide +kernel)))
    conv => arg 1; whnf
    refine tri_stp (mod_ok hz) ?_
    conv => arg 1; whnf
    refine tri_ret ?_
    rfl
  | times =>
    rw [ev_paired]
    refine tri_F ?_
    repeat (conv => arg 1; whnf
            first
            | (refine tri_stp (co (r := false) ?_) ?_; focus ((try dsimp only); decide +kernel))
            | (refine tri_stp (co (r := true) ?_) ?_; focus ((try dsimp only); decide +kernel)))
    conv => arg 1; whnf
    refine tri_stp (mul_ok ha) ?_
    conv => arg 1; whnf
    refine tri_stp (mod_ok hz) ?_
    conv => arg 1; whnf
    refine tri_ret ?_
    rfl
  | alike =>
    rw [ev_paired]
    refine tri_F ?_
    repeat (conv => arg 1; whnf
            first
            | (refine tri_stp (co (r := false) ?_) ?_; focus ((try dsimp only); decide +kernel))
            | (refine tri_stp (co (r := true) ?_) ?_; focus ((try dsimp only); decide +kernel)))
    conv => arg 1; whnf
    refine tri_stp (co_eq _ _) ?_
    conv => arg 1; whnf
    refine tri_if (fun h => ?_) (fun h => ?_)
    · conv => arg 1; whnf
      refine tri_ret ?_
      have h : a = b := by simpa using h
      simp [Bop.f, h]
    · conv => arg 1; whnf
      refine tri_ret ?_
      have h : ¬ a = b := by simpa using h
      simp only [Bop.f, if_neg h]
  | less =>
    rw [ev_paired]
    refine tri_F ?_
    repeat (conv => arg 1; whnf
            first
            | (refine tri_stp (co (r := false) ?_) ?_; focus ((try dsimp only); decide +kernel))
            | (refine tri_stp (co (r := true) ?_) ?_; focus ((try dsimp only); decide +kernel)))
    conv => arg 1; whnf
    refine tri_stp (co_lt _ _) ?_
    conv => arg 1; whnf
    refine tri_if (fun h => ?_) (fun h => ?_)
    · conv => arg 1; whnf
      refine tri_ret ?_
      have h : a < b := by simpa using h
      simp [Bop.f, h]
    · conv => arg 1; whnf
      refine tri_ret ?_
      have h : ¬ a < b := by simpa using h
      simp only [Bop.f, if_neg h]
  | least =>
    rw [ev_paired]
    refine tri_F ?_
    repeat (conv => arg 1; whnf
            first
            | (refine tri_stp (co (r := false) ?_) ?_; focus ((try dsimp only); decide +kernel))
            | (refine tri_stp (co (r := true) ?_) ?_; focus ((try dsimp only); decide +kernel)))
    conv => arg 1; whnf
    refine tri_ret ?_
    rfl
  | most =>
    rw [ev_paired]
    refine tri_F ?_
    repeat (conv => arg 1; whnf
            first
            | (refine tri_stp (co (r := false) ?_) ?_; focus ((try dsimp only); decide +kernel))
            | (refine tri_stp (co (r := true) ?_) ?_; focus ((try dsimp only); decide +kernel)))
    conv => arg 1; whnf
    refine tri_ret ?_
    rfl
/-- a cell has a memory -/
def Fm.mem : Fm → Bool
  | .held _ _ => true
  | .before _ _ => true
  | .late _ _ => true
  | .mat _ _ _ => true
  | _ => false
def VOk (z : Int) (v : Option Int) : Prop := ∀ i, v = some i → 0 ≤ i ∧ i < z
structure Names (A : List Str) (f : Fm) : Prop where
  sub : ∀ x ∈ f.ns, x ∈ A
/-- what stands in a form fits the size -/
def Fm.okz (z : Int) : Fm → Prop
  | .worth i => 0 ≤ i ∧ i < z
  | .turn _ row => (row.length : Int) = z ∧ ∀ i ∈ row, 0 ≤ i ∧ i < z
  | .held _ i => 0 ≤ i ∧ i < z
  | .before _ i => 0 ≤ i ∧ i < z
  | .late _ v => VOk z v
  | _ => True
def Fm.now (f : Fm) (vs : List (Option Int)) (z : Int) : Option Int := match f with
  | .worth i => some i
  | .copy _ => vs.getD 0 none
  | .there _ => some (if (vs.getD 0 none).isSome then 1 else 0)
  | .turn _ row => (vs.getD 0 none).map fun i => row.getD i.toNat 0
  | .els _ _ => if (vs.getD 0 none).isNone then vs.getD 1 none else vs.getD 0 none
  | .wen _ _ => if (vs.getD 1 none) = none ∨ (vs.getD 1 none) = some 0 then none else vs.getD 0 none
  | .two o _ _ => match vs.getD 0 none, vs.getD 1 none with
    | some a, some b => some (o.f a b z)
    | _, _ => none
  | _ => none
theorem Bop.f_ok (o : Bop) {a b z : Int} (ha : 0 ≤ a ∧ a < z) (hb : 0 ≤ b ∧ b < z) (hz : 2 ≤ z) : 0 ≤ o.f a b z ∧ o.f a b z < z := by
  cases o <;> simp only [Bop.f]
  · exact ⟨Int.emod_nonneg _ (by omega), Int.emod_lt_of_pos _ (by omega)⟩
  · exact ⟨Int.emod_nonneg _ (by omega), Int.emod_lt_of_pos _ (by omega)⟩
  all_goals (split <;> omega)
theorem Fm.now_ok {f : Fm} {vs : List (Option Int)} {z : Int} (hz : 2 ≤ z) (hf : f.okz z) (hv : ∀ v ∈ vs, VOk z v) : VOk z (f.now vs z) := by
  have g : ∀ i, VOk z (vs.getD i none) := by
    intro i
    rw [List.getD_eq_getElem?_getD]
    cases h : vs[i]? with
    | none => intro _ e; cases e
    | some v => exact hv v (List.mem_of_getElem? h)
  cases f with
  | worth i => intro j e; cases e; exact hf
  | copy x => exact g 0
  | there x => intro j e; simp only [Fm.now] at e; cases e; split <;> omega
  | turn x row =>
    intro j e
    simp only [Fm.now] at e
    cases h : vs.getD 0 none with
    | none => rw [h] at e; cases e
    | some i =>
      rw [h] at e; cases e
      have hi := g 0 i h
      have hl : i.toNat < row.length := by have := hf.1; omega
      show 0 ≤ row.getD i.toNat 0 ∧ row.getD i.toNat 0 < z
      rw [List.getD_eq_getElem?_getD, List.getElem?_eq_getElem hl]
      exact hf.2 _ (List.getElem_mem hl)
  | els x y => simp only [Fm.now]; split <;> exact g _
  | wen x y =>
    simp only [Fm.now]; split
    · intro _ e; cases e
    · exact g _
  | two o x y =>
    simp only [Fm.now]
    intro j e
    split at e
    · next a b h1 h2 =>
      cases e
      exact o.f_ok (g 0 a h1) (g 1 b h2) hz
    · cases e
  | _ => intro _ e; cases e
theorem t_shown (n : Nat) (f : Fm) (vs : List (Option Int)) (z : Int) (hz : 2 ≤ z ∧ z ≤ 1000) (hm : f.mem = false) (hf : f.okz z) (hl : vs.length = f.ns.length) (hv : ∀ v ∈ vs, VOk z v) :
    cl (n + 2) "_law_shown" [.p f.toP, .p (.lst (vs.map vP)), .p (.int z)] = .ok (.p (vP (f.now vs z)), [.p f.toP, .p (.lst (vs.map vP)), .p (.int z)]) := by
  have l1 : vs.length = 1 → ∃ v, vs = [v] := fun h => match vs, h with | [v], _ => ⟨v, rfl⟩
  have l2 : vs.length = 2 → ∃ v u, vs = [v, u] := fun h => match vs, h with | [v, u], _ => ⟨v, u, rfl⟩
  cases f with
  | worth i =>
    match vs, hl with
    | [], _ => rw [ev_law_shown]; kernel_rfl
  | copy x => obtain ⟨v, rfl⟩ := l1 hl; rw [ev_law_shown]; kernel_rfl
  | there x => obtain ⟨v, rfl⟩ := l1 hl; rw [ev_law_shown]; cases v <;> kernel_rfl
  | turn x row =>
    obtain ⟨v, rfl⟩ := l1 hl
    cases v with
    | none => rw [ev_law_shown]; kernel_rfl
    | some i =>
      have hi := hv (some i) (by simp) i rfl
      have hil : i.toNat < row.length := by have := hf.1; omega
      have e : ixP (.tup (row.map .int)) (.int i) = .ok (.int (row.getD i.toNat 0)) := by
        have := ix_tup (row.map P.int) i
        rw [this]
        have h2 := at_pos (xs := row.map P.int) (i := i.toNat) (x := .int (row.getD i.toNat 0)) (by simp [List.getElem?_eq_getElem hil])
        rw [Int.toNat_of_nonneg hi.1] at h2
        rw [h2]; rfl
      apply tri_eq
      rw [ev_law_shown]
      refine tri_F ?_
      repeat (conv => arg 1; whnf
              first
              | (refine tri_stp (co (r := false) ?_) ?_; focus ((try dsimp only); decide +kernel))
              | (refine tri_stp (co (r := true) ?_) ?_; focus ((try dsimp only); decide +kernel)))
      conv => arg 1; whnf
      refine tri_stp (e) ?_
      conv => arg 1; whnf
      refine tri_ret ?_
      rfl
  | els x y => obtain ⟨v, u, rfl⟩ := l2 hl; rw [ev_law_shown]; cases v <;> kernel_rfl
  | wen x y =>
    obtain ⟨v, u, rfl⟩ := l2 hl
    cases u with
    | none => rw [ev_law_shown]; kernel_rfl
    | some i =>
      apply tri_eq
      rw [ev_law_shown]
      refine tri_F ?_
      repeat (conv => arg 1; whnf
              first
              | (refine tri_stp (co (r := false) ?_) ?_; focus ((try dsimp only); decide +kernel))
              | (refine tri_stp (co (r := true) ?_) ?_; focus ((try dsimp only); decide +kernel)))
      conv => arg 1; whnf
      refine tri_stp (co_ne _ _) ?_
      conv => arg 1; whnf
      refine tri_if (fun h => ?_) (fun h => ?_)
      · conv => arg 1; whnf
        refine tri_ret ?_
        have h : i ≠ 0 := by simpa using h
        simp [Fm.now, h]
      · conv => arg 1; whnf
        refine tri_ret ?_
        have h : i = 0 := by simpa using h
        simp [Fm.now, h]; rfl
  | two o x y =>
    obtain ⟨v, u, rfl⟩ := l2 hl
    cases v with
    | none => rw [ev_law_shown]; cases o <;> cases u <;> kernel_rfl
    | some a => cases u with
      | none => rw [ev_law_shown]; cases o <;> kernel_rfl
      | some b =>
        have ha := hv (some a) (by simp) a rfl
        have e := law_paired n o a b z (by omega) (by omega)
        cases o <;> (apply tri_eq
                     rw [ev_law_shown]
                     refine tri_F ?_
                     repeat (conv => arg 1; whnf
                             first
                             | (refine tri_stp (co (r := false) ?_) ?_; focus ((try dsimp only); decide +kernel))
                             | (refine tri_stp (co (r := true) ?_) ?_; focus ((try dsimp only); decide +kernel)))
                     conv => arg 1; whnf
                     refine tri_stp (e) ?_
                     conv => arg 1; whnf
                     refine tri_ret ?_
                     rfl)
  | _ => cases hm
theorem p_shown (n : Nat) (f : Fm) (vs : List (Option Int)) (z : Int) (hz : 2 ≤ z ∧ z ≤ 1000) (hm : f.mem = false) (hf : f.okz z) (hl : vs.length = f.ns.length) (hv : ∀ v ∈ vs, VOk z v) :
    cl (n + 2) "shown" [.p f.toP, .p (.lst (vs.map vP)), .p (.int z)] = .ok (.p (vP (f.now vs z)), [.p f.toP, .p (.lst (vs.map vP)), .p (.int z)]) := by
  have l1 : vs.length = 1 → ∃ v, vs = [v] := fun h => match vs, h with | [v], _ => ⟨v, rfl⟩
  have l2 : vs.length = 2 → ∃ v u, vs = [v, u] := fun h => match vs, h with | [v, u], _ => ⟨v, u, rfl⟩
  cases f with
  | worth i =>
    match vs, hl with
    | [], _ => rw [ev_shown]; kernel_rfl
  | copy x => obtain ⟨v, rfl⟩ := l1 hl; rw [ev_shown]; kernel_rfl
  | there x => obtain ⟨v, rfl⟩ := l1 hl; rw [ev_shown]; cases v <;> kernel_rfl
  | turn x row =>
    obtain ⟨v, rfl⟩ := l1 hl
    cases v with
    | none => rw [ev_shown]; kernel_rfl
    | some i =>
      have hi := hv (some i) (by simp) i rfl
      have hil : i.toNat < row.length := by have := hf.1; omega
      have e : ixP (.tup (row.map .int)) (.int i) = .ok (.int (row.getD i.toNat 0)) := by
        have := ix_tup (row.map P.int) i
        rw [this]
        have h2 := at_pos (xs := row.map P.int) (i := i.toNat) (x := .int (row.getD i.toNat 0)) (by simp [List.getElem?_eq_getElem hil])
        rw [Int.toNat_of_nonneg hi.1] at h2
        rw [h2]; rfl
      apply tri_eq
      rw [ev_shown]
      refine tri_F ?_
      repeat (conv => arg 1; whnf
              first
              | (refine tri_stp (co (r := false) ?_) ?_; focus ((try dsimp only); decide +kernel))
              | (refine tri_stp (co (r := true) ?_) ?_; focus ((try dsimp only); decide +kernel)))
      conv => arg 1; whnf
      refine tri_stp (e) ?_
      conv => arg 1; whnf
      refine tri_ret ?_
      rfl
  | els x y => obtain ⟨v, u, rfl⟩ := l2 hl; rw [ev_shown]; cases v <;> kernel_rfl
  | wen x y =>
    obtain ⟨v, u, rfl⟩ := l2 hl
    cases u with
    | none => rw [ev_shown]; kernel_rfl
    | some i =>
      apply tri_eq
      rw [ev_shown]
      refine tri_F ?_
      repeat (conv => arg 1; whnf
              first
              | (refine tri_stp (co (r := false) ?_) ?_; focus ((try dsimp only); decide +kernel))
              | (refine tri_stp (co (r := true) ?_) ?_; focus ((try dsimp only); decide +kernel)))
      conv => arg 1; whnf
      refine tri_stp (co_eq _ _) ?_
      conv => arg 1; whnf
      refine tri_if (fun h => ?_) (fun h => ?_)
      · conv => arg 1; whnf
        refine tri_ret ?_
        have h : i = 0 := by simpa using h
        simp [Fm.now, h]; rfl
      · conv => arg 1; whnf
        refine tri_ret ?_
        have h : i ≠ 0 := by simpa using h
        simp [Fm.now, h]
  | two o x y =>
    obtain ⟨v, u, rfl⟩ := l2 hl
    cases v with
    | none => rw [ev_shown]; cases o <;> cases u <;> kernel_rfl
    | some a => cases u with
      | none => rw [ev_shown]; cases o <;> kernel_rfl
      | some b =>
        have ha := hv (some a) (by simp) a rfl
        have e := paired n o a b z (by omega) (by omega)
        have ni : cmpPo .In .non (.lst [.int a, .int b]) = .ok false := co (by simp [cmpP, inP, nkey, nk, anyEq, NestedKey.depth])
        cases o <;> (apply tri_eq
                     rw [ev_shown]
                     refine tri_F ?_
                     repeat (conv => arg 1; whnf
                             first
                             | (refine tri_stp (co (r := false) ?_) ?_; focus ((try dsimp only); decide +kernel))
                             | (refine tri_stp (co (r := true) ?_) ?_; focus ((try dsimp only); decide +kernel)))
                     conv => arg 1; whnf
                     refine tri_stp (ni) ?_
                     conv => arg 1; whnf
                     refine tri_stp (e) ?_
                     conv => arg 1; whnf
                     refine tri_ret ?_
                     rfl)
  | _ => cases hm
end Ev

namespace Ev
open PySem PySem.Spec PyProof.Rows L2
structure BxOk (row : List Int) : Prop where
  ne : row ≠ []
  lt : row.length < 10000
theorem t_take (n : Nat) {row : List Int} (B : BxOk row) (a : Nat) (m : Int) (hm : 0 < m) :
    Tri (cl (n + 1) "_law_take" [.own (bx row a), .p (.int m)]) fun z => ∃ k : Nat, (k : Int) < m ∧ z = (.p (.int k), [.own (bx row (a + 1)), .p (.int m)]) := by
  obtain ⟨h1, h2⟩ := tk_lt row a m hm
  refine tri_of (law_take n row a m B.ne B.lt hm) ⟨(tk row a m).toNat, by omega, ?_⟩
  rw [Int.toNat_of_nonneg h1]
theorem b1_len_lst (xs : List P) : bl1 .len (.lst xs) = .ok (.p (.int xs.length)) := rfl
theorem ix_nat {xs : List P} {k : Nat} {d : P} (h : xs[k]? = some d) : ixP (.lst xs) (.int k) = .ok d := by
  rw [ix_lst, at_pos h]; rfl
theorem ix_natT {xs : List P} {k : Nat} {d : P} (h : xs[k]? = some d) : ixP (.tup xs) (.int k) = .ok d := by
  rw [ix_tup, at_pos h]; rfl
theorem t_pick (n : Nat) {row : List Int} (B : BxOk row) (a : Nat) (xs : List P) (hx : xs ≠ []) :
    Tri (cl (n + 2) "_law_pick" [.own (bx row a), .p (.lst xs)]) fun z => ∃ x ∈ xs, z = (.p x, [.own (bx row (a + 1)), .p (.lst xs)]) := by
  have hp : 0 < xs.length := by cases xs with | nil => exact absurd rfl hx | cons _ _ => simp
  rw [ev_law_pick]
  refine tri_F ?_
  conv => arg 1; whnf
  refine tri_bind (t_take n B a xs.length (by omega)) ?_
  rintro _ ⟨k, hk, rfl⟩
  have hk : k < xs.length := by omega
  conv => arg 1; whnf
  refine tri_stp (ix_nat (List.getElem?_eq_getElem hk)) ?_
  conv => arg 1; whnf
  refine tri_ret ?_
  exact ⟨_, List.getElem_mem hk, rfl⟩
theorem t_pickO (n : Nat) {row : List Int} (B : BxOk row) (a : Nat) (xs : List P) (hx : xs ≠ []) :
    Tri (cl (n + 2) "_law_pick" [.own (bx row a), .own (.lst xs)]) fun z => ∃ x ∈ xs, z = (.p x, [.own (bx row (a + 1)), .own (.lst xs)]) := by
  have hp : 0 < xs.length := by cases xs with | nil => exact absurd rfl hx | cons _ _ => simp
  rw [ev_law_pick]
  refine tri_F ?_
  conv => arg 1; whnf
  refine tri_bind (t_take n B a xs.length (by omega)) ?_
  rintro _ ⟨k, hk, rfl⟩
  have hk : k < xs.length := by omega
  conv => arg 1; whnf
  refine tri_stp (ix_nat (List.getElem?_eq_getElem hk)) ?_
  conv => arg 1; whnf
  refine tri_ret ?_
  exact ⟨_, List.getElem_mem hk, rfl⟩
/-! ### texts -/
theorem join_nil : ∀ ys : List Str, (Txt.join ("" : Str) ys).cps.toList = (ys.map (·.cps.toList)).flatten
  | [] => rfl
  | [x] => by show x.cps.toList = _; simp
  | x :: y :: r => by
    have ih := join_nil (y :: r)
    unfold Txt.join at ih ⊢
    rw [StrLaws.glued_eq_join] at ih ⊢
    show (x.cps ++ (("" : Str)).cps ++ (Str.join ("" : Str) (y :: r)).cps).toList = _
    have e : (("" : Str)).cps = #[] := rfl
    rw [e, Array.append_empty, Array.toList_append, ih]
    simp
def Chs (z : Str) (y : Str) : Prop := ∀ c ∈ y.cps.toList, c ∈ z.cps.toList
theorem len_eq (z : Str) : z.length = z.cps.toList.length := by simp [Str.length]
theorem ix_str {z : Str} {k : Nat} (hz : z.length ≤ sizeLine) (hk : k < z.length) : ∃ c ∈ z.cps.toList, ixP (.str z) (.int k) = .ok (.str ⟨#[c]⟩) := by
  rw [len_eq] at hk
  refine ⟨_, List.getElem_mem hk, ?_⟩
  simp only [ixP, hz, at_pos (List.getElem?_eq_getElem hk), if_true]
theorem t_some (n : Nat) {row : List Int} (B : BxOk row) (a : Nat) (z : Str) (k : Nat) (hx : 0 < z.length) (hz : z.length ≤ 1000) (hk : k ≤ 1000) :
    Tri (cl (n + 2) "_law_some" [.own (bx row a), .p (.str z), .p (.int k)]) fun r => ∃ y a', y.length = k ∧ Chs z y ∧ r = (.p (.str y), [.own (bx row a'), .p (.str z), .p (.int k)]) := by
  rw [ev_law_some]
  refine tri_F ?_
  conv => arg 1; whnf
  have hz' : z.length ≤ sizeLine := by rw [sizeLine_eq]; omega
  refine tri_lc (List.range k) (fun a => [some (.own (bx row a)), some (.p (.str z)), some (.p (.int k)), none]) (fun pre ds _ => ∃ ys : List Str, ds = ys.map .str ∧ ys.length = pre.length ∧ ∀ y ∈ ys, ∃ c ∈ z.cps.toList, y = ⟨#[c]⟩) a
    (ws := [.p (.int k)]) (by kernel_rfl) (it_rng1 (by omega)) rfl (by rw [sizeLine_eq]; simp; omega) rfl ⟨[], rfl, rfl, by simp⟩ ?_ ?_
  · rintro pre y post ds a e ⟨ys, rfl, hl, hy⟩
    have el : bl1 .len (.str z) = .ok (.p (.int z.length)) := by simp [bl1, lenP, hz']
    conv => arg 1; whnf
    refine tri_stp (el) ?_
    conv => arg 1; whnf
    refine tri_bind (t_take n B a z.length (by omega)) ?_
    rintro _ ⟨j, hj, rfl⟩
    obtain ⟨c, hc, ec⟩ := ix_str (k := j) hz' (by omega)
    conv => arg 1; whnf
    refine tri_stp (ec) ?_
    conv => arg 1; whnf
    refine tri_ret ?_
    refine ⟨some (.str ⟨#[c]⟩), a + 1, rfl, ys ++ [⟨#[c]⟩], by simp, by simp [hl], ?_⟩
    intro y hy'
    rcases List.mem_append.mp hy' with h | h
    · exact hy y h
    · simp at h; exact ⟨c, hc, h⟩
  · rintro ds a ⟨ys, rfl, hl, hy⟩
    have sq : strs? (ys.map P.str) = some ys := by
      clear hl hy
      induction ys with
      | nil => rfl
      | cons y ys ih => simp [strs?, ih]
    have hs : (ys.map (·.length)).sum = ys.length := by
      clear hl sq
      induction ys with
      | nil => rfl
      | cons y ys ih =>
        obtain ⟨c, _, rfl⟩ := hy y List.mem_cons_self
        rw [List.map_cons, List.sum_cons, ih fun y h => hy y (List.mem_cons_of_mem _ h)]
        show 1 + _ = _; simp; omega
    have es : (("" : Str)).length = 0 := rfl
    have hl' : ys.length = k := by simpa using hl
    have jn : joinP (.str ("" : Str)) (.lst (ys.map P.str)) = .ok (.str (Txt.join ("" : Str) ys)) := by
      unfold joinP
      simp only [sq, of_some, bind_ok, es, Nat.mul_zero, Nat.add_zero, hs]
      rw [decide_eq_true (by omega)]
      rfl
    conv => arg 1; whnf
    refine tri_stp (jn) ?_
    conv => arg 1; whnf
    refine tri_ret ?_
    have hc := join_nil ys
    refine ⟨_, a, ?_, ?_, rfl⟩
    · rw [len_eq, hc, List.length_flatten, List.map_map, ← hl', ← hs]
      congr 1
    · intro c h
      rw [hc] at h
      obtain ⟨l, h1, h2⟩ := List.mem_flatten.mp h
      obtain ⟨y, h3, rfl⟩ := List.mem_map.mp h1
      obtain ⟨c', h4, rfl⟩ := hy y h3
      simp at h2
      rw [h2]; exact h4
theorem t_someI (n : Nat) {row : List Int} (B : BxOk row) (a : Nat) (z : Str) (k : Nat) (i : Int) (e : i = k) (hx : 0 < z.length) (hz : z.length ≤ 1000) (hk : k ≤ 1000) :
    Tri (cl (n + 2) "_law_some" [.own (bx row a), .p (.str z), .p (.int i)]) fun r => ∃ y a', y.length = k ∧ Chs z y ∧ r = (.p (.str y), [.own (bx row a'), .p (.str z), .p (.int i)]) := by
  subst e; exact t_some n B a z k hx hz hk
/-! ### names -/
def NmOk (x : Str) : Prop := 1 ≤ x.length ∧ x.length ≤ 12 ∧ ∀ c ∈ x.cps.toList, 97 ≤ c ∧ c ≤ 122
def nmB (x : Str) : Bool := decide (1 ≤ x.length) && decide (x.length ≤ 12) && x.cps.toList.all fun c => decide (97 ≤ c) && decide (c ≤ 122)
theorem nm_iff (x : Str) : nmB x = true ↔ NmOk x := by simp only [nmB, NmOk, Bool.and_eq_true, decide_eq_true_eq, List.all_eq_true, and_assoc]
def wds : List String := ["add", "and", "any", "cell", "drop", "end", "event", "held", "input", "keeps", "late", "loop", "match", "net", "state", "strike", "when", "worth", "yes"]
def wdsP : List P := wds.map fun (x : String) => P.str x
def noQ (x : Str) : Prop := x.cps.toList.head? ≠ some 113
theorem wds_ok : ∀ x ∈ wds, nmB x = true ∧ noQ x := by
  have : (wds.all fun x => nmB x && decide (((x : Str)).cps.toList.head? ≠ some 113)) = true := by decide +kernel
  intro x hx
  have := List.all_eq_true.mp this x hx
  simpa [noQ] using this
def qN (k : Nat) : Str := ("q" : Str) ++ ⟨#[97 + k]⟩ ++ ("q" : Str)
theorem qN_ok {k : Nat} (h : k < 26) : NmOk (qN k) := by
  refine ⟨?_, ?_, ?_⟩
  · show 1 ≤ (#[113] ++ #[97 + k] ++ #[113] : Array Nat).size; simp
  · show (#[113] ++ #[97 + k] ++ #[113] : Array Nat).size ≤ 12; simp
  · intro c hc
    have hc : c ∈ (#[113] ++ #[97 + k] ++ #[113] : Array Nat).toList := hc
    simp at hc; omega
theorem qN_head (k : Nat) : ¬ noQ (qN k) := by
  intro h; exact h rfl
theorem qN_inj {i j : Nat} (h : qN i = qN j) : i = j := by
  have h : (#[113] ++ #[97 + i] ++ #[113] : Array Nat) = #[113] ++ #[97 + j] ++ #[113] := Str.mk.inj h
  have := congrArg (fun a : Array Nat => a.toList) h
  simp at this; omega
theorem abc_ok {y : Str} (h : Chs ("abcxyz" : Str) y) (hl : 1 ≤ y.length ∧ y.length ≤ 3) : NmOk y ∧ noQ y := by
  have hc : ∀ c ∈ y.cps.toList, 97 ≤ c ∧ c ≤ 122 ∧ c ≠ 113 := by
    intro c hc
    have := h c hc
    have e : (("abcxyz" : Str)).cps.toList = [97, 98, 99, 120, 121, 122] := by decide +kernel
    rw [e] at this
    simp at this; omega
  refine ⟨⟨hl.1, by omega, fun c h => ⟨(hc c h).1, (hc c h).2.1⟩⟩, ?_⟩
  intro q
  cases e : y.cps.toList with
  | nil => rw [e] at q; cases q
  | cons c r =>
    rw [e] at q
    simp at q
    exact (hc c (by rw [e]; simp)).2.2 q
theorem alpha_at {k : Nat} (h : k < 26) : ixP (.str ("abcdefghijklmnopqrstuvwxyz" : Str)) (.int k) = .ok (.str ⟨#[97 + k]⟩) := by
  have : ∀ k, k < 26 → (("abcdefghijklmnopqrstuvwxyz" : Str)).cps.toList[k]? = some (97 + k) := by decide +kernel
  have hs : (("abcdefghijklmnopqrstuvwxyz" : Str)).length ≤ sizeLine := by rw [sizeLine_eq]; decide +kernel
  simp only [ixP, hs, at_pos (this k h), if_true]
theorem t_names (n : Nat) {row : List Int} (B : BxOk row) (a : Nat) (many : Nat) (hm : many ≤ 26) :
    Tri (cl (n + 3) "_law_names" [.own (bx row a), .p (.int many)]) fun r => ∃ (xs : List Str) (a' : Nat), r = (.tmp (.lst (xs.map .str)), [.own (bx row a'), .p (.int many)]) ∧ xs.length = many ∧ xs.Pairwise sLt ∧ ∀ x ∈ xs, NmOk x := by
  rw [ev_law_names]
  refine tri_F ?_
  conv => arg 1; whnf
  refine tri_for (enc := enI) (List.range 60) (fun _ ρ => ∃ a found j4 j5, ρ = [some (.own (bx row a)), some (.p (.int many)), some (.own (.lst wdsP)), some (.own (.lst (found.map .str))), jk j4, jk j5] ∧ found.Nodup ∧ found.length ≤ many ∧ ∀ x ∈ found, NmOk x ∧ noQ x)
    (ws := [.p (.int 60)]) (by kernel_rfl) (it_rng1' (k := 60) rfl (by omega)) ⟨a, [], none, none, by kernel_rfl, by simp, by simp, by simp⟩ ?_ ?_
  · rintro pre y post ρ e ⟨a, found, j4, j5, rfl, h1, h2, h3⟩
    conv => arg 1; whnf
    refine tri_stp (bt_1 (by (try simp only [List.set_cons_zero, List.set_cons_succ, List.set_nil]); simp only [ns_jk, ns_p, ns_own, ns_rd, ns_none, ns_nil]) rfl (by simp)) ?_
    refine tri_Sn (fun ρ => ∃ a x, ρ = [some (.own (bx row a)), some (.p (.int many)), some (.own (.lst wdsP)), some (.own (.lst (found.map .str))), jk (some (enI y)), jk (some (.str x))] ∧ NmOk x ∧ noQ x) ?_ ?_
    · conv => arg 1; whnf
      refine tri_bind (t_take _ B a 5 (by decide)) ?_
      rintro _ ⟨k, hk, rfl⟩
      conv => arg 1; whnf
      refine tri_stp (co_eq _ _) ?_
      conv => arg 1; whnf
      refine tri_if (fun h => ?_) (fun h => ?_)
      · conv => arg 1; whnf
        refine tri_bind (t_pickO _ B _ wdsP (by decide)) ?_
        rintro _ ⟨x, hx, rfl⟩
        simp only [wdsP, List.mem_map] at hx
        obtain ⟨x, hx, rfl⟩ := hx
        conv => arg 1; whnf
        refine tri_stp (bs_p (by (try simp only [List.set_cons_zero, List.set_cons_succ, List.set_nil]); simp only [ns_jk, ns_p, ns_own, ns_rd, ns_none, ns_nil]) rfl (by simp)) ?_
        conv => arg 1; whnf
        refine tri_ret ?_
        exact ⟨rfl, _, _, rfl, (nm_iff _).mp (wds_ok x hx).1, (wds_ok x hx).2⟩
      · conv => arg 1; whnf
        refine tri_bind (t_take _ B _ 3 (by decide)) ?_
        rintro _ ⟨k2, hk2, rfl⟩
        conv => arg 1; whnf
        refine tri_bind (t_someI _ B _ ("abcxyz" : Str) (1 + k2) (1 + (k2 : Int)) (by omega) (by decide +kernel) (by decide +kernel) (by omega)) ?_
        rintro _ ⟨x, a2, hl, hc, rfl⟩
        conv => arg 1; whnf
        refine tri_stp (bs_p (by (try simp only [List.set_cons_zero, List.set_cons_succ, List.set_nil]); simp only [ns_jk, ns_p, ns_own, ns_rd, ns_none, ns_nil]) rfl (by simp)) ?_
        conv => arg 1; whnf
        refine tri_ret ?_
        exact ⟨rfl, _, _, rfl, abc_ok hc (by omega)⟩
    · rintro _ ⟨a2, x, rfl, h4, h5⟩
      conv => arg 1; whnf
      refine tri_stp (co_lt _ _) ?_
      conv => arg 1; whnf
      refine tri_if (fun h => ?_) (fun h => ?_)
      · conv => arg 1; whnf
        refine tri_stp (co_niL x found) ?_
        conv => arg 1; whnf
        refine tri_if (fun h' => ?_) (fun h' => ?_)
        · conv => arg 1; whnf
          refine tri_stp (app_ok rfl (by rw [sizeLine_eq]; simp; omega)) ?_
          conv => arg 1; whnf
          refine tri_ret ?_
          refine ⟨.inl rfl, a2, found ++ [x], _, _, by rw [List.map_append]; rfl, ?_, ?_, ?_⟩
          · simp only [Bool.not_eq_true', decide_eq_false_iff_not] at h'
            exact List.nodup_append.mpr ⟨h1, by simp, fun a ha b hb => by simp at hb; subst hb; exact fun e => h' (e ▸ ha)⟩
          · have : ((found.map P.str).length : Int) < many := of_decide_eq_true h
            simp at this; simp; omega
          · intro z hz
            rcases List.mem_append.mp hz with hz | hz
            · exact h3 z hz
            · simp at hz; subst hz; exact ⟨h4, h5⟩
        · conv => arg 1; whnf
          refine tri_ret ?_
          exact ⟨.inl rfl, a2, found, _, _, rfl, h1, h2, h3⟩
      · conv => arg 1; whnf
        refine tri_ret ?_
        exact ⟨.inl rfl, a2, found, _, _, rfl, h1, h2, h3⟩
  · rintro _ ⟨a2, found, j4, j5, rfl, h1, h2, h3⟩
    have el : ((many : Int) - ((found.map P.str).length : Int)) = ((many - found.length : Nat) : Int) := by simp; omega
    conv => arg 1; whnf
    refine tri_for (enc := enI) (List.range (many - found.length)) (fun pre ρ => ∃ j4 j5, ρ = [some (.own (bx row a2)), some (.p (.int many)), some (.own (.lst wdsP)), some (.own (.lst ((found ++ (List.range pre.length).map qN).map .str))), jk j4, jk j5])
      (ws := [.p (.int ((many : Int) - ((found.map P.str).length : Int)))]) (by kernel_rfl) (it_rng1' el (by omega)) ⟨j4, j5, by simp; rfl⟩ ?_ ?_
    · rintro pre y post ρ e ⟨j4, j5, rfl⟩
      obtain ⟨rfl, hy⟩ := rng_at e
      conv => arg 1; whnf
      refine tri_stp (bt_1 (by (try simp only [List.set_cons_zero, List.set_cons_succ, List.set_nil]); simp only [ns_jk, ns_p, ns_own, ns_rd, ns_none, ns_nil]) rfl (by simp)) ?_
      conv => arg 1; whnf
      refine tri_stp (alpha_at (k := pre.length) (by omega)) ?_
      conv => arg 1; whnf
      refine tri_stp (app_ok rfl (by rw [sizeLine_eq]; simp; omega)) ?_
      conv => arg 1; whnf
      refine tri_ret ?_
      refine ⟨.inl rfl, some (enI pre.length), j5, ?_⟩
      have el2 : (found ++ ((List.range (pre ++ [pre.length]).length).map qN)).map P.str = (found ++ (List.range pre.length).map qN).map P.str ++ [P.str (qN pre.length)] := by simp [List.range_succ]
      rw [el2]
      rfl
    · rintro _ ⟨j4, j5, rfl⟩
      have nd : (found ++ (List.range (many - found.length)).map qN).Nodup := by
        refine List.nodup_append.mpr ⟨h1, ?_, ?_⟩
        · exact List.Pairwise.map qN (fun i j h e => h (qN_inj e)) List.nodup_range
        · intro a ha b hb e
          obtain ⟨k, _, rfl⟩ := List.mem_map.mp hb
          exact qN_head k (e ▸ (h3 a ha).2)
      have hl : (found ++ (List.range (many - found.length)).map qN).length = many := by simp; omega
      have ok : ∀ x ∈ found ++ (List.range (many - found.length)).map qN, NmOk x := by
        intro x hx
        rcases List.mem_append.mp hx with hx | hx
        · exact (h3 x hx).1
        · obtain ⟨k, hk, rfl⟩ := List.mem_map.mp hx
          rw [List.mem_range] at hk
          exact qN_ok (by omega)
      rw [List.length_range]
      generalize found ++ (List.range (many - found.length)).map qN = fin at nd hl ok
      conv => arg 1; whnf
      refine tri_stp (bl_sorted (xs := fin) (by omega)) ?_
      conv => arg 1; whnf
      refine tri_ret ?_
      exact ⟨sortS fin, a2, rfl, by rw [(sortS_perm fin).length_eq, hl], sortS_asc nd, fun x hx => ok x ((sortS_perm fin).mem_iff.mp hx)⟩
end Ev

namespace Ev
open PySem PySem.Spec PyProof.Rows L2
/-! nets, drawn forms -/
structure Nt where
  z : Nat
  ins : List Str
  cells : List (Str × Fm)
def Nt.nm (N : Nt) : List Str := N.cells.map (·.1)
def Nt.all (N : Nt) : List Str := N.ins ++ N.nm
def Nt.toP (N : Nt) : P := .tup [.int (N.z : Int), .tup (N.ins.map .str), .tup (N.cells.map (enP Fm.toP))]
def fwP : List P := ["worth", "copy", "there", "add", "times", "least", "most", "alike", "less", "turn", "when", "when", "else", "else", "held", "held", "before", "late", "late", "match"].map fun (x : String) => P.str x
def opP : List P := ["add", "times", "least", "most", "alike", "less"].map fun (x : String) => P.str x
theorem op_cases {x : P} (h : x ∈ opP) : ∃ o : Bop, x = sP o.w := by
  simp only [opP, List.map_cons, List.map_nil, List.mem_cons, List.not_mem_nil, or_false] at h
  rcases h with h | h | h | h | h | h
  · exact ⟨.add, h⟩
  · exact ⟨.times, h⟩
  · exact ⟨.least, h⟩
  · exact ⟨.most, h⟩
  · exact ⟨.alike, h⟩
  · exact ⟨.less, h⟩
theorem fw_cases {x : P} (h : x ∈ fwP) : x = sP "worth" ∨ x = sP "copy" ∨ x = sP "there" ∨ (∃ o : Bop, x = sP o.w) ∨ x = sP "turn" ∨ x = sP "when" ∨ x = sP "else" ∨ x = sP "held" ∨ x = sP "before" ∨ x = sP "late" ∨ x = sP "match" := by
  simp only [fwP, List.map_cons, List.map_nil, List.mem_cons, List.not_mem_nil, or_false] at h
  rcases h with h | h | h | h | h | h | h | h | h | h | h | h | h | h | h | h | h | h | h | h
  · exact .inl h
  · exact .inr (.inl h)
  · exact .inr (.inr (.inl h))
  · exact .inr (.inr (.inr (.inl ⟨.add, h⟩)))
  · exact .inr (.inr (.inr (.inl ⟨.times, h⟩)))
  · exact .inr (.inr (.inr (.inl ⟨.least, h⟩)))
  · exact .inr (.inr (.inr (.inl ⟨.most, h⟩)))
  · exact .inr (.inr (.inr (.inl ⟨.alike, h⟩)))
  · exact .inr (.inr (.inr (.inl ⟨.less, h⟩)))
  · exact .inr (.inr (.inr (.inr (.inl h))))
  · exact .inr (.inr (.inr (.inr (.inr (.inl h)))))
  · exact .inr (.inr (.inr (.inr (.inr (.inl h)))))
  · exact .inr (.inr (.inr (.inr (.inr (.inr (.inl h))))))
  · exact .inr (.inr (.inr (.inr (.inr (.inr (.inl h))))))
  · exact .inr (.inr (.inr (.inr (.inr (.inr (.inr (.inl h)))))))
  · exact .inr (.inr (.inr (.inr (.inr (.inr (.inr (.inl h)))))))
  · exact .inr (.inr (.inr (.inr (.inr (.inr (.inr (.inr (.inl h))))))))
  · exact .inr (.inr (.inr (.inr (.inr (.inr (.inr (.inr (.inr (.inl h)))))))))
  · exact .inr (.inr (.inr (.inr (.inr (.inr (.inr (.inr (.inr (.inl h)))))))))
  · exact .inr (.inr (.inr (.inr (.inr (.inr (.inr (.inr (.inr (.inr h)))))))))
theorem tup_lst (xs : List P) : bl1 .tuple (.lst xs) = .ok (.p (.tup xs)) := rfl
theorem t_form (n : Nat) {row : List Int} (B : BxOk row) (a : Nat) (z : Nat) (hz : 2 ≤ z ∧ z ≤ 1000) (names : List Str) (hn : names ≠ []) :
    Tri (cl (n + 3) "_law_form" [.own (bx row a), .p (.int z), .own (.lst (names.map .str))]) fun r => ∃ (f : Fm) (a' : Nat), r = (.p f.toP, [.own (bx row a'), .p (.int z), .own (.lst (names.map .str))]) ∧ f.okz z ∧ ∀ x ∈ f.ns, x ∈ names := by
  have hn' : names.map P.str ≠ [] := by simpa using hn
  rw [ev_law_form]
  refine tri_F ?_
  conv => arg 1; whnf
  refine tri_bind (t_pick _ B a fwP (by decide)) ?_
  rintro _ ⟨w, hw, rfl⟩
  conv => arg 1; whnf
  refine tri_bind (t_pickO _ B _ (names.map .str) hn') ?_
  rintro _ ⟨x, hx, rfl⟩
  conv => arg 1; whnf
  refine tri_bind (t_pickO _ B _ (names.map .str) hn') ?_
  rintro _ ⟨y, hy, rfl⟩
  obtain ⟨x, mx, rfl⟩ := List.mem_map.mp hx
  obtain ⟨y, my, rfl⟩ := List.mem_map.mp hy
  rcases fw_cases hw with rfl | rfl | rfl | ⟨o, rfl⟩ | rfl | rfl | rfl | rfl | rfl | rfl | rfl
  · repeat (conv => arg 1; whnf
            first
            | (refine tri_stp (co (r := false) ?_) ?_; focus ((try dsimp only); decide +kernel))
            | (refine tri_stp (co (r := true) ?_) ?_; focus ((try dsimp only); decide +kernel)))
    conv => arg 1; whnf
    refine tri_bind (t_take _ B _ z (by omega)) ?_
    rintro _ ⟨k, hk, rfl⟩
    conv => arg 1; whnf
    refine tri_ret ?_
    exact ⟨.worth k, _, rfl, by simp [Fm.okz]; omega, by simp [Fm.ns]⟩
  · repeat (conv => arg 1; whnf
            first
            | (refine tri_stp (co (r := false) ?_) ?_; focus ((try dsimp only); decide +kernel))
            | (refine tri_stp (co (r := true) ?_) ?_; focus ((try dsimp only); decide +kernel)))
    conv => arg 1; whnf
    refine tri_ret ?_
    exact ⟨.copy x, _, rfl, trivial, by simp [Fm.ns, mx]⟩
  · repeat (conv => arg 1; whnf
            first
            | (refine tri_stp (co (r := false) ?_) ?_; focus ((try dsimp only); decide +kernel))
            | (refine tri_stp (co (r := true) ?_) ?_; focus ((try dsimp only); decide +kernel)))
    conv => arg 1; whnf
    refine tri_ret ?_
    exact ⟨.there x, _, rfl, trivial, by simp [Fm.ns, mx]⟩
  · obtain ⟨o', ho⟩ : ∃ o', o' = o := ⟨o, rfl⟩
    cases o <;> (
      repeat (conv => arg 1; whnf
              first
              | (refine tri_stp (co (r := false) ?_) ?_; focus ((try dsimp only); decide +kernel))
              | (refine tri_stp (co (r := true) ?_) ?_; focus ((try dsimp only); decide +kernel)))
      conv => arg 1; whnf
      refine tri_ret ?_
      exact ⟨.two o' x y, _, by subst ho; rfl, trivial, by simp [Fm.ns, mx, my]⟩)
  · repeat (conv => arg 1; whnf
            first
            | (refine tri_stp (co (r := false) ?_) ?_; focus ((try dsimp only); decide +kernel))
            | (refine tri_stp (co (r := true) ?_) ?_; focus ((try dsimp only); decide +kernel)))
    conv => arg 1; whnf
    refine tri_lc (enc := enI) (List.range z) (fun a => [some (.own (bx row a)), some (.p (.int z)), some (.own (.lst (names.map .str))), some (.p (sP "turn")), some (.p (.str x)), some (.p (.str y)), none]) (fun pre ds _ => ∃ ks : List Int, ds = ks.map .int ∧ ks.length = pre.length ∧ ∀ k ∈ ks, 0 ≤ k ∧ k < z) _
      (ws := [.p (.int z)]) (by kernel_rfl) (it_rng1 (by omega)) rfl (by rw [sizeLine_eq]; simp; omega) rfl ⟨[], rfl, rfl, by simp⟩ ?_ ?_
    · rintro pre j post ds a e ⟨ks, rfl, hl, hk⟩
      conv => arg 1; whnf
      refine tri_bind (t_take _ B a z (by omega)) ?_
      rintro _ ⟨k, hk', rfl⟩
      conv => arg 1; whnf
      refine tri_ret ?_
      refine ⟨some (.int k), _, rfl, ks ++ [(k : Int)], by simp, by simp [hl], ?_⟩
      intro i hi
      rcases List.mem_append.mp hi with hi | hi
      · exact hk i hi
      · simp at hi; omega
    · rintro ds a ⟨ks, rfl, hl, hk⟩
      conv => arg 1; whnf
      refine tri_ret ?_
      exact ⟨.turn x ks, a, rfl, ⟨by simp at hl; omega, hk⟩, by simp [Fm.ns, mx]⟩
  · repeat (conv => arg 1; whnf
            first
            | (refine tri_stp (co (r := false) ?_) ?_; focus ((try dsimp only); decide +kernel))
            | (refine tri_stp (co (r := true) ?_) ?_; focus ((try dsimp only); decide +kernel)))
    conv => arg 1; whnf
    refine tri_ret ?_
    exact ⟨.wen x y, _, rfl, trivial, by simp [Fm.ns, mx, my]⟩
  · repeat (conv => arg 1; whnf
            first
            | (refine tri_stp (co (r := false) ?_) ?_; focus ((try dsimp only); decide +kernel))
            | (refine tri_stp (co (r := true) ?_) ?_; focus ((try dsimp only); decide +kernel)))
    conv => arg 1; whnf
    refine tri_ret ?_
    exact ⟨.els x y, _, rfl, trivial, by simp [Fm.ns, mx, my]⟩
  · repeat (conv => arg 1; whnf
            first
            | (refine tri_stp (co (r := false) ?_) ?_; focus ((try dsimp only); decide +kernel))
            | (refine tri_stp (co (r := true) ?_) ?_; focus ((try dsimp only); decide +kernel)))
    conv => arg 1; whnf
    refine tri_bind (t_take _ B _ z (by omega)) ?_
    rintro _ ⟨k, hk, rfl⟩
    conv => arg 1; whnf
    refine tri_ret ?_
    exact ⟨.held x k, _, rfl, by simp [Fm.okz]; omega, by simp [Fm.ns, mx]⟩
  · repeat (conv => arg 1; whnf
            first
            | (refine tri_stp (co (r := false) ?_) ?_; focus ((try dsimp only); decide +kernel))
            | (refine tri_stp (co (r := true) ?_) ?_; focus ((try dsimp only); decide +kernel)))
    conv => arg 1; whnf
    refine tri_bind (t_take _ B _ z (by omega)) ?_
    rintro _ ⟨k, hk, rfl⟩
    conv => arg 1; whnf
    refine tri_ret ?_
    exact ⟨.before x k, _, rfl, by simp [Fm.okz]; omega, by simp [Fm.ns, mx]⟩
  · repeat (conv => arg 1; whnf
            first
            | (refine tri_stp (co (r := false) ?_) ?_; focus ((try dsimp only); decide +kernel))
            | (refine tri_stp (co (r := true) ?_) ?_; focus ((try dsimp only); decide +kernel)))
    conv => arg 1; whnf
    refine tri_bind (t_take _ B _ z (by omega)) ?_
    rintro _ ⟨k, hk, rfl⟩
    conv => arg 1; whnf
    refine tri_bind (t_pick _ B _ [.non, .int k] (by simp)) ?_
    rintro _ ⟨v, hv, rfl⟩
    conv => arg 1; whnf
    refine tri_ret ?_
    simp only [List.mem_cons, List.not_mem_nil, or_false] at hv
    rcases hv with rfl | rfl
    · exact ⟨.late x none, _, rfl, (fun i e => by cases e), by simp [Fm.ns, mx]⟩
    · exact ⟨.late x (some k), _, rfl, (fun i e => by cases e; omega), by simp [Fm.ns, mx]⟩
  · repeat (conv => arg 1; whnf
            first
            | (refine tri_stp (co (r := false) ?_) ?_; focus ((try dsimp only); decide +kernel))
            | (refine tri_stp (co (r := true) ?_) ?_; focus ((try dsimp only); decide +kernel)))
    conv => arg 1; whnf
    refine tri_bind (t_pick _ B _ opP (by decide)) ?_
    rintro _ ⟨o, ho, rfl⟩
    obtain ⟨o, rfl⟩ := op_cases ho
    conv => arg 1; whnf
    refine tri_ret ?_
    exact ⟨.mat o x y, _, rfl, trivial, by simp [Fm.ns, mx, my]⟩
end Ev

namespace Ev
open PySem PySem.Spec PyProof.Rows L2
/-! the order of cells -/
def Fm.isLate : Fm → Bool
  | .late _ _ => true
  | _ => false
def Fm.isMat : Fm → Bool
  | .mat _ _ _ => true
  | _ => false
def ordC (done : List Str) (step : Nat) (row : List Str) (c : Str × Fm) : List Str :=
  if row.length = step ∧ c.1 ∉ done ∧ (c.2.isLate = true ∨ c.2.ns.all (fun x => decide (x ∈ done)) = true) then row ++ [c.1] else row
def ordIn (N : Nt) (done : List Str) (step : Nat) (row : List Str) : List Str := N.cells.foldl (ordC done step) row
def ordStep (N : Nt) (s : List Str × List Str) (step : Nat) : List Str × List Str :=
  let row := ordIn N s.1 step s.2
  if step < row.length then (s.1 ++ [row.getD step default], row) else (s.1, row)
def ordGo (N : Nt) (k : Nat) : List Str × List Str := (List.range k).foldl (ordStep N) (N.ins, [])
def ordL (N : Nt) : List Str := (ordGo N N.cells.length).2
theorem ordGo_succ (N : Nt) (k : Nat) : ordGo N (k + 1) = ordStep N (ordGo N k) k := by simp [ordGo, List.range_succ]
theorem ordIn_len (N : Nt) (done : List Str) (step : Nat) (row : List Str) (h : row.length ≤ step) : (ordIn N done step row).length ≤ step + 1 := by
  unfold ordIn
  suffices H : ∀ (cs : List (Str × Fm)) (row : List Str), row.length ≤ step + 1 → (cs.foldl (ordC done step) row).length ≤ step + 1 from H _ _ (by omega)
  intro cs
  induction cs with
  | nil => intro row h; exact h
  | cons c cs ih =>
    intro row h
    refine ih _ ?_
    unfold ordC
    split
    · simp; omega
    · exact h
theorem ordGo_len (N : Nt) (k : Nat) : (ordGo N k).2.length ≤ k := by
  induction k with
  | zero => simp [ordGo]
  | succ k ih =>
    rw [ordGo_succ]
    simp only [ordStep]
    split <;> exact ordIn_len N _ _ _ ih
theorem foldl_len (done : List Str) (step : Nat) (cs : List (Str × Fm)) (row : List Str) : (cs.foldl (ordC done step) row).length ≤ row.length + cs.length := by
  induction cs generalizing row with
  | nil => simp
  | cons c cs ih =>
    have := ih (ordC done step row c)
    simp only [List.foldl_cons, List.length_cons]
    have : (ordC done step row c).length ≤ row.length + 1 := by unfold ordC; split <;> simp
    omega
theorem cmp_late (f : Fm) : ixP f.toP (.int 0) >>= (fun d => cmpP .Eq d (.str ("late" : Str))) = .ok f.isLate := by
  cases f with
  | two o x y => cases o <;> rfl
  | _ => rfl
theorem ix0 (f : Fm) : ∃ w : String, ixP f.toP (.int 0) = .ok (sP w) ∧ cmpPo .Eq (sP w) (sP "late") = .ok f.isLate ∧ cmpPo .Eq (sP w) (sP "match") = .ok f.isMat := by
  cases f with
  | two o x y => cases o <;> exact ⟨_, rfl, co (by kernel_rfl), co (by kernel_rfl)⟩
  | _ => exact ⟨_, rfl, co (by kernel_rfl), co (by kernel_rfl)⟩
theorem len_strs (xs : List Str) : (xs.map P.str).length = xs.length := by simp
structure NtSz (N : Nt) : Prop where
  i : N.ins.length ≤ 10
  c : N.cells.length ≤ 30
  f : ∀ c ∈ N.cells, c.2.ns.length ≤ 10
theorem ns_len (f : Fm) : f.ns.length ≤ 2 := by cases f <;> simp [Fm.ns]
theorem t_order (n : Nat) (N : Nt) (hc : N.cells.length ≤ 30) (hi : N.ins.length ≤ 10) :
    Tri (cl (n + 2) "_law_order" [.p N.toP]) fun r => r = (.tmp (.lst ((ordL N).map .str)), [.p N.toP]) := by
  rw [ev_law_order]
  refine tri_F ?_
  conv => arg 1; whnf
  refine tri_for (enc := enI) (List.range N.cells.length) (fun pre ρ => ∃ j3 j4 j5, ρ = [some (.p N.toP), some (.own (.lst ((ordGo N pre.length).1.map .str))), some (.own (.lst ((ordGo N pre.length).2.map .str))), jk j3, jk j4, jk j5, none])
    (ws := [.p (.int N.cells.length)]) (by rw [show N.cells.length = (N.cells.map (enP Fm.toP)).length by simp]; kernel_rfl) (it_rng1 (by omega)) ⟨none, none, none, rfl⟩ ?_ ?_
  · rintro pre y post ρ e ⟨j3, j4, j5, rfl⟩
    obtain ⟨rfl, hy⟩ := rng_at e
    have hl := ordGo_len N pre.length
    have hl2 : (ordGo N pre.length).1.length ≤ 10 + pre.length := by
      generalize pre.length = k
      clear hl e hy
      induction k with
      | zero => simpa [ordGo] using hi
      | succ k ih =>
        rw [ordGo_succ]; simp only [ordStep]; split
        · simp; omega
        · simp only; omega
    rw [show (pre ++ [pre.length]).length = pre.length + 1 by simp, ordGo_succ]
    generalize ordGo N pre.length = s at hl hl2 ⊢
    obtain ⟨done, row⟩ := s
    simp only at hl hl2 ⊢
    conv => arg 1; whnf
    refine tri_stp (bt_1 (by (try simp only [List.set_cons_zero, List.set_cons_succ, List.set_nil]); simp only [ns_jk, ns_p, ns_own, ns_rd, ns_none, ns_nil]) rfl (by simp)) ?_
    conv => arg 1; whnf
    refine tri_for (enc := enP Fm.toP) N.cells (fun qre ρ => ∃ j4 j5, ρ = [some (.p N.toP), some (.own (.lst (done.map .str))), some (.own (.lst ((qre.foldl (ordC done pre.length) row).map .str))), some (.p (.int pre.length)), jk j4, jk j5, none])
      (ws := [.p (.tup (N.cells.map (enP Fm.toP)))]) (by kernel_rfl) rfl ⟨j4, j5, rfl⟩ ?_ ?_
    · rintro qre ⟨x, f⟩ qost ρ eq ⟨j4, j5, rfl⟩
      have hcc := congrArg List.length eq
      simp at hcc
      have hr := foldl_len done pre.length qre row
      rw [List.foldl_append]
      generalize qre.foldl (ordC done pre.length) row = rw' at hr
      show Tri _ fun (z : Fl × En) => _ ∧ ∃ j4 j5, z.2 = [some (.p N.toP), some (.own (.lst (done.map .str))), some (.own (.lst ((ordC done pre.length rw' (x, f)).map .str))), some (.p (.int pre.length)), jk j4, jk j5, none]
      unfold ordC
      conv => arg 1; whnf
      refine tri_stp (bt_2 (by (try simp only [List.set_cons_zero, List.set_cons_succ, List.set_nil]); simp only [ns_jk, ns_p, ns_own, ns_rd, ns_none, ns_nil]) (by (try simp only [List.set_cons_zero, List.set_cons_succ, List.set_nil]); simp only [ns_jk, ns_p, ns_own, ns_rd, ns_none, ns_nil]) rfl rfl (by simp) (by simp)) ?_
      conv => arg 1; whnf
      refine tri_stp (co_eq _ _) ?_
      rw [len_strs]
      conv => arg 1; whnf
      refine tri_if (fun h => ?_) (fun h => ?_)
      · have h : rw'.length = pre.length := by have := of_decide_eq_true h; omega
        conv => arg 1; whnf
        refine tri_stp (co_niL x done) ?_
        conv => arg 1; whnf
        refine tri_if (fun h2 => ?_) (fun h2 => ?_)
        · have h2 : x ∉ done := by simpa using h2
          obtain ⟨w, e1, e2, _⟩ := ix0 f
          conv => arg 1; whnf
          refine tri_stp (e1) ?_
          conv => arg 1; whnf
          refine tri_stp (e2) ?_
          conv => arg 1; whnf
          refine tri_if (fun h3 => ?_) (fun h3 => ?_)
          · rw [if_pos ⟨h, h2, .inl h3⟩]
            conv => arg 1; whnf
            refine tri_stp (app_ok rfl (by rw [sizeLine_eq]; simp; omega)) ?_
            conv => arg 1; whnf
            refine tri_ret ?_
            exact ⟨.inl rfl, some (.str x), some f.toP, by rw [List.map_append]; rfl⟩
          · conv => arg 1; whnf
            refine tri_stp (lc_map (enc := P.str) f.ns (fun o => .bl (decide (o ∈ done))) (ws := [.p (.tup (f.ns.map .str))]) (ρh := [some (.p N.toP), some (.own (.lst (done.map .str))), some (.own (.lst (rw'.map .str))), some (.p (.int pre.length)), some (.p (.str x)), some (.p f.toP), none]) (ρ2 := [some (.p N.toP), some (.own (.lst (done.map .str))), some (.own (.lst (rw'.map .str))), some (.p (.int pre.length)), some (.p (.str x)), some (.p f.toP), none]) (by refine kEs_run (tri_eq ?_); (conv => arg 1; whnf); refine tri_stp (law_names_in _ f) ?_; (conv => arg 1; whnf); exact tri_ret rfl) rfl rfl rfl (by have := ns_len f; rw [sizeLine_eq]; omega) rfl ?h5 rfl) ?_
            case h5 =>
              intro o ho
              apply tri_eq
              conv => arg 1; whnf
              refine tri_stp (co_inL o done) ?_
              conv => arg 1; whnf
              refine tri_ret ?_
              rfl
            conv => arg 1; whnf
            refine tri_stp (bl_all (fun o => decide (o ∈ done)) f.ns) ?_
            conv => arg 1; whnf
            refine tri_if (fun h4 => ?_) (fun h4 => ?_)
            · rw [if_pos ⟨h, h2, .inr h4⟩]
              conv => arg 1; whnf
              refine tri_stp (app_ok rfl (by rw [sizeLine_eq]; simp; omega)) ?_
              conv => arg 1; whnf
              refine tri_ret ?_
              exact ⟨.inl rfl, some (.str x), some f.toP, by rw [List.map_append]; rfl⟩
            · rw [if_neg (by rintro ⟨_, _, h5 | h5⟩ <;> simp_all)]
              conv => arg 1; whnf
              refine tri_ret ?_
              exact ⟨.inl rfl, some (.str x), some f.toP, rfl⟩
        · rw [if_neg (by rintro ⟨_, h5, _⟩; simp at h2; exact h5 h2)]
          conv => arg 1; whnf
          refine tri_ret ?_
          exact ⟨.inl rfl, some (.str x), some f.toP, rfl⟩
      · rw [if_neg (by rintro ⟨h5, _⟩; have := of_decide_eq_false h; omega)]
        conv => arg 1; whnf
        refine tri_ret ?_
        exact ⟨.inl rfl, some (.str x), some f.toP, rfl⟩
    · rintro _ ⟨j4, j5, rfl⟩
      have hlen := ordIn_len N done pre.length row hl
      simp only [ordStep]
      rw [show N.cells.foldl (ordC done pre.length) row = ordIn N done pre.length row from rfl]
      generalize ordIn N done pre.length row = rw' at hlen
      conv => arg 1; whnf
      refine tri_stp (co_gt _ _) ?_
      rw [len_strs]
      conv => arg 1; whnf
      refine tri_if (fun h => ?_) (fun h => ?_)
      · have h : pre.length < rw'.length := by simpa using h
        rw [if_pos h]
        conv => arg 1; whnf
        refine tri_stp (ix_nat (d := .str (rw'.getD pre.length default)) (by simp [List.getElem?_eq_getElem h])) ?_
        conv => arg 1; whnf
        refine tri_stp (app_ok rfl (by rw [sizeLine_eq]; simp; omega)) ?_
        conv => arg 1; whnf
        refine tri_ret ?_
        exact ⟨.inl rfl, some (.int pre.length), j4, j5, by simp only [List.map_append]; rfl⟩
      · have h : ¬ pre.length < rw'.length := by simpa using h
        rw [if_neg h]
        conv => arg 1; whnf
        refine tri_ret ?_
        exact ⟨.inl rfl, some (.int pre.length), j4, j5, rfl⟩
  · rintro _ ⟨j3, j4, j5, rfl⟩
    conv => arg 1; whnf
    refine tri_ret ?_
    rw [List.length_range]
    rfl
end Ev

namespace Ev
open PySem PySem.Spec PyProof.Rows L2
/-! what cells hang on; drawn nets -/
def undStep (N : Nt) (found : List Str) (step : Nat) : List Str := match found[step]? with
  | none => found
  | some x => match look N.cells x with
    | none => found
    | some f => found ++ f.ns.filter (fun y => !decide (y ∈ found))
def undGo (N : Nt) (names : List Str) (k : Nat) : List Str := (List.range k).foldl (undStep N) names
/-- the first of each -/
def firsts (xs : List Str) : List Str := ((List.range xs.length).filter fun i => !decide (xs.getD i default ∈ xs.take i)).map fun i => xs.getD i default
def undL (N : Nt) (names : List Str) : List Str := firsts (undGo N names 60)
theorem undGo_succ (N : Nt) (names : List Str) (k : Nat) : undGo N names (k + 1) = undStep N (undGo N names k) k := by simp [undGo, List.range_succ]
theorem undGo_end (N : Nt) (names : List Str) (k : Nat) (h : (undGo N names k).length ≤ k) : ∀ j, k ≤ j → undGo N names j = undGo N names k := by
  intro j hj
  induction j with
  | zero =>
    have : k = 0 := by omega
    rw [this]
  | succ j ih =>
    by_cases hk : k = j + 1
    · rw [hk]
    rw [undGo_succ, ih (by omega)]
    unfold undStep
    rw [List.getElem?_eq_none (by omega)]
theorem undStep_some {N : Nt} {found : List Str} {k : Nat} {x : Str} {f : Fm} (h1 : found[k]? = some x) (h2 : look N.cells x = some f) : undStep N found k = found ++ f.ns.filter (fun y => !decide (y ∈ found)) := by simp only [undStep, h1, h2]
theorem undStep_none {N : Nt} {found : List Str} {k : Nat} {x : Str} (h1 : found[k]? = some x) (h2 : look N.cells x = none) : undStep N found k = found := by simp only [undStep, h1, h2]
theorem undGo_len (N : Nt) (names : List Str) (k : Nat) : (undGo N names k).length ≤ names.length + 2 * k := by
  induction k with
  | zero => simp [undGo]
  | succ k ih =>
    rw [undGo_succ]
    unfold undStep
    split
    · omega
    · split
      · omega
      · next f _ =>
        have := ns_len f
        have := List.length_filter_le (fun y => !decide (y ∈ undGo N names k)) f.ns
        simp only [List.length_append]
        omega
theorem cut_to {xs : List P} {k : Nat} : cutP xs none (some (k : Int)) = xs.take k := by
  simp only [cutP, HT.sIx_nat, HT.sIx_none, List.drop_zero, Nat.sub_zero]
  rcases Nat.le_total k xs.length with h | h
  · rw [Nat.min_eq_left h]
  · rw [Nat.min_eq_right h, List.take_length, List.take_of_length_le h]
theorem cut_from {xs : List P} {k : Nat} (h : k ≤ xs.length) : cutP xs (some (k : Int)) none = xs.drop k := by
  simp only [cutP, HT.sIx_nat, HT.sIx_none, Nat.min_eq_left h]
  rw [List.take_of_length_le (by simp)]
theorem t_under (n : Nat) (N : Nt) (names : List Str) (hc : N.cells.length ≤ 30) (hn : names.length ≤ 100) (nd : N.nm.Nodup) :
    Tri (cl (n + 2) "_law_under" [.p N.toP, .p (.tup (names.map .str))]) fun r => r = (.tmp (.lst ((undL N names).map .str)), [.p N.toP, .p (.tup (names.map .str))]) := by
  rw [ev_law_under]
  refine tri_F ?_
  conv => arg 1; whnf
  refine tri_stp (bl_dict Fm.toP N.cells nd (by omega)) ?_
  conv => arg 1; whnf
  refine tri_forB (enc := enI) (List.range 60) (fun pre ρ => ∃ j4, ρ = [some (.p N.toP), some (.p (.tup (names.map .str))), some (.own (.dk (dkP Fm.toP N.cells))), some (.own (.lst ((undGo N names pre.length).map .str))), jk j4, none, none])
    (fun ρ => ∃ j4, ρ = [some (.p N.toP), some (.p (.tup (names.map .str))), some (.own (.dk (dkP Fm.toP N.cells))), some (.own (.lst ((undGo N names 60).map .str))), jk j4, none, none])
    (ws := [.p (.int 60)]) (by kernel_rfl) (it_rng1' (k := 60) rfl (by omega)) ⟨none, rfl⟩ ?_ ?_
  · rintro pre y post ρ e ⟨j4, rfl⟩
    obtain ⟨rfl, hy⟩ := rng_at e
    rw [show (pre ++ [pre.length]).length = pre.length + 1 by simp, undGo_succ]
    have hg := undGo_end N names pre.length
    have hl := undGo_len N names pre.length
    generalize undGo N names pre.length = found at hg hl
    conv => arg 1; whnf
    refine tri_stp (bt_1 (by (try simp only [List.set_cons_zero, List.set_cons_succ, List.set_nil]); simp only [ns_jk, ns_p, ns_own, ns_rd, ns_none, ns_nil]) rfl (by simp)) ?_
    conv => arg 1; whnf
    refine tri_stp (co_ge _ _) ?_
    rw [len_strs]
    conv => arg 1; whnf
    refine tri_if (fun h => ?_) (fun h => ?_)
    · have h : found.length ≤ pre.length := by have := of_decide_eq_true h; omega
      conv => arg 1; whnf
      refine tri_ret ?_
      exact .inr ⟨rfl, some (.int pre.length), by rw [hg h 60 (by omega)]; rfl⟩
    · have h : pre.length < found.length := by have := of_decide_eq_false h; omega
      have e0 := List.getElem?_eq_getElem h
      have e1 : ixP (.lst (found.map .str)) (.int pre.length) = .ok (.str found[pre.length]) := ix_nat (by simp [List.getElem?_eq_getElem h])
      generalize found[pre.length] = x at e1 e0
      conv => arg 1; whnf
      refine tri_stp (e1) ?_
      conv => arg 1; whnf
      refine tri_stp (co_inD Fm.toP N.cells x) ?_
      conv => arg 1; whnf
      refine tri_if (fun h2 => ?_) (fun h2 => ?_)
      · have h2 : x ∈ N.cells.map (·.1) := by simpa using h2
        cases hlk : look N.cells x with
        | none => exact absurd h2 (look_none.mp hlk)
        | some f =>
          conv => arg 1; whnf
          refine tri_stp (lc_filter (enc := P.str) f.ns (fun y => !decide (y ∈ found)) P.str (ws := [.p (.tup (f.ns.map .str))]) (ρh := [some (.p N.toP), some (.p (.tup (names.map .str))), some (.own (.dk (dkP Fm.toP N.cells))), some (.own (.lst (found.map .str))), some (.p (.int pre.length)), none, none]) (ρ2 := [some (.p N.toP), some (.p (.tup (names.map .str))), some (.own (.dk (dkP Fm.toP N.cells))), some (.own (.lst (found.map .str))), some (.p (.int pre.length)), none, none]) ?h1 rfl rfl rfl (by have := ns_len f; rw [sizeLine_eq]; omega) rfl ?h5 rfl) ?_
          case h1 =>
            refine kEs_run (tri_eq ?_)
            conv => arg 1; whnf
            refine tri_stp (e1) ?_
            conv => arg 1; whnf
            refine tri_stp (ix_dk Fm.toP hlk) ?_
            conv => arg 1; whnf
            refine tri_stp (law_names_in _ f) ?_
            conv => arg 1; whnf
            refine tri_ret ?_
            rfl
          case h5 =>
            intro o ho
            apply tri_eq
            conv => arg 1; whnf
            refine tri_stp (co_niL o found) ?_
            cases hd : decide (o ∈ found) with
            | true =>
              conv => arg 1; whnf
              refine tri_ret ?_
              simp [hd]; rfl
            | false =>
              conv => arg 1; whnf
              refine tri_ret ?_
              simp [hd]; rfl
          conv => arg 1; whnf
          refine tri_stp (cat_lst (by rw [sizeLine_eq]; have := ns_len f; have := List.length_filter_le (fun y => !decide (y ∈ found)) f.ns; simp only [List.length_map]; omega)) ?_
          conv => arg 1; whnf
          refine tri_ret ?_
          exact .inl ⟨.inl rfl, some (.int pre.length), by rw [undStep_some e0 hlk, List.map_append]; rfl⟩
      · have h2 : x ∉ N.cells.map (·.1) := by simpa using h2
        conv => arg 1; whnf
        refine tri_ret ?_
        exact .inl ⟨.inl rfl, some (.int pre.length), by rw [undStep_none e0 (look_none.mpr h2)]; rfl⟩
  · intro ρ' h
    obtain ⟨j4, rfl⟩ : ∃ j4, ρ' = [some (.p N.toP), some (.p (.tup (names.map .str))), some (.own (.dk (dkP Fm.toP N.cells))), some (.own (.lst ((undGo N names 60).map .str))), jk j4, none, none] := by
      rcases h with ⟨j, h⟩ | h
      · exact ⟨j, by rw [h, List.length_range]⟩
      · exact h
    have hl := undGo_len N names 60
    unfold undL
    generalize undGo N names 60 = found at hl
    conv => arg 1; whnf
    refine tri_stp (lc_filter (enc := enI) (List.range found.length) (fun i => !decide (found.getD i default ∈ found.take i)) (fun i => .str (found.getD i default)) (ws := [.p (.int found.length)]) (ρh := [some (.p N.toP), some (.p (.tup (names.map .str))), some (.own (.dk (dkP Fm.toP N.cells))), some (.own (.lst (found.map .str))), jk j4, none, none]) (ρ2 := [some (.p N.toP), some (.p (.tup (names.map .str))), some (.own (.dk (dkP Fm.toP N.cells))), some (.own (.lst (found.map .str))), jk j4, none, none]) (by rw [← len_strs found]; kernel_rfl) (it_rng1 (by omega)) rfl rfl (by rw [sizeLine_eq]; simp; omega) (by cases j4 <;> rfl) ?h5 (by cases j4 <;> rfl)) ?_
    case h5 =>
      intro i hi
      have hi : i < found.length := by simpa using hi
      have e1 : ixP (.lst (found.map .str)) (.int i) = .ok (.str (found.getD i default)) := ix_nat (by simp [List.getElem?_eq_getElem hi])
      apply tri_eq
      conv => arg 1; whnf
      refine tri_stp (bt_1 (by (try simp only [List.set_cons_zero, List.set_cons_succ, List.set_nil]); simp only [ns_jk, ns_p, ns_own, ns_rd, ns_none, ns_nil]) rfl (by simp)) ?_
      conv => arg 1; whnf
      refine tri_stp (e1) ?_
      conv => arg 1; whnf
      rw [cut_to, ← List.map_take]
      conv => arg 1; whnf
      refine tri_stp (co_niL (found.getD i default) (found.take i)) ?_
      cases hd : decide (found.getD i default ∈ found.take i) with
      | true =>
        conv => arg 1; whnf
        refine tri_ret ?_
        cases j4 <;> rfl
      | false =>
        conv => arg 1; whnf
        refine tri_stp (e1) ?_
        conv => arg 1; whnf
        refine tri_ret ?_
        cases j4 <;> rfl
    conv => arg 1; whnf
    refine tri_ret ?_
    simp only [firsts, List.map_map]
    rfl
end Ev

namespace Ev
open PySem PySem.Spec PyProof.Rows L2
/-! drawn nets -/
def sndB (N : Nt) : Bool := !decide ((ordL N).length < N.cells.length) && !N.cells.any fun c => c.2.isMat && decide (c.1 ∈ undL N c.2.ns)
theorem len_enc (N : Nt) : (N.cells.map (enP Fm.toP)).length = N.cells.length := by simp
theorem t_sound (n : Nat) (N : Nt) (hc : N.cells.length ≤ 30) (hi : N.ins.length ≤ 10) (nd : N.nm.Nodup) :
    Tri (cl (n + 3) "_law_sound" [.p N.toP]) fun r => r = (.p (.bl (sndB N)), [.p N.toP]) := by
  rw [ev_law_sound]
  refine tri_F ?_
  conv => arg 1; whnf
  refine tri_bind (t_order _ N hc hi) ?_
  rintro _ rfl
  conv => arg 1; whnf
  refine tri_stp (co_lt _ _) ?_
  rw [len_strs, len_enc]
  conv => arg 1; whnf
  refine tri_if (fun h => ?_) (fun h => ?_)
  · have h : (ordL N).length < N.cells.length := by have := of_decide_eq_true h; omega
    conv => arg 1; whnf
    refine tri_ret ?_
    simp only [sndB, decide_eq_true h]; rfl
  · have h : ¬ (ordL N).length < N.cells.length := by have := of_decide_eq_false h; omega
    conv => arg 1; whnf
    refine tri_stp (lc_map (enc := enP Fm.toP) N.cells (fun c => .bl (c.2.isMat && decide (c.1 ∈ undL N c.2.ns))) (ws := [.p (.tup (N.cells.map (enP Fm.toP)))]) (ρh := [some (.p N.toP), none, none]) (ρ2 := [some (.p N.toP), none, none]) (by kernel_rfl) rfl rfl rfl (by rw [sizeLine_eq]; omega) rfl ?h5 rfl) ?_
    case h5 =>
      rintro ⟨x, f⟩ hx
      apply tri_eq
      obtain ⟨w, e1, _, e2⟩ := ix0 f
      conv => arg 1; whnf
      refine tri_stp (e1) ?_
      conv => arg 1; whnf
      refine tri_stp (e2) ?_
      cases hm : f.isMat with
      | false =>
        conv => arg 1; whnf
        refine tri_ret ?_
        simp only [Bool.false_and]; rfl
      | true =>
        conv => arg 1; whnf
        refine tri_stp (law_names_in _ f) ?_
        conv => arg 1; whnf
        refine tri_bind (t_under _ N f.ns hc (by have := ns_len f; omega) nd) ?_
        rintro _ rfl
        conv => arg 1; whnf
        refine tri_stp (co_inL x (undL N f.ns)) ?_
        conv => arg 1; whnf
        refine tri_ret ?_
        simp only [Bool.true_and]; rfl
    conv => arg 1; whnf
    refine tri_stp (bl_any (fun c : Str × Fm => c.2.isMat && decide (c.1 ∈ undL N c.2.ns)) N.cells) ?_
    conv => arg 1; whnf
    refine tri_ret ?_
    simp only [sndB, decide_eq_false h, Bool.not_false, Bool.true_and]
/-! ### the order -/
def rdy (done : List Str) (c : Str × Fm) : Prop := c.1 ∉ done ∧ (c.2.isLate = true ∨ ∀ x ∈ c.2.ns, x ∈ done)
theorem ordC_eq (done : List Str) (step : Nat) (row : List Str) (c : Str × Fm) : ordC done step row c = (open Classical in if row.length = step ∧ rdy done c then row ++ [c.1] else row) := by
  unfold ordC rdy
  congr 1
  simp
theorem ordIn_stuck {done : List Str} {step : Nat} : ∀ {cs : List (Str × Fm)} {row : List Str}, row.length ≠ step → cs.foldl (ordC done step) row = row
  | [], _, _ => rfl
  | c :: cs, row, h => by
    rw [List.foldl_cons, ordC_eq, if_neg (fun q => h q.1)]
    exact ordIn_stuck h
theorem ordIn_spec {done : List Str} : ∀ {cs : List (Str × Fm)} {row : List Str}, (∃ c ∈ cs, rdy done c ∧ cs.foldl (ordC done row.length) row = row ++ [c.1]) ∨ ((∀ c ∈ cs, ¬ rdy done c) ∧ cs.foldl (ordC done row.length) row = row)
  | [], _ => .inr ⟨(fun _ h => by cases h), rfl⟩
  | c :: cs, row => by
    rw [List.foldl_cons, ordC_eq]
    by_cases h : rdy done c
    · rw [if_pos ⟨rfl, h⟩, ordIn_stuck (by simp)]
      exact .inl ⟨c, List.mem_cons_self, h, rfl⟩
    · rw [if_neg (fun q => h q.2)]
      rcases ordIn_spec (done := done) (cs := cs) (row := row) with ⟨c', h1, h2, h3⟩ | ⟨h1, h2⟩
      · exact .inl ⟨c', List.mem_cons_of_mem _ h1, h2, h3⟩
      · refine .inr ⟨fun q hq => ?_, h2⟩
        rcases List.mem_cons.mp hq with rfl | hq
        · exact h
        · exact h1 q hq
/-- each stands behind those that it hangs on -/
def Chain (N : Nt) (row : List Str) : Prop := ∀ pre x post, row = pre ++ x :: post → ∃ f, (x, f) ∈ N.cells ∧ rdy (N.ins ++ pre) (x, f)
theorem Chain.snoc {N : Nt} {row : List Str} {c : Str × Fm} (h : Chain N row) (hc : c ∈ N.cells) (hr : rdy (N.ins ++ row) c) : Chain N (row ++ [c.1]) := by
  intro pre x post e
  rcases List.eq_nil_or_concat post with rfl | ⟨post', z, rfl⟩
  · have := List.append_inj' e (by simp)
    obtain ⟨rfl, h2⟩ := this
    simp at h2; subst h2
    exact ⟨c.2, hc, hr⟩
  · have e2 : row ++ [c.1] = (pre ++ x :: post') ++ [z] := by rw [e]; simp
    obtain ⟨rfl, _⟩ := List.append_inj' e2 (by simp)
    exact h pre x post' rfl
theorem ordGo_inv (N : Nt) (k : Nat) : (ordGo N k).1 = N.ins ++ (ordGo N k).2 ∧ Chain N (ordGo N k).2 ∧ ((ordGo N k).2.length < k → ∀ c ∈ N.cells, ¬ rdy (N.ins ++ (ordGo N k).2) c) := by
  induction k with
  | zero => exact ⟨by simp [ordGo], fun pre x post e => by simp [ordGo] at e, fun h => by omega⟩
  | succ k ih =>
    have hl := ordGo_len N k
    rw [ordGo_succ]
    generalize ordGo N k = s at ih hl
    obtain ⟨done, row⟩ := s
    obtain ⟨h1, h2, h3⟩ := ih
    simp only at h1 h2 h3 hl
    subst h1
    by_cases hk : row.length = k
    · subst hk
      rcases ordIn_spec (done := N.ins ++ row) (cs := N.cells) (row := row) with ⟨c, hc, hr, e⟩ | ⟨hn, e⟩
      · have E : ordStep N (N.ins ++ row, row) row.length = (N.ins ++ row ++ [c.1], row ++ [c.1]) := by simp [ordStep, ordIn, e]
        rw [E]
        exact ⟨by simp, h2.snoc hc hr, fun h => by simp at h⟩
      · have E : ordStep N (N.ins ++ row, row) row.length = (N.ins ++ row, row) := by simp [ordStep, ordIn, e]
        rw [E]
        exact ⟨rfl, h2, fun _ => hn⟩
    · have E : ordStep N (N.ins ++ row, row) k = (N.ins ++ row, row) := by
        have : ¬ k < row.length := by omega
        simp [ordStep, ordIn, ordIn_stuck hk, this]
      rw [E]
      exact ⟨rfl, h2, fun _ => h3 (by omega)⟩
theorem Chain.nodup {N : Nt} {row : List Str} (h : Chain N row) : row.Nodup := by
  suffices H : ∀ k (row : List Str), row.length = k → Chain N row → row.Nodup from H _ row rfl h
  intro k
  induction k with
  | zero => intro row e _; rw [List.length_eq_zero_iff.mp e]; exact .nil
  | succ k ih =>
    intro row e h
    rcases List.eq_nil_or_concat row with rfl | ⟨row, x, rfl⟩
    · exact .nil
    rw [List.concat_eq_append] at e h ⊢
    have h1 : Chain N row := fun pre y post e => h pre y (post ++ [x]) (by rw [e]; simp)
    obtain ⟨f, _, hr, _⟩ := h row x [] rfl
    refine List.nodup_append.mpr ⟨ih row (by simpa using e) h1, by simp, fun a ha b hb e' => ?_⟩
    simp at hb
    subst hb; subst e'
    exact hr (List.mem_append_right _ ha)
theorem Chain.sub {N : Nt} {row : List Str} (h : Chain N row) : ∀ x ∈ row, x ∈ N.nm ∧ x ∉ N.ins := by
  intro x hx
  obtain ⟨pre, post, e⟩ := List.append_of_mem hx
  obtain ⟨f, hf, hr⟩ := h pre x post e
  exact ⟨List.mem_map_of_mem (f := (·.1)) hf, fun q => hr.1 (List.mem_append_left _ q)⟩
theorem sub_len {α : Type} [DecidableEq α] : ∀ {a b : List α}, a.Nodup → (∀ x ∈ a, x ∈ b) → a.length ≤ b.length
  | [], _, _, _ => Nat.zero_le _
  | x :: a, b, nd, h => by
    rw [List.nodup_cons] at nd
    have hx := h x List.mem_cons_self
    have := sub_len (a := a) (b := b.erase x) nd.2 fun y hy => (List.mem_erase_of_ne (fun e => nd.1 (by rw [← e]; exact hy))).mpr (h y (List.mem_cons_of_mem _ hy))
    rw [List.length_erase_of_mem hx] at this
    have : 0 < b.length := List.length_pos_of_mem hx
    simp only [List.length_cons]; omega
/-- a whole order has all cells -/
theorem ord_all {N : Nt} (h : ¬ (ordL N).length < N.cells.length) : Chain N (ordL N) ∧ ∀ x ∈ N.nm, x ∈ ordL N := by
  obtain ⟨_, h2, _⟩ := ordGo_inv N N.cells.length
  refine ⟨h2, fun x hx => Decidable.byContradiction fun hn => ?_⟩
  have := sub_len (a := x :: ordL N) (b := N.nm) (List.nodup_cons.mpr ⟨hn, h2.nodup⟩) (fun y hy => by
    rcases List.mem_cons.mp hy with rfl | hy
    · exact hx
    · exact (h2.sub y hy).1)
  simp [Nt.nm] at this
  omega
/-- cells that hang on nothing -/
theorem ord_worth {N : Nt} (h : ∀ c ∈ N.cells, c.2.ns = []) (nd : N.all.Nodup) : ¬ (ordL N).length < N.cells.length := by
  intro hl
  obtain ⟨_, h2, h3⟩ := ordGo_inv N N.cells.length
  have h3 := h3 hl
  have : ∀ x ∈ N.nm, x ∈ ordL N := fun x hx => Decidable.byContradiction fun hn => by
    obtain ⟨c, hc, rfl⟩ := List.mem_map.mp hx
    refine h3 c hc ⟨fun q => ?_, .inr (by rw [h c hc]; simp)⟩
    rcases List.mem_append.mp q with q | q
    · exact (List.nodup_append.mp nd).2.2 _ q _ hx rfl
    · exact hn q
  have := sub_len (List.nodup_append.mp nd).2.1 this
  simp [Nt.nm] at this
  omega
/-- what a drawn net keeps -/
structure NtOk (N : Nt) (ni nc nz : Nat) : Prop where
  z : 2 ≤ N.z ∧ N.z ≤ nz
  i : 1 ≤ N.ins.length ∧ N.ins.length ≤ ni
  c : 2 ≤ N.cells.length ∧ N.cells.length ≤ nc
  asI : N.ins.Pairwise sLt
  asC : N.nm.Pairwise sLt
  nd : N.all.Nodup
  ok : ∀ x ∈ N.all, NmOk x
  fz : ∀ c ∈ N.cells, c.2.okz N.z
  fn : ∀ c ∈ N.cells, ∀ x ∈ c.2.ns, x ∈ N.all
  snd : sndB N = true
def rpl (cells : List (Str × Fm)) (x : Str) (f : Fm) : List (Str × Fm) := cells.map fun c => (c.1, if c.1 = x then f else c.2)
theorem rpl_nm (cells : List (Str × Fm)) (x : Str) (f : Fm) : (rpl cells x f).map (·.1) = cells.map (·.1) := by simp [rpl]
theorem pop_ok {xs : List P} {k : Nat} (h : k < xs.length) (hl : xs.length < 1000) : popMo (.lst xs) (k : Int) = .ok (xs[k], .lst (xs.eraseIdx k)) := by
  rw [popMo_eq]
  have e : ixN xs.length (k : Int) = some k := by simp [ixN, h]
  have e2 : (decide (-(2 ^ 63) ≤ (k : Int)) && decide ((k : Int) < 2 ^ 63)) = true := by simp only [Bool.and_eq_true, decide_eq_true_eq]; omega
  simp only [popM, e2, chk_true, bind_ok, e, of_some, List.getElem?_eq_getElem h]
end Ev

namespace Ev
open PySem PySem.Spec PyProof.Rows L2
theorem t_namesI (n : Nat) {row : List Int} (B : BxOk row) (a : Nat) (many : Nat) (i : Int) (e : i = many) (hm : many ≤ 26) :
    Tri (cl (n + 3) "_law_names" [.own (bx row a), .p (.int i)]) fun r => ∃ (xs : List Str) (a' : Nat), r = (.tmp (.lst (xs.map .str)), [.own (bx row a'), .p (.int i)]) ∧ xs.length = many ∧ xs.Pairwise sLt ∧ ∀ x ∈ xs, NmOk x := by
  subst e; exact t_names n B a many hm
theorem undL_wm {N : Nt} (h : ∀ c ∈ N.cells, c.2.isMat = false) (ho : ¬ (ordL N).length < N.cells.length) : sndB N = true := by
  simp only [sndB, decide_eq_false ho, Bool.not_false, Bool.true_and, Bool.not_eq_true', List.any_eq_false]
  intro c hc
  rw [h c hc]; simp
theorem erase_map {xs : List Str} {k : Nat} : (xs.map P.str).eraseIdx k = (xs.eraseIdx k).map P.str := by
  induction xs generalizing k with
  | nil => rfl
  | cons x xs ih => cases k with
    | zero => rfl
    | succ k => simp [ih]
theorem erase_perm {α : Type} : ∀ {xs : List α} {k : Nat} (h : k < xs.length), (xs[k] :: xs.eraseIdx k).Perm xs
  | x :: xs, 0, _ => .refl _
  | x :: xs, k + 1, h => by
    have := erase_perm (xs := xs) (k := k) (by simpa using h)
    simp only [List.getElem_cons_succ, List.eraseIdx_cons_succ]
    exact (List.Perm.swap _ _ _).trans (this.cons x)
theorem t_net (n : Nat) {row : List Int} (B : BxOk row) (a : Nat) (ni nc nz : Nat) (mt : Bool) (hni : 1 ≤ ni) (hnc : 2 ≤ nc) (hs : ni + nc ≤ 20) (hni2 : ni ≤ 10) (hnz : 2 ≤ nz ∧ nz ≤ 1000) :
    Tri (cl (n + 4) "_law_net" [.own (bx row a), .p (.int ni), .p (.int nc), .p (.int nz), .p (.bl mt)]) fun r => ∃ (N : Nt) (a' : Nat), r = (.p N.toP, [.own (bx row a'), .p (.int ni), .p (.int nc), .p (.int nz), .p (.bl mt)]) ∧ NtOk N ni nc nz ∧ (mt = false → ∀ c ∈ N.cells, c.2.isMat = false) := by
  rw [ev_law_net]
  refine tri_F ?_
  conv => arg 1; whnf
  refine tri_bind (t_take _ B _ ((nz : Int) - 1) (by omega)) ?_
  rintro _ ⟨k1, hk1, rfl⟩
  conv => arg 1; whnf
  refine tri_bind (t_take _ B _ ni (by omega)) ?_
  rintro _ ⟨k2, hk2, rfl⟩
  conv => arg 1; whnf
  refine tri_bind (t_take _ B _ ((nc : Int) - 1) (by omega)) ?_
  rintro _ ⟨k3, hk3, rfl⟩
  conv => arg 1; whnf
  refine tri_bind (t_namesI _ B _ (1 + k2 + 2 + k3) (1 + k2 + 2 + k3) (by omega) (by omega)) ?_
  rintro _ ⟨names, a2, rfl, hnl, hna, hno⟩
  have hnd := asc_nodup hna
  obtain ⟨many, hmany⟩ : ∃ many : Nat, (1 : Int) + k2 = many := ⟨1 + k2, by omega⟩
  obtain ⟨z, hz⟩ : ∃ z : Nat, (2 : Int) + k1 = z := ⟨2 + k1, by omega⟩
  rw [hmany, hz]
  have hm1 : 1 ≤ many ∧ many ≤ ni ∧ names.length = many + 2 + k3 := by omega
  have hz1 : 2 ≤ z ∧ z ≤ nz := by omega
  conv => arg 1; whnf
  refine tri_lc (enc := enI) (List.range many) (fun (s : Nat × List Str) => [some (.own (bx row s.1)), some (.p (.int ni)), some (.p (.int nc)), some (.p (.int nz)), some (.p (.bl mt)), some (.p (.int z)), some (.p (.int many)), some (.own (.lst (names.map .str))), some (.own (.lst (s.2.map .str))), none, none, none, none, none, none, none, none, none])
    (fun pre ds s => ∃ xs : List Str, ds = xs.map .str ∧ xs.length = pre.length ∧ (xs ++ s.2).Perm names ∧ s.2.Sublist names) (a2, names)
    (ws := [.p (.int many)]) (by kernel_rfl) (it_rng1 (by omega)) rfl (by rw [sizeLine_eq]; simp; omega) rfl ⟨[], rfl, rfl, by simp, List.Sublist.refl _⟩ ?_ ?_
  · rintro pre j post ds ⟨a, left⟩ e ⟨xs, rfl, hl, hp, hsb⟩
    obtain ⟨rfl, hj⟩ := rng_at e
    have hll := hp.length_eq
    simp only [List.length_append] at hll
    simp only
    conv => arg 1; whnf
    refine tri_bind (t_take _ B _ (left.map P.str).length (by rw [len_strs]; omega)) ?_
    rintro _ ⟨k, hk, rfl⟩
    have hk : k < left.length := by rw [len_strs] at hk; omega
    have ep : popMo (.lst (left.map .str)) (k : Int) = .ok (.str left[k], .lst ((left.eraseIdx k).map .str)) := by
      rw [pop_ok (by simpa using hk) (by simp; omega), erase_map]; simp
    conv => arg 1; whnf
    refine tri_stp (ep) ?_
    conv => arg 1; whnf
    refine tri_ret ?_
    refine ⟨some (.str left[k]), (a + 1, left.eraseIdx k), rfl, xs ++ [left[k]], by simp, by simp [hl], ?_, (List.eraseIdx_sublist left k).trans hsb⟩
    rw [List.append_assoc]
    exact ((erase_perm hk).append_left xs).trans hp
  · rintro ds ⟨a, left⟩ ⟨xs, rfl, hl, hp, hsb⟩
    have hll := hp.length_eq
    simp only [List.length_append] at hll
    rw [List.length_range] at hl
    have hpn : (xs ++ left).Nodup := hp.nodup_iff.mpr hnd
    simp only
    conv => arg 1; whnf
    refine tri_stp (bl_sorted (xs := xs) (by omega)) ?_
    conv => arg 1; whnf
    refine tri_lc (enc := P.str) left (fun (a : Nat) => [some (.own (bx row a)), some (.p (.int ni)), some (.p (.int nc)), some (.p (.int nz)), some (.p (.bl mt)), some (.p (.int z)), some (.p (.int many)), some (.own (.lst (names.map .str))), some (.rd (.lst (left.map .str))), some (.own (.lst ((sortS xs).map .str))), none, none, none, none, none, none, none, none])
      (fun pre ds _ => ∃ cells : List (Str × Fm), ds = cells.map (enP Fm.toP) ∧ cells.map (·.1) = pre ∧ ∀ c ∈ cells, ∃ k : Int, c.2 = .worth k ∧ 0 ≤ k ∧ k < z) a
      (ws := [.ref 8]) (by kernel_rfl) rfl rfl (by rw [sizeLine_eq]; omega) rfl ⟨[], rfl, rfl, by simp⟩ ?_ ?_
    · rintro pre x post ds a e ⟨cells, rfl, hcn, hcf⟩
      conv => arg 1; whnf
      refine tri_bind (t_take _ B _ z (by omega)) ?_
      rintro _ ⟨k, hk, rfl⟩
      conv => arg 1; whnf
      refine tri_ret ?_
      refine ⟨some (enP Fm.toP (x, .worth k)), a + 1, rfl, cells ++ [(x, .worth k)], by simp, by simp [hcn], ?_⟩
      intro c hc
      rcases List.mem_append.mp hc with hc | hc
      · exact hcf c hc
      · simp at hc; subst hc; exact ⟨k, rfl, by omega, by omega⟩
    · rintro ds a ⟨cells, rfl, hcn, hcf⟩
      have ok0 : NtOk ⟨z, sortS xs, cells⟩ ni nc nz := by
        have hpm : (sortS xs ++ left).Perm names := ((sortS_perm xs).append_right left).trans hp
        have nd0 : (sortS xs ++ left).Nodup := hpm.nodup_iff.mpr hnd
        have all0 : Nt.all ⟨z, sortS xs, cells⟩ = sortS xs ++ left := by simp [Nt.all, Nt.nm, hcn]
        have ns0 : ∀ c ∈ cells, c.2.ns = [] := fun c hc => by obtain ⟨k, e, _⟩ := hcf c hc; rw [e]; rfl
        have hcl : cells.length = left.length := by rw [← hcn]; simp
        refine ⟨hz1, ?_, ?_, ?_, ?_, ?_, ?_, ?_, ?_, ?_⟩
        · simp only [(sortS_perm xs).length_eq]; omega
        · simp only; omega
        · exact sortS_asc (List.nodup_append.mp hpn).1
        · show (cells.map (·.1)).Pairwise sLt
          rw [hcn]; exact hna.sublist hsb
        · rw [all0]; exact nd0
        · intro x hx
          rw [all0] at hx
          exact hno x (hpm.mem_iff.mp hx)
        · intro c hc; obtain ⟨k, e, h1, h2⟩ := hcf c hc; rw [e]; exact ⟨h1, h2⟩
        · intro c hc x hx; rw [ns0 c hc] at hx; cases hx
        · refine undL_wm (fun c hc => ?_) (ord_worth ns0 (by rw [all0]; exact nd0))
          obtain ⟨k, e, _⟩ := hcf c hc; rw [e]; rfl
      have nm0 : Nt.nm ⟨z, sortS xs, cells⟩ = left := hcn
      have mt0 : mt = false → ∀ c ∈ (⟨z, sortS xs, cells⟩ : Nt).cells, c.2.isMat = false := fun _ c hc => by
        obtain ⟨k, e, _⟩ := hcf c hc; rw [e]; rfl
      have hal : ∀ q ∈ names, ∀ N : Nt, N.nm = left → N.ins = sortS xs → q ∈ N.all := by
        intro q hq N h1 h2
        simp only [Nt.all, h1, h2]
        exact (((sortS_perm xs).append_right left).trans hp).mem_iff.mpr hq
      conv => arg 1; whnf
      refine tri_for (enc := enI) (List.range 2) (fun pre ρ => ∃ (N : Nt) (a : Nat) (j11 j12 j13 j15 : Option P), ρ = [some (.own (bx row a)), some (.p (.int ni)), some (.p (.int nc)), some (.p (.int nz)), some (.p (.bl mt)), some (.p (.int z)), some (.p (.int many)), some (.own (.lst (names.map .str))), some (.own (.lst (left.map .str))), some (.own (.lst ((sortS xs).map .str))), some (.p N.toP), jk j11, jk j12, jk j13, none, jk j15, none, none] ∧ NtOk N ni nc nz ∧ N.nm = left ∧ N.z = z ∧ N.ins = sortS xs ∧ (mt = false → ∀ c ∈ N.cells, c.2.isMat = false))
        (ws := [.p (.int 2)]) (by kernel_rfl) (it_rng1' (k := 2) rfl (by omega)) ⟨⟨z, sortS xs, cells⟩, a, none, none, none, none, rfl, ok0, nm0, rfl, rfl, mt0⟩ ?_ ?_
      · rintro pre y post ρ e ⟨N, a, j11, j12, j13, j15, rfl, hN, hnm, hnz, hin, hmt⟩
        conv => arg 1; whnf
        refine tri_stp (bt_1 (by (try simp only [List.set_cons_zero, List.set_cons_succ, List.set_nil]); simp only [ns_jk, ns_p, ns_own, ns_rd, ns_none, ns_nil]) rfl (by simp)) ?_
        conv => arg 1; whnf
        refine tri_for (enc := P.str) left (fun pre ρ => ∃ (N : Nt) (a : Nat) (j12 j13 j15 : Option P), ρ = [some (.own (bx row a)), some (.p (.int ni)), some (.p (.int nc)), some (.p (.int nz)), some (.p (.bl mt)), some (.p (.int z)), some (.p (.int many)), some (.own (.lst (names.map .str))), some (.rd (.lst (left.map .str))), some (.own (.lst ((sortS xs).map .str))), some (.p N.toP), some (.p (enI y)), jk j12, jk j13, none, jk j15, none, none] ∧ NtOk N ni nc nz ∧ N.nm = left ∧ N.z = z ∧ N.ins = sortS xs ∧ (mt = false → ∀ c ∈ N.cells, c.2.isMat = false))
          (ws := [.ref 8]) (by kernel_rfl) rfl ⟨N, a, j12, j13, j15, rfl, hN, hnm, hnz, hin, hmt⟩ ?_ ?_
        · clear hN hnm hnz hin hmt N a j11 j12 j13 j15 e ok0 nm0 mt0
          rintro pre x post ρ e ⟨N, a, j12, j13, j15, rfl, hN, hnm, hnz, hin, hmt⟩
          have hc30 := hN.c
          have hi10 := hN.i
          conv => arg 1; whnf
          refine tri_stp (bt_1 (by (try simp only [List.set_cons_zero, List.set_cons_succ, List.set_nil]); simp only [ns_jk, ns_p, ns_own, ns_rd, ns_none, ns_nil]) rfl (by simp)) ?_
          conv => arg 1; whnf
          refine tri_bind (t_form _ B _ z (by omega) names (by intro q; rw [q] at hm1; simp at hm1; omega)) ?_
          rintro _ ⟨f, a1, rfl, hfz, hfn⟩
          conv => arg 1; whnf
          refine tri_stp (bs_p (by (try simp only [List.set_cons_zero, List.set_cons_succ, List.set_nil]); simp only [ns_jk, ns_p, ns_own, ns_rd, ns_none, ns_nil]) rfl (by simp)) ?_
          obtain ⟨w, e1, _, e2⟩ := ix0 f
          conv => arg 1; whnf
          refine tri_stp (e1) ?_
          have e3 : cmpPo .NotEq (sP w) (sP "match") = .ok (!f.isMat) := co (cmp_ne (by rw [cmpPo_eq] at e2; exact e2))
          conv => arg 1; whnf
          refine tri_stp (e3) ?_
          have ok1 : sndB ⟨z, N.ins, rpl N.cells x f⟩ = true → NtOk ⟨z, N.ins, rpl N.cells x f⟩ ni nc nz := by
            intro hs2
            have hnm1 : Nt.nm ⟨z, N.ins, rpl N.cells x f⟩ = N.nm := rpl_nm _ _ _
            have hall1 : Nt.all ⟨z, N.ins, rpl N.cells x f⟩ = N.all := by simp only [Nt.all, hnm1]
            have hz2 := hN.z
            refine ⟨hz1, hN.i, by simpa [rpl] using hN.c, hN.asI, by rw [hnm1]; exact hN.asC, by rw [hall1]; exact hN.nd, by rw [hall1]; exact hN.ok, ?_, ?_, hs2⟩
            · intro c hc
              obtain ⟨c0, h0, rfl⟩ := List.mem_map.mp hc
              simp only
              split
              · exact hfz
              · rw [← hnz]; exact hN.fz c0 h0
            · intro c hc q hq
              obtain ⟨c0, h0, rfl⟩ := List.mem_map.mp hc
              rw [hall1]
              simp only at hq
              split at hq
              · exact hal q (hfn q hq) N hnm hin
              · exact hN.fn c0 h0 q hq
          cases hm : f.isMat with
          | false =>
            conv => arg 1; whnf
            refine tri_stp (lc_map (enc := enP Fm.toP) N.cells (fun c => enP Fm.toP (c.1, if c.1 = x then f else c.2)) (ws := [.p (.tup (N.cells.map (enP Fm.toP)))]) (ρh := [some (.own (bx row a1)), some (.p (.int ni)), some (.p (.int nc)), some (.p (.int nz)), some (.p (.bl mt)), some (.p (.int z)), some (.p (.int many)), some (.own (.lst (names.map .str))), some (.rd (.lst (left.map .str))), some (.own (.lst ((sortS xs).map .str))), some (.p N.toP), some (.p (enI y)), some (.p (.str x)), some (.p f.toP), none, jk j15, none, none]) (ρ2 := [some (.own (bx row a1)), some (.p (.int ni)), some (.p (.int nc)), some (.p (.int nz)), some (.p (.bl mt)), some (.p (.int z)), some (.p (.int many)), some (.own (.lst (names.map .str))), some (.rd (.lst (left.map .str))), some (.own (.lst ((sortS xs).map .str))), some (.p N.toP), some (.p (enI y)), some (.p (.str x)), some (.p f.toP), none, jk j15, none, none]) (by kernel_rfl) rfl rfl rfl (by rw [sizeLine_eq]; omega) (by cases j15 <;> rfl) ?h5 (by cases j15 <;> rfl)) ?_
            case h5 =>
              rintro ⟨y2, g⟩ hc
              apply tri_eq
              conv => arg 1; whnf
              refine tri_stp (bt_2 (by (try simp only [List.set_cons_zero, List.set_cons_succ, List.set_nil]); simp only [ns_jk, ns_p, ns_own, ns_rd, ns_none, ns_nil]) (by (try simp only [List.set_cons_zero, List.set_cons_succ, List.set_nil]); simp only [ns_jk, ns_p, ns_own, ns_rd, ns_none, ns_nil]) rfl rfl (by simp) (by simp)) ?_
              conv => arg 1; whnf
              refine tri_stp (co_str y2 x) ?_
              cases hd : decide (y2 = x) with
              | true =>
                conv => arg 1; whnf
                refine tri_ret ?_
                have hd : y2 = x := of_decide_eq_true hd
                simp only [hd, if_true]; cases j15 <;> rfl
              | false =>
                conv => arg 1; whnf
                refine tri_ret ?_
                have hd : ¬ y2 = x := of_decide_eq_false hd
                simp only [if_neg hd]; cases j15 <;> rfl
            rw [show N.cells.map (fun c => enP Fm.toP (c.1, if c.1 = x then f else c.2)) = (rpl N.cells x f).map (enP Fm.toP) by simp [rpl]]
            conv => arg 1; whnf
            refine tri_stp (bs_p (by (try simp only [List.set_cons_zero, List.set_cons_succ, List.set_nil]); simp only [ns_jk, ns_p, ns_own, ns_rd, ns_none, ns_nil]) rfl (by simp)) ?_
            conv => arg 1; whnf
            refine tri_bind (t_sound _ ⟨z, N.ins, rpl N.cells x f⟩ (by simp only [rpl, List.length_map]; omega) (by show N.ins.length ≤ 10; omega) (by show ((rpl N.cells x f).map (·.1)).Nodup; rw [rpl_nm]; exact asc_nodup hN.asC)) ?_
            rintro _ rfl
            conv => arg 1; whnf
            refine tri_if (fun hs2 => ?_) (fun hs2 => ?_)
            · conv => arg 1; whnf
              refine tri_ret ?_
              refine ⟨.inl rfl, ⟨z, N.ins, rpl N.cells x f⟩, a1, some (.str x), some f.toP, some (Nt.toP ⟨z, N.ins, rpl N.cells x f⟩), rfl, ok1 hs2, (rpl_nm _ _ _).trans hnm, rfl, hin, ?_⟩
              intro q c hc
              obtain ⟨c0, h0, rfl⟩ := List.mem_map.mp hc
              simp only
              split
              · exact hm
              · exact hmt q c0 h0
            · conv => arg 1; whnf
              refine tri_ret ?_
              exact ⟨.inl rfl, N, a1, some (.str x), some f.toP, some (Nt.toP ⟨z, N.ins, rpl N.cells x f⟩), rfl, hN, hnm, hnz, hin, hmt⟩
          | true =>
            cases mt with
            | false =>
              conv => arg 1; whnf
              refine tri_ret ?_
              exact ⟨.inl rfl, N, a1, some (.str x), some f.toP, j15, rfl, hN, hnm, hnz, hin, hmt⟩
            | true =>
              conv => arg 1; whnf
              refine tri_stp (lc_map (enc := enP Fm.toP) N.cells (fun c => enP Fm.toP (c.1, if c.1 = x then f else c.2)) (ws := [.p (.tup (N.cells.map (enP Fm.toP)))]) (ρh := [some (.own (bx row a1)), some (.p (.int ni)), some (.p (.int nc)), some (.p (.int nz)), some (.p (.bl true)), some (.p (.int z)), some (.p (.int many)), some (.own (.lst (names.map .str))), some (.rd (.lst (left.map .str))), some (.own (.lst ((sortS xs).map .str))), some (.p N.toP), some (.p (enI y)), some (.p (.str x)), some (.p f.toP), none, jk j15, none, none]) (ρ2 := [some (.own (bx row a1)), some (.p (.int ni)), some (.p (.int nc)), some (.p (.int nz)), some (.p (.bl true)), some (.p (.int z)), some (.p (.int many)), some (.own (.lst (names.map .str))), some (.rd (.lst (left.map .str))), some (.own (.lst ((sortS xs).map .str))), some (.p N.toP), some (.p (enI y)), some (.p (.str x)), some (.p f.toP), none, jk j15, none, none]) (by kernel_rfl) rfl rfl rfl (by rw [sizeLine_eq]; omega) (by cases j15 <;> rfl) ?h5 (by cases j15 <;> rfl)) ?_
              case h5 =>
                rintro ⟨y2, g⟩ hc
                apply tri_eq
                conv => arg 1; whnf
                refine tri_stp (bt_2 (by (try simp only [List.set_cons_zero, List.set_cons_succ, List.set_nil]); simp only [ns_jk, ns_p, ns_own, ns_rd, ns_none, ns_nil]) (by (try simp only [List.set_cons_zero, List.set_cons_succ, List.set_nil]); simp only [ns_jk, ns_p, ns_own, ns_rd, ns_none, ns_nil]) rfl rfl (by simp) (by simp)) ?_
                conv => arg 1; whnf
                refine tri_stp (co_str y2 x) ?_
                cases hd : decide (y2 = x) with
                | true =>
                  conv => arg 1; whnf
                  refine tri_ret ?_
                  have hd : y2 = x := of_decide_eq_true hd
                  simp only [hd, if_true]; cases j15 <;> rfl
                | false =>
                  conv => arg 1; whnf
                  refine tri_ret ?_
                  have hd : ¬ y2 = x := of_decide_eq_false hd
                  simp only [if_neg hd]; cases j15 <;> rfl
              rw [show N.cells.map (fun c => enP Fm.toP (c.1, if c.1 = x then f else c.2)) = (rpl N.cells x f).map (enP Fm.toP) by simp [rpl]]
              conv => arg 1; whnf
              refine tri_stp (bs_p (by (try simp only [List.set_cons_zero, List.set_cons_succ, List.set_nil]); simp only [ns_jk, ns_p, ns_own, ns_rd, ns_none, ns_nil]) rfl (by simp)) ?_
              conv => arg 1; whnf
              refine tri_bind (t_sound _ ⟨z, N.ins, rpl N.cells x f⟩ (by simp only [rpl, List.length_map]; omega) (by show N.ins.length ≤ 10; omega) (by show ((rpl N.cells x f).map (·.1)).Nodup; rw [rpl_nm]; exact asc_nodup hN.asC)) ?_
              rintro _ rfl
              conv => arg 1; whnf
              refine tri_if (fun hs2 => ?_) (fun hs2 => ?_)
              · conv => arg 1; whnf
                refine tri_ret ?_
                refine ⟨.inl rfl, ⟨z, N.ins, rpl N.cells x f⟩, a1, some (.str x), some f.toP, some (Nt.toP ⟨z, N.ins, rpl N.cells x f⟩), rfl, ok1 hs2, (rpl_nm _ _ _).trans hnm, rfl, hin, ?_⟩
                intro q c hc
                obtain ⟨c0, h0, rfl⟩ := List.mem_map.mp hc
                simp only
                split
                · cases q
                · exact hmt q c0 h0
              · conv => arg 1; whnf
                refine tri_ret ?_
                exact ⟨.inl rfl, N, a1, some (.str x), some f.toP, some (Nt.toP ⟨z, N.ins, rpl N.cells x f⟩), rfl, hN, hnm, hnz, hin, hmt⟩
        · rintro _ ⟨N, a, j12, j13, j15, rfl, hN, hnm, hnz, hin, hmt⟩
          conv => arg 1; whnf
          refine tri_ret ?_
          exact ⟨.inl rfl, N, a, some (enI y), j12, j13, j15, rfl, hN, hnm, hnz, hin, hmt⟩
      · rintro _ ⟨N, a, j11, j12, j13, j15, rfl, hN, hnm, hnz, hin, hmt⟩
        conv => arg 1; whnf
        refine tri_ret ?_
        exact ⟨N, a, rfl, hN, hmt⟩
end Ev

namespace Ev
open PySem PySem.Spec PyProof.Rows L2
/-! events; the box -/
abbrev Evt := List (Str × Int)
def evP (e : Evt) : P := .tup (e.map (enP .int))
structure EvtOk (N : Nt) (e : Evt) : Prop where
  s : (e.map (·.1)).Sublist N.ins
  z : ∀ p ∈ e, 0 ≤ p.2 ∧ p.2 < N.z
theorem t_event (n : Nat) {row : List Int} (B : BxOk row) (a : Nat) (N : Nt) (hz : 1 ≤ N.z) (hi : N.ins.length ≤ 10) :
    Tri (cl (n + 2) "_law_event" [.own (bx row a), .p N.toP]) fun r => ∃ (e : Evt) (a' : Nat), r = (.p (evP e), [.own (bx row a'), .p N.toP]) ∧ EvtOk N e := by
  rw [ev_law_event]
  refine tri_F ?_
  conv => arg 1; whnf
  refine tri_lc (enc := P.str) N.ins (fun (a : Nat) => [some (.own (bx row a)), some (.p N.toP), none])
    (fun pre ds _ => ∃ e : Evt, ds = e.map (enP .int) ∧ (e.map (·.1)).Sublist pre ∧ ∀ p ∈ e, 0 ≤ p.2 ∧ p.2 < N.z) a
    (ws := [.p (.tup (N.ins.map .str))]) (by kernel_rfl) rfl rfl (by rw [sizeLine_eq]; omega) rfl ⟨[], rfl, List.Sublist.refl _, by simp⟩ ?_ ?_
  · rintro pre x post ds a e ⟨ev, rfl, hs, hv⟩
    conv => arg 1; whnf
    refine tri_bind (t_take _ B _ 5 (by decide)) ?_
    rintro _ ⟨k, hk, rfl⟩
    conv => arg 1; whnf
    refine tri_stp (co_gt _ _) ?_
    conv => arg 1; whnf
    refine tri_if (fun h => ?_) (fun h => ?_)
    · conv => arg 1; whnf
      refine tri_bind (t_take _ B _ N.z (by omega)) ?_
      rintro _ ⟨v, hv', rfl⟩
      conv => arg 1; whnf
      refine tri_ret ?_
      refine ⟨some (enP .int (x, (v : Int))), a + 1 + 1, rfl, ev ++ [(x, (v : Int))], by simp, by simpa using hs, ?_⟩
      intro p hp
      rcases List.mem_append.mp hp with hp | hp
      · exact hv p hp
      · simp at hp; subst hp; exact ⟨by omega, hv'⟩
    · conv => arg 1; whnf
      refine tri_ret ?_
      exact ⟨none, a + 1, rfl, ev, by simp, hs.trans (by simp), hv⟩
  · rintro ds a ⟨ev, rfl, hs, hv⟩
    conv => arg 1; whnf
    refine tri_ret ?_
    exact ⟨ev, a, rfl, ⟨hs, hv⟩⟩
theorem t_rows (n : Nat) {row : List Int} (B : BxOk row) (a : Nat) (N : Nt) (hz : 1 ≤ N.z) (hi : N.ins.length ≤ 10) (many : Nat) (i : Int) (e : i = many) (hm : many ≤ 1000) :
    Tri (cl (n + 3) "_law_rows" [.own (bx row a), .p N.toP, .p (.int i)]) fun r => ∃ (rs : List Evt) (a' : Nat), r = (.p (.tup (rs.map evP)), [.own (bx row a'), .p N.toP, .p (.int i)]) ∧ rs.length = many ∧ ∀ e ∈ rs, EvtOk N e := by
  rw [ev_law_rows]
  refine tri_F ?_
  conv => arg 1; whnf
  refine tri_lc (enc := enI) (List.range many) (fun (a : Nat) => [some (.own (bx row a)), some (.p N.toP), some (.p (.int i)), none])
    (fun pre ds _ => ∃ rs : List Evt, ds = rs.map evP ∧ rs.length = pre.length ∧ ∀ e ∈ rs, EvtOk N e) a
    (ws := [.p (.int i)]) (by kernel_rfl) (it_rng1' e (by omega)) rfl (by rw [sizeLine_eq]; simp; omega) rfl ⟨[], rfl, rfl, by simp⟩ ?_ ?_
  · rintro pre x post ds a e ⟨rs, rfl, hl, hv⟩
    conv => arg 1; whnf
    refine tri_bind (t_event _ B _ N hz hi) ?_
    rintro _ ⟨ev, a2, rfl, hev⟩
    conv => arg 1; whnf
    refine tri_ret ?_
    refine ⟨some (evP ev), a2, rfl, rs ++ [ev], by simp, by simp [hl], ?_⟩
    intro p hp
    rcases List.mem_append.mp hp with hp | hp
    · exact hv p hp
    · simp at hp; subst hp; exact hev
  · rintro ds a ⟨rs, rfl, hl, hv⟩
    conv => arg 1; whnf
    refine tri_ret ?_
    exact ⟨rs, a, rfl, by simpa using hl, hv⟩
theorem mul_okR {i j : Int} (h : -18446744073709551616 < j ∧ j < 18446744073709551616) : binP .Mult (.int i) (.int j) = .ok (.p (.int (i * j))) := by
  simp only [binP]; rw [if_pos (Or.inr (by simpa using h))]
theorem t_digits (n : Nat) (c : Int) : Tri (cl (n + 1) "_law_digits" [.p (.int c), .p (.int 6)]) fun r => ∃ ds : List Int, r = (.tmp (.lst (ds.map .int)), [.p (.int c), .p (.int 6)]) ∧ ds.length ≤ 6 := by
  rw [ev_law_digits]
  refine tri_F ?_
  refine tri_Sn (fun ρ => ρ = [some (.p (.int c)), some (.p (.int 6)), some (.p (.int c)), none, none, none]) ?_ ?_
  · conv => arg 1; whnf
    refine tri_ret ?_
    exact ⟨rfl, rfl⟩
  rintro _ rfl
  refine tri_Sn (fun ρ => ∃ m : Int, ρ = [some (.p (.int c)), some (.p (.int 6)), some (.p (.int m)), none, none, none]) ?_ ?_
  · conv => arg 1; whnf
    refine tri_stp (co_lt _ _) ?_
    conv => arg 1; whnf
    refine tri_if (fun h => ?_) (fun h => ?_)
    · conv => arg 1; whnf
      refine tri_ret ?_
      exact ⟨rfl, _, rfl⟩
    · conv => arg 1; whnf
      refine tri_ret ?_
      exact ⟨rfl, _, rfl⟩
  rintro _ ⟨m, rfl⟩
  conv => arg 1; whnf
  refine tri_stp (co_ge _ _) ?_
  conv => arg 1; whnf
  refine tri_if (fun h => ?_) (fun h => ?_)
  · conv => arg 1; whnf
    refine tri_forB (enc := enI) (List.range 6) (fun pre ρ => ∃ (m : Int) (ds : List Int) (j4 : Option P), ρ = [some (.p (.int c)), some (.p (.int 6)), some (.p (.int m)), some (.own (.lst (ds.map .int))), jk j4, none] ∧ ds.length = pre.length)
      (fun ρ => ∃ (m : Int) (ds : List Int) (j4 : Option P), ρ = [some (.p (.int c)), some (.p (.int 6)), some (.p (.int m)), some (.own (.lst (ds.map .int))), jk j4, none] ∧ ds.length ≤ 6)
      (ws := [.p (.int 6)]) (by kernel_rfl) (it_rng1' (k := 6) rfl (by omega)) ⟨m, [], none, rfl, rfl⟩ ?_ ?_
    · rintro pre y post ρ e ⟨m, ds, j4, rfl, hl⟩
      obtain ⟨rfl, hy⟩ := rng_at e
      conv => arg 1; whnf
      refine tri_stp (bt_1 (by (try simp only [List.set_cons_zero, List.set_cons_succ, List.set_nil]); simp only [ns_jk, ns_p, ns_own, ns_rd, ns_none, ns_nil]) rfl (by simp)) ?_
      conv => arg 1; whnf
      refine tri_stp (app_ok rfl (by rw [sizeLine_eq]; simp; omega)) ?_
      conv => arg 1; whnf
      refine tri_stp (co_eq _ _) ?_
      conv => arg 1; whnf
      refine tri_if (fun h => ?_) (fun h => ?_)
      · conv => arg 1; whnf
        refine tri_ret ?_
        exact .inr ⟨rfl, m / 1000003, ds ++ [m % 1000003], some (enI pre.length), by rw [List.map_append]; rfl, by simp; omega⟩
      · conv => arg 1; whnf
        refine tri_ret ?_
        exact .inl ⟨.inl rfl, m / 1000003, ds ++ [m % 1000003], some (enI pre.length), by rw [List.map_append]; rfl, by simp; omega⟩
    · intro ρ' h
      obtain ⟨m, ds, j4, rfl, hl⟩ : ∃ (m : Int) (ds : List Int) (j4 : Option P), ρ' = [some (.p (.int c)), some (.p (.int 6)), some (.p (.int m)), some (.own (.lst (ds.map .int))), jk j4, none] ∧ ds.length ≤ 6 := by
        rcases h with ⟨m, ds, j4, h, hl⟩ | h
        · exact ⟨m, ds, j4, h, by rw [hl]; simp⟩
        · exact h
      conv => arg 1; whnf
      refine tri_ret ?_
      exact ⟨ds, rfl, hl⟩
  · conv => arg 1; whnf
    refine tri_for (enc := enI) (List.range 6) (fun pre ρ => ∃ (ds : List Int) (j4 j5 : Option P), ρ = [some (.p (.int c)), some (.p (.int 6)), some (.p (.int m)), some (.own (.lst (ds.map .int))), jk j4, jk j5] ∧ ds.length = pre.length)
      (ws := [.p (.int 6)]) (by kernel_rfl) (it_rng1' (k := 6) rfl (by omega)) ⟨[], none, none, rfl, rfl⟩ ?_ ?_
    · rintro pre y post ρ e ⟨ds, j4, j5, rfl, hl⟩
      obtain ⟨rfl, hy⟩ := rng_at e
      conv => arg 1; whnf
      refine tri_stp (bt_1 (by (try simp only [List.set_cons_zero, List.set_cons_succ, List.set_nil]); simp only [ns_jk, ns_p, ns_own, ns_rd, ns_none, ns_nil]) rfl (by simp)) ?_
      conv => arg 1; whnf
      refine tri_stp (mul_okR (by decide)) ?_
      conv => arg 1; whnf
      refine tri_stp (bs_p (by (try simp only [List.set_cons_zero, List.set_cons_succ, List.set_nil]); simp only [ns_jk, ns_p, ns_own, ns_rd, ns_none, ns_nil]) rfl (by simp)) ?_
      conv => arg 1; whnf
      refine tri_stp (mul_okR (by decide)) ?_
      conv => arg 1; whnf
      refine tri_stp (app_ok rfl (by rw [sizeLine_eq]; simp; omega)) ?_
      conv => arg 1; whnf
      refine tri_ret ?_
      refine ⟨.inl rfl, ds ++ [_], some (enI pre.length), some (.int _), by rw [List.map_append]; rfl, by simp; omega⟩
    · rintro _ ⟨ds, j4, j5, rfl, hl⟩
      conv => arg 1; whnf
      refine tri_ret ?_
      exact ⟨ds, rfl, by rw [hl]; simp⟩
end Ev

namespace Ev
open PySem PySem.Spec PyProof.Rows L2
theorem t_box (n : Nat) (ns : List Int) (hn : ns.length ≤ 63) : Tri (cl (n + 2) "_law_box" [.p (.ls (ns.map .int))]) fun r => ∃ row : List Int, r = (.tmp (bx row 0), [.p (.ls (ns.map .int))]) ∧ BxOk row := by
  rw [ev_law_box]
  refine tri_F ?_
  conv => arg 1; whnf
  refine tri_for (enc := P.int) ns (fun pre ρ => ∃ (ds : List Int) (j2 : Option P), ρ = [some (.p (.ls (ns.map .int))), some (.own (.lst (ds.map .int))), jk j2] ∧ ds.length ≤ 6 * pre.length)
    (ws := [.p (.ls (ns.map .int))]) (by kernel_rfl) rfl ⟨[], none, rfl, by simp⟩ ?_ ?_
  · rintro pre x post ρ e ⟨ds, j2, rfl, hl⟩
    have hcc := congrArg List.length e
    simp at hcc
    conv => arg 1; whnf
    refine tri_stp (bt_1 (by (try simp only [List.set_cons_zero, List.set_cons_succ, List.set_nil]); simp only [ns_jk, ns_p, ns_own, ns_rd, ns_none, ns_nil]) rfl (by simp)) ?_
    conv => arg 1; whnf
    refine tri_bind (t_digits _ x) ?_
    rintro _ ⟨es, rfl, he⟩
    conv => arg 1; whnf
    refine tri_stp (cat_lst (by rw [sizeLine_eq]; simp; omega)) ?_
    conv => arg 1; whnf
    refine tri_ret ?_
    refine ⟨.inl rfl, ds ++ es, some (.int x), by rw [List.map_append]; rfl, by simp; omega⟩
  · rintro _ ⟨ds, j2, rfl, hl⟩
    have mk : ∀ (ds : List Int) (j2 : Option P), BxOk ds → True := fun _ _ _ => trivial
    conv => arg 1; whnf
    refine tri_stp (co_eq _ _) ?_
    conv => arg 1; whnf
    refine tri_if (fun h => ?_) (fun h => ?_)
    · conv => arg 1; whnf
      refine tri_stp (bs_t (by (try simp only [List.set_cons_zero, List.set_cons_succ, List.set_nil]); simp only [ns_jk, ns_p, ns_own, ns_rd, ns_none, ns_nil]) rfl (by simp)) ?_
      conv => arg 1; whnf
      refine tri_ret ?_
      exact ⟨[5, 77, 1031, 40009, 3, 900001, 12], rfl, by simp, by decide⟩
    · conv => arg 1; whnf
      refine tri_ret ?_
      refine ⟨ds, rfl, ?_, by omega⟩
      rintro rfl
      have := of_decide_eq_false h
      simp at this
end Ev

namespace Ev
open PySem PySem.Spec PyProof.Rows L2
/-! what cells show, by the whole history -/
abbrev Val := Nat → Str → Option Int
def vals (g : Nat → Option Int) (n : Nat) : List Int := (List.range n).filterMap g
theorem vals_succ (g : Nat → Option Int) (n : Nat) : vals g (n + 1) = vals g n ++ (g n).toList := by
  simp only [vals, List.range_succ, List.filterMap_append]
  cases h : g n <;> simp [h]
def lastV (xs : List Int) (i : Int) : Int := match xs.getLast? with
  | some a => a
  | none => i
def matV (o : Bop) (xs ys xs' ys' : List Int) (z : Int) : Option Int :=
  if min xs.length ys.length < min xs'.length ys'.length then some (o.f (xs'.getD (min xs'.length ys'.length - 1) 0) (ys'.getD (min xs'.length ys'.length - 1) 0) z) else none
def Fm.sem (f : Fm) (V : Val) (t : Nat) (z : Int) : Option Int := match f with
  | .late x v => if t = 0 then v else V (t - 1) x
  | .held x i => some (lastV (vals (V · x) (t + 1)) i)
  | .before x i => if V t x = none then none else some (lastV (vals (V · x) t) i)
  | .mat o x y => matV o (vals (V · x) t) (vals (V · y) t) (vals (V · x) (t + 1)) (vals (V · y) (t + 1)) z
  | f => f.now (f.ns.map (V t)) z
theorem vals_congr {g h : Nat → Option Int} {n : Nat} (e : ∀ s, s < n → g s = h s) : vals g n = vals h n := by
  induction n with
  | zero => rfl
  | succ n ih => rw [vals_succ, vals_succ, ih fun s hs => e s (by omega), e n (by omega)]
/-- a form's meaning hangs on what stands in it alone -/
theorem Fm.sem_congr {f : Fm} {V V' : Val} {t : Nat} {z : Int} (h1 : ∀ s, s < t → ∀ x ∈ f.ns, V s x = V' s x) (h2 : f.isLate = false → ∀ x ∈ f.ns, V t x = V' t x) : f.sem V t z = f.sem V' t z := by
  have h3 : f.isLate = false → ∀ x ∈ f.ns, ∀ s, s < t + 1 → V s x = V' s x := fun hl x hx s hs => by
    by_cases e : s = t
    · subst e; exact h2 hl x hx
    · exact h1 s (by omega) x hx
  cases f with
  | late x v =>
    simp only [Fm.sem]
    split
    · rfl
    · exact h1 _ (by omega) x (by simp [Fm.ns])
  | held x i => simp only [Fm.sem]; rw [vals_congr (h3 rfl x (by simp [Fm.ns]))]
  | before x i =>
    simp only [Fm.sem]
    rw [h2 rfl x (by simp [Fm.ns]), vals_congr fun s hs => h1 s hs x (by simp [Fm.ns])]
  | mat o x y =>
    simp only [Fm.sem]
    rw [vals_congr (h3 rfl x (by simp [Fm.ns])), vals_congr (h3 rfl y (by simp [Fm.ns])), vals_congr fun s hs => h1 s hs x (by simp [Fm.ns]), vals_congr fun s hs => h1 s hs y (by simp [Fm.ns])]
  | _ => simp only [Fm.sem]; rw [List.map_congr_left (h2 rfl)]
theorem vals_ok {g : Nat → Option Int} {n : Nat} {z : Int} (h : ∀ s, s < n → VOk z (g s)) : ∀ i ∈ vals g n, 0 ≤ i ∧ i < z := by
  intro i hi
  simp only [vals, List.mem_filterMap, List.mem_range] at hi
  obtain ⟨s, hs, e⟩ := hi
  exact h s hs i e
theorem lastV_ok {xs : List Int} {i z : Int} (h : ∀ a ∈ xs, 0 ≤ a ∧ a < z) (hi : 0 ≤ i ∧ i < z) : 0 ≤ lastV xs i ∧ lastV xs i < z := by
  unfold lastV
  split
  · next a e => exact h a (List.mem_of_getLast? e)
  · exact hi
theorem getD_ok {xs : List Int} {k : Nat} {z : Int} (h : ∀ a ∈ xs, 0 ≤ a ∧ a < z) (hk : k < xs.length) : 0 ≤ xs.getD k 0 ∧ xs.getD k 0 < z := by
  rw [List.getD_eq_getElem?_getD, List.getElem?_eq_getElem hk]
  exact h _ (List.getElem_mem hk)
theorem Fm.sem_ok {f : Fm} {V : Val} {t : Nat} {z : Int} (hz : 2 ≤ z) (hf : f.okz z) (h : ∀ s, s ≤ t → ∀ x ∈ f.ns, (s = t → f.isLate = false) → VOk z (V s x)) : VOk z (f.sem V t z) := by
  cases f with
  | late x v =>
    simp only [Fm.sem]
    split
    · exact hf
    · exact h _ (by omega) x (by simp [Fm.ns]) (fun e => by omega)
  | held x i =>
    intro j e; simp only [Fm.sem] at e; cases e
    exact lastV_ok (vals_ok fun s hs => h s (by omega) x (by simp [Fm.ns]) (fun _ => rfl)) hf
  | before x i =>
    intro j e; simp only [Fm.sem] at e
    split at e
    · cases e
    · cases e; exact lastV_ok (vals_ok fun s hs => h s (by omega) x (by simp [Fm.ns]) (fun _ => rfl)) hf
  | mat o x y =>
    intro j e; simp only [Fm.sem, matV] at e
    split at e
    · next hlt =>
      cases e
      refine o.f_ok (getD_ok (vals_ok fun s hs => h s (by omega) x (by simp [Fm.ns]) (fun _ => rfl)) (by omega)) (getD_ok (vals_ok fun s hs => h s (by omega) y (by simp [Fm.ns]) (fun _ => rfl)) (by omega)) hz
    · cases e
  | _ =>
    simp only [Fm.sem]
    refine Fm.now_ok hz hf fun v hv => ?_
    obtain ⟨x, hx, rfl⟩ := List.mem_map.mp hv
    exact h t (Nat.le_refl _) x hx (fun _ => rfl)
/-! ### moments as dicts -/
abbrev Tb := List (Str × Option Int)
def getv (T : Tb) (x : Str) : Option Int := (look T x).join
def tbP (T : Tb) : P := .dk (dkP vP T)
theorem look_tb {T : Tb} {x : Str} (h : x ∈ T.map (·.1)) : look T x = some (getv T x) := by
  unfold getv
  cases e : look T x with
  | none => exact absurd h (look_none.mp e)
  | some v => rfl
theorem ix_tb {T : Tb} {x : Str} (h : x ∈ T.map (·.1)) : ixP (tbP T) (.str x) = .ok (vP (getv T x)) := ix_dk vP (look_tb h)
theorem fm_vals (L : List Tb) (x : Str) : L.filterMap (getv · x) = vals (fun s => getv (L.getD s []) x) L.length := by
  suffices H : ∀ n, n ≤ L.length → (L.take n).filterMap (getv · x) = vals (fun s => getv (L.getD s []) x) n by
    have := H L.length (Nat.le_refl _)
    rwa [List.take_length] at this
  intro n
  induction n with
  | zero => intro _; rfl
  | succ n ih =>
    intro h
    have hn : n < L.length := by omega
    rw [List.take_succ, List.getElem?_eq_getElem hn, vals_succ, List.filterMap_append, ih (by omega), List.getD_eq_getElem?_getD, List.getElem?_eq_getElem hn]
    simp only [Option.toList_some, Option.getD_some]
    cases e : getv L[n] x <;> simp [e]
theorem view_lst {call : Call} {e : CE} {ρ ρ' : En} {ds : List P} (h : evEo call e (viewS ρ) = .ok (.tmp (.lst ds), ρ')) (hs : ds.all scalP = true) : evEo call (.view e) ρ = .ok (.tmp (.lst ds), ρ) := by
  rw [evEo_eq] at h ⊢
  simp only [evE, h, bind_ok, hs, chk_true]
theorem view_p {call : Call} {e : CE} {ρ : En} {d : P} (h : ∃ ρ', evE call e (viewS ρ) = .ok (.p d, ρ')) (hs : scalP d = true) : evEo call (.view e) ρ = .ok (.p d, ρ) := by
  obtain ⟨ρ', h⟩ := h
  rw [evEo_eq]
  simp only [evE, h, bind_ok, hs, chk_true]
theorem appIx_ok {call : Call} {s : Nat} {i a : CE} {ρ : En} {n : Int} {d : P} {m m' : MO} (h1 : ∃ ρ1, evE call i (viewS ρ) = .ok (.p (.int n), ρ1)) (h2 : ∃ ρ2, evE call a (viewS ρ) = .ok (.p d, ρ2)) (hs : scalP d = true) (h3 : ρ[s]? = some (some (.own m))) (h4 : setIn m n d = .ok m') :
    evEo call (.appIx s i a) ρ = .ok (.p .non, ρ.set s (some (.own m'))) := by
  obtain ⟨ρ1, h1⟩ := h1
  obtain ⟨ρ2, h2⟩ := h2
  rw [evEo_eq]
  simp only [evE, h1, h2, bind_ok, hs, chk_true, getOwn, h3, h4]
theorem scal_ints (xs : List Int) : (xs.map P.int).all scalP = true := by simp [scalP]
theorem ix_last {xs : List Int} {i : Int} (h : 0 < xs.length) : ixP (.lst (xs.map .int)) (.int ((xs.map P.int).length - 1 : Int)) = .ok (.int (lastV xs i)) := by
  have e : (((xs.map P.int).length : Int) - 1) = ((xs.length - 1 : Nat) : Int) := by simp; omega
  rw [e]
  refine ix_nat ?_
  have hl : xs.getLast? = some xs[xs.length - 1] := by rw [List.getLast?_eq_getElem?, List.getElem?_eq_getElem]
  simp only [lastV, hl]
  simp [List.getElem?_map, List.getElem?_eq_getElem (show xs.length - 1 < xs.length by omega)]
theorem lastV_nil {xs : List Int} {i : Int} (h : ¬ 0 < xs.length) : lastV xs i = i := by
  have : xs = [] := List.length_eq_zero_iff.mp (by omega)
  subst this; rfl
theorem filt_ints (L : List Tb) (x : Str) : (L.filter fun m => (getv m x).isSome).map (fun m => vP (getv m x)) = (L.filterMap (getv · x)).map .int := by
  induction L with
  | nil => rfl
  | cons m L ih =>
    cases h : getv m x with
    | none => simp [h, ih]
    | some v =>
      rw [List.filter_cons_of_pos (by simp [h])]
      simp only [List.filterMap_cons, h, List.map_cons, ih]; rfl
theorem isn_v (v : Option Int) : isP (vP v) .non = .ok v.isNone := by cases v <;> rfl
theorem ex_kE {call : Call} {e : CE} {ρ : En} {d : P} (h : Tri (kE call e ρ fun w ρ => .ok (w, ρ)) fun z => z.1 = .p d) : ∃ ρ', evE call e ρ = .ok (.p d, ρ') := by
  obtain ⟨⟨w, ρ'⟩, e1, e2⟩ := h
  simp only at e2
  subst e2
  exact ⟨ρ', kE_run e1⟩
theorem setIn0 {A C : List Int} {v : Int} (h : A.length < sizeLine) : setIn (.lo [A.map .int, C.map .int]) 0 (.int v) = .ok (.lo [(A ++ [v]).map .int, C.map .int]) := by
  have e : ixN 2 0 = some 0 := rfl
  simp only [setIn, List.length_cons, List.length_nil, Nat.reduceAdd, e, of_some, bind_ok, List.getElem?_cons_zero, List.length_map, decide_eq_true h, chk_true, List.set_cons_zero, List.map_append, List.map_cons, List.map_nil]
theorem setIn1 {A C : List Int} {v : Int} (h : C.length < sizeLine) : setIn (.lo [A.map .int, C.map .int]) 1 (.int v) = .ok (.lo [A.map .int, (C ++ [v]).map .int]) := by
  have e : ixN 2 1 = some 1 := rfl
  simp only [setIn, List.length_cons, List.length_nil, Nat.reduceAdd, e, of_some, bind_ok, List.getElem?_cons_zero, List.getElem?_cons_succ, List.length_map, decide_eq_true h, chk_true, List.set_cons_zero, List.set_cons_succ, List.map_append, List.map_cons, List.map_nil]
theorem getD_l {past : List Tb} {now : Tb} : (past ++ [now]).getD past.length [] = now := by simp [List.getD_eq_getElem?_getD]
theorem getD_p {past : List Tb} {now : Tb} {s : Nat} (h : s < past.length) : (past ++ [now]).getD s [] = past.getD s [] := by simp [List.getD_eq_getElem?_getD, List.getElem?_append_left h]
theorem t_past (n : Nat) (f : Fm) (past : List Tb) (now : Tb) (z : Nat) (hz : 2 ≤ z ∧ z ≤ 1000) (hm : f.mem = true) (hpl : past.length ≤ 1000) (hk : ∀ m ∈ past, ∀ x ∈ f.ns, x ∈ m.map (·.1)) (hkn : f.isLate = false → ∀ x ∈ f.ns, x ∈ now.map (·.1)) (hv : ∀ m ∈ past ++ [now], ∀ x, VOk z (getv m x)) :
    Tri (cl (n + 2) "_law_past" [.p f.toP, .own (.lst (past.map tbP)), .own (.dk (dkP vP now)), .p (.int z)]) fun r => r = (.p (vP (f.sem (fun s y => getv ((past ++ [now]).getD s []) y) past.length z)), [.p f.toP, .own (.lst (past.map tbP)), .own (.dk (dkP vP now)), .p (.int z)]) := by
  have fv : ∀ x, vals (fun s => getv ((past ++ [now]).getD s []) x) past.length = past.filterMap (getv · x) := fun x => by
    rw [fm_vals]
    exact vals_congr fun s hs => by rw [getD_p hs]
  have fv1 : ∀ x, vals (fun s => getv ((past ++ [now]).getD s []) x) (past.length + 1) = (past ++ [now]).filterMap (getv · x) := fun x => by
    rw [fm_vals]; simp
  cases f with
  | late x v =>
    rw [ev_law_past]
    refine tri_F ?_
    repeat (conv => arg 1; whnf
            first
            | (refine tri_stp (co (r := false) ?_) ?_; focus ((try dsimp only); decide +kernel))
            | (refine tri_stp (co (r := true) ?_) ?_; focus ((try dsimp only); decide +kernel)))
    conv => arg 1; whnf
    refine tri_stp (co_gt _ _) ?_
    conv => arg 1; whnf
    refine tri_if (fun h => ?_) (fun h => ?_)
    · have h : 0 < past.length := by have := of_decide_eq_true h; simp at this; omega
      have e : ixP (.lst (past.map tbP)) (.int ((past.map tbP).length - 1 : Int)) = .ok (tbP (past.getD (past.length - 1) [])) := by
        have e : (((past.map tbP).length : Int) - 1) = ((past.length - 1 : Nat) : Int) := by simp; omega
        rw [e]
        refine ix_nat ?_
        simp [List.getElem?_map, List.getElem?_eq_getElem (show past.length - 1 < past.length by omega)]
      have hx : x ∈ (past.getD (past.length - 1) []).map (·.1) := by
        rw [List.getD_eq_getElem?_getD, List.getElem?_eq_getElem (show past.length - 1 < past.length by omega)]
        exact hk _ (List.getElem_mem _) x (by simp [Fm.ns])
      conv => arg 1; whnf
      refine tri_stp (e) ?_
      conv => arg 1; whnf
      refine tri_stp (ix_tb hx) ?_
      conv => arg 1; whnf
      refine tri_ret ?_
      simp only [Fm.sem]
      rw [if_neg (by omega), getD_p (by omega)]
    · have h : past.length = 0 := by have := of_decide_eq_false h; simp at this; simp [this]
      conv => arg 1; whnf
      refine tri_ret ?_
      simp only [Fm.sem]
      rw [if_pos h]
  | held x i =>
    have hkk : ∀ m ∈ past ++ [now], x ∈ m.map (·.1) := by
      intro m hm
      rcases List.mem_append.mp hm with hm | hm
      · exact hk m hm x (by simp [Fm.ns])
      · simp at hm; subst hm; exact hkn rfl x (by simp [Fm.ns])
    rw [ev_law_past]
    refine tri_F ?_
    repeat (conv => arg 1; whnf
            first
            | (refine tri_stp (co (r := false) ?_) ?_; focus ((try dsimp only); decide +kernel))
            | (refine tri_stp (co (r := true) ?_) ?_; focus ((try dsimp only); decide +kernel)))
    conv => arg 1; whnf
    refine tri_stp (view_lst (ρ' := [some (.p (Fm.held x i).toP), some (.p (.lst (past.map tbP))), some (.p (tbP now)), some (.p (.int z)), none, none, none, none, none, none, none]) (lc_filter (enc := tbP) (past ++ [now]) (fun m => (getv m x).isSome) (fun m => vP (getv m x)) (ws := [.tmp (.lst ((past ++ [now]).map tbP))]) (ρh := [some (.p (Fm.held x i).toP), some (.p (.lst (past.map tbP))), some (.p (tbP now)), some (.p (.int z)), none, none, none, none, none, none, none]) (ρ2 := [some (.p (Fm.held x i).toP), some (.p (.lst (past.map tbP))), some (.p (tbP now)), some (.p (.int z)), none, none, none, none, none, none, none]) ?h1 rfl rfl rfl (by rw [sizeLine_eq]; (try simp); omega) rfl ?h5 rfl) (by rw [filt_ints]; exact scal_ints _)) ?_
    case h1 =>
      refine kEs_run (tri_eq ?_)
      repeat (conv => arg 1; whnf
              first
              | (refine tri_stp (co (r := false) ?_) ?_; focus ((try dsimp only); decide +kernel))
              | (refine tri_stp (co (r := true) ?_) ?_; focus ((try dsimp only); decide +kernel)))
      conv => arg 1; whnf
      refine tri_stp (cat_lst (by rw [sizeLine_eq]; simp; omega)) ?_
      conv => arg 1; whnf
      refine tri_ret ?_
      first | (simp; done) | (simp; rfl)
    case h5 =>
      intro m hm
      have hx := hkk m hm
      apply tri_eq
      conv => arg 1; whnf
      refine tri_stp (ix_tb hx) ?_
      conv => arg 1; whnf
      refine tri_stp (isn_v _) ?_
      cases hv : getv m x with
      | none =>
        conv => arg 1; whnf
        refine tri_ret ?_
        rfl
      | some v =>
        conv => arg 1; whnf
        refine tri_stp ((ix_tb hx)) ?_
        rw [hv]
        conv => arg 1; whnf
        refine tri_ret ?_
        rfl
    rw [filt_ints]
    conv => arg 1; whnf
    refine tri_stp (co_gt _ _) ?_
    conv => arg 1; whnf
    refine tri_if (fun h => ?_) (fun h => ?_)
    · have h : 0 < ((past ++ [now]).filterMap (getv · x)).length := by have := of_decide_eq_true h; rw [List.length_map] at this; omega
      conv => arg 1; whnf
      refine tri_stp (ix_last (i := i) h) ?_
      conv => arg 1; whnf
      refine tri_ret ?_
      simp only [Fm.sem, fv1]; rfl
    · have h : ¬ 0 < ((past ++ [now]).filterMap (getv · x)).length := by have := of_decide_eq_false h; rw [List.length_map] at this; omega
      conv => arg 1; whnf
      refine tri_ret ?_
      simp only [Fm.sem, fv1]; rw [lastV_nil h]; rfl
  | before x i =>
    have hkk : ∀ m ∈ past, x ∈ m.map (·.1) := fun m hm => hk m hm x (by simp [Fm.ns])
    have hxn := hkn rfl x (by simp [Fm.ns])
    rw [ev_law_past]
    refine tri_F ?_
    repeat (conv => arg 1; whnf
            first
            | (refine tri_stp (co (r := false) ?_) ?_; focus ((try dsimp only); decide +kernel))
            | (refine tri_stp (co (r := true) ?_) ?_; focus ((try dsimp only); decide +kernel)))
    conv => arg 1; whnf
    refine tri_stp ((ix_tb hxn)) ?_
    conv => arg 1; whnf
    refine tri_stp (isn_v _) ?_
    cases hvn : getv now x with
    | none =>
      conv => arg 1; whnf
      refine tri_ret ?_
      simp only [Fm.sem, getD_l, hvn, if_true]; rfl
    | some v =>
      conv => arg 1; whnf
      refine tri_stp (view_lst (ρ' := [some (.p (Fm.before x i).toP), some (.p (.lst (past.map tbP))), some (.p (tbP now)), some (.p (.int z)), none, none, none, none, none, none, none]) (lc_filter (enc := tbP) (past) (fun m => (getv m x).isSome) (fun m => vP (getv m x)) (ws := [.tmp (.lst ((past).map tbP))]) (ρh := [some (.p (Fm.before x i).toP), some (.p (.lst (past.map tbP))), some (.p (tbP now)), some (.p (.int z)), none, none, none, none, none, none, none]) (ρ2 := [some (.p (Fm.before x i).toP), some (.p (.lst (past.map tbP))), some (.p (tbP now)), some (.p (.int z)), none, none, none, none, none, none, none]) ?h1 rfl rfl rfl (by rw [sizeLine_eq]; (try simp); omega) rfl ?h5 rfl) (by rw [filt_ints]; exact scal_ints _)) ?_
      case h1 =>
        refine kEs_run (tri_eq ?_)
        repeat (conv => arg 1; whnf
                first
                | (refine tri_stp (co (r := false) ?_) ?_; focus ((try dsimp only); decide +kernel))
                | (refine tri_stp (co (r := true) ?_) ?_; focus ((try dsimp only); decide +kernel)))
        conv => arg 1; whnf
        refine tri_stp (cat_lst (by rw [sizeLine_eq]; simp; omega)) ?_
        conv => arg 1; whnf
        refine tri_ret ?_
        first | (simp; done) | (simp; rfl)
      case h5 =>
        intro m hm
        have hx := hkk m hm
        apply tri_eq
        conv => arg 1; whnf
        refine tri_stp (ix_tb hx) ?_
        conv => arg 1; whnf
        refine tri_stp (isn_v _) ?_
        cases hv : getv m x with
        | none =>
          conv => arg 1; whnf
          refine tri_ret ?_
          rfl
        | some v =>
          conv => arg 1; whnf
          refine tri_stp ((ix_tb hx)) ?_
          rw [hv]
          conv => arg 1; whnf
          refine tri_ret ?_
          rfl
      rw [filt_ints]
      conv => arg 1; whnf
      refine tri_stp (co_gt _ _) ?_
      conv => arg 1; whnf
      refine tri_if (fun h => ?_) (fun h => ?_)
      · have h : 0 < (past.filterMap (getv · x)).length := by have := of_decide_eq_true h; rw [List.length_map] at this; omega
        conv => arg 1; whnf
        refine tri_stp (ix_last (i := i) h) ?_
        conv => arg 1; whnf
        refine tri_ret ?_
        simp only [Fm.sem, fv, getD_l, hvn]; rfl
      · have h : ¬ 0 < (past.filterMap (getv · x)).length := by have := of_decide_eq_false h; rw [List.length_map] at this; omega
        conv => arg 1; whnf
        refine tri_ret ?_
        simp only [Fm.sem, fv, getD_l, hvn]; rw [lastV_nil h]; rfl
  | mat o x y =>
    have hkx : ∀ m ∈ past, ∀ q, q = x ∨ q = y → q ∈ m.map (·.1) := fun m hm q hq => hk m hm q (by simpa [Fm.ns] using hq)
    have hxn : x ∈ now.map (·.1) := hkn rfl x (by simp [Fm.ns])
    have hyn : y ∈ now.map (·.1) := hkn rfl y (by simp [Fm.ns])
    rw [ev_law_past]
    refine tri_F ?_
    repeat (conv => arg 1; whnf
            first
            | (refine tri_stp (co (r := false) ?_) ?_; focus ((try dsimp only); decide +kernel))
            | (refine tri_stp (co (r := true) ?_) ?_; focus ((try dsimp only); decide +kernel)))
    conv => arg 1; whnf
    refine tri_stp (lc_deep (enc := P.str) [x, y] (fun q => (past.filterMap (getv · q)).map .int) (ws := [.p (.tup ([x, y].map .str))]) (ρh := [some (.p (Fm.mat o x y).toP), some (.own (.lst (past.map tbP))), some (.own (.dk (dkP vP now))), some (.p (.int z)), none, none, none, none, none, none, none]) (ρ2 := [some (.p (Fm.mat o x y).toP), some (.own (.lst (past.map tbP))), some (.own (.dk (dkP vP now))), some (.p (.int z)), none, none, none, none, none, none, none]) (by kernel_rfl) rfl rfl (by rw [sizeLine_eq]; simp) rfl ?h5 rfl) ?_
    case h5 =>
      intro q hq
      have hq : q = x ∨ q = y := by simpa using hq
      apply tri_eq
      conv => arg 1; whnf
      refine tri_stp (lc_filter (enc := tbP) past (fun m => (getv m q).isSome) (fun m => vP (getv m q)) (ws := [.ref 1]) (ρh := [some (.p (Fm.mat o x y).toP), some (.rd (.lst (past.map tbP))), some (.own (.dk (dkP vP now))), some (.p (.int z)), none, none, none, none, none, some (.p (.str q)), none]) (ρ2 := [some (.p (Fm.mat o x y).toP), some (.own (.lst (past.map tbP))), some (.own (.dk (dkP vP now))), some (.p (.int z)), none, none, none, none, none, some (.p (.str q)), none]) (by kernel_rfl) rfl rfl rfl (by rw [sizeLine_eq]; omega) rfl ?h6 rfl) ?_
      case h6 =>
        intro m hm
        have hx := hkx m hm q hq
        apply tri_eq
        conv => arg 1; whnf
        refine tri_stp (ix_tb hx) ?_
        conv => arg 1; whnf
        refine tri_stp (isn_v _) ?_
        cases hv : getv m q with
        | none =>
          conv => arg 1; whnf
          refine tri_ret ?_
          rfl
        | some v =>
          conv => arg 1; whnf
          refine tri_stp ((ix_tb hx)) ?_
          rw [hv]
          conv => arg 1; whnf
          refine tri_ret ?_
          rfl
      rw [filt_ints]
      conv => arg 1; whnf
      refine tri_ret ?_
      rfl
    have hA : ∀ q, q = x ∨ q = y → ∀ k ∈ past.filterMap (getv · q), 0 ≤ k ∧ k < z := by
      intro q _ k hk'
      obtain ⟨m, hm, e⟩ := List.mem_filterMap.mp hk'
      exact hv m (List.mem_append_left _ hm) q k e
    have hAx := hA x (.inl rfl)
    have hAy := hA y (.inr rfl)
    have hsem : (Fm.mat o x y).sem (fun s y => getv ((past ++ [now]).getD s []) y) past.length z = matV o (past.filterMap (getv · x)) (past.filterMap (getv · y)) (past.filterMap (getv · x) ++ (getv now x).toList) (past.filterMap (getv · y) ++ (getv now y).toList) z := by
      simp only [Fm.sem, vals_succ, fv, getD_l]
    rw [hsem]
    have hlx : (past.filterMap (getv · x)).length ≤ 1000 := Nat.le_trans (List.length_filterMap_le _ _) hpl
    have hly : (past.filterMap (getv · y)).length ≤ 1000 := Nat.le_trans (List.length_filterMap_le _ _) hpl
    have hnx := hv now (by simp) x
    have hny := hv now (by simp) y
    simp only [List.map_cons, List.map_nil]
    generalize past.filterMap (getv · x) = A at hAx hlx
    generalize past.filterMap (getv · y) = C at hAy hly
    have minE : ∀ (a b : Nat), (if (b : Int) < a then (b : Int) else a) = (min a b : Nat) := by intro a b; split <;> omega
    conv => arg 1; whnf
    refine tri_stp (view_p (d := .int (A.map P.int).length) ⟨_, rfl⟩ rfl) ?_
    conv => arg 1; whnf
    refine tri_stp (view_p (d := .int (C.map P.int).length) ⟨_, rfl⟩ rfl) ?_
    conv => arg 1; whnf
    rw [show (if ((C.map P.int).length : Int) < ((A.map P.int).length : Int) then ((C.map P.int).length : Int) else ((A.map P.int).length : Int)) = (min A.length C.length : Nat) by rw [minE]; simp]
    refine tri_for (enc := enI) (List.range 2) (fun pre ρ => ∃ j6, ρ = [some (.p (Fm.mat o x y).toP), some (.own (.lst (past.map tbP))), some (.own (.dk (dkP vP now))), some (.p (.int z)), some (.own (.lo [(if 1 ≤ pre.length then A ++ (getv now x).toList else A).map .int, (if 2 ≤ pre.length then C ++ (getv now y).toList else C).map .int])), some (.p (.int (min A.length C.length : Nat))), jk j6, none, none, none, none]) (ws := [.p (.int 2)]) (by kernel_rfl) (it_rng1' (k := 2) rfl (by omega)) ⟨none, rfl⟩ ?_ ?_
    · rintro pre k post ρ e ⟨j6, rfl⟩
      obtain ⟨rfl, hk2⟩ := rng_at e
      have hp : pre = [] ∨ ∃ q, pre = [q] := by
        match pre, hk2 with
        | [], _ => exact .inl rfl
        | [q], _ => exact .inr ⟨q, rfl⟩
      rcases hp with rfl | ⟨q, rfl⟩
      · simp only [List.length_nil, List.nil_append, List.length_cons, Nat.reduceAdd, Nat.reduceLeDiff, if_true, if_false]
        conv => arg 1; whnf
        refine tri_stp (bt_1 (by (try simp only [List.set_cons_zero, List.set_cons_succ, List.set_nil]); simp only [ns_jk, ns_p, ns_own, ns_rd, ns_none, ns_nil]) rfl (by simp)) ?_
        conv => arg 1; whnf
        refine tri_stp (ix_tb hxn) ?_
        conv => arg 1; whnf
        refine tri_stp (isn_v _) ?_
        cases hq : getv now x with
        | none =>
          conv => arg 1; whnf
          refine tri_ret ?_
          exact ⟨.inl rfl, some (.int 0), by simp; rfl⟩
        | some v =>
          conv => arg 1; whnf
          refine tri_stp (appIx_ok (n := 0) (d := .int v) (m' := .lo [(A ++ [v]).map .int, (C).map .int]) ⟨_, rfl⟩ ?ha rfl rfl ?hb) ?_
          case ha =>
            refine ex_kE ?_
            conv => arg 1; whnf
            refine tri_stp (ix_tb hxn) ?_
            rw [hq]
            conv => arg 1; whnf
            refine tri_ret ?_
            rfl
          case hb =>
            exact setIn0 (by rw [sizeLine_eq]; omega)
          conv => arg 1; whnf
          refine tri_ret ?_
          exact ⟨.inl rfl, some (.int 0), by simp; rfl⟩
      · simp only [List.length_singleton, List.length_append, Nat.reduceAdd, Nat.reduceLeDiff, if_true, if_false, Nat.le_refl]
        conv => arg 1; whnf
        refine tri_stp (bt_1 (by (try simp only [List.set_cons_zero, List.set_cons_succ, List.set_nil]); simp only [ns_jk, ns_p, ns_own, ns_rd, ns_none, ns_nil]) rfl (by simp)) ?_
        conv => arg 1; whnf
        refine tri_stp (ix_tb hyn) ?_
        conv => arg 1; whnf
        refine tri_stp (isn_v _) ?_
        cases hq : getv now y with
        | none =>
          conv => arg 1; whnf
          refine tri_ret ?_
          exact ⟨.inl rfl, some (.int 1), by simp; rfl⟩
        | some v =>
          conv => arg 1; whnf
          refine tri_stp (appIx_ok (n := 1) (d := .int v) (m' := .lo [(A ++ (getv now x).toList).map .int, (C ++ [v]).map .int]) ⟨_, rfl⟩ ?ha rfl rfl ?hb) ?_
          case ha =>
            refine ex_kE ?_
            conv => arg 1; whnf
            refine tri_stp (ix_tb hyn) ?_
            rw [hq]
            conv => arg 1; whnf
            refine tri_ret ?_
            rfl
          case hb =>
            exact setIn1 (by rw [sizeLine_eq]; omega)
          conv => arg 1; whnf
          refine tri_ret ?_
          exact ⟨.inl rfl, some (.int 1), by simp; rfl⟩
    · rintro _ ⟨j6, rfl⟩
      simp only [List.length_range, Nat.reduceLeDiff, if_true, Nat.le_refl]
      have hA1 : ∀ k ∈ A ++ (getv now x).toList, 0 ≤ k ∧ k < z := by
        intro k hk'
        rcases List.mem_append.mp hk' with h | h
        · exact hAx k h
        · exact hnx k (by simpa using h)
      generalize A ++ (getv now x).toList = A1 at hA1
      generalize C ++ (getv now y).toList = C1
      conv => arg 1; whnf
      refine tri_stp (view_p (d := .int (A1.map P.int).length) ⟨_, rfl⟩ rfl) ?_
      conv => arg 1; whnf
      refine tri_stp (view_p (d := .int (C1.map P.int).length) ⟨_, rfl⟩ rfl) ?_
      conv => arg 1; whnf
      rw [show (if ((C1.map P.int).length : Int) < ((A1.map P.int).length : Int) then ((C1.map P.int).length : Int) else ((A1.map P.int).length : Int)) = (min A1.length C1.length : Nat) by rw [minE]; simp]
      conv => arg 1; whnf
      refine tri_stp (bs_p (by (try simp only [List.set_cons_zero, List.set_cons_succ, List.set_nil]); simp only [ns_jk, ns_p, ns_own, ns_rd, ns_none, ns_nil]) rfl (by simp)) ?_
      conv => arg 1; whnf
      refine tri_stp (co_gt _ _) ?_
      conv => arg 1; whnf
      refine tri_if (fun h => ?_) (fun h => ?_)
      · have h : min A.length C.length < min A1.length C1.length := by have := of_decide_eq_true h; omega
        have e1 : ∀ (D : List Int), min A1.length C1.length ≤ D.length → ixP (.lst (D.map .int)) (.int ((min A1.length C1.length : Nat) - 1 : Int)) = .ok (.int (D.getD (min A1.length C1.length - 1) 0)) := by
          intro D hD
          rw [show (((min A1.length C1.length : Nat) : Int) - 1) = ((min A1.length C1.length - 1 : Nat) : Int) by omega]
          refine ix_nat ?_
          have : min A1.length C1.length - 1 < D.length := by omega
          simp [List.getElem?_eq_getElem this]
        conv => arg 1; whnf
        refine tri_stp (view_p (d := .int (A1.getD (min A1.length C1.length - 1) 0)) ?ha rfl) ?_
        case ha =>
          refine ex_kE ?_
          conv => arg 1; whnf
          refine tri_stp (e1 A1 (by omega)) ?_
          conv => arg 1; whnf
          refine tri_ret ?_
          rfl
        conv => arg 1; whnf
        refine tri_stp (view_p (d := .int (C1.getD (min A1.length C1.length - 1) 0)) ?hb rfl) ?_
        case hb =>
          refine ex_kE ?_
          conv => arg 1; whnf
          refine tri_stp (e1 C1 (by omega)) ?_
          conv => arg 1; whnf
          refine tri_ret ?_
          rfl
        have hg := getD_ok hA1 (k := min A1.length C1.length - 1) (by omega)
        conv => arg 1; whnf
        refine tri_stp (law_paired _ o _ _ z (by omega) (by omega)) ?_
        conv => arg 1; whnf
        refine tri_ret ?_
        simp only [matV, if_pos h]
        rfl
      · have h : ¬ min A.length C.length < min A1.length C1.length := by have := of_decide_eq_false h; omega
        conv => arg 1; whnf
        refine tri_ret ?_
        simp only [matV, if_neg h]
        rfl
  | worth i => cases hm
  | copy x => cases hm
  | there x => cases hm
  | turn x r => cases hm
  | els x y => cases hm
  | wen x y => cases hm
  | two o x y => cases hm
end Ev

namespace Ev
open PySem PySem.Spec PyProof.Rows L2
def tv (tabs : List Tb) : Val := fun t x => getv (tabs.getD t []) x
structure Good (N : Nt) (rs : List Evt) (tabs : List Tb) : Prop where
  len : tabs.length = rs.length
  key : ∀ T ∈ tabs, ∀ x ∈ N.all, x ∈ T.map (·.1)
  inp : ∀ t, t < rs.length → ∀ x ∈ N.ins, tv tabs t x = look (rs.getD t []) x
  cel : ∀ t, t < rs.length → ∀ c ∈ N.cells, tv tabs t c.1 = c.2.sem (tv tabs) t N.z
  ok : ∀ T ∈ tabs, ∀ x, VOk N.z (getv T x)
theorem put_new {T : Tb} {x : Str} {v : Option Int} (h : x ∉ T.map (·.1)) : putP (dkP vP T) (.inr x) (vP v) = dkP vP (T ++ [(x, v)]) := by
  unfold putP
  rw [if_neg]
  · simp [dkP]
  · intro q
    rw [List.any_eq_true] at q
    obtain ⟨p, hp, e⟩ := q
    obtain ⟨c, hc, rfl⟩ := List.mem_map.mp hp
    have e : c.1 = x := Sum.inr.inj (of_decide_eq_true e)
    exact h (e ▸ List.mem_map_of_mem (f := (·.1)) hc)
theorem look_app {α : Type} {T : List (Str × α)} {x y : Str} {v : α} (h : x ∉ T.map (·.1)) : look (T ++ [(x, v)]) y = if x = y then some v else look T y := by
  simp only [look, List.find?_append]
  by_cases e : x = y
  · subst e
    have : T.find? (fun kv => decide (kv.1 = x)) = none := by
      rw [List.find?_eq_none]; intro c hc q; exact h ((of_decide_eq_true q) ▸ List.mem_map_of_mem (f := (·.1)) hc)
    simp [this]
  · simp only [if_neg e]
    cases q : T.find? (fun kv => decide (kv.1 = y)) <;> simp [e]
theorem getv_app {T : Tb} {x y : Str} {v : Option Int} (h : x ∉ T.map (·.1)) : getv (T ++ [(x, v)]) y = if x = y then v else getv T y := by
  unfold getv; rw [look_app h]; split <;> rfl
theorem ix0m (f : Fm) : ∃ w : String, ixP f.toP (.int 0) = .ok (sP w) ∧ cmpPo .In (sP w) (.tup [sP "held", sP "before", sP "late", sP "match"]) = .ok f.mem := by
  cases f with
  | two o x y => cases o <;> exact ⟨_, rfl, co (by kernel_rfl)⟩
  | _ => exact ⟨_, rfl, co (by kernel_rfl)⟩
theorem VOk_none (z : Int) : VOk z none := fun _ e => by cases e
theorem tv_p {past : List Tb} {now : Tb} {s : Nat} (h : s < past.length) (x : Str) : tv (past ++ [now]) s x = tv past s x := by simp only [tv, getD_p h]
theorem tv_l {past : List Tb} {now : Tb} (x : Str) : tv (past ++ [now]) past.length x = getv now x := by simp only [tv, getD_l]
theorem evt_ok {N : Nt} {ev : Evt} (h : EvtOk N ev) (x : Str) : VOk N.z (look ev x) := by
  intro i e; exact h.z _ (look_some e)
theorem t_tables (n : Nat) (N : Nt) (rs : List Evt) {ni nc nz : Nat} (hN : NtOk N ni nc nz) (hb : ni ≤ 10 ∧ nc ≤ 30 ∧ nz ≤ 1000) (hr : ∀ e ∈ rs, EvtOk N e) (hrl : rs.length ≤ 1000) :
    Tri (cl (n + 4) "_law_tables" [.p N.toP, .p (.tup (rs.map evP))]) fun r => ∃ tabs : List Tb, r = (.tmp (.lst (tabs.map tbP)), [.p N.toP, .p (.tup (rs.map evP))]) ∧ Good N rs tabs := by
  have hz := hN.z
  have hi := hN.i
  have hc := hN.c
  have hnd := List.nodup_append.mp hN.nd
  have hso : ¬ (ordL N).length < N.cells.length := by
    have := hN.snd
    simp only [sndB, Bool.and_eq_true, Bool.not_eq_true', decide_eq_false_iff_not] at this
    exact this.1
  obtain ⟨hch, hall⟩ := ord_all hso
  rw [ev_law_tables]
  refine tri_F ?_
  conv => arg 1; whnf
  refine tri_for (enc := evP) rs (fun pre ρ => ∃ (past : List Tb) (j3 j4 j5 j6 : Option P), ρ = [some (.p N.toP), some (.p (.tup (rs.map evP))), some (.own (.lst (past.map tbP))), jk j3, jk j4, jk j5, jk j6, none] ∧ Good N pre past)
    (ws := [.p (.tup (rs.map evP))]) (by kernel_rfl) rfl ⟨[], none, none, none, none, rfl, ⟨rfl, (fun T h => by cases h), (fun t h => by cases h), (fun t h => by cases h), (fun T h => by cases h)⟩⟩ ?_ ?_
  · rintro pre ev post ρ e ⟨past, j3, j4, j5, j6, rfl, G⟩
    have hev : EvtOk N ev := hr ev (by rw [e]; simp)
    have hpl : past.length ≤ 1000 := by rw [G.len]; have := congrArg List.length e; simp at this; omega
    have hevn : (ev.map (·.1)).Nodup := hev.s.nodup hnd.1
    have hevl : ev.length ≤ 10 := by have := hev.s.length_le; simp at this; omega
    conv => arg 1; whnf
    refine tri_stp (bt_1 (by (try simp only [List.set_cons_zero, List.set_cons_succ, List.set_nil]); simp only [ns_jk, ns_p, ns_own, ns_rd, ns_none, ns_nil]) rfl (by simp)) ?_
    conv => arg 1; whnf
    refine tri_stp (bs_t (by (try simp only [List.set_cons_zero, List.set_cons_succ, List.set_nil]); simp only [ns_jk, ns_p, ns_own, ns_rd, ns_none, ns_nil]) rfl (by simp)) ?_
    conv => arg 1; whnf
    refine tri_for (enc := P.str) N.ins (fun pre ρ => ∃ (j5 : Option P), ρ = [some (.p N.toP), some (.p (.tup (rs.map evP))), some (.own (.lst (past.map tbP))), some (.p (evP ev)), some (.own (.dk (dkP vP (pre.map fun x => (x, look ev x))))), jk j5, jk j6, none])
      (ws := [.p (.tup (N.ins.map .str))]) (by kernel_rfl) rfl ⟨j5, rfl⟩ ?_ ?_
    · rintro pre x post ρ e ⟨j5, rfl⟩
      conv => arg 1; whnf
      refine tri_stp (bt_1 (by (try simp only [List.set_cons_zero, List.set_cons_succ, List.set_nil]); simp only [ns_jk, ns_p, ns_own, ns_rd, ns_none, ns_nil]) rfl (by simp)) ?_
      conv => arg 1; whnf
      refine tri_stp (bl_dict P.int ev hevn (by omega)) ?_
      have hx : x ∉ (pre.map fun x => (x, look ev x)).map (·.1) := by
        have := hnd.1
        rw [e] at this
        intro q
        simp at q
        exact (List.nodup_append.mp this).2.2 x q x (by simp) rfl
      have ev1 : (valP (dkP P.int ev) (.inr x)).getD P.non = vP (look ev x) := by rw [val_dk]; cases look ev x <;> rfl
      have hpl : pre.length ≤ 10 := by have := congrArg List.length e; simp at this; omega
      conv => arg 1; whnf
      refine tri_stp (put_dk rfl rfl (by rw [sizeLine_eq]; simp [dkP]; omega)) ?_
      conv => arg 1; whnf
      refine tri_ret ?_
      refine ⟨.inl rfl, some (.str x), ?_⟩
      rw [List.map_append, List.map_cons, List.map_nil, ← put_new hx, ← ev1]
      rfl
    · rintro _ ⟨j5, rfl⟩
      have e_ord := tri_eq (t_order (n + 1) N (by omega) (by omega))
      conv => arg 1; whnf
      refine tri_for (enc := P.str) (ordL N) (fun qre ρ => ∃ (now : Tb) (j5 j6 : Option P), ρ = [some (.p N.toP), some (.p (.tup (rs.map evP))), some (.own (.lst (past.map tbP))), some (.p (evP ev)), some (.own (.dk (dkP vP now))), jk j5, jk j6, none] ∧ now.map (·.1) = N.ins ++ qre ∧ (∀ x ∈ N.ins, getv now x = look ev x) ∧ (∀ x ∈ qre, ∀ f, (x, f) ∈ N.cells → getv now x = f.sem (tv (past ++ [now])) past.length N.z) ∧ ∀ x, VOk N.z (getv now x))
        (ws := [.tmp (.lst ((ordL N).map .str))]) (by refine kEs_run (tri_eq ?_); (conv => arg 1; whnf); refine tri_stp (e_ord) ?_; (conv => arg 1; whnf); exact tri_ret rfl) rfl ⟨N.ins.map fun x => (x, look ev x), j5, j6, rfl, by simp [Function.comp_def], ?_, by simp, ?_⟩ ?_ ?_
      · intro x hx
        unfold getv
        rw [look_mem (by simpa [Function.comp_def] using hnd.1) (List.mem_map_of_mem (f := fun x => (x, look ev x)) hx)]
        rfl
      · intro x
        unfold getv
        cases q : look (N.ins.map fun x => (x, look ev x)) x with
        | none => exact VOk_none _
        | some v =>
          obtain ⟨y, _, e⟩ := List.mem_map.mp (look_some q)
          cases e
          exact evt_ok hev x
      · rintro qre x qost ρ eq ⟨now, j5, j6, rfl, hkeys, hin, hce, hvo⟩
        obtain ⟨f, hxf, hr1, hr2⟩ := hch qre x qost eq
        simp only at hr1 hr2
        have hlk : look N.cells x = some f := look_mem hnd.2.1 hxf
        have hql : qre.length ≤ 30 := by
          have h1 := congrArg List.length eq
          have h2 := ordGo_len N N.cells.length
          simp at h1
          have : (ordL N).length = (ordGo N N.cells.length).2.length := rfl
          omega
        have hnl : now.length ≤ 40 := by
          have := congrArg List.length hkeys
          simp at this; omega
        have hxn : x ∉ now.map (·.1) := by rw [hkeys]; exact hr1
        have hfns : f.isLate = false → ∀ y ∈ f.ns, y ∈ now.map (·.1) := by
          intro hl
          rw [hkeys]
          rcases hr2 with h | h
          · rw [hl] at h; cases h
          · exact h
        have hpk : ∀ m ∈ past, ∀ y ∈ f.ns, y ∈ m.map (·.1) := fun m hm y hy => G.key m hm y (hN.fn _ hxf y hy)
        have hokz : f.okz N.z := hN.fz _ hxf
        have hvp : ∀ m ∈ past ++ [now], ∀ y, VOk N.z (getv m y) := by
          intro m hm y
          rcases List.mem_append.mp hm with h | h
          · exact G.ok m h y
          · simp at h; subst h; exact hvo y
        -- the new entry
        have key : ∀ v, v = f.sem (tv (past ++ [now])) past.length N.z → ∃ now' : Tb, putP (dkP vP now) (.inr x) (vP v) = dkP vP now' ∧ now'.map (·.1) = N.ins ++ (qre ++ [x]) ∧ (∀ x ∈ N.ins, getv now' x = look ev x) ∧ (∀ y ∈ qre ++ [x], ∀ g, (y, g) ∈ N.cells → getv now' y = g.sem (tv (past ++ [now'])) past.length N.z) ∧ ∀ x, VOk N.z (getv now' x) := by
          intro v hv
          have hsem : ∀ g : Fm, (g.isLate = false → ∀ y ∈ g.ns, y ∈ now.map (·.1)) → g.sem (tv (past ++ [now ++ [(x, v)]])) past.length N.z = g.sem (tv (past ++ [now])) past.length N.z := by
            intro g hg
            refine Fm.sem_congr (fun s hs y _ => by rw [tv_p hs, tv_p hs]) fun hl y hy => ?_
            rw [tv_l, tv_l, getv_app hxn, if_neg]
            intro e
            exact hxn (e ▸ hg hl y hy)
          refine ⟨now ++ [(x, v)], put_new hxn, by simp [hkeys], ?_, ?_, ?_⟩
          · intro y hy
            rw [getv_app hxn, if_neg, hin y hy]
            intro e; subst e
            exact hr1 (List.mem_append_left _ hy)
          · intro y hy g hg
            rcases List.mem_append.mp hy with hy | hy
            · have hne : ¬ x = y := by
                intro e; subst e; exact hr1 (List.mem_append_right _ hy)
              rw [getv_app hxn, if_neg hne, hce y hy g hg, hsem g]
              intro hl
              obtain ⟨p1, p2, ep⟩ := List.append_of_mem hy
              obtain ⟨g', hg', _, hr4⟩ := hch p1 y (p2 ++ x :: qost) (by rw [eq, ep]; simp)
              have : g = g' := by
                have h1 := look_mem hnd.2.1 hg
                have h2 := look_mem hnd.2.1 hg'
                rw [h1] at h2; cases h2; rfl
              subst this
              simp only at hr4
              rcases hr4 with h | h
              · rw [hl] at h; cases h
              · intro q hq
                rw [hkeys, ep]
                rcases List.mem_append.mp (h q hq) with h | h
                · exact List.mem_append_left _ h
                · exact List.mem_append_right _ (List.mem_append_left _ h)
            · simp at hy; subst hy
              have : g = f := by
                have h1 := look_mem hnd.2.1 hg
                rw [hlk] at h1; cases h1; rfl
              subst this
              rw [getv_app hxn, if_pos rfl, hsem g hfns, hv]
          · intro y
            rw [getv_app hxn]
            split
            · rw [hv]
              refine Fm.sem_ok (by omega) hokz fun s hs q hq hl => ?_
              by_cases e : s = past.length
              · subst e; rw [tv_l]; exact hvo q
              · rw [tv_p (by omega)]
                refine G.ok _ ?_ q
                rw [List.getD_eq_getElem?_getD, List.getElem?_eq_getElem (by omega)]
                exact List.getElem_mem _
            · exact hvo y
        conv => arg 1; whnf
        refine tri_stp (bt_1 (by (try simp only [List.set_cons_zero, List.set_cons_succ, List.set_nil]); simp only [ns_jk, ns_p, ns_own, ns_rd, ns_none, ns_nil]) rfl (by simp)) ?_
        conv => arg 1; whnf
        refine tri_stp (bl_dict Fm.toP N.cells hnd.2.1 (by omega)) ?_
        conv => arg 1; whnf
        refine tri_stp (ix_dk Fm.toP hlk) ?_
        conv => arg 1; whnf
        refine tri_stp (bs_p (by (try simp only [List.set_cons_zero, List.set_cons_succ, List.set_nil]); simp only [ns_jk, ns_p, ns_own, ns_rd, ns_none, ns_nil]) rfl (by simp)) ?_
        obtain ⟨w, e1, e2⟩ := ix0m f
        conv => arg 1; whnf
        refine tri_stp (e1) ?_
        conv => arg 1; whnf
        refine tri_stp (e2) ?_
        cases hm : f.mem with
        | true =>
          conv => arg 1; whnf
          refine tri_bind (t_past _ f past now N.z (by omega) hm hpl hpk hfns hvp) ?_
          rintro _ rfl
          obtain ⟨now', hp, hk'⟩ := key _ rfl
          conv => arg 1; whnf
          refine tri_stp (put_dk rfl rfl (by rw [sizeLine_eq]; simp [dkP]; omega)) ?_
          conv => arg 1; whnf
          refine tri_ret ?_
          refine ⟨.inl rfl, now', some (.str x), some f.toP, ?_, hk'⟩
          rw [← hp]
          rfl
        | false =>
          have hl : f.isLate = false := by cases f <;> simp_all [Fm.mem, Fm.isLate]
          have hsm : f.sem (tv (past ++ [now])) past.length N.z = f.now (f.ns.map (getv now)) N.z := by
            have : ∀ q, tv (past ++ [now]) past.length q = getv now q := fun q => tv_l q
            cases f <;> first | (simp only [Fm.sem]; rw [List.map_congr_left fun q _ => this q]; done) | (cases hm)
          conv => arg 1; whnf
          refine tri_stp (lc_map (enc := P.str) f.ns (fun q => vP (getv now q)) (ws := [.p (.tup (f.ns.map .str))]) (ρh := [some (.p N.toP), some (.p (.tup (rs.map evP))), some (.own (.lst (past.map tbP))), some (.p (evP ev)), some (.own (.dk (dkP vP now))), some (.p (.str x)), some (.p f.toP), none]) (ρ2 := [some (.p N.toP), some (.p (.tup (rs.map evP))), some (.own (.lst (past.map tbP))), some (.p (evP ev)), some (.own (.dk (dkP vP now))), some (.p (.str x)), some (.p f.toP), none]) (by refine kEs_run (tri_eq ?_); (conv => arg 1; whnf); refine tri_stp (law_names_in _ f) ?_; (conv => arg 1; whnf); exact tri_ret rfl) rfl rfl rfl (by have := ns_len f; rw [sizeLine_eq]; omega) rfl ?h5 rfl) ?_
          case h5 =>
            intro q hq
            apply tri_eq
            conv => arg 1; whnf
            refine tri_stp (ix_tb (hfns hl q hq)) ?_
            conv => arg 1; whnf
            refine tri_ret ?_
            rfl
          rw [show f.ns.map (fun q => vP (getv now q)) = (f.ns.map (getv now)).map vP by simp]
          have hvs : ∀ v ∈ f.ns.map (getv now), VOk N.z v := by
            intro v hv
            obtain ⟨q, _, rfl⟩ := List.mem_map.mp hv
            exact hvo q
          conv => arg 1; whnf
          refine tri_stp (t_shown _ f (f.ns.map (getv now)) N.z (by omega) hm hokz (by simp) hvs) ?_
          obtain ⟨now', hp, hk'⟩ := key _ hsm.symm
          conv => arg 1; whnf
          refine tri_stp (put_dk rfl rfl (by rw [sizeLine_eq]; simp [dkP]; omega)) ?_
          conv => arg 1; whnf
          refine tri_ret ?_
          refine ⟨.inl rfl, now', some (.str x), some f.toP, ?_, hk'⟩
          rw [← hp]
          rfl
      · rintro _ ⟨now, j5, j6, rfl, hkeys, hin, hce, hvo⟩
        conv => arg 1; whnf
        refine tri_stp (app_ok rfl (by rw [sizeLine_eq]; simp; omega)) ?_
        conv => arg 1; whnf
        refine tri_ret ?_
        refine ⟨.inl rfl, past ++ [now], some (evP ev), some (tbP now), j5, j6, by rw [List.map_append]; rfl, ?_⟩
        have hlen := G.len
        have getp : ∀ t, t < pre.length → (pre ++ [ev]).getD t [] = pre.getD t [] := fun t h => by simp [List.getD_eq_getElem?_getD, List.getElem?_append_left h]
        have getl : (pre ++ [ev]).getD pre.length [] = ev := by simp [List.getD_eq_getElem?_getD]
        refine ⟨by simp [G.len], ?_, ?_, ?_, ?_⟩
        · intro T hT x hx
          rcases List.mem_append.mp hT with h | h
          · exact G.key T h x hx
          · simp at h; subst h
            rw [hkeys]
            rcases List.mem_append.mp hx with h | h
            · exact List.mem_append_left _ h
            · exact List.mem_append_right _ (hall x h)
        · intro t ht x hx
          simp at ht
          by_cases e : t = pre.length
          · subst e
            rw [getl, ← hin x hx, ← hlen, tv_l]
          · rw [getp t (by omega), ← G.inp t (by omega) x hx, tv_p (by omega)]
        · intro t ht c hc
          simp at ht
          by_cases e : t = pre.length
          · subst e
            rw [← hlen, tv_l]
            exact hce c.1 (hall c.1 (List.mem_map_of_mem (f := (·.1)) hc)) c.2 hc
          · rw [tv_p (by omega), G.cel t (by omega) c hc]
            refine Fm.sem_congr (fun s hs y _ => by rw [tv_p (by omega)]) fun _ y _ => by rw [tv_p (by omega)]
        · intro T hT x
          rcases List.mem_append.mp hT with h | h
          · exact G.ok T h x
          · simp at h; subst h; exact hvo x
  · rintro _ ⟨past, j3, j4, j5, j6, rfl, G⟩
    conv => arg 1; whnf
    refine tri_ret ?_
    exact ⟨past, rfl, G⟩
end Ev

namespace Ev
open PySem PySem.Spec PyProof.Rows L2
/-! the dict of what was told -/
abbrev Kn := List ((Str × Nat) × Option Int)
def kP (k : Str × Nat) : P := .tup [.str k.1, .int (k.2 : Int)]
def kK (k : Str × Nat) : NestedKey := .tup [.text k.1, .num (k.2 : Int)]
theorem nkey_kP (k : Str × Nat) : nkey (kP k) = some (kK k) := rfl
theorem kK_inj {a b : Str × Nat} : kK a = kK b ↔ a = b := by
  constructor
  · intro h
    simp only [kK, NestedKey.tup.injEq, List.cons.injEq, NestedKey.text.injEq, NestedKey.num.injEq, and_true] at h
    obtain ⟨h1, h2⟩ := h
    exact Prod.ext h1 (by omega)
  · rintro rfl; rfl
def kn : Kn → MO
  | [] => .dk []
  | e :: l => .dn ((e :: l).map fun e => (kP e.1, vP e.2))
def lookK (l : Kn) (k : Str × Nat) : Option (Option Int) := (l.find? fun e => decide (e.1 = k)).map (·.2)
theorem kn_flat (l : Kn) : (kn l).flat = true := by cases l <;> rfl
theorem kn_chk (l : Kn) : R.chk (kn l).flat = .ok () := by rw [kn_flat]; rfl
theorem peek_kn {l : Kn} {j : Nat} {ρ : En} (h : ρ[j]? = some (some (.own (kn l)))) : peek (.ref j) ρ = .ok (kn l).toP := by
  simp only [peek, getMO, h, bind_ok, kn_chk]
theorem valN_kn (l : Kn) (k : Str × Nat) : valN (l.map fun e => (kP e.1, vP e.2)) (kK k) = (lookK l k).map vP := by
  induction l with
  | nil => rfl
  | cons e l ih =>
    simp only [valN, lookK, List.map_cons, List.find?_cons, nkey_kP, Option.some.injEq] at ih ⊢
    by_cases h : e.1 = k
    · simp [h]
    · have h2 : ¬ kK e.1 = kK k := fun q => h (kK_inj.mp q)
      simp only [h, h2, decide_false]
      exact ih
theorem look_kn (l : Kn) (k : Str × Nat) : dLook (kn l).toP (kP k) = .ok ((lookK l k).map vP) := by
  cases l with
  | nil => rfl
  | cons e l =>
    have := valN_kn (e :: l) k
    simp only [kn, MO.toP, dLook, show isTup (kP k) = true from rfl, if_true, nkey_kP, this]
theorem lookK_isSome (l : Kn) (k : Str × Nat) : (lookK l k).isSome = decide (k ∈ l.map (·.1)) := by
  simp only [lookK, Option.isSome_map]
  cases h : l.find? fun e => decide (e.1 = k) with
  | none =>
    rw [List.find?_eq_none] at h
    have : k ∉ l.map (·.1) := by
      intro q
      obtain ⟨e, he, rfl⟩ := List.mem_map.mp q
      exact h e he (by simp)
    simp [this]
  | some e =>
    have h1 := List.find?_some h
    have h2 := List.mem_of_find?_eq_some h
    have : k ∈ l.map (·.1) := by
      rw [← of_decide_eq_true h1]; exact List.mem_map_of_mem (f := (·.1)) h2
    simp [this]
theorem in_kn (l : Kn) (k : Str × Nat) : inP (kP k) (kn l).toP = .ok (decide (k ∈ l.map (·.1))) := by
  have : inP (kP k) (kn l).toP = (dLook (kn l).toP (kP k) >>= fun o => .ok o.isSome) := by cases l <;> rfl
  rw [this, look_kn, bind_ok, Option.isSome_map, lookK_isSome]
theorem ix_kn {l : Kn} {k : Str × Nat} {v : Option Int} (h : lookK l k = some v) : ixP (kn l).toP (kP k) = .ok (vP v) := by
  have : ixP (kn l).toP (kP k) = (dLook (kn l).toP (kP k) >>= fun o => R.of o) := by cases l <;> rfl
  rw [this, look_kn, h]; rfl
theorem put_kn {l : Kn} {k : Str × Nat} {v : Option Int} {j : Nat} {ρ : En} (h : ρ[j]? = some (some (.own (kn l)))) (hk : k ∉ l.map (·.1)) (hl : l.length < sizeLine) : putW (.ref j) (kP k) (vP v) ρ = .ok (ρ.set j (some (.own (kn (l ++ [(k, v)]))))) := by
  have : putMO (kn l) (kP k) (vP v) = .ok (kn (l ++ [(k, v)])) := by
    cases l with
    | nil => rfl
    | cons e l =>
      have hn : ((e :: l).map fun e => (kP e.1, vP e.2)).any (fun kv => decide (nkey kv.1 = some (kK k))) = false := by
        rw [List.any_eq_false]
        intro p hp
        obtain ⟨q, hq, rfl⟩ := List.mem_map.mp hp
        simp only [nkey_kP, Option.some.injEq, decide_eq_true_eq]
        intro e
        exact hk (by rw [← kK_inj.mp e]; exact List.mem_map_of_mem (f := (·.1)) hq)
      have h1 : ((e :: l).map fun e => (kP e.1, vP e.2)).length < sizeLine := by simpa using hl
      show dPut (.dn ((e :: l).map fun e => (kP e.1, vP e.2))) (kP k) (vP v) = _
      simp only [dPut, show isTup (kP k) = true from rfl, if_true, nkey_kP, chk_lt h1, bind_ok, putN, hn]
      simp [kn]
  simp only [putW, getOwn, h, bind_ok, this]
theorem put_kn_old {l : Kn} {k : Str × Nat} {v : Option Int} {j : Nat} {ρ : En} (h : ρ[j]? = some (some (.own (kn l)))) (hk : k ∈ l.map (·.1)) (hv : ∀ e ∈ l, e.1 = k → e.2 = v) (hl : l.length < sizeLine) : putW (.ref j) (kP k) (vP v) ρ = .ok (ρ.set j (some (.own (kn l)))) := by
  have : putMO (kn l) (kP k) (vP v) = .ok (kn l) := by
    cases l with
    | nil => cases hk
    | cons e l =>
      have hn : ((e :: l).map fun e => (kP e.1, vP e.2)).any (fun kv => decide (nkey kv.1 = some (kK k))) = true := by
        rw [List.any_eq_true]
        obtain ⟨q, hq, rfl⟩ := List.mem_map.mp hk
        exact ⟨_, List.mem_map_of_mem hq, by simp [nkey_kP]⟩
      have h1 : ((e :: l).map fun e => (kP e.1, vP e.2)).length < sizeLine := by simpa using hl
      show dPut (.dn ((e :: l).map fun e => (kP e.1, vP e.2))) (kP k) (vP v) = _
      simp only [dPut, show isTup (kP k) = true from rfl, if_true, nkey_kP, chk_lt h1, bind_ok, putN, hn]
      show R.ok (MO.dn _) = R.ok (MO.dn ((e :: l).map fun e => (kP e.1, vP e.2)))
      congr 2
      rw [List.map_map]
      refine List.map_congr_left fun q hq => ?_
      simp only [Function.comp, nkey_kP, Option.some.injEq, kK_inj]
      split
      · next h => rw [hv q hq h]
      · rfl
  simp only [putW, getOwn, h, bind_ok, this]
theorem lookK_mem {l : Kn} {k : Str × Nat} {V : Val} (h : ∀ e ∈ l, e.2 = V e.1.2 e.1.1) (hk : k ∈ l.map (·.1)) : lookK l k = some (V k.2 k.1) := by
  have := lookK_isSome l k
  rw [decide_eq_true hk] at this
  simp only [lookK, Option.isSome_map] at this
  obtain ⟨e, he⟩ := Option.isSome_iff_exists.mp this
  have h1 := List.find?_some he
  have h1 := of_decide_eq_true h1
  have h2 := List.mem_of_find?_eq_some he
  simp only [lookK, he, Option.map_some]
  rw [h e h2, h1]
/-- what was told is true -/
structure KnOk (N : Nt) (V : Val) (T t0 : Nat) (l : Kn) : Prop where
  v : ∀ e ∈ l, e.2 = V e.1.2 e.1.1
  nd : (l.map (·.1)).Nodup
  rng : ∀ e ∈ l, e.1.1 ∈ N.nm ∧ e.1.2 < T
  full : ∀ s, s < t0 → ∀ y ∈ N.nm, (y, s) ∈ l.map (·.1)
theorem KnOk.len {N : Nt} {V : Val} {T t0 : Nat} {l : Kn} (h : KnOk N V T t0 l) (hc : N.cells.length ≤ 30) (hT : T ≤ 1000) : l.length < sizeLine := by
  have := sub_len (b := (List.range T).flatMap fun t => N.nm.map fun x => (x, t)) h.nd fun k hk => by
    obtain ⟨e, he, rfl⟩ := List.mem_map.mp hk
    obtain ⟨h1, h2⟩ := h.rng e he
    exact List.mem_flatMap.mpr ⟨e.1.2, List.mem_range.mpr h2, List.mem_map.mpr ⟨e.1.1, h1, rfl⟩⟩
  have e : ((List.range T).flatMap fun t => N.nm.map fun x => (x, t)).length = T * N.cells.length := by
    rw [List.length_flatMap]
    simp [Nt.nm, List.map_const']
  rw [e] at this
  have h2 : T * N.cells.length ≤ 1000 * 30 := Nat.mul_le_mul hT hc
  rw [sizeLine_eq]
  simp at this
  omega
theorem KnOk.snoc {N : Nt} {V : Val} {T t0 : Nat} {l : Kn} (h : KnOk N V T t0 l) {k : Str × Nat} (hk : k ∉ l.map (·.1)) (h1 : k.1 ∈ N.nm) (h2 : k.2 < T) : KnOk N V T t0 (l ++ [(k, V k.2 k.1)]) := by
  refine ⟨?_, ?_, ?_, ?_⟩
  · intro e he
    rcases List.mem_append.mp he with he | he
    · exact h.v e he
    · simp at he; subst he; rfl
  · rw [List.map_append]
    exact List.nodup_append.mpr ⟨h.nd, by simp, fun a ha b hb e => by simp at hb; subst hb; subst e; exact hk ha⟩
  · intro e he
    rcases List.mem_append.mp he with he | he
    · exact h.rng e he
    · simp at he; subst he; exact ⟨h1, h2⟩
  · intro s hs y hy
    rw [List.map_append]; exact List.mem_append_left _ (h.full s hs y hy)
/-- shows' arguments -/
def aS (N : Nt) (rs : List Evt) (l : Kn) (q : P) (s : Nat) : List Sl := [.p N.toP, .own (.dk (dkP Fm.toP N.cells)), .p (.tup (rs.map evP)), .own (kn l), .p q, .p (.int (s : Int))]
/-- shows tells what it ought to -/
def Sh (N : Nt) (rs : List Evt) (V : Val) (t0 n : Nat) (q : Str) (s : Nat) : Prop := ∀ l, KnOk N V rs.length t0 l → Tri (cl n "shows" (aS N rs l (.str q) s)) fun r => ∃ l', r = (.p (vP (V s q)), aS N rs l' (.str q) s) ∧ KnOk N V rs.length t0 l' ∧ (∀ k ∈ l.map (·.1), k ∈ l'.map (·.1)) ∧ (q ∈ N.nm → (q, s) ∈ l'.map (·.1))
/-- told tells what it ought to -/
def To (N : Nt) (rs : List Evt) (V : Val) (t0 n : Nat) (f : Fm) : Prop := ∀ l, KnOk N V rs.length t0 l → Tri (cl n "told" (aS N rs l f.toP t0)) fun r => ∃ l', r = (.p (vP (f.sem V t0 N.z)), aS N rs l' f.toP t0) ∧ KnOk N V rs.length t0 l' ∧ (∀ k ∈ l.map (·.1), k ∈ l'.map (·.1))
section
variable {N : Nt} {rs : List Evt} {V : Val} {t0 : Nat} {ni nc nz : Nat}
theorem kF_kn {l : Kn} (q : P) (s : Nat) (np nl : Nat) (h1 : np = 6) (h2 : 6 ≤ nl) : R.chk (decide ((aS N rs l q s).length = np) && noSrefA (aS N rs l q s) && (aS N rs l q s).all flatSl && decide (np ≤ nl)) = .ok () := by
  subst h1
  have : (aS N rs l q s).all flatSl = true := by
    have h1 : flatSl (.own (kn l)) = true := kn_flat l
    simp only [aS, List.all_cons, h1, Bool.true_and]; rfl
  rw [this, decide_eq_true h2]; rfl
theorem t_shows_in (n : Nat) (hN : NtOk N ni nc nz) (hb : ni ≤ 10 ∧ nc ≤ 30) (hr : ∀ e ∈ rs, EvtOk N e) (q : Str) (hq : q ∈ N.ins) (s : Nat) (hs : s < rs.length) (hV : V s q = look (rs.getD s []) q) : Sh N rs V t0 (n + 1) q s := by
  intro l hl
  have hi := hN.i
  rw [ev_shows]
  refine tri_F ?_
  unfold kF
  refine tri_stp (kF_kn _ _ _ _ rfl (by decide)) ?_
  conv => arg 1; whnf
  refine tri_stp (co_inT q N.ins) ?_
  rw [decide_eq_true hq]
  have hev := hr _ (List.getElem_mem hs)
  have hevn : (rs[s].map (·.1)).Nodup := hev.s.nodup (List.nodup_append.mp hN.nd).1
  have hevl : rs[s].length ≤ 10 := by have := hev.s.length_le; simp at this; omega
  conv => arg 1; whnf
  refine tri_stp (ix_natT (d := evP rs[s]) (by simp [List.getElem?_eq_getElem hs])) ?_
  conv => arg 1; whnf
  refine tri_stp (bl_dict P.int rs[s] hevn (by omega)) ?_
  conv => arg 1; whnf
  refine tri_ret ?_
  refine ⟨l, ?_, hl, fun _ h => h, fun h => absurd rfl ((List.nodup_append.mp hN.nd).2.2 q hq q h)⟩
  have ev1 : (valP (dkP P.int rs[s]) (.inr q)).getD P.non = vP (V s q) := by
    rw [val_dk, hV, List.getD_eq_getElem?_getD, List.getElem?_eq_getElem hs]
    simp only [Option.getD_some]
    cases look rs[s] q <;> rfl
  rw [← ev1]
  rfl
theorem t_shows_kn (n : Nat) (hN : NtOk N ni nc nz) (q : Str) (hq : q ∈ N.nm) (s : Nat) (hs : s < t0) : Sh N rs V t0 (n + 1) q s := by
  intro l hl
  have hqi : q ∉ N.ins := fun h => (List.nodup_append.mp hN.nd).2.2 q h q hq rfl
  have hk := hl.full s hs q hq
  rw [ev_shows]
  refine tri_F ?_
  unfold kF
  refine tri_stp (kF_kn _ _ _ _ rfl (by decide)) ?_
  conv => arg 1; whnf
  refine tri_stp (co_inT q N.ins) ?_
  rw [decide_eq_false hqi]
  conv => arg 1; whnf
  refine tri_stp (peek_kn (l := l) rfl) ?_
  conv => arg 1; whnf
  refine tri_stp (co (cmp_notin (in_kn l (q, s)))) ?_
  rw [decide_eq_true hk]
  conv => arg 1; whnf
  refine tri_stp (peek_kn (l := l) rfl) ?_
  conv => arg 1; whnf
  refine tri_stp (ix_kn (k := (q, s)) (lookK_mem hl.v hk)) ?_
  conv => arg 1; whnf
  refine tri_ret ?_
  exact ⟨l, rfl, hl, fun _ h => h, fun _ => hk⟩
theorem t_shows_step (n : Nat) (hN : NtOk N ni nc nz) (hb : ni ≤ 10 ∧ nc ≤ 30) (hT : rs.length ≤ 1000) (ht : t0 < rs.length) (q : Str) (f : Fm) (hq : (q, f) ∈ N.cells) (hV : V t0 q = f.sem V t0 N.z) (h : To N rs V t0 n f) : Sh N rs V t0 (n + 1) q t0 := by
  intro l hl
  have hc := hN.c
  have hqn : q ∈ N.nm := List.mem_map_of_mem (f := (·.1)) hq
  have hqi : q ∉ N.ins := fun h => (List.nodup_append.mp hN.nd).2.2 q h q hqn rfl
  rw [ev_shows]
  refine tri_F ?_
  unfold kF
  refine tri_stp (kF_kn _ _ _ _ rfl (by decide)) ?_
  conv => arg 1; whnf
  refine tri_stp (co_inT q N.ins) ?_
  rw [decide_eq_false hqi]
  conv => arg 1; whnf
  refine tri_stp (peek_kn (l := l) rfl) ?_
  conv => arg 1; whnf
  refine tri_stp (co (cmp_notin (in_kn l (q, t0)))) ?_
  by_cases hk : (q, t0) ∈ l.map (·.1)
  · rw [decide_eq_true hk]
    conv => arg 1; whnf
    refine tri_stp (peek_kn (l := l) rfl) ?_
    conv => arg 1; whnf
    refine tri_stp (ix_kn (k := (q, t0)) (lookK_mem hl.v hk)) ?_
    conv => arg 1; whnf
    refine tri_ret ?_
    exact ⟨l, rfl, hl, fun _ h => h, fun _ => hk⟩
  · rw [decide_eq_false hk]
    conv => arg 1; whnf
    refine tri_stp (ix_dk Fm.toP (look_mem (List.nodup_append.mp hN.nd).2.1 hq)) ?_
    conv => arg 1; whnf
    refine tri_bind (h l hl) ?_
    rintro _ ⟨l', rfl, hl', hm⟩
    rw [← hV]
    by_cases hk' : (q, t0) ∈ l'.map (·.1)
    · conv => arg 1; whnf
      refine tri_stp (put_kn_old (k := (q, t0)) rfl hk' (fun e he h => by rw [hl'.v e he, h]) (hl'.len (by omega) hT)) ?_
      conv => arg 1; whnf
      refine tri_stp (peek_kn rfl) ?_
      conv => arg 1; whnf
      refine tri_stp (ix_kn (k := (q, t0)) (lookK_mem hl'.v hk')) ?_
      conv => arg 1; whnf
      refine tri_ret ?_
      exact ⟨l', rfl, hl', hm, fun _ => hk'⟩
    · conv => arg 1; whnf
      refine tri_stp (put_kn (k := (q, t0)) rfl hk' (hl'.len (by omega) hT)) ?_
      conv => arg 1; whnf
      refine tri_stp (peek_kn rfl) ?_
      have hl2 := hl'.snoc hk' hqn ht
      have hk2 : (q, t0) ∈ (l' ++ [((q, t0), V t0 q)]).map (·.1) := by simp
      conv => arg 1; whnf
      refine tri_stp (ix_kn (k := (q, t0)) (lookK_mem hl2.v hk2)) ?_
      conv => arg 1; whnf
      refine tri_ret ?_
      exact ⟨_, rfl, hl2, fun k hk => by rw [List.map_append]; exact List.mem_append_left _ (hm k hk), fun _ => hk2⟩
end
end Ev

namespace Ev
open PySem PySem.Spec PyProof.Rows L2
theorem vals_none {g : Nat → Option Int} {n m : Nat} (h : ∀ r, m ≤ r → r < n → g r = none) (hm : m ≤ n) : vals g n = vals g m := by
  induction n with
  | zero => rw [show m = 0 by omega]
  | succ n ih =>
    by_cases e : m = n + 1
    · rw [e]
    · rw [vals_succ, h n (by omega) (by omega), ih (fun r h1 h2 => h r h1 (by omega)) (by omega)]; simp
theorem lastV_some {g : Nat → Option Int} {n s : Nat} {v i : Int} (hv : g s = some v) (hs : s < n) (h : ∀ r, s < r → r < n → g r = none) : lastV (vals g n) i = v := by
  rw [vals_none (m := s + 1) (fun r h1 h2 => h r (by omega) h2) (by omega), vals_succ, hv]
  simp [lastV]
theorem lastV_none {g : Nat → Option Int} {n : Nat} {i : Int} (h : ∀ r, r < n → g r = none) : lastV (vals g n) i = i := by
  rw [vals_none (m := 0) (fun r _ h2 => h r h2) (by omega)]; rfl
section
variable {N : Nt} {rs : List Evt} {V : Val} {t0 : Nat} {ni nc nz : Nat}
/-- a def of the same shape as told -/
def Td (N : Nt) (rs : List Evt) (V : Val) (t0 n : Nat) (d : Str) (f : Fm) : Prop := ∀ l, KnOk N V rs.length t0 l → Tri (cl n d (aS N rs l f.toP t0)) fun r => ∃ l', r = (.p (vP (f.sem V t0 N.z)), aS N rs l' f.toP t0) ∧ KnOk N V rs.length t0 l' ∧ (∀ k ∈ l.map (·.1), k ∈ l'.map (·.1))
theorem t_held (n : Nat) (x : Str) (i : Int) (hT : rs.length ≤ 1000) (ht : t0 < rs.length) (hS : ∀ s, s < t0 + 1 → Sh N rs V t0 n x s) : Td N rs V t0 (n + 1) "remembered" (.held x i) := by
  intro l0 hl0
  rw [ev_remembered]
  refine tri_F ?_
  unfold kF
  refine tri_stp (kF_kn _ _ _ _ rfl (by decide)) ?_
  repeat (conv => arg 1; whnf
          first
          | (refine tri_stp (co (r := false) ?_) ?_; focus ((try dsimp only); decide +kernel))
          | (refine tri_stp (co (r := true) ?_) ?_; focus ((try dsimp only); decide +kernel)))
  conv => arg 1; whnf
  refine tri_whl (fun m ρ => ∃ (l : Kn) (i0 : Int) (j7 : Option P), ρ = [some (.p N.toP), some (.own (.dk (dkP Fm.toP N.cells))), some (.p (.tup (rs.map evP))), some (.own (kn l)), some (.p (Fm.held x i).toP), some (.p (.int (t0 : Int))), some (.p (.int i0)), jk j7] ∧ i0 + 1 = m ∧ m ≤ t0 + 1 ∧ KnOk N V rs.length t0 l ∧ (∀ k ∈ l0.map (·.1), k ∈ l.map (·.1)) ∧ ∀ r, m ≤ r → r < t0 + 1 → V r x = none)
    (fun ρ => ∃ (l : Kn) (i0 : Int) (j7 : Option P), ρ = [some (.p N.toP), some (.own (.dk (dkP Fm.toP N.cells))), some (.p (.tup (rs.map evP))), some (.own (kn l)), some (.p (Fm.held x i).toP), some (.p (.int (t0 : Int))), some (.p (.int i0)), jk j7] ∧ KnOk N V rs.length t0 l ∧ (∀ k ∈ l0.map (·.1), k ∈ l.map (·.1)) ∧ lastV (vals (V · x) (t0 + 1)) i = i)
    (fun w ρ => ∃ (l : Kn) (i0 : Int) (j7 : Option P), ρ = [some (.p N.toP), some (.own (.dk (dkP Fm.toP N.cells))), some (.p (.tup (rs.map evP))), some (.own (kn l)), some (.p (Fm.held x i).toP), some (.p (.int (t0 : Int))), some (.p (.int i0)), jk j7] ∧ KnOk N V rs.length t0 l ∧ (∀ k ∈ l0.map (·.1), k ∈ l.map (·.1)) ∧ w = .p (.int (lastV (vals (V · x) (t0 + 1)) i)))
    (t0 + 1) (by omega) ⟨l0, _, none, rfl, by omega, by omega, hl0, fun k hk => hk, fun r h1 h2 => by omega⟩ ?_ ?_ ?_
  · rintro m ρ ⟨l, i0, j7, rfl, hi, hms, hl, hmo, hno⟩
    conv => arg 1; whnf
    refine tri_stp (co_ge _ _) ?_
    conv => arg 1; whnf
    refine tri_if (fun h => ?_) (fun h => ?_)
    · have h := of_decide_eq_true h
      obtain ⟨s, rfl⟩ : ∃ s : Nat, i0 = s := ⟨i0.toNat, by omega⟩
      conv => arg 1; whnf
      refine tri_bind (hS s (by omega) l hl) ?_
      rintro _ ⟨l2, rfl, hl2, hmo2, _⟩
      conv => arg 1; whnf
      refine tri_stp (bs_p (by (try simp only [List.set_cons_zero, List.set_cons_succ, List.set_nil]); simp only [ns_jk, ns_p, ns_own, ns_rd, ns_none, ns_nil]) rfl (by simp)) ?_
      conv => arg 1; whnf
      refine tri_stp (isn_v _) ?_
      cases hv : V s x with
      | some v =>
        conv => arg 1; whnf
        refine tri_ret ?_
        refine .inr (.inr (.inr ⟨_, rfl, l2, s, some (.int v), rfl, hl2, fun k hk => hmo2 k (hmo k hk), ?_⟩))
        rw [lastV_some hv (by omega) fun r h1 h2 => hno r (by omega) h2]
        rfl
      | none =>
        conv => arg 1; whnf
        refine tri_ret ?_
        refine .inr (.inl ⟨.inl rfl, m - 1, by omega, l2, (s : Int) - 1, some .non, rfl, by omega, by omega, hl2, fun k hk => hmo2 k (hmo k hk), fun r h1 h2 => ?_⟩)
        by_cases e : r = s
        · subst e; exact hv
        · exact hno r (by omega) h2
    · have h := of_decide_eq_false h
      conv => arg 1; whnf
      refine tri_ret ?_
      exact .inl ⟨rfl, l, i0, j7, rfl, hl, hmo, lastV_none fun r hr => hno r (by omega) hr⟩
  · rintro _ ⟨l, i0, j7, rfl, hl, hmo, hlv⟩
    conv => arg 1; whnf
    refine tri_ret ?_
    refine ⟨l, ?_, hl, hmo⟩
    simp only [Fm.sem, hlv]
    rfl
  · rintro _ _ ⟨l, i0, j7, rfl, hl, hmo, rfl⟩
    conv => arg 1; whnf
    refine tri_ret ?_
    refine ⟨l, ?_, hl, hmo⟩
    simp only [Fm.sem]; rfl
theorem t_before (n : Nat) (x : Str) (i : Int) (hT : rs.length ≤ 1000) (ht : t0 < rs.length) (hS : ∀ s, s < t0 + 1 → Sh N rs V t0 n x s) : Td N rs V t0 (n + 1) "remembered" (.before x i) := by
  intro l0 hl0
  rw [ev_remembered]
  refine tri_F ?_
  unfold kF
  refine tri_stp (kF_kn _ _ _ _ rfl (by decide)) ?_
  repeat (conv => arg 1; whnf
          first
          | (refine tri_stp (co (r := false) ?_) ?_; focus ((try dsimp only); decide +kernel))
          | (refine tri_stp (co (r := true) ?_) ?_; focus ((try dsimp only); decide +kernel)))
  conv => arg 1; whnf
  refine tri_bind (hS t0 (by omega) l0 hl0) ?_
  rintro _ ⟨l1, rfl, hl1, hmo1, _⟩
  conv => arg 1; whnf
  refine tri_stp (isn_v _) ?_
  cases hv0 : V t0 x with
  | none =>
    conv => arg 1; whnf
    refine tri_ret ?_
    refine ⟨l1, ?_, hl1, hmo1⟩
    simp only [Fm.sem, hv0, if_true]; rfl
  | some v0 =>
    repeat (conv => arg 1; whnf
            first
            | (refine tri_stp (co (r := false) ?_) ?_; focus ((try dsimp only); decide +kernel))
            | (refine tri_stp (co (r := true) ?_) ?_; focus ((try dsimp only); decide +kernel)))
    conv => arg 1; whnf
    refine tri_whl (fun m ρ => ∃ (l : Kn) (i0 : Int) (j7 : Option P), ρ = [some (.p N.toP), some (.own (.dk (dkP Fm.toP N.cells))), some (.p (.tup (rs.map evP))), some (.own (kn l)), some (.p (Fm.before x i).toP), some (.p (.int (t0 : Int))), some (.p (.int i0)), jk j7] ∧ i0 + 1 = m ∧ m ≤ t0 ∧ KnOk N V rs.length t0 l ∧ (∀ k ∈ l0.map (·.1), k ∈ l.map (·.1)) ∧ ∀ r, m ≤ r → r < t0 → V r x = none)
      (fun ρ => ∃ (l : Kn) (i0 : Int) (j7 : Option P), ρ = [some (.p N.toP), some (.own (.dk (dkP Fm.toP N.cells))), some (.p (.tup (rs.map evP))), some (.own (kn l)), some (.p (Fm.before x i).toP), some (.p (.int (t0 : Int))), some (.p (.int i0)), jk j7] ∧ KnOk N V rs.length t0 l ∧ (∀ k ∈ l0.map (·.1), k ∈ l.map (·.1)) ∧ lastV (vals (V · x) (t0)) i = i)
      (fun w ρ => ∃ (l : Kn) (i0 : Int) (j7 : Option P), ρ = [some (.p N.toP), some (.own (.dk (dkP Fm.toP N.cells))), some (.p (.tup (rs.map evP))), some (.own (kn l)), some (.p (Fm.before x i).toP), some (.p (.int (t0 : Int))), some (.p (.int i0)), jk j7] ∧ KnOk N V rs.length t0 l ∧ (∀ k ∈ l0.map (·.1), k ∈ l.map (·.1)) ∧ w = .p (.int (lastV (vals (V · x) (t0)) i)))
      (t0) (by omega) ⟨l1, _, none, rfl, by omega, by omega, hl1, hmo1, fun r h1 h2 => by omega⟩ ?_ ?_ ?_
    · rintro m ρ ⟨l, i0, j7, rfl, hi, hms, hl, hmo, hno⟩
      conv => arg 1; whnf
      refine tri_stp (co_ge _ _) ?_
      conv => arg 1; whnf
      refine tri_if (fun h => ?_) (fun h => ?_)
      · have h := of_decide_eq_true h
        obtain ⟨s, rfl⟩ : ∃ s : Nat, i0 = s := ⟨i0.toNat, by omega⟩
        conv => arg 1; whnf
        refine tri_bind (hS s (by omega) l hl) ?_
        rintro _ ⟨l2, rfl, hl2, hmo2, _⟩
        conv => arg 1; whnf
        refine tri_stp (bs_p (by (try simp only [List.set_cons_zero, List.set_cons_succ, List.set_nil]); simp only [ns_jk, ns_p, ns_own, ns_rd, ns_none, ns_nil]) rfl (by simp)) ?_
        conv => arg 1; whnf
        refine tri_stp (isn_v _) ?_
        cases hv : V s x with
        | some v =>
          conv => arg 1; whnf
          refine tri_ret ?_
          refine .inr (.inr (.inr ⟨_, rfl, l2, s, some (.int v), rfl, hl2, fun k hk => hmo2 k (hmo k hk), ?_⟩))
          rw [lastV_some hv (by omega) fun r h1 h2 => hno r (by omega) h2]
          rfl
        | none =>
          conv => arg 1; whnf
          refine tri_ret ?_
          refine .inr (.inl ⟨.inl rfl, m - 1, by omega, l2, (s : Int) - 1, some .non, rfl, by omega, by omega, hl2, fun k hk => hmo2 k (hmo k hk), fun r h1 h2 => ?_⟩)
          by_cases e : r = s
          · subst e; exact hv
          · exact hno r (by omega) h2
      · have h := of_decide_eq_false h
        conv => arg 1; whnf
        refine tri_ret ?_
        exact .inl ⟨rfl, l, i0, j7, rfl, hl, hmo, lastV_none fun r hr => hno r (by omega) hr⟩
    · rintro _ ⟨l, i0, j7, rfl, hl, hmo, hlv⟩
      conv => arg 1; whnf
      refine tri_ret ?_
      refine ⟨l, ?_, hl, hmo⟩
      simp only [Fm.sem, hlv, hv0]
      rfl
    · rintro _ _ ⟨l, i0, j7, rfl, hl, hmo, rfl⟩
      conv => arg 1; whnf
      refine tri_ret ?_
      refine ⟨l, ?_, hl, hmo⟩
      simp only [Fm.sem, hv0]; rfl
end
end Ev

namespace Ev
open PySem PySem.Spec PyProof.Rows L2
theorem vals_len (g : Nat → Option Int) (n : Nat) : (vals g n).length ≤ n := by
  have := List.length_filterMap_le g (List.range n)
  simpa [vals] using this
theorem minE (a b : Nat) : (if (b : Int) < a then (b : Int) else a) = (min a b : Nat) := by split <;> omega
theorem minI (A C : List Int) : (if ((C.map P.int).length : Int) < ((A.map P.int).length : Int) then ((C.map P.int).length : Int) else ((A.map P.int).length : Int)) = (min A.length C.length : Nat) := by rw [minE]; simp
section
variable {N : Nt} {rs : List Evt} {V : Val} {t0 : Nat} {ni nc nz : Nat}
/-- what was counted ahead -/
def ahd (V : Val) (x y : Str) : Nat → Nat
  | 0 => 0
  | k + 1 => min (vals (V · x) k).length (vals (V · y) k).length
theorem t_matched (n : Nat) (o : Bop) (x y : Str) (hz : 2 ≤ N.z ∧ N.z ≤ 1000) (hT : rs.length ≤ 1000) (ht : t0 < rs.length) (hSx : ∀ s, s < t0 + 1 → Sh N rs V t0 (n + 1) x s) (hSy : ∀ s, s < t0 + 1 → Sh N rs V t0 (n + 1) y s) (hVx : ∀ s, s < t0 + 1 → VOk N.z (V s x)) : Td N rs V t0 (n + 2) "matched" (.mat o x y) := by
  intro l0 hl0
  rw [ev_matched]
  refine tri_F ?_
  unfold kF
  refine tri_stp (kF_kn _ _ _ _ rfl (by decide)) ?_
  conv => arg 1; whnf
  refine tri_for (enc := enI) (List.range (t0 + 1)) (fun pre ρ => ∃ (l : Kn) (j7 j13 : Option P), ρ = [some (.p N.toP), some (.own (.dk (dkP Fm.toP N.cells))), some (.p (.tup (rs.map evP))), some (.own (kn l)), some (.p (Fm.mat o x y).toP), some (.p (.int (t0 : Int))), some (.p (.int (ahd V x y pre.length : Nat))), jk j7, none, some (.own (.lst ((vals (V · x) pre.length).map .int))), some (.own (.lst ((vals (V · y) pre.length).map .int))), none, none, jk j13] ∧ KnOk N V rs.length t0 l ∧ ∀ k ∈ l0.map (·.1), k ∈ l.map (·.1))
    (ws := [.p (.int ((t0 : Int) + 1))]) (by kernel_rfl) (it_rng1' (k := t0 + 1) (by omega) (by omega)) ⟨l0, none, none, rfl, hl0, fun k hk => hk⟩ ?_ ?_
  · rintro pre k post ρ e ⟨l, j7, j13, rfl, hl, hmo⟩
    obtain ⟨rfl, hk⟩ := rng_at e
    rw [show (pre ++ [pre.length]).length = pre.length + 1 by simp]
    generalize pre.length = k at hk
    have hlx := vals_len (V · x) k
    have hly := vals_len (V · y) k
    simp only [vals_succ]
    rw [show ahd V x y (k + 1) = min (vals (V · x) k).length (vals (V · y) k).length from rfl]
    generalize ahd V x y k = ah
    generalize vals (V · x) k = A at hlx
    generalize vals (V · y) k = C at hly
    conv => arg 1; whnf
    refine tri_stp (bt_1 (by (try simp only [List.set_cons_zero, List.set_cons_succ, List.set_nil]); simp only [ns_jk, ns_p, ns_own, ns_rd, ns_none, ns_nil]) rfl (by simp)) ?_
    conv => arg 1; whnf
    rw [minI]
    conv => arg 1; whnf
    refine tri_stp (bs_p (by (try simp only [List.set_cons_zero, List.set_cons_succ, List.set_nil]); simp only [ns_jk, ns_p, ns_own, ns_rd, ns_none, ns_nil]) rfl (by simp)) ?_
    conv => arg 1; whnf
    refine tri_tt ?_
    cases j13 with
    | none =>
      conv => arg 1; whnf
      refine tri_bind (hSx k hk l hl) ?_
      rintro _ ⟨l1, rfl, hl1, hmo1, _⟩
      conv => arg 1; whnf
      refine tri_stp (isn_v _) ?_
      have hm1 := fun q hq => hmo1 q (hmo q hq)
      cases hvx : V k x with
      | none =>
        conv => arg 1; whnf
        refine tri_bind (hSy k hk l1 hl1) ?_
        rintro _ ⟨l2, rfl, hl2, hmo2, _⟩
        conv => arg 1; whnf
        refine tri_stp (isn_v _) ?_
        have hm2 := fun q hq => hmo2 q (hm1 q hq)
        cases hvy : V k y with
        | none =>
          conv => arg 1; whnf
          refine tri_ret ?_
          refine ⟨.inl rfl, l2, some (.int k), some .non, ?_, hl2, hm2⟩
          simp only [Option.toList_some, Option.toList_none, List.append_nil, List.map_append, List.map_cons, List.map_nil]
          rfl
        | some b =>
          conv => arg 1; whnf
          refine tri_stp (app_ok rfl (by rw [sizeLine_eq]; simp; omega)) ?_
          conv => arg 1; whnf
          refine tri_ret ?_
          refine ⟨.inl rfl, l2, some (.int k), some (.int b), ?_, hl2, hm2⟩
          simp only [Option.toList_some, Option.toList_none, List.append_nil, List.map_append, List.map_cons, List.map_nil]
          rfl
      | some a =>
        conv => arg 1; whnf
        refine tri_stp (app_ok rfl (by rw [sizeLine_eq]; simp; omega)) ?_
        conv => arg 1; whnf
        refine tri_bind (hSy k hk l1 hl1) ?_
        rintro _ ⟨l2, rfl, hl2, hmo2, _⟩
        conv => arg 1; whnf
        refine tri_stp (isn_v _) ?_
        have hm2 := fun q hq => hmo2 q (hm1 q hq)
        cases hvy : V k y with
        | none =>
          conv => arg 1; whnf
          refine tri_ret ?_
          refine ⟨.inl rfl, l2, some (.int k), some .non, ?_, hl2, hm2⟩
          simp only [Option.toList_some, Option.toList_none, List.append_nil, List.map_append, List.map_cons, List.map_nil]
          rfl
        | some b =>
          conv => arg 1; whnf
          refine tri_stp (app_ok rfl (by rw [sizeLine_eq]; simp; omega)) ?_
          conv => arg 1; whnf
          refine tri_ret ?_
          refine ⟨.inl rfl, l2, some (.int k), some (.int b), ?_, hl2, hm2⟩
          simp only [Option.toList_some, Option.toList_none, List.append_nil, List.map_append, List.map_cons, List.map_nil]
          rfl
    | some j13 =>
      conv => arg 1; whnf
      refine tri_bind (hSx k hk l hl) ?_
      rintro _ ⟨l1, rfl, hl1, hmo1, _⟩
      conv => arg 1; whnf
      refine tri_stp (isn_v _) ?_
      have hm1 := fun q hq => hmo1 q (hmo q hq)
      cases hvx : V k x with
      | none =>
        conv => arg 1; whnf
        refine tri_bind (hSy k hk l1 hl1) ?_
        rintro _ ⟨l2, rfl, hl2, hmo2, _⟩
        conv => arg 1; whnf
        refine tri_stp (isn_v _) ?_
        have hm2 := fun q hq => hmo2 q (hm1 q hq)
        cases hvy : V k y with
        | none =>
          conv => arg 1; whnf
          refine tri_ret ?_
          refine ⟨.inl rfl, l2, some (.int k), some .non, ?_, hl2, hm2⟩
          simp only [Option.toList_some, Option.toList_none, List.append_nil, List.map_append, List.map_cons, List.map_nil]
          rfl
        | some b =>
          conv => arg 1; whnf
          refine tri_stp (app_ok rfl (by rw [sizeLine_eq]; simp; omega)) ?_
          conv => arg 1; whnf
          refine tri_ret ?_
          refine ⟨.inl rfl, l2, some (.int k), some (.int b), ?_, hl2, hm2⟩
          simp only [Option.toList_some, Option.toList_none, List.append_nil, List.map_append, List.map_cons, List.map_nil]
          rfl
      | some a =>
        conv => arg 1; whnf
        refine tri_stp (app_ok rfl (by rw [sizeLine_eq]; simp; omega)) ?_
        conv => arg 1; whnf
        refine tri_bind (hSy k hk l1 hl1) ?_
        rintro _ ⟨l2, rfl, hl2, hmo2, _⟩
        conv => arg 1; whnf
        refine tri_stp (isn_v _) ?_
        have hm2 := fun q hq => hmo2 q (hm1 q hq)
        cases hvy : V k y with
        | none =>
          conv => arg 1; whnf
          refine tri_ret ?_
          refine ⟨.inl rfl, l2, some (.int k), some .non, ?_, hl2, hm2⟩
          simp only [Option.toList_some, Option.toList_none, List.append_nil, List.map_append, List.map_cons, List.map_nil]
          rfl
        | some b =>
          conv => arg 1; whnf
          refine tri_stp (app_ok rfl (by rw [sizeLine_eq]; simp; omega)) ?_
          conv => arg 1; whnf
          refine tri_ret ?_
          refine ⟨.inl rfl, l2, some (.int k), some (.int b), ?_, hl2, hm2⟩
          simp only [Option.toList_some, Option.toList_none, List.append_nil, List.map_append, List.map_cons, List.map_nil]
          rfl
  · rintro _ ⟨l, j7, j13, rfl, hl, hmo⟩
    simp only [List.length_range]
    have hA := vals_ok (z := (N.z : Int)) fun s hs => hVx s hs
    have hsem : (Fm.mat o x y).sem V t0 N.z = matV o (vals (V · x) t0) (vals (V · y) t0) (vals (V · x) (t0 + 1)) (vals (V · y) (t0 + 1)) N.z := rfl
    rw [hsem]
    rw [show ahd V x y (t0 + 1) = min (vals (V · x) t0).length (vals (V · y) t0).length from rfl]
    generalize vals (V · x) t0 = A
    generalize vals (V · y) t0 = C
    generalize vals (V · x) (t0 + 1) = A1 at hA
    generalize vals (V · y) (t0 + 1) = C1
    conv => arg 1; whnf
    rw [minI]
    conv => arg 1; whnf
    refine tri_stp (bs_p (by (try simp only [List.set_cons_zero, List.set_cons_succ, List.set_nil]); simp only [ns_jk, ns_p, ns_own, ns_rd, ns_none, ns_nil]) rfl (by simp)) ?_
    conv => arg 1; whnf
    refine tri_stp (co_gt _ _) ?_
    conv => arg 1; whnf
    refine tri_if (fun h => ?_) (fun h => ?_)
    · have h : min A.length C.length < min A1.length C1.length := by have := of_decide_eq_true h; omega
      have e1 : ∀ (D : List Int), min A1.length C1.length ≤ D.length → ixP (.lst (D.map .int)) (.int ((min A1.length C1.length : Nat) - 1 : Int)) = .ok (.int (D.getD (min A1.length C1.length - 1) 0)) := by
        intro D hD
        rw [show (((min A1.length C1.length : Nat) : Int) - 1) = ((min A1.length C1.length - 1 : Nat) : Int) by omega]
        refine ix_nat ?_
        have : min A1.length C1.length - 1 < D.length := by omega
        simp [List.getElem?_eq_getElem this]
      conv => arg 1; whnf
      refine tri_stp (e1 A1 (by omega)) ?_
      conv => arg 1; whnf
      refine tri_stp (e1 C1 (by omega)) ?_
      have hg := getD_ok hA (k := min A1.length C1.length - 1) (by omega)
      conv => arg 1; whnf
      refine tri_stp (paired _ o _ _ N.z (by omega) (by omega)) ?_
      conv => arg 1; whnf
      refine tri_ret ?_
      refine ⟨l, ?_, hl, hmo⟩
      simp only [matV, if_pos h]
      rfl
    · have h : ¬ min A.length C.length < min A1.length C1.length := by have := of_decide_eq_false h; omega
      conv => arg 1; whnf
      refine tri_ret ?_
      refine ⟨l, ?_, hl, hmo⟩
      simp only [matV, if_neg h]
      rfl
/-- told, all forms -/
theorem t_told (n : Nat) (f : Fm) (hz : 2 ≤ N.z ∧ N.z ≤ 1000) (hf : f.okz N.z) (hT : rs.length ≤ 1000) (ht : t0 < rs.length) (hS : ∀ s, s ≤ t0 → (s = t0 → f.isLate = false) → ∀ q ∈ f.ns, (∀ m, n + 2 ≤ m → Sh N rs V t0 m q s) ∧ VOk N.z (V s q)) : Td N rs V t0 (n + 4) "told" f := by
  intro l0 hl0
  have hz2 : 2 ≤ (N.z : Int) ∧ (N.z : Int) ≤ 1000 := by omega
  have hS2 : ∀ s, s ≤ t0 → (s = t0 → f.isLate = false) → ∀ q ∈ f.ns, Sh N rs V t0 (n + 2) q s := fun s h1 h2 q hq => (hS s h1 h2 q hq).1 _ (Nat.le_refl _)
  have hS3 : ∀ s, s ≤ t0 → (s = t0 → f.isLate = false) → ∀ q ∈ f.ns, Sh N rs V t0 (n + 3) q s := fun s h1 h2 q hq => (hS s h1 h2 q hq).1 _ (by omega)
  cases f with
  | late x v =>
    rw [ev_told]
    refine tri_F ?_
    unfold kF
    refine tri_stp (kF_kn _ _ _ _ rfl (by decide)) ?_
    repeat (conv => arg 1; whnf
            first
            | (refine tri_stp (co (r := false) ?_) ?_; focus ((try dsimp only); decide +kernel))
            | (refine tri_stp (co (r := true) ?_) ?_; focus ((try dsimp only); decide +kernel)))
    conv => arg 1; whnf
    refine tri_stp (co_eq _ _) ?_
    conv => arg 1; whnf
    refine tri_if (fun h => ?_) (fun h => ?_)
    · have h : t0 = 0 := by have := of_decide_eq_true h; omega
      conv => arg 1; whnf
      refine tri_ret ?_
      refine ⟨l0, ?_, hl0, fun k hk => hk⟩
      simp only [Fm.sem, if_pos h]; rfl
    · have h : t0 ≠ 0 := by have := of_decide_eq_false h; omega
      have hSx := hS3 (t0 - 1) (by omega) (fun e => by omega) x (by simp [Fm.ns])
      conv => arg 1; whnf
      rw [show ((t0 : Int) - 1) = ((t0 - 1 : Nat) : Int) by omega]
      conv => arg 1; whnf
      refine tri_bind (hSx l0 hl0) ?_
      rintro _ ⟨l1, rfl, hl1, hmo1, _⟩
      conv => arg 1; whnf
      refine tri_ret ?_
      refine ⟨l1, ?_, hl1, hmo1⟩
      simp only [Fm.sem, if_neg h]; rfl
  | held x i =>
    rw [ev_told]
    refine tri_F ?_
    unfold kF
    refine tri_stp (kF_kn _ _ _ _ rfl (by decide)) ?_
    repeat (conv => arg 1; whnf
            first
            | (refine tri_stp (co (r := false) ?_) ?_; focus ((try dsimp only); decide +kernel))
            | (refine tri_stp (co (r := true) ?_) ?_; focus ((try dsimp only); decide +kernel)))
    conv => arg 1; whnf
    refine tri_bind (t_held _ x i hT ht (fun s hs => hS2 s (by omega) (fun _ => rfl) x (by simp [Fm.ns])) l0 hl0) ?_
    rintro _ ⟨l1, rfl, hl1, hmo1⟩
    conv => arg 1; whnf
    refine tri_ret ?_
    exact ⟨l1, rfl, hl1, hmo1⟩
  | before x i =>
    rw [ev_told]
    refine tri_F ?_
    unfold kF
    refine tri_stp (kF_kn _ _ _ _ rfl (by decide)) ?_
    repeat (conv => arg 1; whnf
            first
            | (refine tri_stp (co (r := false) ?_) ?_; focus ((try dsimp only); decide +kernel))
            | (refine tri_stp (co (r := true) ?_) ?_; focus ((try dsimp only); decide +kernel)))
    conv => arg 1; whnf
    refine tri_bind (t_before _ x i hT ht (fun s hs => hS2 s (by omega) (fun _ => rfl) x (by simp [Fm.ns])) l0 hl0) ?_
    rintro _ ⟨l1, rfl, hl1, hmo1⟩
    conv => arg 1; whnf
    refine tri_ret ?_
    exact ⟨l1, rfl, hl1, hmo1⟩
  | mat o x y =>
    rw [ev_told]
    refine tri_F ?_
    unfold kF
    refine tri_stp (kF_kn _ _ _ _ rfl (by decide)) ?_
    repeat (conv => arg 1; whnf
            first
            | (refine tri_stp (co (r := false) ?_) ?_; focus ((try dsimp only); decide +kernel))
            | (refine tri_stp (co (r := true) ?_) ?_; focus ((try dsimp only); decide +kernel)))
    conv => arg 1; whnf
    refine tri_bind (t_matched _ o x y hz hT ht (fun s hs => hS2 s (by omega) (fun _ => rfl) x (by simp [Fm.ns])) (fun s hs => hS2 s (by omega) (fun _ => rfl) y (by simp [Fm.ns])) (fun s hs => (hS s (by omega) (fun _ => rfl) x (by simp [Fm.ns])).2) l0 hl0) ?_
    rintro _ ⟨l1, rfl, hl1, hmo1⟩
    conv => arg 1; whnf
    refine tri_ret ?_
    exact ⟨l1, rfl, hl1, hmo1⟩
  | worth i =>
    rw [ev_told]
    refine tri_F ?_
    unfold kF
    refine tri_stp (kF_kn _ _ _ _ rfl (by decide)) ?_
    repeat (conv => arg 1; whnf
            first
            | (refine tri_stp (co (r := false) ?_) ?_; focus ((try dsimp only); decide +kernel))
            | (refine tri_stp (co (r := true) ?_) ?_; focus ((try dsimp only); decide +kernel)))
    refine tri_lc (enc := P.str) (Fm.worth i).ns (fun (l : Kn) => [some (.p N.toP), some (.own (.dk (dkP Fm.toP N.cells))), some (.p (.tup (rs.map evP))), some (.own (kn l)), some (.p (Fm.worth i).toP), some (.p (.int (t0 : Int))), some (.p (sP "worth")), none])
      (fun pre ds l => KnOk N V rs.length t0 l ∧ (∀ k ∈ l0.map (·.1), k ∈ l.map (·.1)) ∧ ds = pre.map fun q => vP (V t0 q)) l0
      (ws := [.p (.tup ((Fm.worth i).ns.map .str))]) (by refine kEs_run (tri_eq ?_); (conv => arg 1; whnf); refine tri_stp (names_in _ (Fm.worth i)) ?_; (conv => arg 1; whnf); exact tri_ret rfl) rfl rfl (by have := ns_len (Fm.worth i); rw [sizeLine_eq]; omega) rfl ⟨hl0, fun k hk => hk, rfl⟩ ?_ ?_
    · rintro pre q post ds l e ⟨hl, hmo, rfl⟩
      have hq : q ∈ (Fm.worth i).ns := by rw [e]; simp
      conv => arg 1; whnf
      refine tri_bind (hS3 t0 (Nat.le_refl _) (fun _ => rfl) q hq l hl) ?_
      rintro _ ⟨l1, rfl, hl1, hmo1, _⟩
      conv => arg 1; whnf
      refine tri_ret ?_
      exact ⟨some (vP (V t0 q)), l1, rfl, hl1, fun k hk => hmo1 k (hmo k hk), by simp⟩
    · rintro ds l ⟨hl, hmo, rfl⟩
      rw [show (Fm.worth i).ns.map (fun q => vP (V t0 q)) = ((Fm.worth i).ns.map (V t0)).map vP by simp]
      conv => arg 1; whnf
      refine tri_stp (p_shown _ (Fm.worth i) ((Fm.worth i).ns.map (V t0)) N.z hz2 rfl hf (by simp) (fun v hv => by obtain ⟨q, hq, rfl⟩ := List.mem_map.mp hv; exact (hS t0 (Nat.le_refl _) (fun _ => rfl) q hq).2)) ?_
      conv => arg 1; whnf
      refine tri_ret ?_
      exact ⟨l, rfl, hl, hmo⟩
  | copy x =>
    rw [ev_told]
    refine tri_F ?_
    unfold kF
    refine tri_stp (kF_kn _ _ _ _ rfl (by decide)) ?_
    repeat (conv => arg 1; whnf
            first
            | (refine tri_stp (co (r := false) ?_) ?_; focus ((try dsimp only); decide +kernel))
            | (refine tri_stp (co (r := true) ?_) ?_; focus ((try dsimp only); decide +kernel)))
    refine tri_lc (enc := P.str) (Fm.copy x).ns (fun (l : Kn) => [some (.p N.toP), some (.own (.dk (dkP Fm.toP N.cells))), some (.p (.tup (rs.map evP))), some (.own (kn l)), some (.p (Fm.copy x).toP), some (.p (.int (t0 : Int))), some (.p (sP "copy")), none])
      (fun pre ds l => KnOk N V rs.length t0 l ∧ (∀ k ∈ l0.map (·.1), k ∈ l.map (·.1)) ∧ ds = pre.map fun q => vP (V t0 q)) l0
      (ws := [.p (.tup ((Fm.copy x).ns.map .str))]) (by refine kEs_run (tri_eq ?_); (conv => arg 1; whnf); refine tri_stp (names_in _ (Fm.copy x)) ?_; (conv => arg 1; whnf); exact tri_ret rfl) rfl rfl (by have := ns_len (Fm.copy x); rw [sizeLine_eq]; omega) rfl ⟨hl0, fun k hk => hk, rfl⟩ ?_ ?_
    · rintro pre q post ds l e ⟨hl, hmo, rfl⟩
      have hq : q ∈ (Fm.copy x).ns := by rw [e]; simp
      conv => arg 1; whnf
      refine tri_bind (hS3 t0 (Nat.le_refl _) (fun _ => rfl) q hq l hl) ?_
      rintro _ ⟨l1, rfl, hl1, hmo1, _⟩
      conv => arg 1; whnf
      refine tri_ret ?_
      exact ⟨some (vP (V t0 q)), l1, rfl, hl1, fun k hk => hmo1 k (hmo k hk), by simp⟩
    · rintro ds l ⟨hl, hmo, rfl⟩
      rw [show (Fm.copy x).ns.map (fun q => vP (V t0 q)) = ((Fm.copy x).ns.map (V t0)).map vP by simp]
      conv => arg 1; whnf
      refine tri_stp (p_shown _ (Fm.copy x) ((Fm.copy x).ns.map (V t0)) N.z hz2 rfl hf (by simp) (fun v hv => by obtain ⟨q, hq, rfl⟩ := List.mem_map.mp hv; exact (hS t0 (Nat.le_refl _) (fun _ => rfl) q hq).2)) ?_
      conv => arg 1; whnf
      refine tri_ret ?_
      exact ⟨l, rfl, hl, hmo⟩
  | there x =>
    rw [ev_told]
    refine tri_F ?_
    unfold kF
    refine tri_stp (kF_kn _ _ _ _ rfl (by decide)) ?_
    repeat (conv => arg 1; whnf
            first
            | (refine tri_stp (co (r := false) ?_) ?_; focus ((try dsimp only); decide +kernel))
            | (refine tri_stp (co (r := true) ?_) ?_; focus ((try dsimp only); decide +kernel)))
    refine tri_lc (enc := P.str) (Fm.there x).ns (fun (l : Kn) => [some (.p N.toP), some (.own (.dk (dkP Fm.toP N.cells))), some (.p (.tup (rs.map evP))), some (.own (kn l)), some (.p (Fm.there x).toP), some (.p (.int (t0 : Int))), some (.p (sP "there")), none])
      (fun pre ds l => KnOk N V rs.length t0 l ∧ (∀ k ∈ l0.map (·.1), k ∈ l.map (·.1)) ∧ ds = pre.map fun q => vP (V t0 q)) l0
      (ws := [.p (.tup ((Fm.there x).ns.map .str))]) (by refine kEs_run (tri_eq ?_); (conv => arg 1; whnf); refine tri_stp (names_in _ (Fm.there x)) ?_; (conv => arg 1; whnf); exact tri_ret rfl) rfl rfl (by have := ns_len (Fm.there x); rw [sizeLine_eq]; omega) rfl ⟨hl0, fun k hk => hk, rfl⟩ ?_ ?_
    · rintro pre q post ds l e ⟨hl, hmo, rfl⟩
      have hq : q ∈ (Fm.there x).ns := by rw [e]; simp
      conv => arg 1; whnf
      refine tri_bind (hS3 t0 (Nat.le_refl _) (fun _ => rfl) q hq l hl) ?_
      rintro _ ⟨l1, rfl, hl1, hmo1, _⟩
      conv => arg 1; whnf
      refine tri_ret ?_
      exact ⟨some (vP (V t0 q)), l1, rfl, hl1, fun k hk => hmo1 k (hmo k hk), by simp⟩
    · rintro ds l ⟨hl, hmo, rfl⟩
      rw [show (Fm.there x).ns.map (fun q => vP (V t0 q)) = ((Fm.there x).ns.map (V t0)).map vP by simp]
      conv => arg 1; whnf
      refine tri_stp (p_shown _ (Fm.there x) ((Fm.there x).ns.map (V t0)) N.z hz2 rfl hf (by simp) (fun v hv => by obtain ⟨q, hq, rfl⟩ := List.mem_map.mp hv; exact (hS t0 (Nat.le_refl _) (fun _ => rfl) q hq).2)) ?_
      conv => arg 1; whnf
      refine tri_ret ?_
      exact ⟨l, rfl, hl, hmo⟩
  | turn x r =>
    rw [ev_told]
    refine tri_F ?_
    unfold kF
    refine tri_stp (kF_kn _ _ _ _ rfl (by decide)) ?_
    repeat (conv => arg 1; whnf
            first
            | (refine tri_stp (co (r := false) ?_) ?_; focus ((try dsimp only); decide +kernel))
            | (refine tri_stp (co (r := true) ?_) ?_; focus ((try dsimp only); decide +kernel)))
    refine tri_lc (enc := P.str) (Fm.turn x r).ns (fun (l : Kn) => [some (.p N.toP), some (.own (.dk (dkP Fm.toP N.cells))), some (.p (.tup (rs.map evP))), some (.own (kn l)), some (.p (Fm.turn x r).toP), some (.p (.int (t0 : Int))), some (.p (sP "turn")), none])
      (fun pre ds l => KnOk N V rs.length t0 l ∧ (∀ k ∈ l0.map (·.1), k ∈ l.map (·.1)) ∧ ds = pre.map fun q => vP (V t0 q)) l0
      (ws := [.p (.tup ((Fm.turn x r).ns.map .str))]) (by refine kEs_run (tri_eq ?_); (conv => arg 1; whnf); refine tri_stp (names_in _ (Fm.turn x r)) ?_; (conv => arg 1; whnf); exact tri_ret rfl) rfl rfl (by have := ns_len (Fm.turn x r); rw [sizeLine_eq]; omega) rfl ⟨hl0, fun k hk => hk, rfl⟩ ?_ ?_
    · rintro pre q post ds l e ⟨hl, hmo, rfl⟩
      have hq : q ∈ (Fm.turn x r).ns := by rw [e]; simp
      conv => arg 1; whnf
      refine tri_bind (hS3 t0 (Nat.le_refl _) (fun _ => rfl) q hq l hl) ?_
      rintro _ ⟨l1, rfl, hl1, hmo1, _⟩
      conv => arg 1; whnf
      refine tri_ret ?_
      exact ⟨some (vP (V t0 q)), l1, rfl, hl1, fun k hk => hmo1 k (hmo k hk), by simp⟩
    · rintro ds l ⟨hl, hmo, rfl⟩
      rw [show (Fm.turn x r).ns.map (fun q => vP (V t0 q)) = ((Fm.turn x r).ns.map (V t0)).map vP by simp]
      conv => arg 1; whnf
      refine tri_stp (p_shown _ (Fm.turn x r) ((Fm.turn x r).ns.map (V t0)) N.z hz2 rfl hf (by simp) (fun v hv => by obtain ⟨q, hq, rfl⟩ := List.mem_map.mp hv; exact (hS t0 (Nat.le_refl _) (fun _ => rfl) q hq).2)) ?_
      conv => arg 1; whnf
      refine tri_ret ?_
      exact ⟨l, rfl, hl, hmo⟩
  | els x y =>
    rw [ev_told]
    refine tri_F ?_
    unfold kF
    refine tri_stp (kF_kn _ _ _ _ rfl (by decide)) ?_
    repeat (conv => arg 1; whnf
            first
            | (refine tri_stp (co (r := false) ?_) ?_; focus ((try dsimp only); decide +kernel))
            | (refine tri_stp (co (r := true) ?_) ?_; focus ((try dsimp only); decide +kernel)))
    refine tri_lc (enc := P.str) (Fm.els x y).ns (fun (l : Kn) => [some (.p N.toP), some (.own (.dk (dkP Fm.toP N.cells))), some (.p (.tup (rs.map evP))), some (.own (kn l)), some (.p (Fm.els x y).toP), some (.p (.int (t0 : Int))), some (.p (sP "else")), none])
      (fun pre ds l => KnOk N V rs.length t0 l ∧ (∀ k ∈ l0.map (·.1), k ∈ l.map (·.1)) ∧ ds = pre.map fun q => vP (V t0 q)) l0
      (ws := [.p (.tup ((Fm.els x y).ns.map .str))]) (by refine kEs_run (tri_eq ?_); (conv => arg 1; whnf); refine tri_stp (names_in _ (Fm.els x y)) ?_; (conv => arg 1; whnf); exact tri_ret rfl) rfl rfl (by have := ns_len (Fm.els x y); rw [sizeLine_eq]; omega) rfl ⟨hl0, fun k hk => hk, rfl⟩ ?_ ?_
    · rintro pre q post ds l e ⟨hl, hmo, rfl⟩
      have hq : q ∈ (Fm.els x y).ns := by rw [e]; simp
      conv => arg 1; whnf
      refine tri_bind (hS3 t0 (Nat.le_refl _) (fun _ => rfl) q hq l hl) ?_
      rintro _ ⟨l1, rfl, hl1, hmo1, _⟩
      conv => arg 1; whnf
      refine tri_ret ?_
      exact ⟨some (vP (V t0 q)), l1, rfl, hl1, fun k hk => hmo1 k (hmo k hk), by simp⟩
    · rintro ds l ⟨hl, hmo, rfl⟩
      rw [show (Fm.els x y).ns.map (fun q => vP (V t0 q)) = ((Fm.els x y).ns.map (V t0)).map vP by simp]
      conv => arg 1; whnf
      refine tri_stp (p_shown _ (Fm.els x y) ((Fm.els x y).ns.map (V t0)) N.z hz2 rfl hf (by simp) (fun v hv => by obtain ⟨q, hq, rfl⟩ := List.mem_map.mp hv; exact (hS t0 (Nat.le_refl _) (fun _ => rfl) q hq).2)) ?_
      conv => arg 1; whnf
      refine tri_ret ?_
      exact ⟨l, rfl, hl, hmo⟩
  | wen x y =>
    rw [ev_told]
    refine tri_F ?_
    unfold kF
    refine tri_stp (kF_kn _ _ _ _ rfl (by decide)) ?_
    repeat (conv => arg 1; whnf
            first
            | (refine tri_stp (co (r := false) ?_) ?_; focus ((try dsimp only); decide +kernel))
            | (refine tri_stp (co (r := true) ?_) ?_; focus ((try dsimp only); decide +kernel)))
    refine tri_lc (enc := P.str) (Fm.wen x y).ns (fun (l : Kn) => [some (.p N.toP), some (.own (.dk (dkP Fm.toP N.cells))), some (.p (.tup (rs.map evP))), some (.own (kn l)), some (.p (Fm.wen x y).toP), some (.p (.int (t0 : Int))), some (.p (sP "when")), none])
      (fun pre ds l => KnOk N V rs.length t0 l ∧ (∀ k ∈ l0.map (·.1), k ∈ l.map (·.1)) ∧ ds = pre.map fun q => vP (V t0 q)) l0
      (ws := [.p (.tup ((Fm.wen x y).ns.map .str))]) (by refine kEs_run (tri_eq ?_); (conv => arg 1; whnf); refine tri_stp (names_in _ (Fm.wen x y)) ?_; (conv => arg 1; whnf); exact tri_ret rfl) rfl rfl (by have := ns_len (Fm.wen x y); rw [sizeLine_eq]; omega) rfl ⟨hl0, fun k hk => hk, rfl⟩ ?_ ?_
    · rintro pre q post ds l e ⟨hl, hmo, rfl⟩
      have hq : q ∈ (Fm.wen x y).ns := by rw [e]; simp
      conv => arg 1; whnf
      refine tri_bind (hS3 t0 (Nat.le_refl _) (fun _ => rfl) q hq l hl) ?_
      rintro _ ⟨l1, rfl, hl1, hmo1, _⟩
      conv => arg 1; whnf
      refine tri_ret ?_
      exact ⟨some (vP (V t0 q)), l1, rfl, hl1, fun k hk => hmo1 k (hmo k hk), by simp⟩
    · rintro ds l ⟨hl, hmo, rfl⟩
      rw [show (Fm.wen x y).ns.map (fun q => vP (V t0 q)) = ((Fm.wen x y).ns.map (V t0)).map vP by simp]
      conv => arg 1; whnf
      refine tri_stp (p_shown _ (Fm.wen x y) ((Fm.wen x y).ns.map (V t0)) N.z hz2 rfl hf (by simp) (fun v hv => by obtain ⟨q, hq, rfl⟩ := List.mem_map.mp hv; exact (hS t0 (Nat.le_refl _) (fun _ => rfl) q hq).2)) ?_
      conv => arg 1; whnf
      refine tri_ret ?_
      exact ⟨l, rfl, hl, hmo⟩
  | two o x y =>
    cases o with
    | add =>
      rw [ev_told]
      refine tri_F ?_
      unfold kF
      refine tri_stp (kF_kn _ _ _ _ rfl (by decide)) ?_
      repeat (conv => arg 1; whnf
              first
              | (refine tri_stp (co (r := false) ?_) ?_; focus ((try dsimp only); decide +kernel))
              | (refine tri_stp (co (r := true) ?_) ?_; focus ((try dsimp only); decide +kernel)))
      refine tri_lc (enc := P.str) (Fm.two .add x y).ns (fun (l : Kn) => [some (.p N.toP), some (.own (.dk (dkP Fm.toP N.cells))), some (.p (.tup (rs.map evP))), some (.own (kn l)), some (.p (Fm.two .add x y).toP), some (.p (.int (t0 : Int))), some (.p (sP "add")), none])
        (fun pre ds l => KnOk N V rs.length t0 l ∧ (∀ k ∈ l0.map (·.1), k ∈ l.map (·.1)) ∧ ds = pre.map fun q => vP (V t0 q)) l0
        (ws := [.p (.tup ((Fm.two .add x y).ns.map .str))]) (by refine kEs_run (tri_eq ?_); (conv => arg 1; whnf); refine tri_stp (names_in _ (Fm.two .add x y)) ?_; (conv => arg 1; whnf); exact tri_ret rfl) rfl rfl (by have := ns_len (Fm.two .add x y); rw [sizeLine_eq]; omega) rfl ⟨hl0, fun k hk => hk, rfl⟩ ?_ ?_
      · rintro pre q post ds l e ⟨hl, hmo, rfl⟩
        have hq : q ∈ (Fm.two .add x y).ns := by rw [e]; simp
        conv => arg 1; whnf
        refine tri_bind (hS3 t0 (Nat.le_refl _) (fun _ => rfl) q hq l hl) ?_
        rintro _ ⟨l1, rfl, hl1, hmo1, _⟩
        conv => arg 1; whnf
        refine tri_ret ?_
        exact ⟨some (vP (V t0 q)), l1, rfl, hl1, fun k hk => hmo1 k (hmo k hk), by simp⟩
      · rintro ds l ⟨hl, hmo, rfl⟩
        rw [show (Fm.two .add x y).ns.map (fun q => vP (V t0 q)) = ((Fm.two .add x y).ns.map (V t0)).map vP by simp]
        conv => arg 1; whnf
        refine tri_stp (p_shown _ (Fm.two .add x y) ((Fm.two .add x y).ns.map (V t0)) N.z hz2 rfl hf (by simp) (fun v hv => by obtain ⟨q, hq, rfl⟩ := List.mem_map.mp hv; exact (hS t0 (Nat.le_refl _) (fun _ => rfl) q hq).2)) ?_
        conv => arg 1; whnf
        refine tri_ret ?_
        exact ⟨l, rfl, hl, hmo⟩
    | times =>
      rw [ev_told]
      refine tri_F ?_
      unfold kF
      refine tri_stp (kF_kn _ _ _ _ rfl (by decide)) ?_
      repeat (conv => arg 1; whnf
              first
              | (refine tri_stp (co (r := false) ?_) ?_; focus ((try dsimp only); decide +kernel))
              | (refine tri_stp (co (r := true) ?_) ?_; focus ((try dsimp only); decide +kernel)))
      refine tri_lc (enc := P.str) (Fm.two .times x y).ns (fun (l : Kn) => [some (.p N.toP), some (.own (.dk (dkP Fm.toP N.cells))), some (.p (.tup (rs.map evP))), some (.own (kn l)), some (.p (Fm.two .times x y).toP), some (.p (.int (t0 : Int))), some (.p (sP "times")), none])
        (fun pre ds l => KnOk N V rs.length t0 l ∧ (∀ k ∈ l0.map (·.1), k ∈ l.map (·.1)) ∧ ds = pre.map fun q => vP (V t0 q)) l0
        (ws := [.p (.tup ((Fm.two .times x y).ns.map .str))]) (by refine kEs_run (tri_eq ?_); (conv => arg 1; whnf); refine tri_stp (names_in _ (Fm.two .times x y)) ?_; (conv => arg 1; whnf); exact tri_ret rfl) rfl rfl (by have := ns_len (Fm.two .times x y); rw [sizeLine_eq]; omega) rfl ⟨hl0, fun k hk => hk, rfl⟩ ?_ ?_
      · rintro pre q post ds l e ⟨hl, hmo, rfl⟩
        have hq : q ∈ (Fm.two .times x y).ns := by rw [e]; simp
        conv => arg 1; whnf
        refine tri_bind (hS3 t0 (Nat.le_refl _) (fun _ => rfl) q hq l hl) ?_
        rintro _ ⟨l1, rfl, hl1, hmo1, _⟩
        conv => arg 1; whnf
        refine tri_ret ?_
        exact ⟨some (vP (V t0 q)), l1, rfl, hl1, fun k hk => hmo1 k (hmo k hk), by simp⟩
      · rintro ds l ⟨hl, hmo, rfl⟩
        rw [show (Fm.two .times x y).ns.map (fun q => vP (V t0 q)) = ((Fm.two .times x y).ns.map (V t0)).map vP by simp]
        conv => arg 1; whnf
        refine tri_stp (p_shown _ (Fm.two .times x y) ((Fm.two .times x y).ns.map (V t0)) N.z hz2 rfl hf (by simp) (fun v hv => by obtain ⟨q, hq, rfl⟩ := List.mem_map.mp hv; exact (hS t0 (Nat.le_refl _) (fun _ => rfl) q hq).2)) ?_
        conv => arg 1; whnf
        refine tri_ret ?_
        exact ⟨l, rfl, hl, hmo⟩
    | least =>
      rw [ev_told]
      refine tri_F ?_
      unfold kF
      refine tri_stp (kF_kn _ _ _ _ rfl (by decide)) ?_
      repeat (conv => arg 1; whnf
              first
              | (refine tri_stp (co (r := false) ?_) ?_; focus ((try dsimp only); decide +kernel))
              | (refine tri_stp (co (r := true) ?_) ?_; focus ((try dsimp only); decide +kernel)))
      refine tri_lc (enc := P.str) (Fm.two .least x y).ns (fun (l : Kn) => [some (.p N.toP), some (.own (.dk (dkP Fm.toP N.cells))), some (.p (.tup (rs.map evP))), some (.own (kn l)), some (.p (Fm.two .least x y).toP), some (.p (.int (t0 : Int))), some (.p (sP "least")), none])
        (fun pre ds l => KnOk N V rs.length t0 l ∧ (∀ k ∈ l0.map (·.1), k ∈ l.map (·.1)) ∧ ds = pre.map fun q => vP (V t0 q)) l0
        (ws := [.p (.tup ((Fm.two .least x y).ns.map .str))]) (by refine kEs_run (tri_eq ?_); (conv => arg 1; whnf); refine tri_stp (names_in _ (Fm.two .least x y)) ?_; (conv => arg 1; whnf); exact tri_ret rfl) rfl rfl (by have := ns_len (Fm.two .least x y); rw [sizeLine_eq]; omega) rfl ⟨hl0, fun k hk => hk, rfl⟩ ?_ ?_
      · rintro pre q post ds l e ⟨hl, hmo, rfl⟩
        have hq : q ∈ (Fm.two .least x y).ns := by rw [e]; simp
        conv => arg 1; whnf
        refine tri_bind (hS3 t0 (Nat.le_refl _) (fun _ => rfl) q hq l hl) ?_
        rintro _ ⟨l1, rfl, hl1, hmo1, _⟩
        conv => arg 1; whnf
        refine tri_ret ?_
        exact ⟨some (vP (V t0 q)), l1, rfl, hl1, fun k hk => hmo1 k (hmo k hk), by simp⟩
      · rintro ds l ⟨hl, hmo, rfl⟩
        rw [show (Fm.two .least x y).ns.map (fun q => vP (V t0 q)) = ((Fm.two .least x y).ns.map (V t0)).map vP by simp]
        conv => arg 1; whnf
        refine tri_stp (p_shown _ (Fm.two .least x y) ((Fm.two .least x y).ns.map (V t0)) N.z hz2 rfl hf (by simp) (fun v hv => by obtain ⟨q, hq, rfl⟩ := List.mem_map.mp hv; exact (hS t0 (Nat.le_refl _) (fun _ => rfl) q hq).2)) ?_
        conv => arg 1; whnf
        refine tri_ret ?_
        exact ⟨l, rfl, hl, hmo⟩
    | most =>
      rw [ev_told]
      refine tri_F ?_
      unfold kF
      refine tri_stp (kF_kn _ _ _ _ rfl (by decide)) ?_
      repeat (conv => arg 1; whnf
              first
              | (refine tri_stp (co (r := false) ?_) ?_; focus ((try dsimp only); decide +kernel))
              | (refine tri_stp (co (r := true) ?_) ?_; focus ((try dsimp only); decide +kernel)))
      refine tri_lc (enc := P.str) (Fm.two .most x y).ns (fun (l : Kn) => [some (.p N.toP), some (.own (.dk (dkP Fm.toP N.cells))), some (.p (.tup (rs.map evP))), some (.own (kn l)), some (.p (Fm.two .most x y).toP), some (.p (.int (t0 : Int))), some (.p (sP "most")), none])
        (fun pre ds l => KnOk N V rs.length t0 l ∧ (∀ k ∈ l0.map (·.1), k ∈ l.map (·.1)) ∧ ds = pre.map fun q => vP (V t0 q)) l0
        (ws := [.p (.tup ((Fm.two .most x y).ns.map .str))]) (by refine kEs_run (tri_eq ?_); (conv => arg 1; whnf); refine tri_stp (names_in _ (Fm.two .most x y)) ?_; (conv => arg 1; whnf); exact tri_ret rfl) rfl rfl (by have := ns_len (Fm.two .most x y); rw [sizeLine_eq]; omega) rfl ⟨hl0, fun k hk => hk, rfl⟩ ?_ ?_
      · rintro pre q post ds l e ⟨hl, hmo, rfl⟩
        have hq : q ∈ (Fm.two .most x y).ns := by rw [e]; simp
        conv => arg 1; whnf
        refine tri_bind (hS3 t0 (Nat.le_refl _) (fun _ => rfl) q hq l hl) ?_
        rintro _ ⟨l1, rfl, hl1, hmo1, _⟩
        conv => arg 1; whnf
        refine tri_ret ?_
        exact ⟨some (vP (V t0 q)), l1, rfl, hl1, fun k hk => hmo1 k (hmo k hk), by simp⟩
      · rintro ds l ⟨hl, hmo, rfl⟩
        rw [show (Fm.two .most x y).ns.map (fun q => vP (V t0 q)) = ((Fm.two .most x y).ns.map (V t0)).map vP by simp]
        conv => arg 1; whnf
        refine tri_stp (p_shown _ (Fm.two .most x y) ((Fm.two .most x y).ns.map (V t0)) N.z hz2 rfl hf (by simp) (fun v hv => by obtain ⟨q, hq, rfl⟩ := List.mem_map.mp hv; exact (hS t0 (Nat.le_refl _) (fun _ => rfl) q hq).2)) ?_
        conv => arg 1; whnf
        refine tri_ret ?_
        exact ⟨l, rfl, hl, hmo⟩
    | alike =>
      rw [ev_told]
      refine tri_F ?_
      unfold kF
      refine tri_stp (kF_kn _ _ _ _ rfl (by decide)) ?_
      repeat (conv => arg 1; whnf
              first
              | (refine tri_stp (co (r := false) ?_) ?_; focus ((try dsimp only); decide +kernel))
              | (refine tri_stp (co (r := true) ?_) ?_; focus ((try dsimp only); decide +kernel)))
      refine tri_lc (enc := P.str) (Fm.two .alike x y).ns (fun (l : Kn) => [some (.p N.toP), some (.own (.dk (dkP Fm.toP N.cells))), some (.p (.tup (rs.map evP))), some (.own (kn l)), some (.p (Fm.two .alike x y).toP), some (.p (.int (t0 : Int))), some (.p (sP "alike")), none])
        (fun pre ds l => KnOk N V rs.length t0 l ∧ (∀ k ∈ l0.map (·.1), k ∈ l.map (·.1)) ∧ ds = pre.map fun q => vP (V t0 q)) l0
        (ws := [.p (.tup ((Fm.two .alike x y).ns.map .str))]) (by refine kEs_run (tri_eq ?_); (conv => arg 1; whnf); refine tri_stp (names_in _ (Fm.two .alike x y)) ?_; (conv => arg 1; whnf); exact tri_ret rfl) rfl rfl (by have := ns_len (Fm.two .alike x y); rw [sizeLine_eq]; omega) rfl ⟨hl0, fun k hk => hk, rfl⟩ ?_ ?_
      · rintro pre q post ds l e ⟨hl, hmo, rfl⟩
        have hq : q ∈ (Fm.two .alike x y).ns := by rw [e]; simp
        conv => arg 1; whnf
        refine tri_bind (hS3 t0 (Nat.le_refl _) (fun _ => rfl) q hq l hl) ?_
        rintro _ ⟨l1, rfl, hl1, hmo1, _⟩
        conv => arg 1; whnf
        refine tri_ret ?_
        exact ⟨some (vP (V t0 q)), l1, rfl, hl1, fun k hk => hmo1 k (hmo k hk), by simp⟩
      · rintro ds l ⟨hl, hmo, rfl⟩
        rw [show (Fm.two .alike x y).ns.map (fun q => vP (V t0 q)) = ((Fm.two .alike x y).ns.map (V t0)).map vP by simp]
        conv => arg 1; whnf
        refine tri_stp (p_shown _ (Fm.two .alike x y) ((Fm.two .alike x y).ns.map (V t0)) N.z hz2 rfl hf (by simp) (fun v hv => by obtain ⟨q, hq, rfl⟩ := List.mem_map.mp hv; exact (hS t0 (Nat.le_refl _) (fun _ => rfl) q hq).2)) ?_
        conv => arg 1; whnf
        refine tri_ret ?_
        exact ⟨l, rfl, hl, hmo⟩
    | less =>
      rw [ev_told]
      refine tri_F ?_
      unfold kF
      refine tri_stp (kF_kn _ _ _ _ rfl (by decide)) ?_
      repeat (conv => arg 1; whnf
              first
              | (refine tri_stp (co (r := false) ?_) ?_; focus ((try dsimp only); decide +kernel))
              | (refine tri_stp (co (r := true) ?_) ?_; focus ((try dsimp only); decide +kernel)))
      refine tri_lc (enc := P.str) (Fm.two .less x y).ns (fun (l : Kn) => [some (.p N.toP), some (.own (.dk (dkP Fm.toP N.cells))), some (.p (.tup (rs.map evP))), some (.own (kn l)), some (.p (Fm.two .less x y).toP), some (.p (.int (t0 : Int))), some (.p (sP "less")), none])
        (fun pre ds l => KnOk N V rs.length t0 l ∧ (∀ k ∈ l0.map (·.1), k ∈ l.map (·.1)) ∧ ds = pre.map fun q => vP (V t0 q)) l0
        (ws := [.p (.tup ((Fm.two .less x y).ns.map .str))]) (by refine kEs_run (tri_eq ?_); (conv => arg 1; whnf); refine tri_stp (names_in _ (Fm.two .less x y)) ?_; (conv => arg 1; whnf); exact tri_ret rfl) rfl rfl (by have := ns_len (Fm.two .less x y); rw [sizeLine_eq]; omega) rfl ⟨hl0, fun k hk => hk, rfl⟩ ?_ ?_
      · rintro pre q post ds l e ⟨hl, hmo, rfl⟩
        have hq : q ∈ (Fm.two .less x y).ns := by rw [e]; simp
        conv => arg 1; whnf
        refine tri_bind (hS3 t0 (Nat.le_refl _) (fun _ => rfl) q hq l hl) ?_
        rintro _ ⟨l1, rfl, hl1, hmo1, _⟩
        conv => arg 1; whnf
        refine tri_ret ?_
        exact ⟨some (vP (V t0 q)), l1, rfl, hl1, fun k hk => hmo1 k (hmo k hk), by simp⟩
      · rintro ds l ⟨hl, hmo, rfl⟩
        rw [show (Fm.two .less x y).ns.map (fun q => vP (V t0 q)) = ((Fm.two .less x y).ns.map (V t0)).map vP by simp]
        conv => arg 1; whnf
        refine tri_stp (p_shown _ (Fm.two .less x y) ((Fm.two .less x y).ns.map (V t0)) N.z hz2 rfl hf (by simp) (fun v hv => by obtain ⟨q, hq, rfl⟩ := List.mem_map.mp hv; exact (hS t0 (Nat.le_refl _) (fun _ => rfl) q hq).2)) ?_
        conv => arg 1; whnf
        refine tri_ret ?_
        exact ⟨l, rfl, hl, hmo⟩
/-- shows, all names at an instant behind what was told of the earlier ones -/
theorem t_shows (n : Nat) (hN : NtOk N ni nc nz) (hb : ni ≤ 10 ∧ nc ≤ 30 ∧ nz ≤ 1000) (hr : ∀ e ∈ rs, EvtOk N e) (hT : rs.length ≤ 1000) (ht : t0 < rs.length) (hVi : ∀ t, t < rs.length → ∀ x ∈ N.ins, V t x = look (rs.getD t []) x) (hVc : ∀ t, t < rs.length → ∀ c ∈ N.cells, V t c.1 = c.2.sem V t N.z) (hVo : ∀ t, t < rs.length → ∀ x, VOk N.z (V t x)) :
    ∀ d, ∀ q, q ∈ N.ins ∨ q ∈ (ordL N).take d → ∀ m, 5 * d + 1 ≤ m → Sh N rs V t0 m q t0 := by
  have hz := hN.z
  have hnd := List.nodup_append.mp hN.nd
  have hso : ¬ (ordL N).length < N.cells.length := by
    have := hN.snd
    simp only [sndB, Bool.and_eq_true, Bool.not_eq_true', decide_eq_false_iff_not] at this
    exact this.1
  obtain ⟨hch, hall⟩ := ord_all hso
  intro d
  induction d with
  | zero =>
    intro q hq m hm
    obtain ⟨k, rfl⟩ : ∃ k, m = k + 1 := ⟨m - 1, by omega⟩
    rcases hq with hq | hq
    · exact t_shows_in k hN ⟨hb.1, hb.2.1⟩ hr q hq t0 ht (hVi t0 ht q hq)
    · simp at hq
  | succ d ih =>
    intro q hq m hm
    by_cases hq' : q ∈ N.ins ∨ q ∈ (ordL N).take d
    · exact ih q hq' m (by omega)
    · have hqd : d < (ordL N).length ∧ (ordL N)[d]? = some q := by
        rcases hq with hq | hq
        · exact absurd (.inl hq) hq'
        · rw [List.take_succ] at hq
          rcases List.mem_append.mp hq with h | h
          · exact absurd (.inr h) hq'
          · have h : (ordL N)[d]? = some q := by simpa [eq_comm] using h
            exact ⟨(List.getElem?_eq_some_iff.mp h).1, h⟩
      have hsp : ordL N = (ordL N).take d ++ q :: (ordL N).drop (d + 1) := by
        have h1 := (List.getElem?_eq_some_iff.mp hqd.2).2
        rw [← h1, List.getElem_cons_drop, List.take_append_drop]
      obtain ⟨f, hf, _, hr2⟩ := hch _ q _ hsp
      simp only at hr2
      obtain ⟨k, rfl⟩ : ∃ k, m = k + 4 + 1 := ⟨m - 5, by omega⟩
      refine t_shows_step (k + 4) hN ⟨hb.1, hb.2.1⟩ hT ht q f hf (hVc t0 ht _ hf) ?_
      refine t_told k f (by omega) (hN.fz _ hf) hT ht fun s hs hl y hy => ⟨fun m' hm' => ?_, hVo s (by omega) y⟩
      by_cases e : s = t0
      · subst e
        refine ih y ?_ m' (by omega)
        rcases hr2 with h | h
        · rw [hl rfl] at h; cases h
        · exact List.mem_append.mp (h y hy)
      · rcases List.mem_append.mp (hN.fn _ hf y hy) with h | h
        · obtain ⟨j, rfl⟩ : ∃ j, m' = j + 1 := ⟨m' - 1, by omega⟩
          exact t_shows_in j hN ⟨hb.1, hb.2.1⟩ hr y h s (by omega) (hVi s (by omega) y h)
        · obtain ⟨j, rfl⟩ : ∃ j, m' = j + 1 := ⟨m' - 1, by omega⟩
          exact t_shows_kn j hN y h s (by omega)
end
end Ev

namespace Ev
open PySem PySem.Spec PyProof.Rows L2
structure Sem (N : Nt) (rs : List Evt) (V : Val) : Prop where
  inp : ∀ t, t < rs.length → ∀ x ∈ N.ins, V t x = look (rs.getD t []) x
  cel : ∀ t, t < rs.length → ∀ c ∈ N.cells, V t c.1 = c.2.sem V t N.z
  ok : ∀ t, t < rs.length → ∀ x, VOk N.z (V t x)
theorem Good.sem {N : Nt} {rs : List Evt} {tabs : List Tb} (G : Good N rs tabs) : Sem N rs (tv tabs) := by
  refine ⟨G.inp, G.cel, fun t ht x => G.ok _ ?_ x⟩
  have : t < tabs.length := by rw [G.len]; exact ht
  rw [List.getD_eq_getElem?_getD, List.getElem?_eq_getElem this]
  exact List.getElem_mem _
theorem Sem.take {N : Nt} {rs : List Evt} {V : Val} (S : Sem N rs V) (k : Nat) : Sem N (rs.take k) V := by
  refine ⟨fun t ht x hx => ?_, fun t ht => S.cel t (by simp at ht; omega), fun t ht => S.ok t (by simp at ht; omega)⟩
  have h1 : t < rs.length := by simp at ht; omega
  have h2 : t < k := by simp at ht; omega
  rw [S.inp t h1 x hx, List.getD_eq_getElem?_getD, List.getD_eq_getElem?_getD, List.getElem?_take, if_pos h2]
def momP (N : Nt) (V : Val) (t : Nat) : P := .tup (N.nm.map fun x => vP (V t x))
theorem t_formtable (n : Nat) (N : Nt) (hc : N.cells.length ≤ 30) (nd : N.nm.Nodup) : cl (n + 1) "form_table" [.p N.toP] = .ok (.tmp (.dk (dkP Fm.toP N.cells)), [.p N.toP]) := by
  apply tri_eq
  rw [ev_form_table]
  refine tri_F ?_
  conv => arg 1; whnf
  refine tri_stp (dc_map (enc := enP Fm.toP) N.cells (fun c => .inr c.1) (fun c => c.2.toP) (ws := [.p (.tup (N.cells.map (enP Fm.toP)))]) (ρh := [some (.p N.toP), none, none]) (ρ2 := [some (.p N.toP), none, none]) (by kernel_rfl) rfl rfl (by rw [sizeLine_eq]; omega) rfl ?h5 rfl) ?_
  case h5 =>
    rintro ⟨x, f⟩ hx
    apply tri_eq
    conv => arg 1; whnf
    refine tri_ret ?_
    rfl
  rw [show (N.cells.map fun c => ((.inr c.1 : Key), c.2.toP)) = dkP Fm.toP N.cells from rfl, merge_dk Fm.toP N.cells nd]
  conv => arg 1; whnf
  refine tri_ret ?_
  rfl
section
variable {N : Nt} {rs : List Evt} {V : Val} {ni nc nz : Nat}
theorem t_meaning (n : Nat) (hN : NtOk N ni nc nz) (hb : ni ≤ 10 ∧ nc ≤ 30 ∧ nz ≤ 1000) (hr : ∀ e ∈ rs, EvtOk N e) (hT : rs.length ≤ 1000) (S : Sem N rs V) (hn : 5 * nc + 1 ≤ n) :
    cl (n + 1) "meaning" [.p N.toP, .p (.tup (rs.map evP))] = .ok (.p (.tup ((List.range rs.length).map (momP N V))), [.p N.toP, .p (.tup (rs.map evP))]) := by
  have hc := hN.c
  have hnd := List.nodup_append.mp hN.nd
  have hso : ¬ (ordL N).length < N.cells.length := by
    have := hN.snd
    simp only [sndB, Bool.and_eq_true, Bool.not_eq_true', decide_eq_false_iff_not] at this
    exact this.1
  obtain ⟨hch, hall⟩ := ord_all hso
  have hol : (ordL N).length ≤ nc := Nat.le_trans (ordGo_len N N.cells.length) hc.2
  obtain ⟨m, rfl⟩ : ∃ m, n = m + 1 := ⟨n - 1, by omega⟩
  have hnl : N.nm.length = N.cells.length := by simp [Nt.nm]
  apply tri_eq
  rw [ev_meaning]
  refine tri_F ?_
  conv => arg 1; whnf
  refine tri_stp (lc_map (enc := enP Fm.toP) N.cells (fun c => .str c.1) (ws := [.p (.tup (N.cells.map (enP Fm.toP)))]) (ρh := [some (.p N.toP), some (.p (.tup (rs.map evP))), some (.own (.dk [])), none, none, none, none, none, none]) (ρ2 := [some (.p N.toP), some (.p (.tup (rs.map evP))), some (.own (.dk [])), none, none, none, none, none, none]) (by kernel_rfl) rfl rfl rfl (by rw [sizeLine_eq]; omega) rfl ?h5 rfl) ?_
  case h5 =>
    rintro ⟨x, f⟩ hx
    apply tri_eq
    conv => arg 1; whnf
    refine tri_ret ?_
    rfl
  rw [show N.cells.map (fun c => P.str c.1) = N.nm.map .str by simp [Nt.nm]]
  conv => arg 1; whnf
  refine tri_stp (t_formtable _ N (by omega) hnd.2.1) ?_
  conv => arg 1; whnf
  refine tri_for (enc := enI) (List.range rs.length) (fun pre ρ => ∃ (l : Kn) (j6 : Option P), ρ = [some (.p N.toP), some (.p (.tup (rs.map evP))), some (.own (kn l)), some (.own (.lst (N.nm.map .str))), some (.own (.dk (dkP Fm.toP N.cells))), some (.own (.lst ((List.range pre.length).map (momP N V)))), jk j6, none, none] ∧ KnOk N V rs.length pre.length l)
    (ws := [.p (.int rs.length)]) (by rw [← List.length_map (f := evP)]; kernel_rfl) (it_rng1 (by omega)) ⟨[], none, rfl, ⟨(fun e h => by cases h), .nil, (fun e h => by cases h), (fun s h => by cases h)⟩⟩ ?_ ?_
  · rintro pre t post ρ e ⟨l, j6, rfl, hl⟩
    obtain ⟨rfl, ht⟩ := rng_at e
    rw [show (pre ++ [pre.length]).length = pre.length + 1 by simp]
    generalize pre.length = t at ht hl
    have hS := t_shows (t0 := t) m hN hb hr hT ht S.inp S.cel S.ok (ordL N).length
    conv => arg 1; whnf
    refine tri_stp (bt_1 (by (try simp only [List.set_cons_zero, List.set_cons_succ, List.set_nil]); simp only [ns_jk, ns_p, ns_own, ns_rd, ns_none, ns_nil]) rfl (by simp)) ?_
    conv => arg 1; whnf
    refine tri_lc (enc := P.str) N.nm (fun (l : Kn) => [some (.p N.toP), some (.p (.tup (rs.map evP))), some (.own (kn l)), some (.rd (.lst (N.nm.map .str))), some (.own (.dk (dkP Fm.toP N.cells))), some (.own (.lst ((List.range t).map (momP N V)))), some (.p (enI t)), none, none])
      (fun pre ds l => KnOk N V rs.length t l ∧ ds = pre.map (fun q => vP (V t q)) ∧ ∀ q ∈ pre, (q, t) ∈ l.map (·.1)) l
      (ws := [.ref 3]) (by kernel_rfl) rfl rfl (by rw [sizeLine_eq, hnl]; omega) rfl ⟨hl, rfl, by simp⟩ ?_ ?_
    · rintro qre q qost ds l eq ⟨hl, rfl, hq⟩
      have hqn : q ∈ N.nm := by rw [eq]; simp
      conv => arg 1; whnf
      refine tri_bind (hS q (.inr (by rw [List.take_length]; exact hall q hqn)) _ (by omega) l hl) ?_
      rintro _ ⟨l1, rfl, hl1, hmo1, hq1⟩
      conv => arg 1; whnf
      refine tri_ret ?_
      refine ⟨some (vP (V t q)), l1, rfl, hl1, by simp, ?_⟩
      intro p hp
      rcases List.mem_append.mp hp with hp | hp
      · exact hmo1 _ (hq p hp)
      · simp at hp; subst hp; exact hq1 hqn
    · rintro ds l ⟨hl, rfl, hq⟩
      conv => arg 1; whnf
      refine tri_stp (app_ok rfl (by rw [sizeLine_eq]; simp; omega)) ?_
      conv => arg 1; whnf
      refine tri_ret ?_
      refine ⟨.inl rfl, l, some (enI t), ?_, ⟨hl.v, hl.nd, hl.rng, fun s hs y hy => ?_⟩⟩
      · rw [List.range_succ, List.map_append]; rfl
      · by_cases e : s = t
        · subst e; exact hq y hy
        · exact hl.full s (by omega) y hy
  · rintro _ ⟨l, j6, rfl, hl⟩
    conv => arg 1; whnf
    refine tri_ret ?_
    rw [List.length_range]
end
end Ev

namespace Ev
open PySem PySem.Spec PyProof.Rows L2
theorem index_strs {xs : List Str} {i : Nat} {x : Str} (nd : xs.Nodup) (h : xs[i]? = some x) : indexOf (.text x) (xs.map .str) = .ok i := by
  induction xs generalizing i with
  | nil => simp at h
  | cons y ys ih =>
    rw [List.nodup_cons] at nd
    simp only [List.map_cons, indexOf, nkey_str, of_some, bind_ok, NestedKey.text.injEq]
    cases i with
    | zero =>
      have h : y = x := by simpa using h
      rw [if_pos h]
    | succ i =>
      have h : ys[i]? = some x := by simpa using h
      have ne : ¬ y = x := fun e => nd.1 (e ▸ List.mem_of_getElem? h)
      rw [if_neg ne, ih nd.2 h]; rfl
theorem scal_strs (xs : List Str) : (xs.map P.str).all scalP = true := by simp [scalP]
section
variable {N : Nt} {rs : List Evt} {V : Val} {ni nc nz : Nat}
theorem t_history (n : Nat) (hN : NtOk N ni nc nz) (hb : ni ≤ 10 ∧ nc ≤ 30 ∧ nz ≤ 1000) (hr : ∀ e ∈ rs, EvtOk N e) (hT : rs.length ≤ 1000) (S : Sem N rs V) (hn : 5 * nc + 1 ≤ n) (x : Str) (hx : x ∈ N.all) :
    cl (n + 2) "history" [.p N.toP, .p (.tup (rs.map evP)), .p (.str x)] = .ok (.p (.tup ((List.range rs.length).map fun t => vP (V t x))), [.p N.toP, .p (.tup (rs.map evP)), .p (.str x)]) := by
  have hi := hN.i
  have hc := hN.c
  have hnd := List.nodup_append.mp hN.nd
  have hnl : N.nm.length = N.cells.length := by simp [Nt.nm]
  apply tri_eq
  rw [ev_history]
  refine tri_F ?_
  conv => arg 1; whnf
  refine tri_stp (co_inT x N.ins) ?_
  by_cases hxi : x ∈ N.ins
  · rw [decide_eq_true hxi]
    conv => arg 1; whnf
    refine tri_stp (lc_map (enc := evP) rs (fun e => vP (look e x)) (ws := [.p (.tup (rs.map evP))]) (ρh := [some (.p N.toP), some (.p (.tup (rs.map evP))), some (.p (.str x)), none, none, none, none, none]) (ρ2 := [some (.p N.toP), some (.p (.tup (rs.map evP))), some (.p (.str x)), none, none, none, none, none]) (by kernel_rfl) rfl rfl rfl (by rw [sizeLine_eq]; omega) rfl ?h5 rfl) ?_
    case h5 =>
      intro e he
      have hev := hr e he
      have hevn : (e.map (·.1)).Nodup := hev.s.nodup hnd.1
      have hevl : e.length ≤ 10 := by have := hev.s.length_le; simp at this; omega
      apply tri_eq
      conv => arg 1; whnf
      refine tri_stp (bl_dict P.int e hevn (by omega)) ?_
      conv => arg 1; whnf
      refine tri_ret ?_
      have ev1 : (valP (dkP P.int e) (.inr x)).getD P.non = vP (look e x) := by rw [val_dk]; cases look e x <;> rfl
      rw [← ev1]; rfl
    conv => arg 1; whnf
    refine tri_ret ?_
    have : rs.map (fun e => vP (look e x)) = (List.range rs.length).map fun t => vP (V t x) := by
      refine List.ext_getElem (by simp) fun t h1 h2 => ?_
      simp at h1
      simp only [List.getElem_map, List.getElem_range]
      rw [S.inp t h1 x hxi, List.getD_eq_getElem?_getD, List.getElem?_eq_getElem h1]
      rfl
    rw [this]
  · rw [decide_eq_false hxi]
    have hxc : x ∈ N.nm := (List.mem_append.mp hx).resolve_left hxi
    obtain ⟨i, hil, hi⟩ := List.getElem_of_mem hxc
    conv => arg 1; whnf
    refine tri_stp (lc_map (enc := enP Fm.toP) N.cells (fun c => .str c.1) (ws := [.p (.tup (N.cells.map (enP Fm.toP)))]) (ρh := [some (.p N.toP), some (.p (.tup (rs.map evP))), some (.p (.str x)), none, none, none, none, none]) (ρ2 := [some (.p N.toP), some (.p (.tup (rs.map evP))), some (.p (.str x)), none, none, none, none, none]) (by kernel_rfl) rfl rfl rfl (by rw [sizeLine_eq]; omega) rfl ?h5 rfl) ?_
    case h5 =>
      rintro ⟨x, f⟩ hx
      apply tri_eq
      conv => arg 1; whnf
      refine tri_ret ?_
      rfl
    rw [show N.cells.map (fun c => P.str c.1) = N.nm.map .str by simp [Nt.nm]]
    conv => arg 1; whnf
    have hsc : (scalP (.str x) && (N.nm.map P.str).all scalP) = true := by rw [scal_strs]; rfl
    refine tri_stp (a := ()) (by rw [show R.chk _ = R.chk (scalP (.str x) && (N.nm.map P.str).all scalP) from rfl, hsc]; rfl) ?_
    conv => arg 1; whnf
    refine tri_stp (index_strs hnd.2.1 (by rw [List.getElem?_eq_getElem hil, hi])) ?_
    conv => arg 1; whnf
    refine tri_stp (lc_map (enc := momP N V) (List.range rs.length) (fun t => vP (V t x)) (ws := [.p (.tup ((List.range rs.length).map (momP N V)))]) (ρh := [some (.p N.toP), some (.p (.tup (rs.map evP))), some (.p (.str x)), some (.p (.int i)), none, none, none, none]) (ρ2 := [some (.p N.toP), some (.p (.tup (rs.map evP))), some (.p (.str x)), some (.p (.int i)), none, none, none, none]) (by refine kEs_run (tri_eq ?_); (conv => arg 1; whnf); refine tri_stp (t_meaning n hN hb hr hT S hn) ?_; (conv => arg 1; whnf); exact tri_ret rfl) rfl rfl rfl (by rw [sizeLine_eq]; simp; omega) rfl ?h6 rfl) ?_
    case h6 =>
      intro t ht
      apply tri_eq
      conv => arg 1; whnf
      refine tri_stp (ix_natT (d := vP (V t x)) (by rw [List.getElem?_map, List.getElem?_eq_getElem hil, hi]; rfl)) ?_
      conv => arg 1; whnf
      refine tri_ret ?_
      rfl
    conv => arg 1; whnf
    refine tri_ret ?_
    rfl
theorem t_value (n : Nat) (hN : NtOk N ni nc nz) (hb : ni ≤ 10 ∧ nc ≤ 30 ∧ nz ≤ 1000) (hr : ∀ e ∈ rs, EvtOk N e) (hT : rs.length ≤ 1000) (S : Sem N rs V) (hn : 5 * nc + 1 ≤ n) (x : Str) (hx : x ∈ N.all) (t : Nat) (ht : t < rs.length) :
    cl (n + 3) "value_at" [.p N.toP, .p (.tup (rs.map evP)), .p (.str x), .p (.int t)] = .ok (.p (vP (V t x)), [.p N.toP, .p (.tup (rs.map evP)), .p (.str x), .p (.int t)]) := by
  apply tri_eq
  rw [ev_value_at]
  refine tri_F ?_
  have e : cutP (rs.map evP) none (some ((t : Int) + 1)) = (rs.take (t + 1)).map evP := by
    rw [show ((t : Int) + 1) = ((t + 1 : Nat) : Int) by omega, cut_to, List.map_take]
  conv => arg 1; whnf
  rw [e]
  conv => arg 1; whnf
  refine tri_stp (t_history n hN hb (fun e he => hr e (List.mem_of_mem_take he)) (by simp; omega) (S.take (t + 1)) hn x hx) ?_
  have hl : t < (rs.take (t + 1)).length := by simp; omega
  conv => arg 1; whnf
  refine tri_stp (ix_natT (d := vP (V t x)) (by rw [List.getElem?_map, List.getElem?_range hl]; rfl)) ?_
  conv => arg 1; whnf
  refine tri_ret ?_
  rfl
end
end Ev

namespace Ev
open PySem PySem.Spec PyProof.Rows L2
/-! the same; mixed; names; moments -/
def Sm (n : Nat) (d : P) : Prop := cl n "_law_same" [.p d, .p d] = .ok (.p (.bl true), [.p d, .p d])
theorem eq_v (a b : Option Int) : eqP (vP a) (vP b) = .ok (decide (a = b)) := by
  cases a <;> cases b <;> simp [vP, eqP, nkey_int, nkey_non]
theorem Sm_int (n : Nat) (i : Int) : Sm (n + 1) (.int i) := by
  apply tri_eq
  rw [ev_law_same]
  refine tri_F ?_
  conv => arg 1; whnf
  refine tri_stp (co_eq i i) ?_
  rw [decide_eq_true rfl]
  conv => arg 1; whnf
  refine tri_ret ?_
  rfl
theorem Sm_non (n : Nat) : Sm (n + 1) .non := by
  apply tri_eq
  rw [ev_law_same]
  refine tri_F ?_
  repeat (conv => arg 1; whnf
          first
          | (refine tri_stp (co (r := false) ?_) ?_; focus ((try dsimp only); decide +kernel))
          | (refine tri_stp (co (r := true) ?_) ?_; focus ((try dsimp only); decide +kernel)))
  conv => arg 1; whnf
  refine tri_ret ?_
  rfl
theorem Sm_v (n : Nat) (v : Option Int) : Sm (n + 1) (vP v) := by
  cases v with
  | none => exact Sm_non n
  | some i => exact Sm_int n i
theorem Sm_str (n : Nat) (x : Str) : Sm (n + 1) (.str x) := by
  apply tri_eq
  rw [ev_law_same]
  refine tri_F ?_
  conv => arg 1; whnf
  refine tri_stp (co_str x x) ?_
  rw [decide_eq_true rfl]
  conv => arg 1; whnf
  refine tri_ret ?_
  rfl
theorem Sm_tup (n : Nat) (xs : List P) (hl : xs.length ≤ 100000) (h : ∀ x ∈ xs, Sm n x) : Sm (n + 1) (.tup xs) := by
  apply tri_eq
  rw [ev_law_same]
  refine tri_F ?_
  conv => arg 1; whnf
  refine tri_stp (co_eq _ _) ?_
  rw [decide_eq_true rfl]
  conv => arg 1; whnf
  refine tri_stp (lc_map (enc := enI) (List.range xs.length) (fun _ => .bl true) (ws := [.p (.int xs.length)]) (ρh := [some (.p (.tup xs)), some (.p (.tup xs)), none]) (ρ2 := [some (.p (.tup xs)), some (.p (.tup xs)), none]) (by kernel_rfl) (it_rng1 (by omega)) rfl rfl (by rw [sizeLine_eq]; simp; omega) rfl ?h5 rfl) ?_
  case h5 =>
    intro k hk
    have hk : k < xs.length := by simpa using hk
    have e1 : ixP (.tup xs) (.int k) = .ok xs[k] := ix_natT (List.getElem?_eq_getElem hk)
    apply tri_eq
    conv => arg 1; whnf
    refine tri_stp (e1) ?_
    conv => arg 1; whnf
    refine tri_stp (e1) ?_
    conv => arg 1; whnf
    refine tri_stp (h _ (List.getElem_mem hk)) ?_
    conv => arg 1; whnf
    refine tri_ret ?_
    rfl
  conv => arg 1; whnf
  refine tri_stp (bl_all (fun _ => true) (List.range xs.length)) ?_
  conv => arg 1; whnf
  refine tri_ret ?_
  simp
theorem t_mixed (n : Nat) {row : List Int} (B : BxOk row) (a : Nat) (xs : List P) (hl : xs.length ≤ 900) :
    Tri (cl (n + 2) "_law_mixed" [.own (bx row a), .p (.lst xs)]) fun r => ∃ (zs : List P) (a' : Nat), r = (.tmp (.lst zs), [.own (bx row a'), .p (.lst xs)]) ∧ zs.Perm xs := by
  rw [ev_law_mixed]
  refine tri_F ?_
  conv => arg 1; whnf
  refine tri_lc (enc := enI) (List.range xs.length) (fun (s : Nat × List P) => [some (.own (bx row s.1)), some (.p (.lst xs)), some (.own (.lst s.2)), none])
    (fun pre ds s => (ds ++ s.2).Perm xs ∧ ds.length = pre.length) (a, xs)
    (ws := [.p (.int xs.length)]) (by kernel_rfl) (it_rng1 (by omega)) rfl (by rw [sizeLine_eq]; simp; omega) rfl ⟨by simp, rfl⟩ ?_ ?_
  · rintro pre j post ds ⟨a, left⟩ e ⟨hp, hdl⟩
    obtain ⟨rfl, hj⟩ := rng_at e
    have hll := hp.length_eq
    simp only [List.length_append] at hll
    simp only
    conv => arg 1; whnf
    refine tri_bind (t_take _ B _ left.length (by omega)) ?_
    rintro _ ⟨k, hk, rfl⟩
    have hk : k < left.length := by omega
    conv => arg 1; whnf
    refine tri_stp (pop_ok hk (by omega)) ?_
    conv => arg 1; whnf
    refine tri_ret ?_
    refine ⟨some left[k], (a + 1, left.eraseIdx k), rfl, ?_, by simp [hdl]⟩
    simp only [Option.toList_some]
    rw [List.append_assoc]
    exact ((erase_perm hk).append_left ds).trans hp
  · rintro ds ⟨a, left⟩ ⟨hp, hdl⟩
    have hll := hp.length_eq
    simp only [List.length_append] at hll
    rw [List.length_range] at hdl
    have : left = [] := List.length_eq_zero_iff.mp (by omega)
    subst this
    conv => arg 1; whnf
    refine tri_ret ?_
    exact ⟨ds, a, rfl, by simpa using hp⟩
theorem t_allnames (n : Nat) (N : Nt) (hi : N.ins.length ≤ 10) (hc : N.cells.length ≤ 30) : cl (n + 1) "_law_all_names" [.p N.toP] = .ok (.tmp (.lst (N.all.map .str)), [.p N.toP]) := by
  apply tri_eq
  rw [ev_law_all_names]
  refine tri_F ?_
  conv => arg 1; whnf
  refine tri_stp (lc_map (enc := enP Fm.toP) N.cells (fun c => .str c.1) (ws := [.p (.tup (N.cells.map (enP Fm.toP)))]) (ρh := [some (.p N.toP), none, none]) (ρ2 := [some (.p N.toP), none, none]) (by kernel_rfl) rfl rfl rfl (by rw [sizeLine_eq]; omega) rfl ?h5 rfl) ?_
  case h5 =>
    rintro ⟨x, f⟩ hx
    apply tri_eq
    conv => arg 1; whnf
    refine tri_ret ?_
    rfl
  rw [show N.cells.map (fun c => P.str c.1) = N.nm.map .str by simp [Nt.nm]]
  have hnl : N.nm.length = N.cells.length := by simp [Nt.nm]
  conv => arg 1; whnf
  refine tri_stp (cat_lst (by rw [sizeLine_eq]; simp; omega)) ?_
  conv => arg 1; whnf
  refine tri_ret ?_
  rw [← List.map_append]; rfl
theorem t_moment (n : Nat) (N : Nt) (T : Tb) (hc : N.cells.length ≤ 30) (hk : ∀ x ∈ N.nm, x ∈ T.map (·.1)) : cl (n + 1) "_law_moment" [.p N.toP, .p (tbP T)] = .ok (.p (.tup (N.nm.map fun x => vP (getv T x))), [.p N.toP, .p (tbP T)]) := by
  apply tri_eq
  rw [ev_law_moment]
  refine tri_F ?_
  conv => arg 1; whnf
  refine tri_stp (lc_map (enc := enP Fm.toP) N.cells (fun c => vP (getv T c.1)) (ws := [.p (.tup (N.cells.map (enP Fm.toP)))]) (ρh := [some (.p N.toP), some (.p (tbP T)), none, none]) (ρ2 := [some (.p N.toP), some (.p (tbP T)), none, none]) (by kernel_rfl) rfl rfl rfl (by rw [sizeLine_eq]; omega) rfl ?h5 rfl) ?_
  case h5 =>
    rintro ⟨x, f⟩ hx
    apply tri_eq
    conv => arg 1; whnf
    refine tri_stp (ix_tb (hk x (List.mem_map_of_mem (f := (·.1)) hx))) ?_
    conv => arg 1; whnf
    refine tri_ret ?_
    rfl
  conv => arg 1; whnf
  refine tri_ret ?_
  simp [Nt.nm]
theorem t_cellnames (n : Nat) (N : Nt) (hc : N.cells.length ≤ 30) : cl (n + 1) "cell_names" [.p N.toP] = .ok (.tmp (.lst (N.nm.map .str)), [.p N.toP]) := by
  apply tri_eq
  rw [ev_cell_names]
  refine tri_F ?_
  conv => arg 1; whnf
  refine tri_stp (lc_map (enc := enP Fm.toP) N.cells (fun c => .str c.1) (ws := [.p (.tup (N.cells.map (enP Fm.toP)))]) (ρh := [some (.p N.toP), none, none]) (ρ2 := [some (.p N.toP), none, none]) (by kernel_rfl) rfl rfl rfl (by rw [sizeLine_eq]; omega) rfl ?h5 rfl) ?_
  case h5 =>
    rintro ⟨x, f⟩ hx
    apply tri_eq
    conv => arg 1; whnf
    refine tri_ret ?_
    rfl
  conv => arg 1; whnf
  refine tri_ret ?_
  simp [Nt.nm]
end Ev

namespace Ev
open PySem PySem.Spec PyProof.Rows L2
/-! changes between moments -/
abbrev Mm := List (Option Int)
def mmP (m : Mm) : P := .tup (m.map vP)
def enE (nm : List Str) (i : Nat) : P := .tup [.int (i : Int), .str (nm.getD i default)]
theorem it_enum {k : Nat} {ρ : En} {nm : List Str} (h : peek (.ref k) ρ = .ok (.lst (nm.map .str))) : items .enum [.ref k] ρ = .ok ((List.range nm.length).map (enE nm)) := by
  have e : ∀ (nm : List Str) (j : Nat), enumFrom j (nm.map .str) = (List.range nm.length).map fun i => .tup [.int ((j + i : Nat) : Int), .str (nm.getD i default)] := by
    intro nm
    induction nm with
    | nil => intro j; rfl
    | cons x nm ih =>
      intro j
      simp only [List.map_cons, enumFrom, ih (j + 1), List.length_cons, List.range_succ_eq_map, List.map_map]
      congr 1
      refine List.map_congr_left fun i _ => ?_
      simp only [Function.comp, List.getD_cons_succ]
      congr 4; omega
  simp only [items, h, bind_ok, lstP, e nm 0, Nat.zero_add]
  rfl
def chg (nm : List Str) (bs as : Mm) : Tb := ((List.range nm.length).filter fun i => !decide (as.getD i none = bs.getD i none)).map fun i => (nm.getD i default, as.getD i none)
def app (nm : List Str) (bs : Mm) (cs : Tb) : Mm := (List.range nm.length).map fun i => (look cs (nm.getD i default)).getD (bs.getD i none)
theorem chg_nm (nm : List Str) (bs as : Mm) : ((chg nm bs as).map (·.1)).Sublist nm := by
  have h1 : ((chg nm bs as).map (·.1)) = ((List.range nm.length).filter fun i => !decide (as.getD i none = bs.getD i none)).map fun i => nm.getD i default := by
    simp [chg, Function.comp_def]
  have h2 : (List.range nm.length).map (fun i => nm.getD i default) = nm := by
    refine List.ext_getElem (by simp) fun i h1 h2 => ?_
    simp [List.getD_eq_getElem?_getD, List.getElem?_eq_getElem h2]
  rw [h1]
  conv => rhs; rw [← h2]
  exact List.filter_sublist.map _
theorem chg_len (nm : List Str) (bs as : Mm) : (chg nm bs as).length ≤ nm.length := by
  have := (chg_nm nm bs as).length_le
  simpa using this
theorem nd_inj {α : Type} {xs : List α} (nd : xs.Nodup) {i j : Nat} (hi : i < xs.length) (hj : j < xs.length) (e : xs[i] = xs[j]) : i = j := by
  have h := List.pairwise_iff_getElem.mp nd
  rcases Nat.lt_trichotomy i j with h1 | h1 | h1
  · exact absurd e (h i j hi hj h1)
  · exact h1
  · exact absurd e.symm (h j i hj hi h1)
theorem app_chg {nm : List Str} (nd : nm.Nodup) {bs as : Mm} (ha : as.length = nm.length) : app nm bs (chg nm bs as) = as := by
  refine List.ext_getElem (by simp [app, ha]) fun i h1 h2 => ?_
  have hi : i < nm.length := by omega
  simp only [app, List.getElem_map, List.getElem_range]
  have hai : as.getD i none = as[i] := by simp [List.getD_eq_getElem?_getD, List.getElem?_eq_getElem h2]
  by_cases e : as.getD i none = bs.getD i none
  · have : look (chg nm bs as) (nm.getD i default) = none := by
      rw [look_none]
      intro q
      simp only [chg, List.map_map, List.mem_map, List.mem_filter, List.mem_range, Function.comp] at q
      obtain ⟨j, ⟨hj, hne⟩, ej⟩ := q
      simp only [List.getD_eq_getElem?_getD, List.getElem?_eq_getElem hj, List.getElem?_eq_getElem hi, Option.getD_some] at ej
      have : j = i := nd_inj nd hj hi ej
      subst this
      simp only [Bool.not_eq_true', decide_eq_false_iff_not] at hne
      exact hne e
    rw [this, Option.getD_none, ← e, hai]
  · have hm : (nm.getD i default, as.getD i none) ∈ chg nm bs as := by
      refine List.mem_map.mpr ⟨i, List.mem_filter.mpr ⟨List.mem_range.mpr hi, by simpa using e⟩, rfl⟩
    rw [look_mem ((chg_nm nm bs as).nodup nd) hm, Option.getD_some, hai]
theorem app_nil {nm : List Str} {bs : Mm} (hb : bs.length = nm.length) : app nm bs [] = bs := by
  refine List.ext_getElem (by simp [app, hb]) fun i h1 h2 => ?_
  simp [app, look, List.getD_eq_getElem?_getD, List.getElem?_eq_getElem h2]
theorem chg_same (nm : List Str) (as : Mm) : chg nm as as = [] := by simp [chg]
theorem ix_mm {m : Mm} {i : Nat} (h : i < m.length) : ixP (mmP m) (.int i) = .ok (vP (m.getD i none)) := by
  refine ix_natT ?_
  simp [List.getD_eq_getElem?_getD, List.getElem?_eq_getElem h]
theorem co_nev (a b : Option Int) : cmpPo .NotEq (vP a) (vP b) = .ok (!decide (a = b)) := co (cmp_ne (eq_v a b))
section
variable {N : Nt} {ni nc nz : Nat}
theorem nm_len (N : Nt) : N.nm.length = N.cells.length := by simp [Nt.nm]
/-- from nothing -/
theorem t_changes0 (n : Nat) (hc : N.cells.length ≤ 30) (as : Mm) (ha : as.length = N.nm.length) :
    cl (n + 2) "changes" [.p N.toP, .p .non, .p (mmP as)] = .ok (.p (.tup ((chg N.nm [] as).map (enP vP))), [.p N.toP, .p .non, .p (mmP as)]) := by
  have hnl := nm_len N
  apply tri_eq
  rw [ev_changes]
  refine tri_F ?_
  conv => arg 1; whnf
  refine tri_stp (t_cellnames _ N hc) ?_
  conv => arg 1; whnf
  refine tri_stp (lc_filter (enc := enE N.nm) (List.range N.nm.length) (fun i => !decide (as.getD i none = ([] : Mm).getD i none)) (fun i => enP vP (N.nm.getD i default, as.getD i none)) (ws := [.ref 3]) (ρh := [some (.p N.toP), some (.p .non), some (.p (mmP as)), some (.rd (.lst (N.nm.map .str))), none, none]) (ρ2 := [some (.p N.toP), some (.p .non), some (.p (mmP as)), some (.own (.lst (N.nm.map .str))), none, none]) (by kernel_rfl) (it_enum rfl) rfl rfl (by rw [sizeLine_eq]; simp; omega) rfl ?h5 rfl) ?_
  case h5 =>
    intro i hi
    have hi : i < N.nm.length := by simpa using hi
    have e1 := ix_mm (m := as) (i := i) (by omega)
    apply tri_eq
    conv => arg 1; whnf
    refine tri_stp (e1) ?_
    conv => arg 1; whnf
    refine tri_stp (isn_v _) ?_
    cases hv : as.getD i none with
    | none =>
      conv => arg 1; whnf
      refine tri_ret ?_
      rfl
    | some v =>
      conv => arg 1; whnf
      refine tri_stp (e1) ?_
      rw [hv]
      conv => arg 1; whnf
      refine tri_ret ?_
      simp only [show (!decide (some v = ([] : Mm).getD i none)) = true from rfl, if_true]; rfl
  conv => arg 1; whnf
  refine tri_ret ?_
  simp only [chg, List.map_map]; rfl
theorem t_changes (n : Nat) (hc : N.cells.length ≤ 30) (bs as : Mm) (hb : bs.length = N.nm.length) (ha : as.length = N.nm.length) :
    cl (n + 2) "changes" [.p N.toP, .p (mmP bs), .p (mmP as)] = .ok (.p (.tup ((chg N.nm bs as).map (enP vP))), [.p N.toP, .p (mmP bs), .p (mmP as)]) := by
  have hnl := nm_len N
  apply tri_eq
  rw [ev_changes]
  refine tri_F ?_
  conv => arg 1; whnf
  refine tri_stp (t_cellnames _ N hc) ?_
  conv => arg 1; whnf
  refine tri_stp (lc_filter (enc := enE N.nm) (List.range N.nm.length) (fun i => !decide (as.getD i none = bs.getD i none)) (fun i => enP vP (N.nm.getD i default, as.getD i none)) (ws := [.ref 3]) (ρh := [some (.p N.toP), some (.p (mmP bs)), some (.p (mmP as)), some (.rd (.lst (N.nm.map .str))), none, none]) (ρ2 := [some (.p N.toP), some (.p (mmP bs)), some (.p (mmP as)), some (.own (.lst (N.nm.map .str))), none, none]) (by kernel_rfl) (it_enum rfl) rfl rfl (by rw [sizeLine_eq]; simp; omega) rfl ?h5 rfl) ?_
  case h5 =>
    intro i hi
    have hi : i < N.nm.length := by simpa using hi
    have e1 := ix_mm (m := as) (i := i) (by omega)
    have e2 := ix_mm (m := bs) (i := i) (by omega)
    apply tri_eq
    conv => arg 1; whnf
    refine tri_stp (e1) ?_
    conv => arg 1; whnf
    refine tri_stp (e2) ?_
    conv => arg 1; whnf
    refine tri_stp (co_nev _ _) ?_
    cases hd : decide (as.getD i none = bs.getD i none) with
    | true =>
      conv => arg 1; whnf
      refine tri_ret ?_
      rfl
    | false =>
      conv => arg 1; whnf
      refine tri_stp (e1) ?_
      conv => arg 1; whnf
      refine tri_ret ?_
      rfl
  conv => arg 1; whnf
  refine tri_ret ?_
  simp only [chg, List.map_map]; rfl
theorem applied_lc (n : Nat) (hc : N.cells.length ≤ 30) : True := trivial
theorem t_applied (n : Nat) (hc : N.cells.length ≤ 30) (bs : Mm) (hb : bs.length = N.nm.length) (cs : Tb) (hn : (cs.map (·.1)).Nodup) (hl : cs.length ≤ 1000) :
    cl (n + 2) "applied" [.p N.toP, .p (mmP bs), .p (.tup (cs.map (enP vP)))] = .ok (.p (mmP (app N.nm bs cs)), [.p N.toP, .p (mmP bs), .p (.tup (cs.map (enP vP)))]) := by
  have hnl := nm_len N
  apply tri_eq
  rw [ev_applied]
  refine tri_F ?_
  conv => arg 1; whnf
  refine tri_stp (bl_dict vP cs hn (by omega)) ?_
  conv => arg 1; whnf
  refine tri_stp (t_cellnames _ N hc) ?_
  conv => arg 1; whnf
  refine tri_stp (lc_map (enc := enE N.nm) (List.range N.nm.length) (fun i => vP ((look cs (N.nm.getD i default)).getD (bs.getD i none))) (ws := [.ref 4]) (ρh := [some (.p N.toP), some (.p (mmP bs)), some (.p (.tup (cs.map (enP vP)))), some (.own (.dk (dkP vP cs))), some (.rd (.lst (N.nm.map .str))), some (.p (mmP bs)), none, none]) (ρ2 := [some (.p N.toP), some (.p (mmP bs)), some (.p (.tup (cs.map (enP vP)))), some (.own (.dk (dkP vP cs))), some (.own (.lst (N.nm.map .str))), some (.p (mmP bs)), none, none]) (by kernel_rfl) (it_enum rfl) rfl rfl (by rw [sizeLine_eq]; simp; omega) rfl ?h5 rfl) ?_
  case h5 =>
    intro i hi
    have hi : i < N.nm.length := by simpa using hi
    have e1 := ix_mm (m := bs) (i := i) (by omega)
    apply tri_eq
    conv => arg 1; whnf
    refine tri_stp (e1) ?_
    conv => arg 1; whnf
    refine tri_ret ?_
    have ev1 : (valP (dkP vP cs) (.inr (N.nm.getD i default))).getD (vP (bs.getD i none)) = vP ((look cs (N.nm.getD i default)).getD (bs.getD i none)) := by
      rw [val_dk]; cases look cs (N.nm.getD i default) <;> rfl
    rw [← ev1]; rfl
  conv => arg 1; whnf
  refine tri_ret ?_
  simp only [app, mmP, List.map_map]; rfl
theorem t_applied0 (n : Nat) (hc : N.cells.length ≤ 30) (cs : Tb) (hn : (cs.map (·.1)).Nodup) (hl : cs.length ≤ 1000) :
    cl (n + 2) "applied" [.p N.toP, .p .non, .p (.tup (cs.map (enP vP)))] = .ok (.p (mmP (app N.nm [] cs)), [.p N.toP, .p .non, .p (.tup (cs.map (enP vP)))]) := by
  have hnl := nm_len N
  apply tri_eq
  rw [ev_applied]
  refine tri_F ?_
  conv => arg 1; whnf
  refine tri_stp (bl_dict vP cs hn (by omega)) ?_
  conv => arg 1; whnf
  refine tri_stp (t_cellnames _ N hc) ?_
  conv => arg 1; whnf
  refine tri_stp (lc_map (enc := P.str) N.nm (fun _ => vP none) (ws := [.ref 4]) (ρh := [some (.p N.toP), some (.p .non), some (.p (.tup (cs.map (enP vP)))), some (.own (.dk (dkP vP cs))), some (.rd (.lst (N.nm.map .str))), none, none, none]) (ρ2 := [some (.p N.toP), some (.p .non), some (.p (.tup (cs.map (enP vP)))), some (.own (.dk (dkP vP cs))), some (.own (.lst (N.nm.map .str))), none, none, none]) (by kernel_rfl) rfl rfl rfl (by rw [sizeLine_eq]; omega) rfl ?h4 rfl) ?_
  case h4 =>
    intro x hx
    apply tri_eq
    conv => arg 1; whnf
    refine tri_ret ?_
    rfl
  conv => arg 1; whnf
  refine tri_stp (lc_map (enc := enE N.nm) (List.range N.nm.length) (fun i => vP ((look cs (N.nm.getD i default)).getD (([] : Mm).getD i none))) (ws := [.ref 4]) (ρh := [some (.p N.toP), some (.p .non), some (.p (.tup (cs.map (enP vP)))), some (.own (.dk (dkP vP cs))), some (.rd (.lst (N.nm.map .str))), some (.own (.lst (N.nm.map fun _ => vP none))), none, none]) (ρ2 := [some (.p N.toP), some (.p .non), some (.p (.tup (cs.map (enP vP)))), some (.own (.dk (dkP vP cs))), some (.own (.lst (N.nm.map .str))), some (.own (.lst (N.nm.map fun _ => vP none))), none, none]) (by kernel_rfl) (it_enum rfl) rfl rfl (by rw [sizeLine_eq]; simp; omega) rfl ?h5 rfl) ?_
  case h5 =>
    intro i hi
    have hi : i < N.nm.length := by simpa using hi
    have e1 : ixP (.lst (N.nm.map fun _ => vP none)) (.int i) = .ok (vP none) := ix_nat (by simp [List.getElem?_eq_getElem hi])
    apply tri_eq
    conv => arg 1; whnf
    refine tri_stp (e1) ?_
    conv => arg 1; whnf
    refine tri_ret ?_
    have ev1 : (valP (dkP vP cs) (.inr (N.nm.getD i default))).getD (vP none) = vP ((look cs (N.nm.getD i default)).getD (([] : Mm).getD i none)) := by
      rw [val_dk]; cases look cs (N.nm.getD i default) <;> rfl
    rw [← ev1]; rfl
  conv => arg 1; whnf
  refine tri_ret ?_
  simp only [app, mmP, List.map_map]; rfl
end
end Ev

namespace Ev
open PySem PySem.Spec PyProof.Rows L2
theorem p_is_integer (n : Nat) (i : Int) : cl (n + 1) "is_integer" [.p (.int i)] = .ok (.p (.bl true), [.p (.int i)]) := by
  rw [ev_is_integer]; kernel_rfl
theorem p_is_between (n : Nat) (i a b : Int) : cl (n + 2) "is_between" [.p (.int i), .p (.int a), .p (.int b)] = .ok (.p (.bl (decide (a ≤ i) && decide (i ≤ b))), [.p (.int i), .p (.int a), .p (.int b)]) := by
  apply tri_eq
  rw [ev_is_between]
  refine tri_F ?_
  conv => arg 1; whnf
  refine tri_stp (p_is_integer _ i) ?_
  conv => arg 1; whnf
  refine tri_stp (co_ge i a) ?_
  cases h : decide (a ≤ i) with
  | false =>
    conv => arg 1; whnf
    refine tri_ret ?_
    rfl
  | true =>
    conv => arg 1; whnf
    refine tri_stp (co_le i b) ?_
    conv => arg 1; whnf
    refine tri_ret ?_
    rfl
theorem p_is_worth (n : Nat) (i z : Int) : cl (n + 3) "is_worth" [.p (.int i), .p (.int z)] = .ok (.p (.bl (decide (0 ≤ i) && decide (i ≤ z - 1))), [.p (.int i), .p (.int z)]) := by
  apply tri_eq
  rw [ev_is_worth]
  refine tri_F ?_
  conv => arg 1; whnf
  refine tri_stp (p_is_between _ i 0 (z - 1)) ?_
  conv => arg 1; whnf
  refine tri_ret ?_
  rfl
theorem p_is_worth_or_none (n : Nat) (v : Option Int) (z : Int) (h : VOk z v) : cl (n + 4) "is_worth_or_none" [.p (vP v), .p (.int z)] = .ok (.p (.bl true), [.p (vP v), .p (.int z)]) := by
  apply tri_eq
  rw [ev_is_worth_or_none]
  refine tri_F ?_
  cases v with
  | none =>
    conv => arg 1; whnf
    refine tri_ret ?_
    rfl
  | some i =>
    have hi := h i rfl
    conv => arg 1; whnf
    refine tri_stp (p_is_worth _ i z) ?_
    rw [decide_eq_true hi.1, decide_eq_true (show i ≤ z - 1 by omega)]
    conv => arg 1; whnf
    refine tri_ret ?_
    rfl
theorem p_is_row2 (n : Nat) (c : Str × Option Int) : cl (n + 1) "is_row" [.p (enP vP c), .p (.int 2)] = .ok (.p (.bl true), [.p (enP vP c), .p (.int 2)]) := by
  rw [ev_is_row]; kernel_rfl
theorem it_rngI {n : Int} {ρ : En} (h1 : -1000000000 ≤ n) (h2 : n < 1000000000) : items .rng1 [.p (.int n)] ρ = .ok ((List.range n.toNat).map enI) := by
  have hi : inR n = true := by simp only [inR, Bool.and_eq_true, decide_eq_true_eq]; omega
  rw [it_rng0, hi]
  have : rngP 0 n = (List.range n.toNat).map enI := by
    simp only [rngP]
    have : (n - 0).toNat = n.toNat := by omega
    rw [this]
    exact List.map_congr_left fun j _ => by rw [Int.zero_add]; rfl
  rw [this]; rfl
theorem p_is_ascending (n : Nat) (xs : List Str) (hl : xs.length ≤ 1000) : cl (n + 1) "is_ascending" [.p (.lst (xs.map .str))] = .ok (.p (.bl ((List.range (xs.length - 1)).all fun i => decide (sLt (xs.getD i default) (xs.getD (i + 1) default)))), [.p (.lst (xs.map .str))]) := by
  apply tri_eq
  rw [ev_is_ascending]
  refine tri_F ?_
  conv => arg 1; whnf
  refine tri_stp (lc_map (enc := enI) (List.range (xs.length - 1)) (fun i => .bl (decide (sLt (xs.getD i default) (xs.getD (i + 1) default)))) (ws := [.p (.int ((xs.map P.str).length - 1))]) (ρh := [some (.p (.lst (xs.map .str))), none]) (ρ2 := [some (.p (.lst (xs.map .str))), none]) (by kernel_rfl) (it_rngI (by simp; omega) (by simp; omega)) (by congr 2; simp) rfl (by rw [sizeLine_eq]; simp; omega) rfl ?h5 rfl) ?_
  case h5 =>
    intro i hi
    have hi : i < xs.length - 1 := by simpa using hi
    have e1 : ixP (.lst (xs.map .str)) (.int i) = .ok (.str (xs.getD i default)) := ix_nat (by simp [List.getD_eq_getElem?_getD, List.getElem?_eq_getElem (show i < xs.length by omega)])
    have e2 : ixP (.lst (xs.map .str)) (.int ((i : Int) + 1)) = .ok (.str (xs.getD (i + 1) default)) := by
      rw [show ((i : Int) + 1) = ((i + 1 : Nat) : Int) by omega]
      exact ix_nat (by simp [List.getD_eq_getElem?_getD, List.getElem?_eq_getElem (show i + 1 < xs.length by omega)])
    apply tri_eq
    conv => arg 1; whnf
    refine tri_stp (e1) ?_
    conv => arg 1; whnf
    refine tri_stp (e2) ?_
    conv => arg 1; whnf
    refine tri_stp (co_slt _ _) ?_
    conv => arg 1; whnf
    refine tri_ret ?_
    rfl
  conv => arg 1; whnf
  refine tri_stp (bl_all (fun i => decide (sLt (xs.getD i default) (xs.getD (i + 1) default))) (List.range (xs.length - 1))) ?_
  conv => arg 1; whnf
  refine tri_ret ?_
  rfl
theorem asc_all {xs : List Str} (h : xs.Pairwise sLt) : ((List.range (xs.length - 1)).all fun i => decide (sLt (xs.getD i default) (xs.getD (i + 1) default))) = true := by
  rw [List.all_eq_true]
  intro i hi
  have hi : i < xs.length - 1 := by simpa using hi
  have := List.pairwise_iff_getElem.mp h i (i + 1) (by omega) (by omega) (by omega)
  rw [decide_eq_true_eq]
  simpa [List.getD_eq_getElem?_getD, List.getElem?_eq_getElem (show i < xs.length by omega), List.getElem?_eq_getElem (show i + 1 < xs.length by omega)] using this
section
variable {N : Nt} {ni nc nz : Nat}
theorem t_arechanges (n : Nat) (hc : N.cells.length ≤ 30) (hz : 2 ≤ N.z) (cs : Tb) (hl : cs.length ≤ 1000) (hn : ∀ c ∈ cs, c.1 ∈ N.nm) (ha : (cs.map (·.1)).Pairwise sLt) (hv : ∀ c ∈ cs, VOk N.z c.2) :
    cl (n + 5) "are_changes" [.p N.toP, .p (.tup (cs.map (enP vP)))] = .ok (.p (.bl true), [.p N.toP, .p (.tup (cs.map (enP vP)))]) := by
  have hnl := nm_len N
  apply tri_eq
  rw [ev_are_changes]
  refine tri_F ?_
  conv => arg 1; whnf
  refine tri_stp (lc_map (enc := enP vP) cs (fun _ => .bl true) (ws := [.p (.tup (cs.map (enP vP)))]) (ρh := [some (.p N.toP), some (.p (.tup (cs.map (enP vP)))), none, none]) (ρ2 := [some (.p N.toP), some (.p (.tup (cs.map (enP vP)))), none, none]) (by kernel_rfl) rfl rfl rfl (by rw [sizeLine_eq]; omega) rfl ?h5 rfl) ?_
  case h5 =>
    intro c hc
    apply tri_eq
    conv => arg 1; whnf
    refine tri_stp (p_is_row2 _ c) ?_
    conv => arg 1; whnf
    refine tri_ret ?_
    rfl
  conv => arg 1; whnf
  refine tri_stp (bl_all (fun _ => true) cs) ?_
  rw [show (cs.all fun _ => true) = true by simp]
  conv => arg 1; whnf
  refine tri_stp (t_cellnames _ N hc) ?_
  conv => arg 1; whnf
  refine tri_stp (lc_map (enc := enP vP) cs (fun _ => .bl true) (ws := [.p (.tup (cs.map (enP vP)))]) (ρh := [some (.p N.toP), some (.p (.tup (cs.map (enP vP)))), some (.own (.lst (N.nm.map .str))), none]) (ρ2 := [some (.p N.toP), some (.p (.tup (cs.map (enP vP)))), some (.own (.lst (N.nm.map .str))), none]) (by kernel_rfl) rfl rfl rfl (by rw [sizeLine_eq]; omega) rfl ?h6 rfl) ?_
  case h6 =>
    intro c hc
    apply tri_eq
    conv => arg 1; whnf
    refine tri_stp (co_inL c.1 N.nm) ?_
    rw [decide_eq_true (hn c hc)]
    conv => arg 1; whnf
    refine tri_stp (p_is_worth_or_none _ c.2 N.z (hv c hc)) ?_
    conv => arg 1; whnf
    refine tri_ret ?_
    rfl
  conv => arg 1; whnf
  refine tri_stp (bl_all (fun _ => true) cs) ?_
  rw [show (cs.all fun _ => true) = true by simp]
  conv => arg 1; whnf
  refine tri_stp (lc_map (enc := enP vP) cs (fun c => .str c.1) (ws := [.p (.tup (cs.map (enP vP)))]) (ρh := [some (.p N.toP), some (.p (.tup (cs.map (enP vP)))), some (.own (.lst (N.nm.map .str))), none]) (ρ2 := [some (.p N.toP), some (.p (.tup (cs.map (enP vP)))), some (.own (.lst (N.nm.map .str))), none]) (by kernel_rfl) rfl rfl rfl (by rw [sizeLine_eq]; omega) rfl ?h7 rfl) ?_
  case h7 =>
    intro c hc
    apply tri_eq
    conv => arg 1; whnf
    refine tri_ret ?_
    rfl
  rw [show cs.map (fun c => P.str c.1) = (cs.map (·.1)).map .str by simp]
  conv => arg 1; whnf
  refine tri_stp (p_is_ascending _ (cs.map (·.1)) (by simpa using hl)) ?_
  rw [asc_all ha]
  conv => arg 1; whnf
  refine tri_ret ?_
  rfl
def prevs : Mm → List Mm → List (Mm × Mm)
  | _, [] => []
  | b, m :: ms => (b, m) :: prevs m ms
theorem prevs_snoc (b : Mm) (ms : List Mm) (m : Mm) : prevs b (ms ++ [m]) = prevs b ms ++ [((b :: ms).getLast (by simp), m)] := by
  induction ms generalizing b with
  | nil => rfl
  | cons a ms ih => simp only [List.cons_append, prevs, ih a]; rfl
def csP (cs : Tb) : P := .tup (cs.map (enP vP))
/-- the moment ahead: none at the beginning -/
def bfP (ms : List Mm) : P := match ms.getLast? with
  | none => .non
  | some m => mmP m
theorem bfP_snoc (ms : List Mm) (m : Mm) : bfP (ms ++ [m]) = mmP m := by simp [bfP]
theorem gl {ms : List Mm} {m : Mm} (h : (([] : Mm) :: (ms ++ [m])) ≠ []) : (([] : Mm) :: (ms ++ [m])).getLast h = m := by
  have : (([] : Mm) :: (ms ++ [m])) = (([] : Mm) :: ms) ++ [m] := rfl
  simp only [this, List.getLast_concat]
theorem t_changesB (n : Nat) (hc : N.cells.length ≤ 30) (ms : List Mm) (hm : ∀ m ∈ ms, m.length = N.nm.length) (as : Mm) (ha : as.length = N.nm.length) :
    cl (n + 2) "changes" [.p N.toP, .p (bfP ms), .p (mmP as)] = .ok (.p (csP (chg N.nm (([] :: ms).getLast (by simp)) as)), [.p N.toP, .p (bfP ms), .p (mmP as)]) := by
  rcases List.eq_nil_or_concat ms with rfl | ⟨ms, m, rfl⟩
  · exact t_changes0 n hc as ha
  · rw [List.concat_eq_append] at hm ⊢
    rw [bfP_snoc, t_changes n hc m as (hm m (by simp)) ha, gl]
    rfl
theorem t_appliedB (n : Nat) (hc : N.cells.length ≤ 30) (ms : List Mm) (hm : ∀ m ∈ ms, m.length = N.nm.length) (cs : Tb) (hn : (cs.map (·.1)).Nodup) (hl : cs.length ≤ 1000) :
    cl (n + 2) "applied" [.p N.toP, .p (bfP ms), .p (csP cs)] = .ok (.p (mmP (app N.nm (([] :: ms).getLast (by simp)) cs)), [.p N.toP, .p (bfP ms), .p (csP cs)]) := by
  rcases List.eq_nil_or_concat ms with rfl | ⟨ms, m, rfl⟩
  · exact t_applied0 n hc cs hn hl
  · rw [List.concat_eq_append] at hm ⊢
    have := t_applied n hc m (hm m (by simp)) cs hn hl
    rw [bfP_snoc]
    rw [show P.tup (cs.map (enP vP)) = csP cs from rfl] at this
    rw [this, gl]
theorem t_allchanges (n : Nat) (hc : N.cells.length ≤ 30) (ms : List Mm) (hl : ms.length ≤ 1000) (hm : ∀ m ∈ ms, m.length = N.nm.length) :
    cl (n + 3) "all_changes" [.p N.toP, .p (.tup (ms.map mmP))] = .ok (.p (.tup ((prevs [] ms).map fun p => csP (chg N.nm p.1 p.2))), [.p N.toP, .p (.tup (ms.map mmP))]) := by
  apply tri_eq
  rw [ev_all_changes]
  refine tri_F ?_
  conv => arg 1; whnf
  refine tri_for (enc := mmP) ms (fun pre ρ => ∃ j4, ρ = [some (.p N.toP), some (.p (.tup (ms.map mmP))), some (.own (.lst ((prevs [] pre).map fun p => csP (chg N.nm p.1 p.2)))), some (.p (bfP pre)), jk j4])
    (ws := [.p (.tup (ms.map mmP))]) (by kernel_rfl) rfl ⟨none, rfl⟩ ?_ ?_
  · rintro pre m post ρ e ⟨j4, rfl⟩
    have hpl : (prevs [] pre).length = pre.length := by
      suffices H : ∀ (l : List Mm) b, (prevs b l).length = l.length from H _ _
      intro l; induction l with
      | nil => intro b; rfl
      | cons a l ih => intro b; simp [prevs, ih]
    have hpl2 : pre.length ≤ 1000 := by have := congrArg List.length e; simp at this; omega
    conv => arg 1; whnf
    refine tri_stp (bt_1 (by (try simp only [List.set_cons_zero, List.set_cons_succ, List.set_nil]); simp only [ns_jk, ns_p, ns_own, ns_rd, ns_none, ns_nil]) rfl (by simp)) ?_
    conv => arg 1; whnf
    refine tri_stp (t_changesB n hc pre (fun q hq => hm q (by rw [e]; simp [hq])) m (hm m (by rw [e]; simp))) ?_
    conv => arg 1; whnf
    refine tri_stp (app_ok rfl (by rw [sizeLine_eq]; simp; omega)) ?_
    conv => arg 1; whnf
    refine tri_ret ?_
    refine ⟨.inl rfl, some (mmP m), ?_⟩
    rw [prevs_snoc, List.map_append, bfP_snoc]
    rfl
  · rintro _ ⟨j4, rfl⟩
    conv => arg 1; whnf
    refine tri_ret ?_
    rfl
theorem t_replayed (n : Nat) (hc : N.cells.length ≤ 30) (nd : N.nm.Nodup) (ms : List Mm) (hl : ms.length ≤ 1000) (hm : ∀ m ∈ ms, m.length = N.nm.length) :
    cl (n + 3) "replayed" [.p N.toP, .p (.tup ((prevs [] ms).map fun p => csP (chg N.nm p.1 p.2)))] = .ok (.p (.tup (ms.map mmP)), [.p N.toP, .p (.tup ((prevs [] ms).map fun p => csP (chg N.nm p.1 p.2)))]) := by
  have hnl := nm_len N
  apply tri_eq
  rw [ev_replayed]
  refine tri_F ?_
  conv => arg 1; whnf
  refine tri_for (enc := fun p : Mm × Mm => csP (chg N.nm p.1 p.2)) (prevs [] ms) (fun pre ρ => ∃ j4 qre, pre = prevs [] qre ∧ (∃ qost, ms = qre ++ qost) ∧ ρ = [some (.p N.toP), some (.p (.tup ((prevs [] ms).map fun p => csP (chg N.nm p.1 p.2)))), some (.own (.lst (qre.map mmP))), some (.p (bfP qre)), jk j4])
    (ws := [.p (.tup ((prevs [] ms).map fun p => csP (chg N.nm p.1 p.2)))]) (by kernel_rfl) rfl ⟨none, [], rfl, ⟨ms, rfl⟩, rfl⟩ ?_ ?_
  · rintro pre p post ρ e ⟨j4, qre, rfl, ⟨qost, eq⟩, rfl⟩
    have hpre : ∀ (a b : List Mm), prevs [] (a ++ b) = prevs [] a ++ prevs (([] :: a).getLast (by simp)) b := by
      intro a b
      suffices H : ∀ (a b : List Mm) (c : Mm), prevs c (a ++ b) = prevs c a ++ prevs ((c :: a).getLast (by simp)) b from H a b []
      intro a b
      induction a with
      | nil => intro c; rfl
      | cons q a ih => intro c; simp only [List.cons_append, prevs, ih q]; rfl
    have h2 : prevs (([] :: qre).getLast (by simp)) qost = p :: post := by
      rw [eq, hpre] at e
      exact List.append_cancel_left e
    cases qost with
    | nil => cases h2
    | cons m qost =>
      simp only [prevs, List.cons.injEq] at h2
      obtain ⟨rfl, _⟩ := h2
      have hmq : ∀ q ∈ qre, q.length = N.nm.length := fun q hq => hm q (by rw [eq]; simp [hq])
      have hmm : m.length = N.nm.length := hm m (by rw [eq]; simp)
      have hql : qre.length ≤ 1000 := by have := congrArg List.length eq; simp at this; omega
      conv => arg 1; whnf
      refine tri_stp (bt_1 (by (try simp only [List.set_cons_zero, List.set_cons_succ, List.set_nil]); simp only [ns_jk, ns_p, ns_own, ns_rd, ns_none, ns_nil]) rfl (by simp)) ?_
      conv => arg 1; whnf
      refine tri_stp (t_appliedB n hc qre hmq (chg N.nm (([] :: qre).getLast (by simp)) m) ((chg_nm _ _ _).nodup nd) (by have := chg_len N.nm (([] :: qre).getLast (by simp)) m; omega)) ?_
      rw [app_chg nd hmm]
      conv => arg 1; whnf
      refine tri_stp (app_ok rfl (by rw [sizeLine_eq]; simp; omega)) ?_
      conv => arg 1; whnf
      refine tri_ret ?_
      refine ⟨.inl rfl, some (csP (chg N.nm (([] :: qre).getLast (by simp)) m)), qre ++ [m], ?_, ⟨qost, by rw [eq]; simp⟩, ?_⟩
      · rw [prevs_snoc]
      · rw [List.map_append, bfP_snoc]; rfl
  · rintro _ ⟨j4, qre, e, ⟨qost, rfl⟩, rfl⟩
    conv => arg 1; whnf
    refine tri_ret ?_
    have : qost = [] := by
      have hl2 : ∀ (l : List Mm) b, (prevs b l).length = l.length := by
        intro l; induction l with
        | nil => intro b; rfl
        | cons a l ih => intro b; simp [prevs, ih]
      have := congrArg List.length e
      rw [hl2, hl2] at this
      simp at this
      exact this
    subst this
    rw [List.append_nil]
end
end Ev

namespace Ev
open PySem PySem.Spec PyProof.Rows L2
def jo (b : Option (List P)) : Option Sl := b.map fun xs => .own (.lst xs)
theorem ns_jo (b : Option (List P)) (r : En) (i : Nat) : noSref (jo b :: r) i = noSref r i := by cases b <;> rfl
theorem nkey_mm (m : Mm) : ∃ k, nkey (mmP m) = some k := by
  have h : ∃ ks, nks (m.map vP) = some ks ∧ NestedKey.depthAll ks ≤ 1 := by
    induction m with
    | nil => exact ⟨[], rfl, by simp [NestedKey.depthAll]⟩
    | cons v m ih =>
      obtain ⟨ks, e, hd⟩ := ih
      cases v with
      | none => exact ⟨.none :: ks, by simp [nks, vP, nk, e], by simp [NestedKey.depthAll, NestedKey.depth]; omega⟩
      | some i => exact ⟨.num i :: ks, by simp [nks, vP, nk, e], by simp [NestedKey.depthAll, NestedKey.depth]; omega⟩
  obtain ⟨ks, e, hd⟩ := h
  refine ⟨.tup ks, ?_⟩
  have : nk (mmP m) = some (.tup ks) := by simp [mmP, nk, e]
  simp only [nkey, this]
  rw [if_pos (by simp [NestedKey.depth]; omega)]
theorem co_mm (m : Mm) : cmpPo .Eq (mmP m) (mmP m) = .ok true := by
  obtain ⟨k, e⟩ := nkey_mm m
  exact co (by simp [cmpP, eqP, e])
theorem perm_map {α : Type} {f : α → P} {Pr : α → Prop} : ∀ {zs : List P}, (∀ z ∈ zs, ∃ m, Pr m ∧ z = f m) → ∃ ms : List α, zs = ms.map f ∧ ∀ m ∈ ms, Pr m
  | [], _ => ⟨[], rfl, by simp⟩
  | z :: zs, h => by
    obtain ⟨ms, e, hp⟩ := perm_map (zs := zs) fun z hz => h z (List.mem_cons_of_mem _ hz)
    obtain ⟨m, hm, e2⟩ := h z List.mem_cons_self
    exact ⟨m :: ms, by rw [e, e2]; rfl, by simpa using ⟨hm, hp⟩⟩
theorem Sm_mm (n : Nat) (m : Mm) (hl : m.length ≤ 1000) : Sm (n + 2) (mmP m) := by
  refine Sm_tup _ _ (by simp; omega) fun x hx => ?_
  obtain ⟨v, _, rfl⟩ := List.mem_map.mp hx
  exact Sm_v _ v
theorem Sm_cs (n : Nat) (cs : Tb) (hl : cs.length ≤ 1000) : Sm (n + 3) (csP cs) := by
  refine Sm_tup _ _ (by simp; omega) fun x hx => ?_
  obtain ⟨c, _, rfl⟩ := List.mem_map.mp hx
  refine Sm_tup _ _ (by simp) fun x hx => ?_
  rcases List.mem_cons.mp hx with rfl | hx
  · exact Sm_str _ _
  · rcases List.mem_cons.mp hx with rfl | hx
    · exact Sm_v _ _
    · cases hx
theorem Sm_mms (n : Nat) (ms : List Mm) (hl : ms.length ≤ 1000) (hm : ∀ m ∈ ms, m.length ≤ 1000) : Sm (n + 3) (.tup (ms.map mmP)) := by
  refine Sm_tup _ _ (by simp; omega) fun x hx => ?_
  obtain ⟨m, h, rfl⟩ := List.mem_map.mp hx
  exact Sm_mm _ m (hm m h)
theorem Sm_tv (n : Nat) (V : Val) (T : Nat) (x : Str) (hl : T ≤ 1000) : Sm (n + 2) (.tup ((List.range T).map fun t => vP (V t x))) := by
  refine Sm_tup _ _ (by simp; omega) fun y hy => ?_
  obtain ⟨t, _, rfl⟩ := List.mem_map.mp hy
  exact Sm_v _ _
theorem Sm_use {n : Nat} {d : P} (h : Sm n d) {e : P} (he : e = d) : cl n "_law_same" [.p d, .p e] = .ok (.p (.bl true), [.p d, .p e]) := by subst he; exact h
/-- the law's first half: meaning, history, value_at -/
theorem momP_mm (N : Nt) (V : Val) (t : Nat) : momP N V t = mmP (N.nm.map (V t)) := by simp [momP, mmP]
end Ev

namespace Ev
open PySem PySem.Spec PyProof.Rows L2
theorem bfP_take {tr : List Mm} {k : Nat} (h : 0 < k) (hk : k ≤ tr.length) : bfP (tr.take k) = mmP (tr.getD (k - 1) []) := by
  have : (tr.take k) = (tr.take (k - 1)) ++ [tr.getD (k - 1) []] := by
    conv => lhs; rw [show k = (k - 1) + 1 by omega, List.take_succ, List.getElem?_eq_getElem (show k - 1 < tr.length by omega)]
    simp [List.getD_eq_getElem?_getD, List.getElem?_eq_getElem (show k - 1 < tr.length by omega)]
  rw [this, bfP_snoc]
theorem tabs_tv {N : Nt} {rs : List Evt} {tabs : List Tb} (G : Good N rs tabs) (x : Str) : tabs.map (fun T => vP (getv T x)) = (List.range rs.length).map fun t => vP (tv tabs t x) := by
  refine List.ext_getElem (by simp [G.len]) fun t h1 h2 => ?_
  simp at h1
  simp [tv, List.getD_eq_getElem?_getD, List.getElem?_eq_getElem h1]
theorem tabs_mom {N : Nt} {rs : List Evt} {tabs : List Tb} (G : Good N rs tabs) : tabs.map (fun T => P.tup (N.nm.map fun x => vP (getv T x))) = (List.range rs.length).map (momP N (tv tabs)) := by
  refine List.ext_getElem (by simp [G.len]) fun t h1 h2 => ?_
  simp at h1
  simp [tv, momP, List.getD_eq_getElem?_getD, List.getElem?_eq_getElem h1]
theorem co_nil : cmpPo .NotEq (.tup []) (.tup []) = .ok false := co (by kernel_rfl)
theorem co_nilE : cmpPo .Eq (.tup []) (.tup []) = .ok true := co (by kernel_rfl)
theorem Sm_momP (n : Nat) (N : Nt) (V : Val) (T : Nat) (hl : T ≤ 1000) (hc : N.nm.length ≤ 1000) : Sm (n + 3) (.tup ((List.range T).map (momP N V))) := by
  refine Sm_tup _ _ (by simp; omega) fun x hx => ?_
  obtain ⟨t, _, rfl⟩ := List.mem_map.mp hx
  rw [momP_mm]
  exact Sm_mm _ _ (by simpa using hc)
theorem t_law (n : Nat) (ns : List Int) (hn : ns.length ≤ 63) : Tri (cl (n + 60) "law" [.p (.ls (ns.map .int))]) fun r => r.1 = .p (.bl true) := by
  rw [ev_law]
  refine tri_F ?_
  conv => arg 1; whnf
  refine tri_bind (t_box _ ns hn) ?_
  rintro _ ⟨row, rfl, B⟩
  conv => arg 1; whnf
  refine tri_bind (t_net _ B _ 3 6 5 true (by omega) (by omega) (by omega) (by omega) (by omega)) ?_
  rintro _ ⟨N, a1, rfl, hN, _⟩
  have hz := hN.z
  have hi := hN.i
  have hc := hN.c
  have hnl := nm_len N
  have hnd := List.nodup_append.mp hN.nd
  conv => arg 1; whnf
  refine tri_bind (t_take _ B _ 8 (by decide)) ?_
  rintro _ ⟨k0, hk0, rfl⟩
  conv => arg 1; whnf
  refine tri_bind (t_rows _ B _ N (by omega) (by omega) (1 + k0) (1 + (k0 : Int)) (by omega) (by omega)) ?_
  rintro _ ⟨rs0, a2, rfl, hrl, hro⟩
  conv => arg 1; whnf
  rw [show cutP (rs0.map evP) none (some 1) = (rs0.take 1).map evP by rw [show (1 : Int) = ((1 : Nat) : Int) from rfl, cut_to, List.map_take]]
  conv => arg 1; whnf
  refine tri_stp (cat_tup (by rw [sizeLine_eq]; simp; omega)) ?_
  rw [← List.map_append]
  have hr : ∀ e ∈ rs0 ++ rs0.take 1, EvtOk N e := by
    intro e he
    rcases List.mem_append.mp he with h | h
    · exact hro e h
    · exact hro e (List.mem_of_mem_take h)
  have hrl2 : 0 < (rs0 ++ rs0.take 1).length ∧ (rs0 ++ rs0.take 1).length ≤ 20 := by simp; omega
  generalize rs0 ++ rs0.take 1 = rs at hr hrl2
  conv => arg 1; whnf
  refine tri_bind (t_tables _ N rs hN (by omega) hr (by omega)) ?_
  rintro _ ⟨tabs, rfl, G⟩
  have S := G.sem
  have htl := G.len
  conv => arg 1; whnf
  refine tri_stp (lc_map (enc := tbP) tabs (fun T => .tup (N.nm.map fun x => vP (getv T x))) (ws := [.ref 4]) (ρh := [some (.p (.ls (ns.map .int))), some (.own (bx row a2)), some (.p N.toP), some (.p (.tup (rs.map evP))), some (.rd (.lst (tabs.map tbP))), none, none, none, none, none, none, none, none, none, none, none, none, none, none, none]) (ρ2 := [some (.p (.ls (ns.map .int))), some (.own (bx row a2)), some (.p N.toP), some (.p (.tup (rs.map evP))), some (.own (.lst (tabs.map tbP))), none, none, none, none, none, none, none, none, none, none, none, none, none, none, none]) (by kernel_rfl) rfl rfl rfl (by rw [sizeLine_eq]; omega) (by rfl) ?h5 (by rfl)) ?_
  case h5 =>
    intro T hT
    apply tri_eq
    conv => arg 1; whnf
    refine tri_stp (t_moment _ N T (by omega) (fun x hx => G.key T hT x (List.mem_append_right _ hx))) ?_
    conv => arg 1; whnf
    refine tri_ret ?_
    rfl
  rw [tabs_mom G]
  conv => arg 1; whnf
  refine tri_stp (t_meaning (rs := rs) (V := tv tabs) _ hN (by omega) hr (by omega) S (by omega)) ?_
  conv => arg 1; whnf
  refine tri_stp (Sm_use (Sm_momP _ N (tv tabs) rs.length (by omega) (by omega)) rfl) ?_
  conv => arg 1; whnf
  refine tri_stp (t_meaning (rs := []) (V := tv tabs) (n + 58) hN (by omega) (fun _ h => by cases h) (by simp) ⟨(fun t h => by cases h), (fun t h => by cases h), (fun t h => by cases h)⟩ (by omega)) ?_
  conv => arg 1; whnf
  refine tri_stp (co_nil) ?_
  conv => arg 1; whnf
  refine tri_for (enc := P.str) N.all (fun pre ρ => ∃ (a : Nat) (j6 j13 : Option P), ρ = [some (.p (.ls (ns.map .int))), some (.own (bx row a)), some (.p N.toP), some (.p (.tup (rs.map evP))), some (.own (.lst (tabs.map tbP))), some (.p (.tup ((List.range rs.length).map (momP N (tv tabs))))), jk j6, none, none, none, none, none, none, jk j13, none, none, none, none, none, none] ∧ (pre ≠ [] → ∃ d6 d13, j6 = some d6 ∧ j13 = some d13))
    (ws := [.tmp (.lst (N.all.map .str))]) (by refine kEs_run (tri_eq ?_); (conv => arg 1; whnf); refine tri_stp (t_allnames _ N (by omega) (by omega)) ?_; (conv => arg 1; whnf); exact tri_ret rfl) rfl ⟨a2, none, none, rfl, fun h => absurd rfl h⟩ ?_ ?_
  · rintro pre x post ρ e ⟨a, j6, j13, rfl, _⟩
    have hx : x ∈ N.all := by rw [e]; simp
    conv => arg 1; whnf
    refine tri_stp (bt_1 (by (try simp only [List.set_cons_zero, List.set_cons_succ, List.set_nil]); simp only [ns_jk, ns_p, ns_own, ns_rd, ns_none, ns_nil, ns_jo]) rfl (by simp)) ?_
    conv => arg 1; whnf
    refine tri_stp (lc_map (enc := tbP) tabs (fun T => vP (getv T x)) (ws := [.ref 4]) (ρh := [some (.p (.ls (ns.map .int))), some (.own (bx row a)), some (.p N.toP), some (.p (.tup (rs.map evP))), some (.rd (.lst (tabs.map tbP))), some (.p (.tup ((List.range rs.length).map (momP N (tv tabs))))), some (.p (.str x)), none, none, none, none, none, none, jk j13, none, none, none, none, none, none]) (ρ2 := [some (.p (.ls (ns.map .int))), some (.own (bx row a)), some (.p N.toP), some (.p (.tup (rs.map evP))), some (.own (.lst (tabs.map tbP))), some (.p (.tup ((List.range rs.length).map (momP N (tv tabs))))), some (.p (.str x)), none, none, none, none, none, none, jk j13, none, none, none, none, none, none]) (by kernel_rfl) rfl rfl rfl (by rw [sizeLine_eq]; omega) (by cases j13 <;> rfl) ?h5 (by cases j13 <;> rfl)) ?_
    case h5 =>
      intro T hT
      apply tri_eq
      conv => arg 1; whnf
      refine tri_stp (bt_1 (by (try simp only [List.set_cons_zero, List.set_cons_succ, List.set_nil]); simp only [ns_jk, ns_p, ns_own, ns_rd, ns_none, ns_nil, ns_jo]) rfl (by simp)) ?_
      conv => arg 1; whnf
      refine tri_stp (ix_tb (G.key T hT x hx)) ?_
      conv => arg 1; whnf
      refine tri_ret ?_
      cases j13 <;> rfl
    rw [tabs_tv G]
    conv => arg 1; whnf
    refine tri_stp (t_history (rs := rs) (V := tv tabs) (n + 57) hN (by omega) hr (by omega) S (by omega) x hx) ?_
    conv => arg 1; whnf
    refine tri_stp (Sm_use (Sm_tv _ (tv tabs) rs.length x (by omega)) rfl) ?_
    conv => arg 1; whnf
    refine tri_bind (t_take _ B _ (rs.map evP).length (by simp; omega)) ?_
    rintro _ ⟨t, ht, rfl⟩
    have ht : t < rs.length := by simp at ht; omega
    have e1 : ixP (.lst (tabs.map tbP)) (.int t) = .ok (tbP (tabs.getD t [])) := ix_nat (by simp [List.getD_eq_getElem?_getD, List.getElem?_eq_getElem (show t < tabs.length by omega)])
    have hk : x ∈ (tabs.getD t []).map (·.1) := by
      refine G.key _ ?_ x hx
      rw [List.getD_eq_getElem?_getD, List.getElem?_eq_getElem (show t < tabs.length by omega)]
      exact List.getElem_mem _
    conv => arg 1; whnf
    refine tri_stp (bs_p (by (try simp only [List.set_cons_zero, List.set_cons_succ, List.set_nil]); simp only [ns_jk, ns_p, ns_own, ns_rd, ns_none, ns_nil, ns_jo]) rfl (by simp)) ?_
    conv => arg 1; whnf
    refine tri_stp (e1) ?_
    conv => arg 1; whnf
    refine tri_stp (ix_tb hk) ?_
    conv => arg 1; whnf
    refine tri_stp (t_value (rs := rs) (V := tv tabs) (n + 56) hN (by omega) hr (by omega) S (by omega) x hx t ht) ?_
    conv => arg 1; whnf
    refine tri_stp (Sm_use (d := .tup [vP (tv tabs t x)]) (Sm_tup (n + 58) _ (by simp) (fun y hy => by simp at hy; subst hy; exact Sm_v _ _)) rfl) ?_
    conv => arg 1; whnf
    rw [show cutP (rs.map evP) none (some ((t : Int) + 1)) = (rs.take (t + 1)).map evP by rw [show ((t : Int) + 1) = ((t + 1 : Nat) : Int) by omega, cut_to, List.map_take]]
    conv => arg 1; whnf
    refine tri_stp (t_value (rs := rs.take (t + 1)) (V := tv tabs) (n + 56) hN (by omega) (fun e he => hr e (List.mem_of_mem_take he)) (by simp; omega) (S.take (t + 1)) (by omega) x hx t (by simp; omega)) ?_
    conv => arg 1; whnf
    refine tri_stp (e1) ?_
    conv => arg 1; whnf
    refine tri_stp (ix_tb hk) ?_
    conv => arg 1; whnf
    refine tri_stp (co_nev (tv tabs t x) (tv tabs t x)) ?_
    rw [decide_eq_true rfl]
    conv => arg 1; whnf
    refine tri_ret ?_
    exact ⟨.inl rfl, _, some (.str x), some (.int t), rfl, fun _ => ⟨_, _, rfl, rfl⟩⟩
  · rintro _ ⟨a, j6, j13, rfl, hj⟩
    obtain ⟨d6, d13, rfl, rfl⟩ := hj (by
      intro q
      have := congrArg List.length q
      rw [Nt.all, List.length_append] at this
      simp only [List.length_nil] at this
      omega)
    conv => arg 1; whnf
    refine tri_lc (enc := enI) (List.range 4) (fun (a : Nat) => [some (.p (.ls (ns.map .int))), some (.own (bx row a)), some (.p N.toP), some (.p (.tup (rs.map evP))), some (.own (.lst (tabs.map tbP))), some (.p (.tup ((List.range rs.length).map (momP N (tv tabs))))), some (.p d6), none, none, none, none, none, none, some (.p d13), none, none, none, none, none, none]) (fun pre ds _ => ∃ ms : List Mm, ds = ms.map mmP ∧ ms.length = pre.length ∧ ∀ m ∈ ms, m.length = N.nm.length ∧ ∀ v ∈ m, VOk N.z v) a
      (ws := [.p (.int 4)]) (by kernel_rfl) (it_rng1' (k := 4) rfl (by omega)) rfl (by rw [sizeLine_eq]; simp) rfl ⟨[], rfl, rfl, by simp⟩ ?_ ?_
    · rintro pre j post ds a e ⟨ms, rfl, hl, hms⟩
      conv => arg 1; whnf
      refine tri_lc (enc := enP Fm.toP) N.cells (fun (a : Nat) => [some (.p (.ls (ns.map .int))), some (.own (bx row a)), some (.p N.toP), some (.p (.tup (rs.map evP))), some (.own (.lst (tabs.map tbP))), some (.p (.tup ((List.range rs.length).map (momP N (tv tabs))))), some (.p d6), none, none, some (.p (enI j)), none, none, none, some (.p d13), none, none, none, none, none, none]) (fun pre ds _ => ∃ m : Mm, ds = m.map vP ∧ m.length = pre.length ∧ ∀ v ∈ m, VOk N.z v) a
        (ws := [.p (.tup (N.cells.map (enP Fm.toP)))]) (by kernel_rfl) rfl rfl (by rw [sizeLine_eq]; omega) rfl ⟨[], rfl, rfl, by simp⟩ ?_ ?_
      · rintro pre c post ds a e ⟨m, rfl, hl, hms⟩
        conv => arg 1; whnf
        refine tri_bind (t_take _ B _ N.z (by omega)) ?_
        rintro _ ⟨k, hk, rfl⟩
        conv => arg 1; whnf
        refine tri_bind (t_pick _ B _ [.non, .int k] (by simp)) ?_
        rintro _ ⟨v, hv, rfl⟩
        conv => arg 1; whnf
        refine tri_ret ?_
        obtain ⟨v', rfl, hvo⟩ : ∃ v' : Option Int, v = vP v' ∧ VOk N.z v' := by
          simp only [List.mem_cons, List.not_mem_nil, or_false] at hv
          rcases hv with rfl | rfl
          · exact ⟨none, rfl, VOk_none _⟩
          · exact ⟨some k, rfl, fun i e => by cases e; omega⟩
        refine ⟨some (vP v'), _, rfl, m ++ [v'], by simp, by simp [hl], ?_⟩
        intro u hu
        rcases List.mem_append.mp hu with hu | hu
        · exact hms u hu
        · simp at hu; subst hu; exact hvo
      · rintro ds a ⟨m, rfl, hml, hmv⟩
        conv => arg 1; whnf
        refine tri_ret ?_
        refine ⟨some (mmP m), a, rfl, ms ++ [m], by simp, by simp [hl], ?_⟩
        intro u hu
        rcases List.mem_append.mp hu with hu | hu
        · exact hms u hu
        · simp at hu; subst hu; exact ⟨by omega, hmv⟩
    · rintro ds a ⟨ms, rfl, hml, hms⟩
      conv => arg 1; whnf
      refine tri_stp (cat_lst (by rw [sizeLine_eq]; simp at hml; simp; omega)) ?_
      have em : (List.range rs.length).map (momP N (tv tabs)) ++ ms.map mmP = (((List.range rs.length).map fun t => N.nm.map (tv tabs t)) ++ ms).map mmP := by
        simp [momP_mm, Function.comp_def]
      have hall : ∀ m ∈ ((List.range rs.length).map fun t => N.nm.map (tv tabs t)) ++ ms, m.length = N.nm.length ∧ ∀ v ∈ m, VOk N.z v := by
        intro m hm
        rcases List.mem_append.mp hm with hm | hm
        · obtain ⟨t, ht, rfl⟩ := List.mem_map.mp hm
          refine ⟨by simp, fun v hv => ?_⟩
          obtain ⟨x, _, rfl⟩ := List.mem_map.mp hv
          exact S.ok t (by simpa using ht) x
        · exact hms m hm
      have hlen : (((List.range rs.length).map fun t => N.nm.map (tv tabs t)) ++ ms).length ≤ 24 ∧ 0 < (((List.range rs.length).map fun t => N.nm.map (tv tabs t)) ++ ms).length := by
        simp at hml ⊢; omega
      rw [em]
      generalize ((List.range rs.length).map fun t => N.nm.map (tv tabs t)) ++ ms = ms0 at hall hlen
      conv => arg 1; whnf
      refine tri_bind (t_mixed _ B _ (ms0.map mmP) (by simp; omega)) ?_
      rintro _ ⟨zs, a3, rfl, hzs⟩
      obtain ⟨tr, rfl, htr⟩ := perm_map (f := mmP) (Pr := fun m : Mm => m.length = N.nm.length ∧ ∀ v ∈ m, VOk N.z v) (zs := zs) (fun z hz => by
        obtain ⟨m, hm, rfl⟩ := List.mem_map.mp (hzs.mem_iff.mp hz)
        exact ⟨m, hall m hm, rfl⟩)
      have htl2 : tr.length ≤ 24 ∧ 0 < tr.length := by
        have := hzs.length_eq
        simp at this; omega
      have ht1 : ∀ m ∈ tr, m.length = N.nm.length := fun m hm => (htr m hm).1
      conv => arg 1; whnf
      refine tri_for (enc := enI) (List.range tr.length) (fun pre ρ => ∃ (j9 j10 j14 : Option P) (j15 : Option (List P)) (j16 : Option P), (pre ≠ [] → ∃ d9 d10 d14 d15 d16, j9 = some d9 ∧ j10 = some d10 ∧ j14 = some d14 ∧ j15 = some d15 ∧ j16 = some d16) ∧ ρ = [some (.p (.ls (ns.map .int))), some (.own (bx row a3)), some (.p N.toP), some (.p (.tup (rs.map evP))), some (.own (.lst (tabs.map tbP))), some (.p (.tup ((List.range rs.length).map (momP N (tv tabs))))), some (.p d6), some (.own (.lst (ms.map mmP))), some (.own (.lst (tr.map mmP))), jk j9, jk j10, none, none, some (.p d13), jk j14, jo j15, jk j16, none, none, none])
        (ws := [.p (.int tr.length)]) (by rw [← List.length_map (f := mmP)]; kernel_rfl) (it_rng1 (by omega)) ⟨none, none, none, none, none, (fun h => absurd rfl h), rfl⟩ ?_ ?_
      · rintro pre k post ρ e ⟨j9, j10, j14, j15, j16, _, rfl⟩
        obtain ⟨rfl, hk⟩ := rng_at e
        generalize pre.length = k at hk
        obtain ⟨m, hmd⟩ : ∃ m, m = tr.getD k [] := ⟨_, rfl⟩
        obtain ⟨b, hbd⟩ : ∃ b, b = (([] : Mm) :: tr.take k).getLast (by simp) := ⟨_, rfl⟩
        have hmt : m ∈ tr := by rw [hmd, List.getD_eq_getElem?_getD, List.getElem?_eq_getElem hk]; exact List.getElem_mem _
        have e_m : ixP (.lst (tr.map mmP)) (.int k) = .ok (mmP m) := ix_nat (by rw [hmd]; simp [List.getD_eq_getElem?_getD, List.getElem?_eq_getElem hk])
        have hml := ht1 m hmt
        have htk : ∀ q ∈ tr.take k, q.length = N.nm.length := fun q hq => ht1 q (List.mem_of_mem_take hq)
        conv => arg 1; whnf
        refine tri_stp (bt_1 (by (try simp only [List.set_cons_zero, List.set_cons_succ, List.set_nil]); simp only [ns_jk, ns_p, ns_own, ns_rd, ns_none, ns_nil, ns_jo]) rfl (by simp)) ?_
        refine tri_Sn (fun ρ => ρ = [some (.p (.ls (ns.map .int))), some (.own (bx row a3)), some (.p N.toP), some (.p (.tup (rs.map evP))), some (.own (.lst (tabs.map tbP))), some (.p (.tup ((List.range rs.length).map (momP N (tv tabs))))), some (.p d6), some (.own (.lst (ms.map mmP))), some (.own (.lst (tr.map mmP))), some (.p (enI k)), jk j10, none, none, some (.p d13), some (.p (bfP (tr.take k))), jo j15, jk j16, none, none, none]) ?_ ?_
        · conv => arg 1; whnf
          refine tri_stp (co_gt _ _) ?_
          conv => arg 1; whnf
          refine tri_if (fun h => ?_) (fun h => ?_)
          · have h : 0 < k := by have := of_decide_eq_true h; omega
            have e1 : ixP (.lst (tr.map mmP)) (.int ((k : Int) - 1)) = .ok (bfP (tr.take k)) := by
              rw [show ((k : Int) - 1) = ((k - 1 : Nat) : Int) by omega, bfP_take h (by omega)]
              exact ix_nat (by simp [List.getD_eq_getElem?_getD, List.getElem?_eq_getElem (show k - 1 < tr.length by omega)])
            conv => arg 1; whnf
            refine tri_stp (e1) ?_
            conv => arg 1; whnf
            refine tri_stp (bs_p (by (try simp only [List.set_cons_zero, List.set_cons_succ, List.set_nil]); simp only [ns_jk, ns_p, ns_own, ns_rd, ns_none, ns_nil, ns_jo]) rfl (by simp)) ?_
            conv => arg 1; whnf
            refine tri_ret ?_
            exact ⟨rfl, rfl⟩
          · have h : k = 0 := by have := of_decide_eq_false h; omega
            conv => arg 1; whnf
            refine tri_stp (bs_p (by (try simp only [List.set_cons_zero, List.set_cons_succ, List.set_nil]); simp only [ns_jk, ns_p, ns_own, ns_rd, ns_none, ns_nil, ns_jo]) rfl (by simp)) ?_
            conv => arg 1; whnf
            refine tri_ret ?_
            refine ⟨rfl, ?_⟩
            rw [show bfP (tr.take k) = .non by rw [h]; rfl]
            rfl
        rintro _ rfl
        refine tri_Sn (fun ρ => ρ = [some (.p (.ls (ns.map .int))), some (.own (bx row a3)), some (.p N.toP), some (.p (.tup (rs.map evP))), some (.own (.lst (tabs.map tbP))), some (.p (.tup ((List.range rs.length).map (momP N (tv tabs))))), some (.p d6), some (.own (.lst (ms.map mmP))), some (.own (.lst (tr.map mmP))), some (.p (enI k)), some (.p (csP (chg N.nm b m))), none, none, some (.p d13), some (.p (bfP (tr.take k))), jo j15, jk j16, none, none, none]) ?_ ?_
        · conv => arg 1; whnf
          refine tri_stp (e_m) ?_
          conv => arg 1; whnf
          refine tri_stp (t_changesB (n + 57) (by omega) (tr.take k) htk m hml) ?_
          rw [← hbd]
          conv => arg 1; whnf
          refine tri_stp (bs_p (by (try simp only [List.set_cons_zero, List.set_cons_succ, List.set_nil]); simp only [ns_jk, ns_p, ns_own, ns_rd, ns_none, ns_nil, ns_jo]) rfl (by simp)) ?_
          conv => arg 1; whnf
          refine tri_ret ?_
          exact ⟨rfl, rfl⟩
        rintro _ rfl
        refine tri_Sn (fun ρ => ∃ ob : Mm, ρ = [some (.p (.ls (ns.map .int))), some (.own (bx row a3)), some (.p N.toP), some (.p (.tup (rs.map evP))), some (.own (.lst (tabs.map tbP))), some (.p (.tup ((List.range rs.length).map (momP N (tv tabs))))), some (.p d6), some (.own (.lst (ms.map mmP))), some (.own (.lst (tr.map mmP))), some (.p (enI k)), some (.p (csP (chg N.nm b m))), none, none, some (.p d13), some (.p (bfP (tr.take k))), some (.own (.lst (ob.map vP))), jk j16, none, none, none] ∧ ob.length = N.nm.length ∧ ∀ i, ob.getD i none = b.getD i none) ?_ ?_
        · rcases Nat.eq_zero_or_pos k with h | h
          · rw [show bfP (tr.take k) = .non by rw [h]; rfl]
            have hb0 : b = [] := by rw [hbd]; simp [h]
            conv => arg 1; whnf
            refine tri_stp (lc_map (enc := enP Fm.toP) N.cells (fun _ => vP none) (ws := [.p (.tup (N.cells.map (enP Fm.toP)))]) (ρh := [some (.p (.ls (ns.map .int))), some (.own (bx row a3)), some (.p N.toP), some (.p (.tup (rs.map evP))), some (.own (.lst (tabs.map tbP))), some (.p (.tup ((List.range rs.length).map (momP N (tv tabs))))), some (.p d6), some (.own (.lst (ms.map mmP))), some (.own (.lst (tr.map mmP))), some (.p (enI k)), some (.p (csP (chg N.nm b m))), none, none, some (.p d13), some (.p .non), jo j15, jk j16, none, none, none]) (ρ2 := [some (.p (.ls (ns.map .int))), some (.own (bx row a3)), some (.p N.toP), some (.p (.tup (rs.map evP))), some (.own (.lst (tabs.map tbP))), some (.p (.tup ((List.range rs.length).map (momP N (tv tabs))))), some (.p d6), some (.own (.lst (ms.map mmP))), some (.own (.lst (tr.map mmP))), some (.p (enI k)), some (.p (csP (chg N.nm b m))), none, none, some (.p d13), some (.p .non), jo j15, jk j16, none, none, none]) (by kernel_rfl) rfl rfl rfl (by rw [sizeLine_eq]; omega) (by cases j15 <;> cases j16 <;> rfl) ?h5 (by cases j15 <;> cases j16 <;> rfl)) ?_
            case h5 =>
              rintro ⟨x, f⟩ hx
              apply tri_eq
              conv => arg 1; whnf
              refine tri_stp (bt_1 (by (try simp only [List.set_cons_zero, List.set_cons_succ, List.set_nil]); simp only [ns_jk, ns_p, ns_own, ns_rd, ns_none, ns_nil, ns_jo]) rfl (by simp)) ?_
              conv => arg 1; whnf
              refine tri_ret ?_
              cases j15 <;> cases j16 <;> rfl
            conv => arg 1; whnf
            refine tri_stp (bs_t (by (try simp only [List.set_cons_zero, List.set_cons_succ, List.set_nil]); simp only [ns_jk, ns_p, ns_own, ns_rd, ns_none, ns_nil, ns_jo]) rfl (by simp)) ?_
            conv => arg 1; whnf
            refine tri_ret ?_
            refine ⟨rfl, N.cells.map (fun _ => none), ?_, by simp [hnl], fun i => ?_⟩
            · rw [List.map_map]; rfl
            · rw [hb0, List.getD_eq_getElem?_getD, List.getElem?_map]
              cases N.cells[i]? <;> rfl
          · have hbt : bfP (tr.take k) = mmP b ∧ b ∈ tr := by
              rw [bfP_take h (by omega), hbd]
              have : (tr.take k) = (tr.take (k - 1)) ++ [tr.getD (k - 1) []] := by
                conv => lhs; rw [show k = (k - 1) + 1 by omega, List.take_succ, List.getElem?_eq_getElem (show k - 1 < tr.length by omega)]
                simp [List.getD_eq_getElem?_getD, List.getElem?_eq_getElem (show k - 1 < tr.length by omega)]
              simp only [this, gl]
              refine ⟨trivial, ?_⟩
              rw [List.getD_eq_getElem?_getD, List.getElem?_eq_getElem (show k - 1 < tr.length by omega)]; exact List.getElem_mem _
            rw [hbt.1]
            conv => arg 1; whnf
            refine tri_stp (bs_t (by (try simp only [List.set_cons_zero, List.set_cons_succ, List.set_nil]); simp only [ns_jk, ns_p, ns_own, ns_rd, ns_none, ns_nil, ns_jo]) rfl (by simp)) ?_
            conv => arg 1; whnf
            refine tri_ret ?_
            exact ⟨rfl, b, rfl, ht1 b hbt.2, fun i => rfl⟩
        rintro _ ⟨ob, rfl, hobl, hob⟩
        refine tri_Sn (fun ρ => ρ = [some (.p (.ls (ns.map .int))), some (.own (bx row a3)), some (.p N.toP), some (.p (.tup (rs.map evP))), some (.own (.lst (tabs.map tbP))), some (.p (.tup ((List.range rs.length).map (momP N (tv tabs))))), some (.p d6), some (.own (.lst (ms.map mmP))), some (.own (.lst (tr.map mmP))), some (.p (enI k)), some (.p (csP (chg N.nm b m))), none, none, some (.p d13), some (.p (bfP (tr.take k))), some (.own (.lst (ob.map vP))), some (.p (csP (chg N.nm b m))), none, none, none]) ?_ ?_
        · conv => arg 1; whnf
          refine tri_stp (lc_filter (enc := enI) (List.range N.nm.length) (fun i => !decide (m.getD i none = ob.getD i none)) (fun i => enP vP (N.nm.getD i default, m.getD i none)) (ws := [.p (.int N.nm.length)]) (ρh := [some (.p (.ls (ns.map .int))), some (.own (bx row a3)), some (.p N.toP), some (.p (.tup (rs.map evP))), some (.own (.lst (tabs.map tbP))), some (.p (.tup ((List.range rs.length).map (momP N (tv tabs))))), some (.p d6), some (.own (.lst (ms.map mmP))), some (.own (.lst (tr.map mmP))), some (.p (enI k)), some (.p (csP (chg N.nm b m))), none, none, none, some (.p (bfP (tr.take k))), some (.own (.lst (ob.map vP))), jk j16, none, none, none]) (ρ2 := [some (.p (.ls (ns.map .int))), some (.own (bx row a3)), some (.p N.toP), some (.p (.tup (rs.map evP))), some (.own (.lst (tabs.map tbP))), some (.p (.tup ((List.range rs.length).map (momP N (tv tabs))))), some (.p d6), some (.own (.lst (ms.map mmP))), some (.own (.lst (tr.map mmP))), some (.p (enI k)), some (.p (csP (chg N.nm b m))), none, none, some (.p d13), some (.p (bfP (tr.take k))), some (.own (.lst (ob.map vP))), jk j16, none, none, none]) (by rw [hnl, ← List.length_map (as := N.cells) (f := enP Fm.toP)]; kernel_rfl) (it_rng1 (by omega)) rfl rfl (by rw [sizeLine_eq]; simp; omega) (by cases j16 <;> rfl) ?h5 (by cases j16 <;> rfl)) ?_
          case h5 =>
            intro i hi
            have hi : i < N.nm.length := by simpa using hi
            have e1 := ix_mm (m := m) (i := i) (by omega)
            have e2 : ixP (.lst (ob.map vP)) (.int i) = .ok (vP (ob.getD i none)) := ix_nat (by simp [List.getD_eq_getElem?_getD, List.getElem?_eq_getElem (show i < ob.length by omega)])
            have e4 : ∃ f, ixP (.tup (N.cells.map (enP Fm.toP))) (.int i) = .ok (enP Fm.toP (N.nm.getD i default, f)) := by
              refine ⟨(N.cells[i]'(by omega)).2, ix_natT ?_⟩
              simp [Nt.nm, List.getD_eq_getElem?_getD, List.getElem?_eq_getElem (show i < N.cells.length by omega)]
            obtain ⟨f, e4⟩ := e4
            apply tri_eq
            conv => arg 1; whnf
            refine tri_stp (bt_1 (by (try simp only [List.set_cons_zero, List.set_cons_succ, List.set_nil]); simp only [ns_jk, ns_p, ns_own, ns_rd, ns_none, ns_nil, ns_jo]) rfl (by simp)) ?_
            conv => arg 1; whnf
            refine tri_stp (e_m) ?_
            conv => arg 1; whnf
            refine tri_stp (e1) ?_
            conv => arg 1; whnf
            refine tri_stp (e2) ?_
            conv => arg 1; whnf
            refine tri_stp (co_nev _ _) ?_
            cases hd : decide (m.getD i none = ob.getD i none) with
            | true =>
              conv => arg 1; whnf
              refine tri_ret ?_
              cases j16 <;> rfl
            | false =>
              conv => arg 1; whnf
              refine tri_stp (e4) ?_
              conv => arg 1; whnf
              refine tri_stp (e_m) ?_
              conv => arg 1; whnf
              refine tri_stp (e1) ?_
              conv => arg 1; whnf
              refine tri_ret ?_
              cases j16 <;> rfl
          have ec : ((List.range N.nm.length).filter fun i => !decide (m.getD i none = ob.getD i none)).map (fun i => enP vP (N.nm.getD i default, m.getD i none)) = (chg N.nm b m).map (enP vP) := by
            simp only [chg, List.map_map, hob]; rfl
          rw [ec]
          conv => arg 1; whnf
          refine tri_stp (bs_p (by (try simp only [List.set_cons_zero, List.set_cons_succ, List.set_nil]); simp only [ns_jk, ns_p, ns_own, ns_rd, ns_none, ns_nil, ns_jo]) rfl (by simp)) ?_
          conv => arg 1; whnf
          refine tri_ret ?_
          exact ⟨rfl, rfl⟩
        rintro _ rfl
        have hcl : (chg N.nm b m).length ≤ 100 := by have := chg_len N.nm b m; omega
        have hcn := chg_nm N.nm b m
        have hcv : ∀ c ∈ chg N.nm b m, VOk N.z c.2 := by
          intro c hc
          obtain ⟨i, hi, rfl⟩ := List.mem_map.mp hc
          simp only
          rw [List.getD_eq_getElem?_getD]
          cases q : m[i]? with
          | none => exact VOk_none _
          | some v => exact (htr m hmt).2 v (List.mem_of_getElem? q)
        have hapb : cl (n + 57 + 2) "applied" [.p N.toP, .p (bfP (tr.take k)), .p (csP (chg N.nm b m))] = .ok (.p (mmP m), [.p N.toP, .p (bfP (tr.take k)), .p (csP (chg N.nm b m))]) := by
          rw [t_appliedB (n + 57) (by omega) (tr.take k) htk _ (hcn.nodup hnd.2.1) (by omega), ← hbd, app_chg hnd.2.1 hml]
        have hap0 : cl (n + 57 + 2) "applied" [.p N.toP, .p (mmP m), .p (.tup [])] = .ok (.p (mmP m), [.p N.toP, .p (mmP m), .p (.tup [])]) := by
          have := t_applied (n + 57) (by omega) m hml [] (by simp) (by simp)
          rw [app_nil hml] at this
          exact this
        have hch0 : cl (n + 57 + 2) "changes" [.p N.toP, .p (mmP m), .p (mmP m)] = .ok (.p (.tup []), [.p N.toP, .p (mmP m), .p (mmP m)]) := by
          have := t_changes (n + 57) (by omega) m m hml hml
          rw [chg_same] at this
          exact this
        refine tri_Sn (fun ρ => ρ = [some (.p (.ls (ns.map .int))), some (.own (bx row a3)), some (.p N.toP), some (.p (.tup (rs.map evP))), some (.own (.lst (tabs.map tbP))), some (.p (.tup ((List.range rs.length).map (momP N (tv tabs))))), some (.p d6), some (.own (.lst (ms.map mmP))), some (.own (.lst (tr.map mmP))), some (.p (enI k)), some (.p (csP (chg N.nm b m))), none, none, some (.p d13), some (.p (bfP (tr.take k))), some (.own (.lst (ob.map vP))), some (.p (csP (chg N.nm b m))), none, none, none]) ?_ ?_
        · conv => arg 1; whnf
          refine tri_stp (Sm_use (Sm_cs (n + 56) (chg N.nm b m) (by omega)) rfl) ?_
          conv => arg 1; whnf
          refine tri_stp (t_arechanges (n + 54) (by omega) hz.1 (chg N.nm b m) (by omega) (fun c hc => hcn.subset (List.mem_map_of_mem (f := (·.1)) hc)) (hN.asC.sublist hcn) hcv) ?_
          conv => arg 1; whnf
          refine tri_stp (e_m) ?_
          conv => arg 1; whnf
          refine tri_stp (hapb) ?_
          conv => arg 1; whnf
          refine tri_stp (Sm_use (Sm_mm (n + 57) m (by omega)) rfl) ?_
          conv => arg 1; whnf
          refine tri_ret ?_
          exact ⟨rfl, rfl⟩
        rintro _ rfl
        conv => arg 1; whnf
        refine tri_stp (e_m) ?_
        conv => arg 1; whnf
        refine tri_stp (e_m) ?_
        conv => arg 1; whnf
        refine tri_stp (hap0) ?_
        conv => arg 1; whnf
        refine tri_stp (Sm_use (Sm_mm (n + 57) m (by omega)) rfl) ?_
        conv => arg 1; whnf
        refine tri_stp (e_m) ?_
        conv => arg 1; whnf
        refine tri_stp (e_m) ?_
        conv => arg 1; whnf
        refine tri_stp (hch0) ?_
        conv => arg 1; whnf
        refine tri_stp (co_nil) ?_
        conv => arg 1; whnf
        refine tri_ret ?_
        exact ⟨.inl rfl, some (enI k), some _, some _, some _, some _, (fun _ => ⟨_, _, _, _, _, rfl, rfl, rfl, rfl, rfl⟩), rfl⟩
      · rintro _ ⟨j9, j10, j14, j15, j16, hj, rfl⟩
        obtain ⟨d9, d10, d14, d15, d16, rfl, rfl, rfl, rfl, rfl⟩ := hj (by
          intro q
          have := congrArg List.length q
          rw [List.length_range, List.length_nil] at this
          omega)
        obtain ⟨m0, hm0⟩ : ∃ m0, m0 = tr.getD 0 [] := ⟨_, rfl⟩
        have hmt : m0 ∈ tr := by rw [hm0, List.getD_eq_getElem?_getD, List.getElem?_eq_getElem htl2.2]; exact List.getElem_mem _
        have e_m : ixP (.lst (tr.map mmP)) (.int 0) = .ok (mmP m0) := by
          rw [show (0 : Int) = ((0 : Nat) : Int) from rfl]
          exact ix_nat (by rw [hm0]; simp [List.getD_eq_getElem?_getD, List.getElem?_eq_getElem htl2.2])
        have hml := ht1 m0 hmt
        have hpl : (prevs [] tr).length = tr.length := by
          suffices H : ∀ (l : List Mm) b, (prevs b l).length = l.length from H _ _
          intro l; induction l with
          | nil => intro b; rfl
          | cons a l ih => intro b; simp [prevs, ih]
        refine tri_Sn (fun ρ => ρ = [some (.p (.ls (ns.map .int))), some (.own (bx row a3)), some (.p N.toP), some (.p (.tup (rs.map evP))), some (.own (.lst (tabs.map tbP))), some (.p (.tup ((List.range rs.length).map (momP N (tv tabs))))), some (.p d6), some (.own (.lst (ms.map mmP))), some (.own (.lst (tr.map mmP))), some (.p d9), some (.p (.tup ((prevs [] tr).map fun p => csP (chg N.nm p.1 p.2)))), none, none, some (.p d13), some (.p d14), some (.own (.lst d15)), some (.p d16), none, none, none]) ?_ ?_
        · conv => arg 1; whnf
          refine tri_stp (t_allchanges (n + 56) (by omega) tr (by omega) ht1) ?_
          conv => arg 1; whnf
          refine tri_ret ?_
          exact ⟨rfl, rfl⟩
        rintro _ rfl
        refine tri_Sn (fun ρ => ρ = [some (.p (.ls (ns.map .int))), some (.own (bx row a3)), some (.p N.toP), some (.p (.tup (rs.map evP))), some (.own (.lst (tabs.map tbP))), some (.p (.tup ((List.range rs.length).map (momP N (tv tabs))))), some (.p d6), some (.own (.lst (ms.map mmP))), some (.own (.lst (tr.map mmP))), some (.p d9), some (.p (.tup ((prevs [] tr).map fun p => csP (chg N.nm p.1 p.2)))), none, none, some (.p d13), some (.p d14), some (.own (.lst d15)), some (.p d16), none, none, none]) ?_ ?_
        · conv => arg 1; whnf
          refine tri_stp (co_ne _ _) ?_
          rw [decide_eq_true (by simp [hpl])]
          conv => arg 1; whnf
          refine tri_stp (t_replayed (n + 56) (by omega) hnd.2.1 tr (by omega) ht1) ?_
          conv => arg 1; whnf
          refine tri_stp (Sm_use (Sm_mms (n + 56) tr (by omega) (fun m hm => by have := ht1 m hm; omega)) rfl) ?_
          conv => arg 1; whnf
          refine tri_ret ?_
          exact ⟨rfl, rfl⟩
        rintro _ rfl
        have hcn := chg_nm N.nm [] m0
        have hcl : (chg N.nm [] m0).length ≤ 100 := by have := chg_len N.nm [] m0; omega
        refine tri_Sn (fun ρ => ∃ (sub : Tb) (a : Nat), ρ = [some (.p (.ls (ns.map .int))), some (.own (bx row a)), some (.p N.toP), some (.p (.tup (rs.map evP))), some (.own (.lst (tabs.map tbP))), some (.p (.tup ((List.range rs.length).map (momP N (tv tabs))))), some (.p d6), some (.own (.lst (ms.map mmP))), some (.own (.lst (tr.map mmP))), some (.p d9), some (.p (.tup ((prevs [] tr).map fun p => csP (chg N.nm p.1 p.2)))), some (.p (.tup (sub.map (enP vP)))), none, some (.p d13), some (.p d14), some (.own (.lst d15)), some (.p d16), none, none, none] ∧ (sub.map (·.1)).Sublist N.nm) ?_ ?_
        · conv => arg 1; whnf
          refine tri_lc (enc := enP vP) (chg N.nm [] m0) (fun (a : Nat) => [some (.p (.ls (ns.map .int))), some (.own (bx row a)), some (.p N.toP), some (.p (.tup (rs.map evP))), some (.own (.lst (tabs.map tbP))), some (.p (.tup ((List.range rs.length).map (momP N (tv tabs))))), some (.p d6), some (.own (.lst (ms.map mmP))), some (.own (.lst (tr.map mmP))), some (.p d9), some (.p (.tup ((prevs [] tr).map fun p => csP (chg N.nm p.1 p.2)))), none, none, some (.p d13), some (.p d14), some (.own (.lst d15)), some (.p d16), none, none, none]) (fun pre ds _ => ∃ sub : Tb, ds = sub.map (enP vP) ∧ sub.Sublist pre) a3
            (ws := [.p (csP (chg N.nm [] m0))]) ?h1 rfl rfl (by rw [sizeLine_eq]; omega) rfl ⟨[], rfl, .slnil⟩ ?_ ?_
          case h1 =>
            refine kEs_run (tri_eq ?_)
            conv => arg 1; whnf
            refine tri_stp (e_m) ?_
            conv => arg 1; whnf
            refine tri_stp (t_changes0 (n + 57) (by omega) m0 hml) ?_
            conv => arg 1; whnf
            refine tri_ret ?_
            rfl
          · rintro pre c post ds a e ⟨sub, rfl, hs⟩
            conv => arg 1; whnf
            refine tri_bind (t_take _ B _ 2 (by decide)) ?_
            rintro _ ⟨k, hk, rfl⟩
            conv => arg 1; whnf
            refine tri_stp (co_eq _ _) ?_
            conv => arg 1; whnf
            refine tri_if (fun h => ?_) (fun h => ?_)
            · conv => arg 1; whnf
              refine tri_ret ?_
              exact ⟨some (enP vP c), _, rfl, sub ++ [c], by simp, hs.append (List.Sublist.refl _)⟩
            · conv => arg 1; whnf
              refine tri_ret ?_
              exact ⟨none, _, rfl, sub, by simp, hs.trans (by simp)⟩
          · rintro ds a ⟨sub, rfl, hs⟩
            conv => arg 1; whnf
            refine tri_ret ?_
            exact ⟨rfl, sub, a, rfl, (hs.map _).trans hcn⟩
        rintro _ ⟨sub, a, rfl, hsub⟩
        have hsl : sub.length ≤ 100 := by have := hsub.length_le; simp at this; omega
        have hsn := hsub.nodup hnd.2.1
        refine tri_Sn (fun ρ => ρ = [some (.p (.ls (ns.map .int))), some (.own (bx row a)), some (.p N.toP), some (.p (.tup (rs.map evP))), some (.own (.lst (tabs.map tbP))), some (.p (.tup ((List.range rs.length).map (momP N (tv tabs))))), some (.p d6), some (.own (.lst (ms.map mmP))), some (.own (.lst (tr.map mmP))), some (.p d9), some (.p (.tup ((prevs [] tr).map fun p => csP (chg N.nm p.1 p.2)))), some (.p (.tup (sub.map (enP vP)))), some (.p (mmP (app N.nm m0 sub))), some (.p d13), some (.p d14), some (.own (.lst d15)), some (.p d16), none, none, none]) ?_ ?_
        · conv => arg 1; whnf
          refine tri_stp (lc_map (enc := enI) (List.range N.nm.length) (fun i => vP ((look sub (N.nm.getD i default)).getD (m0.getD i none))) (ws := [.p (.int N.nm.length)]) (ρh := [some (.p (.ls (ns.map .int))), some (.own (bx row a)), some (.p N.toP), some (.p (.tup (rs.map evP))), some (.own (.lst (tabs.map tbP))), some (.p (.tup ((List.range rs.length).map (momP N (tv tabs))))), some (.p d6), some (.own (.lst (ms.map mmP))), some (.own (.lst (tr.map mmP))), some (.p d9), some (.p (.tup ((prevs [] tr).map fun p => csP (chg N.nm p.1 p.2)))), some (.p (.tup (sub.map (enP vP)))), none, none, some (.p d14), some (.own (.lst d15)), some (.p d16), none, none, none]) (ρ2 := [some (.p (.ls (ns.map .int))), some (.own (bx row a)), some (.p N.toP), some (.p (.tup (rs.map evP))), some (.own (.lst (tabs.map tbP))), some (.p (.tup ((List.range rs.length).map (momP N (tv tabs))))), some (.p d6), some (.own (.lst (ms.map mmP))), some (.own (.lst (tr.map mmP))), some (.p d9), some (.p (.tup ((prevs [] tr).map fun p => csP (chg N.nm p.1 p.2)))), some (.p (.tup (sub.map (enP vP)))), none, some (.p d13), some (.p d14), some (.own (.lst d15)), some (.p d16), none, none, none]) (by rw [hnl, ← List.length_map (as := N.cells) (f := enP Fm.toP)]; kernel_rfl) (it_rng1 (by omega)) rfl rfl (by rw [sizeLine_eq]; simp; omega) rfl ?h5 rfl) ?_
          case h5 =>
            intro i hi
            have hi : i < N.nm.length := by simpa using hi
            have e1 := ix_mm (m := m0) (i := i) (by omega)
            have e4 : ∃ f, ixP (.tup (N.cells.map (enP Fm.toP))) (.int i) = .ok (enP Fm.toP (N.nm.getD i default, f)) := by
              refine ⟨(N.cells[i]'(by omega)).2, ix_natT ?_⟩
              simp [Nt.nm, List.getD_eq_getElem?_getD, List.getElem?_eq_getElem (show i < N.cells.length by omega)]
            obtain ⟨f, e4⟩ := e4
            apply tri_eq
            conv => arg 1; whnf
            refine tri_stp (bl_dict vP sub hsn (by omega)) ?_
            conv => arg 1; whnf
            refine tri_stp (e4) ?_
            conv => arg 1; whnf
            refine tri_stp (e_m) ?_
            conv => arg 1; whnf
            refine tri_stp (e1) ?_
            conv => arg 1; whnf
            refine tri_ret ?_
            have ev1 : (valP (dkP vP sub) (.inr (N.nm.getD i default))).getD (vP (m0.getD i none)) = vP ((look sub (N.nm.getD i default)).getD (m0.getD i none)) := by
              rw [val_dk]; cases look sub (N.nm.getD i default) <;> rfl
            rw [← ev1]; rfl
          rw [show (List.range N.nm.length).map (fun i => vP ((look sub (N.nm.getD i default)).getD (m0.getD i none))) = (app N.nm m0 sub).map vP by simp [app]]
          conv => arg 1; whnf
          refine tri_ret ?_
          exact ⟨rfl, rfl⟩
        rintro _ rfl
        conv => arg 1; whnf
        refine tri_stp (e_m) ?_
        conv => arg 1; whnf
        refine tri_stp (t_applied (n + 57) (by omega) m0 hml sub hsn (by omega)) ?_
        conv => arg 1; whnf
        refine tri_stp (co_mm (app N.nm m0 sub)) ?_
        conv => arg 1; whnf
        refine tri_stp (t_replayed (n + 56) (by omega) hnd.2.1 [] (by simp) (by simp)) ?_
        conv => arg 1; whnf
        refine tri_stp (co_nilE) ?_
        conv => arg 1; whnf
        refine tri_stp (t_allchanges (n + 56) (by omega) [] (by simp) (by simp)) ?_
        conv => arg 1; whnf
        refine tri_stp (co_nilE) ?_
        conv => arg 1; whnf
        refine tri_ret ?_
        rfl
end Ev
-- ns_jo

namespace Ev
open PySem PySem.Spec PyProof.Rows L2
theorem comp_is_integer : cDef e_is_integer.N e_is_integer.ps.length (defScope e_is_integer.st) (fnsT eT) free e_is_integer.deep e_is_integer.views (defBody e_is_integer.st) = some e_is_integer.F := by kernel_rfl
theorem comp_is_between : cDef e_is_between.N e_is_between.ps.length (defScope e_is_between.st) (fnsT eT) free e_is_between.deep e_is_between.views (defBody e_is_between.st) = some e_is_between.F := by kernel_rfl
theorem comp_is_row : cDef e_is_row.N e_is_row.ps.length (defScope e_is_row.st) (fnsT eT) free e_is_row.deep e_is_row.views (defBody e_is_row.st) = some e_is_row.F := by kernel_rfl
theorem comp_is_ascending : cDef e_is_ascending.N e_is_ascending.ps.length (defScope e_is_ascending.st) (fnsT eT) free e_is_ascending.deep e_is_ascending.views (defBody e_is_ascending.st) = some e_is_ascending.F := by kernel_rfl
theorem comp_is_worth : cDef e_is_worth.N e_is_worth.ps.length (defScope e_is_worth.st) (fnsT eT) free e_is_worth.deep e_is_worth.views (defBody e_is_worth.st) = some e_is_worth.F := by kernel_rfl
theorem comp_is_worth_or_none : cDef e_is_worth_or_none.N e_is_worth_or_none.ps.length (defScope e_is_worth_or_none.st) (fnsT eT) free e_is_worth_or_none.deep e_is_worth_or_none.views (defBody e_is_worth_or_none.st) = some e_is_worth_or_none.F := by kernel_rfl
theorem comp_names_in : cDef e_names_in.N e_names_in.ps.length (defScope e_names_in.st) (fnsT eT) free e_names_in.deep e_names_in.views (defBody e_names_in.st) = some e_names_in.F := by kernel_rfl
theorem comp_paired : cDef e_paired.N e_paired.ps.length (defScope e_paired.st) (fnsT eT) free e_paired.deep e_paired.views (defBody e_paired.st) = some e_paired.F := by kernel_rfl
theorem comp_shown : cDef e_shown.N e_shown.ps.length (defScope e_shown.st) (fnsT eT) free e_shown.deep e_shown.views (defBody e_shown.st) = some e_shown.F := by kernel_rfl
theorem comp_cell_names : cDef e_cell_names.N e_cell_names.ps.length (defScope e_cell_names.st) (fnsT eT) free e_cell_names.deep e_cell_names.views (defBody e_cell_names.st) = some e_cell_names.F := by kernel_rfl
theorem comp_form_table : cDef e_form_table.N e_form_table.ps.length (defScope e_form_table.st) (fnsT eT) free e_form_table.deep e_form_table.views (defBody e_form_table.st) = some e_form_table.F := by kernel_rfl
theorem comp_meaning : cDef e_meaning.N e_meaning.ps.length (defScope e_meaning.st) (fnsT eT) free e_meaning.deep e_meaning.views (defBody e_meaning.st) = some e_meaning.F := by kernel_rfl
theorem comp_shows : cDef e_shows.N e_shows.ps.length (defScope e_shows.st) (fnsT eT) free e_shows.deep e_shows.views (defBody e_shows.st) = some e_shows.F := by kernel_rfl
theorem comp_told : cDef e_told.N e_told.ps.length (defScope e_told.st) (fnsT eT) free e_told.deep e_told.views (defBody e_told.st) = some e_told.F := by kernel_rfl
theorem comp_remembered : cDef e_remembered.N e_remembered.ps.length (defScope e_remembered.st) (fnsT eT) free e_remembered.deep e_remembered.views (defBody e_remembered.st) = some e_remembered.F := by kernel_rfl
theorem comp_matched : cDef e_matched.N e_matched.ps.length (defScope e_matched.st) (fnsT eT) free e_matched.deep e_matched.views (defBody e_matched.st) = some e_matched.F := by kernel_rfl
theorem comp_history : cDef e_history.N e_history.ps.length (defScope e_history.st) (fnsT eT) free e_history.deep e_history.views (defBody e_history.st) = some e_history.F := by kernel_rfl
theorem comp_value_at : cDef e_value_at.N e_value_at.ps.length (defScope e_value_at.st) (fnsT eT) free e_value_at.deep e_value_at.views (defBody e_value_at.st) = some e_value_at.F := by kernel_rfl
theorem comp_changes : cDef e_changes.N e_changes.ps.length (defScope e_changes.st) (fnsT eT) free e_changes.deep e_changes.views (defBody e_changes.st) = some e_changes.F := by kernel_rfl
theorem comp_applied : cDef e_applied.N e_applied.ps.length (defScope e_applied.st) (fnsT eT) free e_applied.deep e_applied.views (defBody e_applied.st) = some e_applied.F := by kernel_rfl
theorem comp_are_changes : cDef e_are_changes.N e_are_changes.ps.length (defScope e_are_changes.st) (fnsT eT) free e_are_changes.deep e_are_changes.views (defBody e_are_changes.st) = some e_are_changes.F := by kernel_rfl
theorem comp_all_changes : cDef e_all_changes.N e_all_changes.ps.length (defScope e_all_changes.st) (fnsT eT) free e_all_changes.deep e_all_changes.views (defBody e_all_changes.st) = some e_all_changes.F := by kernel_rfl
theorem comp_replayed : cDef e_replayed.N e_replayed.ps.length (defScope e_replayed.st) (fnsT eT) free e_replayed.deep e_replayed.views (defBody e_replayed.st) = some e_replayed.F := by kernel_rfl
theorem comp_law_digits : cDef e_law_digits.N e_law_digits.ps.length (defScope e_law_digits.st) (fnsT eT) free e_law_digits.deep e_law_digits.views (defBody e_law_digits.st) = some e_law_digits.F := by kernel_rfl
theorem comp_law_box : cDef e_law_box.N e_law_box.ps.length (defScope e_law_box.st) (fnsT eT) free e_law_box.deep e_law_box.views (defBody e_law_box.st) = some e_law_box.F := by kernel_rfl
theorem comp_law_take : cDef e_law_take.N e_law_take.ps.length (defScope e_law_take.st) (fnsT eT) free e_law_take.deep e_law_take.views (defBody e_law_take.st) = some e_law_take.F := by kernel_rfl
theorem comp_law_pick : cDef e_law_pick.N e_law_pick.ps.length (defScope e_law_pick.st) (fnsT eT) free e_law_pick.deep e_law_pick.views (defBody e_law_pick.st) = some e_law_pick.F := by kernel_rfl
theorem comp_law_some : cDef e_law_some.N e_law_some.ps.length (defScope e_law_some.st) (fnsT eT) free e_law_some.deep e_law_some.views (defBody e_law_some.st) = some e_law_some.F := by kernel_rfl
theorem comp_law_names : cDef e_law_names.N e_law_names.ps.length (defScope e_law_names.st) (fnsT eT) free e_law_names.deep e_law_names.views (defBody e_law_names.st) = some e_law_names.F := by kernel_rfl
theorem comp_law_form : cDef e_law_form.N e_law_form.ps.length (defScope e_law_form.st) (fnsT eT) free e_law_form.deep e_law_form.views (defBody e_law_form.st) = some e_law_form.F := by kernel_rfl
theorem comp_law_names_in : cDef e_law_names_in.N e_law_names_in.ps.length (defScope e_law_names_in.st) (fnsT eT) free e_law_names_in.deep e_law_names_in.views (defBody e_law_names_in.st) = some e_law_names_in.F := by kernel_rfl
theorem comp_law_under : cDef e_law_under.N e_law_under.ps.length (defScope e_law_under.st) (fnsT eT) free e_law_under.deep e_law_under.views (defBody e_law_under.st) = some e_law_under.F := by kernel_rfl
theorem comp_law_order : cDef e_law_order.N e_law_order.ps.length (defScope e_law_order.st) (fnsT eT) free e_law_order.deep e_law_order.views (defBody e_law_order.st) = some e_law_order.F := by kernel_rfl
theorem comp_law_sound : cDef e_law_sound.N e_law_sound.ps.length (defScope e_law_sound.st) (fnsT eT) free e_law_sound.deep e_law_sound.views (defBody e_law_sound.st) = some e_law_sound.F := by kernel_rfl
theorem comp_law_net : cDef e_law_net.N e_law_net.ps.length (defScope e_law_net.st) (fnsT eT) free e_law_net.deep e_law_net.views (defBody e_law_net.st) = some e_law_net.F := by kernel_rfl
theorem comp_law_paired : cDef e_law_paired.N e_law_paired.ps.length (defScope e_law_paired.st) (fnsT eT) free e_law_paired.deep e_law_paired.views (defBody e_law_paired.st) = some e_law_paired.F := by kernel_rfl
theorem comp_law_shown : cDef e_law_shown.N e_law_shown.ps.length (defScope e_law_shown.st) (fnsT eT) free e_law_shown.deep e_law_shown.views (defBody e_law_shown.st) = some e_law_shown.F := by kernel_rfl
theorem comp_law_event : cDef e_law_event.N e_law_event.ps.length (defScope e_law_event.st) (fnsT eT) free e_law_event.deep e_law_event.views (defBody e_law_event.st) = some e_law_event.F := by kernel_rfl
theorem comp_law_rows : cDef e_law_rows.N e_law_rows.ps.length (defScope e_law_rows.st) (fnsT eT) free e_law_rows.deep e_law_rows.views (defBody e_law_rows.st) = some e_law_rows.F := by kernel_rfl
theorem comp_law_past : cDef e_law_past.N e_law_past.ps.length (defScope e_law_past.st) (fnsT eT) free e_law_past.deep e_law_past.views (defBody e_law_past.st) = some e_law_past.F := by kernel_rfl
theorem comp_law_tables : cDef e_law_tables.N e_law_tables.ps.length (defScope e_law_tables.st) (fnsT eT) free e_law_tables.deep e_law_tables.views (defBody e_law_tables.st) = some e_law_tables.F := by kernel_rfl
theorem comp_law_all_names : cDef e_law_all_names.N e_law_all_names.ps.length (defScope e_law_all_names.st) (fnsT eT) free e_law_all_names.deep e_law_all_names.views (defBody e_law_all_names.st) = some e_law_all_names.F := by kernel_rfl
theorem comp_law_same : cDef e_law_same.N e_law_same.ps.length (defScope e_law_same.st) (fnsT eT) free e_law_same.deep e_law_same.views (defBody e_law_same.st) = some e_law_same.F := by kernel_rfl
theorem comp_law_mixed : cDef e_law_mixed.N e_law_mixed.ps.length (defScope e_law_mixed.st) (fnsT eT) free e_law_mixed.deep e_law_mixed.views (defBody e_law_mixed.st) = some e_law_mixed.F := by kernel_rfl
theorem comp_law_moment : cDef e_law_moment.N e_law_moment.ps.length (defScope e_law_moment.st) (fnsT eT) free e_law_moment.deep e_law_moment.views (defBody e_law_moment.st) = some e_law_moment.F := by kernel_rfl
theorem comp_law : cDef e_law.N e_law.ps.length (defScope e_law.st) (fnsT eT) free e_law.deep e_law.views (defBody e_law.st) = some e_law.F := by kernel_rfl
theorem eT_comp : ∀ e ∈ eT, cDef e.N e.ps.length (defScope e.st) (fnsT eT) free e.deep e.views (defBody e.st) = some e.F :=
  fa_cons comp_is_integer <| fa_cons comp_is_between <| fa_cons comp_is_row <| fa_cons comp_is_ascending <| fa_cons comp_is_worth <| fa_cons comp_is_worth_or_none <| fa_cons comp_names_in <| fa_cons comp_paired <| fa_cons comp_shown <| fa_cons comp_cell_names <| fa_cons comp_form_table <| fa_cons comp_meaning <| fa_cons comp_shows <| fa_cons comp_told <| fa_cons comp_remembered <| fa_cons comp_matched <| fa_cons comp_history <| fa_cons comp_value_at <| fa_cons comp_changes <| fa_cons comp_applied <| fa_cons comp_are_changes <| fa_cons comp_all_changes <| fa_cons comp_replayed <| fa_cons comp_law_digits <| fa_cons comp_law_box <| fa_cons comp_law_take <| fa_cons comp_law_pick <| fa_cons comp_law_some <| fa_cons comp_law_names <| fa_cons comp_law_form <| fa_cons comp_law_names_in <| fa_cons comp_law_under <| fa_cons comp_law_order <| fa_cons comp_law_sound <| fa_cons comp_law_net <| fa_cons comp_law_paired <| fa_cons comp_law_shown <| fa_cons comp_law_event <| fa_cons comp_law_rows <| fa_cons comp_law_past <| fa_cons comp_law_tables <| fa_cons comp_law_all_names <| fa_cons comp_law_same <| fa_cons comp_law_mixed <| fa_cons comp_law_moment <| fa_cons comp_law <| fa_nil
theorem eT_tab : TabOk eT free := tab_of (by decide +kernel) (by decide +kernel) eT_comp
theorem bind_is_integer : BindT e_is_integer := fun K af fd F => F.bindsN fun _ _ _ _ _ _ us hl => match us, hl with | [_], _ => rfl
theorem bind_is_between : BindT e_is_between := fun K af fd F => F.bindsN fun _ _ _ _ _ _ us hl => match us, hl with | [_, _, _], _ => rfl
theorem bind_is_row : BindT e_is_row := fun K af fd F => F.bindsN fun _ _ _ _ _ _ us hl => match us, hl with | [_, _], _ => rfl
theorem bind_is_ascending : BindT e_is_ascending := fun K af fd F => F.bindsN fun _ _ _ _ _ _ us hl => match us, hl with | [_], _ => rfl
theorem bind_is_worth : BindT e_is_worth := fun K af fd F => F.bindsN fun _ _ _ _ _ _ us hl => match us, hl with | [_, _], _ => rfl
theorem bind_is_worth_or_none : BindT e_is_worth_or_none := fun K af fd F => F.bindsN fun _ _ _ _ _ _ us hl => match us, hl with | [_, _], _ => rfl
theorem bind_names_in : BindT e_names_in := fun K af fd F => F.bindsN fun _ _ _ _ _ _ us hl => match us, hl with | [_], _ => rfl
theorem bind_paired : BindT e_paired := fun K af fd F => F.bindsN fun _ _ _ _ _ _ us hl => match us, hl with | [_, _, _, _], _ => rfl
theorem bind_shown : BindT e_shown := fun K af fd F => F.bindsN fun _ _ _ _ _ _ us hl => match us, hl with | [_, _, _], _ => rfl
theorem bind_cell_names : BindT e_cell_names := fun K af fd F => F.bindsN fun _ _ _ _ _ _ us hl => match us, hl with | [_], _ => rfl
theorem bind_form_table : BindT e_form_table := fun K af fd F => F.bindsN fun _ _ _ _ _ _ us hl => match us, hl with | [_], _ => rfl
theorem bind_meaning : BindT e_meaning := fun K af fd F => F.bindsN fun _ _ _ _ _ _ us hl => match us, hl with | [_, _], _ => rfl
theorem bind_shows : BindT e_shows := fun K af fd F => F.bindsN fun _ _ _ _ _ _ us hl => match us, hl with | [_, _, _, _, _, _], _ => rfl
theorem bind_told : BindT e_told := fun K af fd F => F.bindsN fun _ _ _ _ _ _ us hl => match us, hl with | [_, _, _, _, _, _], _ => rfl
theorem bind_remembered : BindT e_remembered := fun K af fd F => F.bindsN fun _ _ _ _ _ _ us hl => match us, hl with | [_, _, _, _, _, _], _ => rfl
theorem bind_matched : BindT e_matched := fun K af fd F => F.bindsN fun _ _ _ _ _ _ us hl => match us, hl with | [_, _, _, _, _, _], _ => rfl
theorem bind_history : BindT e_history := fun K af fd F => F.bindsN fun _ _ _ _ _ _ us hl => match us, hl with | [_, _, _], _ => rfl
theorem bind_value_at : BindT e_value_at := fun K af fd F => F.bindsN fun _ _ _ _ _ _ us hl => match us, hl with | [_, _, _, _], _ => rfl
theorem bind_changes : BindT e_changes := fun K af fd F => F.bindsN fun _ _ _ _ _ _ us hl => match us, hl with | [_, _, _], _ => rfl
theorem bind_applied : BindT e_applied := fun K af fd F => F.bindsN fun _ _ _ _ _ _ us hl => match us, hl with | [_, _, _], _ => rfl
theorem bind_are_changes : BindT e_are_changes := fun K af fd F => F.bindsN fun _ _ _ _ _ _ us hl => match us, hl with | [_, _], _ => rfl
theorem bind_all_changes : BindT e_all_changes := fun K af fd F => F.bindsN fun _ _ _ _ _ _ us hl => match us, hl with | [_, _], _ => rfl
theorem bind_replayed : BindT e_replayed := fun K af fd F => F.bindsN fun _ _ _ _ _ _ us hl => match us, hl with | [_, _], _ => rfl
theorem bind_law_digits : BindT e_law_digits := fun K af fd F => F.bindsN fun _ _ _ _ _ _ us hl => match us, hl with | [_, _], _ => rfl
theorem bind_law_box : BindT e_law_box := fun K af fd F => F.bindsN fun _ _ _ _ _ _ us hl => match us, hl with | [_], _ => rfl
theorem bind_law_take : BindT e_law_take := fun K af fd F => F.bindsN fun _ _ _ _ _ _ us hl => match us, hl with | [_, _], _ => rfl
theorem bind_law_pick : BindT e_law_pick := fun K af fd F => F.bindsN fun _ _ _ _ _ _ us hl => match us, hl with | [_, _], _ => rfl
theorem bind_law_some : BindT e_law_some := fun K af fd F => F.bindsN fun _ _ _ _ _ _ us hl => match us, hl with | [_, _, _], _ => rfl
theorem bind_law_names : BindT e_law_names := fun K af fd F => F.bindsN fun _ _ _ _ _ _ us hl => match us, hl with | [_, _], _ => rfl
theorem bind_law_form : BindT e_law_form := fun K af fd F => F.bindsN fun _ _ _ _ _ _ us hl => match us, hl with | [_, _, _], _ => rfl
theorem bind_law_names_in : BindT e_law_names_in := fun K af fd F => F.bindsN fun _ _ _ _ _ _ us hl => match us, hl with | [_], _ => rfl
theorem bind_law_under : BindT e_law_under := fun K af fd F => F.bindsN fun _ _ _ _ _ _ us hl => match us, hl with | [_, _], _ => rfl
theorem bind_law_order : BindT e_law_order := fun K af fd F => F.bindsN fun _ _ _ _ _ _ us hl => match us, hl with | [_], _ => rfl
theorem bind_law_sound : BindT e_law_sound := fun K af fd F => F.bindsN fun _ _ _ _ _ _ us hl => match us, hl with | [_], _ => rfl
theorem bind_law_net : BindT e_law_net := fun K af fd F => F.bindsN fun _ _ _ _ _ _ us hl => match us, hl with | [_, _, _, _, _], _ => rfl
theorem bind_law_paired : BindT e_law_paired := fun K af fd F => F.bindsN fun _ _ _ _ _ _ us hl => match us, hl with | [_, _, _, _], _ => rfl
theorem bind_law_shown : BindT e_law_shown := fun K af fd F => F.bindsN fun _ _ _ _ _ _ us hl => match us, hl with | [_, _, _], _ => rfl
theorem bind_law_event : BindT e_law_event := fun K af fd F => F.bindsN fun _ _ _ _ _ _ us hl => match us, hl with | [_, _], _ => rfl
theorem bind_law_rows : BindT e_law_rows := fun K af fd F => F.bindsN fun _ _ _ _ _ _ us hl => match us, hl with | [_, _, _], _ => rfl
theorem bind_law_past : BindT e_law_past := fun K af fd F => F.bindsN fun _ _ _ _ _ _ us hl => match us, hl with | [_, _, _, _], _ => rfl
theorem bind_law_tables : BindT e_law_tables := fun K af fd F => F.bindsN fun _ _ _ _ _ _ us hl => match us, hl with | [_, _], _ => rfl
theorem bind_law_all_names : BindT e_law_all_names := fun K af fd F => F.bindsN fun _ _ _ _ _ _ us hl => match us, hl with | [_], _ => rfl
theorem bind_law_same : BindT e_law_same := fun K af fd F => F.bindsN fun _ _ _ _ _ _ us hl => match us, hl with | [_, _], _ => rfl
theorem bind_law_mixed : BindT e_law_mixed := fun K af fd F => F.bindsN fun _ _ _ _ _ _ us hl => match us, hl with | [_, _], _ => rfl
theorem bind_law_moment : BindT e_law_moment := fun K af fd F => F.bindsN fun _ _ _ _ _ _ us hl => match us, hl with | [_, _], _ => rfl
theorem bind_law : BindT e_law := fun K af fd F => F.bindsN fun _ _ _ _ _ _ us hl => match us, hl with | [_], _ => rfl
theorem eT_bind : ∀ e ∈ eT, BindT e :=
  fa_cons bind_is_integer <| fa_cons bind_is_between <| fa_cons bind_is_row <| fa_cons bind_is_ascending <| fa_cons bind_is_worth <| fa_cons bind_is_worth_or_none <| fa_cons bind_names_in <| fa_cons bind_paired <| fa_cons bind_shown <| fa_cons bind_cell_names <| fa_cons bind_form_table <| fa_cons bind_meaning <| fa_cons bind_shows <| fa_cons bind_told <| fa_cons bind_remembered <| fa_cons bind_matched <| fa_cons bind_history <| fa_cons bind_value_at <| fa_cons bind_changes <| fa_cons bind_applied <| fa_cons bind_are_changes <| fa_cons bind_all_changes <| fa_cons bind_replayed <| fa_cons bind_law_digits <| fa_cons bind_law_box <| fa_cons bind_law_take <| fa_cons bind_law_pick <| fa_cons bind_law_some <| fa_cons bind_law_names <| fa_cons bind_law_form <| fa_cons bind_law_names_in <| fa_cons bind_law_under <| fa_cons bind_law_order <| fa_cons bind_law_sound <| fa_cons bind_law_net <| fa_cons bind_law_paired <| fa_cons bind_law_shown <| fa_cons bind_law_event <| fa_cons bind_law_rows <| fa_cons bind_law_past <| fa_cons bind_law_tables <| fa_cons bind_law_all_names <| fa_cons bind_law_same <| fa_cons bind_law_mixed <| fa_cons bind_law_moment <| fa_cons bind_law <| fa_nil
abbrev RR : PySem.W.OpenRow := PySem.W.OpenLaw.row PySem.Challenge.rw_cellmoments_k65_whole_values_at_all_inst
abbrev hkk : PySem.W.Hook := He.hookD 4 (faT eT free) (fnT eT)
def obb (s : PySem.W.SharedT) : He.AlD := He.obsDG 4 (faT eT free) (fnT eT) (HandSHeadRun.getT s)
theorem obb_eq (s : PySem.W.SharedT) : obb s = hkk.obs s.abs := He.obsDG_eq (HandSHeadRun.getT_eq s)
def loose0 : List Str := ["is_integer", "is_between", "is_row", "is_ascending", "is_worth", "is_worth_or_none", "names_in", "paired", "shown", "cell_names", "form_table", "meaning", "shows", "told", "remembered", "matched", "history", "value_at", "changes", "applied", "are_changes", "all_changes", "replayed", "_law_digits", "_law_box", "_law_take", "_law_pick", "_law_some", "_law_names", "_law_form"]
def loose1 : List Str := ["_law_names_in", "_law_under", "_law_order", "_law_sound", "_law_net", "_law_paired", "_law_shown", "_law_event", "_law_rows", "_law_past", "_law_tables", "_law_all_names", "_law_same", "_law_mixed", "_law_moment"]
def looseA : List Str := loose0 ++ loose1
theorem run (w : World) : HandSHeadRun.RunEq RR (PySem.W.view RR.prog [51]) hkk obb 1500 looseA w := by
  intro os
  kernel_rfl
theorem law_mem : e_law ∈ eT := by
  unfold eT
  repeat (first | exact List.mem_cons_self | apply List.mem_cons_of_mem)
theorem law_bind : ∀ (K : PySem.W.Frag) (af : Addr) (fd : FuncData), FunD K e_law.x e_law.x (defArgs e_law.st) (defBody e_law.st) (defScope e_law.st) [] [] af fd → ∀ (s : Shared) (v : Value), BindsTo s fd ⟨[v], []⟩ [(("script" : Str), v)] := fun K af fd F s v =>
  FunD.bindsA (ps := ["script"]) F (fun _ _ _ _ _ _ us hl => match us, hl with | [_], _ => rfl) s [v] rfl
end Ev
open PySem PySem.W PySem.Calls PyProof.Rows
theorem k_holds_of (lw : ∀ ns : List Int, ns.length ≤ 63 → ∃ as', Ev.evF (Ev.gT2 Ev.eT) 200 Ev.e_law.x [.p (.ls (ns.map .int))] = .ok (.p (.bl true), as')) : PySem.Challenge.rw_cellmoments_k65_whole_values_at_all_inst.Holds := by
  w_on; o_law
  refine HandSHeadRun.head_any (r := OpenLaw.row PySem.Challenge.rw_cellmoments_k65_whole_values_at_all_inst) (q := view (OpenLaw.row PySem.Challenge.rw_cellmoments_k65_whole_values_at_all_inst).prog [51]) (H := Ev.hkk) (ob := Ev.obb) (M := 1500) (loose := Ev.looseA) (d := HandSHeadRun.topDef (OpenLaw.row PySem.Challenge.rw_cellmoments_k65_whole_values_at_all_inst).prog 51) (kwd := []) Ev.obb_eq
    (by kernel_rfl) (fun s => by kernel_rfl) Ev.run (by kernel_rfl) (by kernel_rfl) (by kernel_rfl) (by rfl) (by first | assumption | decide +kernel) (by decide +kernel) ⟨rfl, rfl, rfl, rfl, rfl, by decide +kernel⟩ ?hw ?hc
  case hw => w_witness2
  case hc =>
    refine L2.walk_ofE (l := PySem.Challenge.rw_cellmoments_k65_whole_values_at_all_inst) (n := 63) (k := 200) (x := "script") (CX := L2.CX0) rfl (by decide) (by kernel_rfl) ⟨rfl, by decide, by decide⟩ ?F (fun _ _ _ _ z => z)
    intro w mg fa h Y G hmg0
    obtain ⟨K, KX, c⟩ := Y
    have hmg : mg (Ev.e_law.x) = some (.ref fa) := by
      have e : (HandSHeadRun.topDef (OpenLaw.row PySem.Challenge.rw_cellmoments_k65_whole_values_at_all_inst).prog 51).name = (Ev.e_law.x) := by kernel_rfl
      rw [← e]
      exact hmg0
    obtain ⟨fd, hb, hF⟩ := Ev.facts (P := (PySem.Challenge.rw_cellmoments_k65_whole_values_at_all_inst).prog) (w := w) (n := 200) Ev.eT_tab Ev.eT_bind Ev.law_mem rfl Ev.law_bind KX G hmg c
    exact ⟨K, fd, _, KX, hb, fun H a ns hl _ hS => Ev.law_sp hS (lw ns hl), hF⟩

theorem PySem.Challenge.cw_cellmoments_k65_whole_values_at_all_inst_holds : PySem.Challenge.rw_cellmoments_k65_whole_values_at_all_inst.Holds := by
  refine k_holds_of fun ns hn => ?_
  obtain ⟨⟨w, as'⟩, e, h⟩ := Ev.t_law 140 ns hn
  simp only at h
  subst h
  rw [Ev.cl_eq] at e
  exact ⟨as', e⟩
