import PyProof.Rows.All
import HandS.ForMost
import KE.LtData
import PyProof.EqLayable
import KE.DataMinMax
import KE.DataEq
import KE.DataFind
import KE.SortData
import HandS.ForExc
import HandS.Wide
import HandS.IsInst
import HandS.Flow
import HandS.Conv
import HandS.Deep
import HandS.TupAny
import HandS.SetFor
import KE.DataCmp
import HandS.Star
import HandS.More
import HandS.WordsExc
import HandS.Style
import HandS.Exc
import HandS.ExcOwn
import HandS.Rev
import HandS.RevTup
import HandS.RaiseMore
import HandS.Defaults
import HandS.Ends
import HandS.Words
import HandS.Head0
import HandS.Head1
import HandS.Head2
import HandS.HeadEnd
import HandS.HeadHook1
import HandS.HeadHook2
import Wide.All
import OpenK.AllK
import Wide.FinOn
import KE.KStateDown
import Lean
import PySem.Challenge.RW_fireward_k03_whole_fronts_far_off
set_option Elab.async false
section
/-! EvA -/
set_option Elab.async false
set_option linter.all false
/-! EvA: a small evaluator over plain data (PyData), for the subset of Python in which fireward is written. Pure Lean; EvB ties it to the model. -/
namespace EV
open PySem
abbrev D := PyData

inductive Rs (α : Type) where
  | ok (a : α) | ex (c : Nat) | st
def Rs.bind {α β : Type} (x : Rs α) (f : α → Rs β) : Rs β := match x with
  | .ok a => f a
  | .ex c => .ex c
  | .st => .st
instance : Monad Rs where
  pure := Rs.ok
  bind := Rs.bind
def Rs.of {α : Type} (o : Option α) : Rs α := match o with
  | some a => .ok a
  | none => .st
@[simp] theorem bind_ok {α β : Type} (a : α) (f : α → Rs β) : (Rs.ok a >>= f) = f a := rfl
@[simp] theorem bind_ex {α β : Type} (c : Nat) (f : α → Rs β) : ((Rs.ex c : Rs α) >>= f) = Rs.ex c := rfl
@[simp] theorem bind_st {α β : Type} (f : α → Rs β) : ((Rs.st : Rs α) >>= f) = Rs.st := rfl
@[simp] theorem of_some {α : Type} (a : α) : Rs.of (some a) = Rs.ok a := rfl
@[simp] theorem of_none {α : Type} : (Rs.of none : Rs α) = Rs.st := rfl
@[simp] theorem pure_ok {α : Type} (a : α) : (pure a : Rs α) = Rs.ok a := rfl

def noex {α : Type} : Rs α → Rs α
  | .ok a => .ok a
  | _ => .st
@[simp] theorem noex_ok {α : Type} (a : α) : noex (Rs.ok a) = Rs.ok a := rfl
/-- a slot of the frame: nothing known; a value that stays; a list or dict that only this slot holds -/
inductive Sl where
  | u | f (d : D) | o (d : D)
abbrev Rho := List Sl
inductive Opd where
  | val (d : D) | own (d : D) | slot (i : Nat)
/-- a def's answer: the value, whether it is a new list or dict that nobody else holds, the parameter that it changes -/
structure Ret where
  own : Bool
  d : D
  io : D

inductive Bop where
  | add | sub | mul | fdiv | mod | pow
inductive Cop where
  | eq | ne | lt | le | gt | ge | inn | nin
inductive Ty where
  | int | bool | str | list | tuple | dict
inductive Bi where
  | len | abs | int | list | tuple | sum | min | max | min2 | max2 | max3 | min3 | all | any | reversed | sorted | str | repr | set
inductive Me where
  | index | count
mutual
inductive Tg where
  | v (i : Nat) | t (ts : Tgs)
inductive Tgs where
  | nil | cons (t : Tg) (ts : Tgs)
end

mutual
inductive E where
  | c (d : D)
  | v (i : Nat)
  | g (k : Nat)
  | neg (a : E)
  | bin (o : Bop) (a b : E)
  | not (a : E)
  | and (a b : E)
  | or (a b : E)
  | cmp (o : Cop) (a b : E)
  | ch (o o' : Cop) (a b c : E)
  | ch3 (o o' o'' : Cop) (a b c d : E)
  | isC (a : E) (d : D) (neg : Bool)
  | ite (t a b : E)
  | tup (es : Es)
  | lst (es : Es)
  | rep (es : Es) (b : E)
  | ix (a b : E)
  | sl (a : E) (lo hi : Eo)
  | slSt (a : E) (lo hi : Eo) (st : Int)
  | call (f : Nat) (es : Es)
  | bi (b : Bi) (es : Es)
  | isi (a : E) (t : Ty)
  | me (m : Me) (o : E) (es : Es)
  | pop (i : Nat)
  | rev (e : E)
  | li (it : It)
  | lc (elt : E) (tg : Tg) (it : It) (cd : Eo) (own : List Nat)
inductive Eo where
  | no | yes (e : E)
inductive Es where
  | nil | cons (e : E) (es : Es) | bor (e : E) (es : Es) | star (e : E) (es : Es)
inductive It where
  | seq (e : E) | rng1 (a : E) | rng2 (a b : E) | enu (a : E) | zip (a b : E) | enuZip (a b : E)
end

mutual
inductive S where
  | asg (tg : Tg) (e : E)
  | par2 (i j : Nat) (a b : E)
  | par3 (i j k : Nat) (a b c : E)
  | setIx (i : Nat) (ix : E) (e : E)
  | aug (i : Nat) (o : Bop) (e : E)
  | exp (e : E)
  | app (i : Nat) (e : E)
  | ret (e : E)
  | retN
  | ite (c : E) (a b : Ss)
  | for_ (tg : Tg) (it : It) (b : Ss)
  | whl (c : E) (b : Ss)
  | brk
  | rai (c : Nat)
inductive Ss where
  | nil | cons (s : S) (ss : Ss)
end
/-- a def: how many parameters (the last one may be a star), whether it has a star, the parameter that it changes, its slots, its body -/
structure FD where
  np : Nat
  star : Bool
  io : Option Nat
  ns : Nat
  body : Ss
structure Cfg where
  defs : List FD
  globs : List D
  wf : Nat
  call : Nat → List D → Rs Ret

/-! ### operands -/
def look (ρ : Rho) : Opd → Option D
  | .val d => some d
  | .own d => some d
  | .slot i => match ρ[i]? with
    | some (.f d) => some d
    | some (.o d) => some d
    | _ => none
def stl : Rs (Opd × Rho) → Rs (Opd × Rho)
  | .ok (.own d, ρ) => .ok (.val d, ρ)
  | r => r
/-- the value of an operand that is to be kept elsewhere: what a slot alone held is from now on held by all -/
def frz (io : Option Nat) (ρ : Rho) : Opd → Rs (D × Rho)
  | .val d => .ok (d, ρ)
  | .own d => .ok (d, ρ)
  | .slot i => match ρ[i]? with
    | some (.f d) => .ok (d, ρ)
    | some (.o d) => if io = some i then .st else .ok (d, ρ.set i (.f d))
    | _ => .st

/-! ### data -/
mutual
/-- nothing in it is a list or a dict -/
def flat : D → Bool
  | .list _ => false
  | .dict _ => false
  | .tuple xs => flatAll xs
  | _ => true
def flatAll : List D → Bool
  | [] => true
  | x :: xs => flat x && flatAll xs
end
/-- no dict in it, at most n lists and tuples one in another -/
def dp : Nat → D → Bool
  | 0, .list _ => false
  | 0, .tuple _ => false
  | n + 1, .list xs => xs.all (dp n)
  | n + 1, .tuple xs => xs.all (dp n)
  | _, .dict _ => false
  | _, _ => true
abbrev okD (d : D) : Bool := dp 9 d
def tr : D → Option Bool
  | .none => some false
  | .bool b => some b
  | .int i => some (!decide (i = 0))
  | .str x => if x.length ≤ sizeLine then some (!decide (x.length = 0)) else none
  | .list xs => some (!xs.isEmpty)
  | .tuple xs => some (!xs.isEmpty)
  | .dict kvs => some (!kvs.isEmpty)
def mulOk (a b : Int) : Bool := (decide (-(2 ^ 64) < a) && decide (a < 2 ^ 64)) || (decide (-(2 ^ 64) < b) && decide (b < 2 ^ 64)) || (decide (a.natAbs < 2 ^ 4000) && decide (b.natAbs < 2 ^ 4000))
def binop : Bop → D → D → Option Opd
  | .add, .int a, .int b => some (.val (.int (a + b)))
  | .add, .str a, .str b => if a.length + b.length ≤ sizeLine then some (.val (.str (a ++ b))) else none
  | .add, .list xs, .list ys => if xs.length + ys.length ≤ sizeLine then some (.own (.list (xs ++ ys))) else none
  | .sub, .int a, .int b => some (.val (.int (a - b)))
  | .mul, .int a, .int b => if mulOk a b then some (.val (.int (a * b))) else none
  | .fdiv, .int a, .int b => if decide (0 < b) && decide (b.natAbs < 2 ^ 4000) then some (.val (.int (a / b))) else none
  | .mod, .int a, .int b => if 0 < b then some (.val (.int (a % b))) else none
  | .pow, .int a, .int b => if decide (0 ≤ b) && decide (b ≤ 60) && decide (0 ≤ a) && decide (a ≤ 1000) then some (.val (.int (a ^ b.toNat))) else none
  | _, _, _ => none
def ordable (x y : D) : Bool := W.alike x y && (okD x && okD y) && (match x with
  | .none => false
  | _ => true)
def ltD : D → D → Option Bool
  | .int a, .int b => some (decide (a < b))
  | x, y => if ordable x y then some (W.dataLt x y) else none
def leD : D → D → Option Bool
  | .int a, .int b => some (decide (a ≤ b))
  | x, y => if ordable x y then some (!W.dataLt y x) else none
def gtD : D → D → Option Bool
  | .int a, .int b => some (decide (b < a))
  | x, y => if ordable x y then some (W.dataLt y x) else none
def geD : D → D → Option Bool
  | .int a, .int b => some (decide (b ≤ a))
  | x, y => if ordable x y then some (!W.dataLt x y) else none
def inD : D → D → Option Bool
  | d, .list ds => if okD d && okD (.list ds) then some (ds.any fun z => PyData.eqv z d) else none
  | d, .tuple ds => if okD d && okD (.tuple ds) then some (ds.any fun z => PyData.eqv z d) else none
  | _, _ => none
def cmpop : Cop → D → D → Option Bool
  | .eq, a, b => if okD a && okD b then some (PyData.eqv a b) else none
  | .ne, a, b => if okD a && okD b then some (!PyData.eqv a b) else none
  | .lt, a, b => ltD a b
  | .gt, a, b => gtD a b
  | .le, a, b => leD a b
  | .ge, a, b => geD a b
  | .inn, a, b => inD a b
  | .nin, a, b => (inD a b).map (! ·)
def isi : Ty → D → Bool
  | .int, .int _ => true
  | .int, .bool _ => true
  | .bool, .bool _ => true
  | .str, .str _ => true
  | .list, .list _ => true
  | .tuple, .tuple _ => true
  | .dict, .dict _ => true
  | _, _ => false
def isConst : D → D → Bool
  | .none, .none => true
  | .bool a, .bool b => a == b
  | _, _ => false
def isD : D → D → Option Bool
  | x, .none => some (isConst x .none)
  | .bool a, .bool b => some (decide (a = b))
  | _, _ => none
def ixD : D → D → Option D
  | .list xs, .int i => L2.atI xs i
  | .tuple xs, .int i => L2.atI xs i
  | _, _ => none
def cut (xs : List D) (lo hi : Option Int) : List D := (xs.drop (HT.sIx xs.length 0 lo)).take (HT.sIx xs.length xs.length hi - HT.sIx xs.length 0 lo)
def slD : D → Option Int → Option Int → Option Opd
  | .list xs, lo, hi => some (.own (.list (cut xs lo hi)))
  | .tuple xs, lo, hi => some (.val (.tuple (cut xs lo hi)))
  | _, _, _ => none
/-- every second item -/
def evens : List D → List D
  | [] => []
  | [x] => [x]
  | x :: _ :: r => x :: evens r
def slStD : D → Option Int → Option Int → Int → Option Opd
  | .tuple xs, lo, hi, 2 => if xs.length = 4 then some (.val (.tuple (evens (cut xs lo hi)))) else none
  | _, _, _, _ => none
def intsD : List D → Option (List Int)
  | [] => some []
  | .int i :: r => (intsD r).map (i :: ·)
  | _ => none
def boolsD : List D → Option (List Bool)
  | [] => some []
  | .bool i :: r => (boolsD r).map (i :: ·)
  | _ => none
def alikeL (xs : List D) : Bool := okD (.list xs) && xs.all fun x => (match x with
  | .none => false
  | _ => true) && xs.all fun y => W.alike x y
def minL : List D → Option D
  | [] => none
  | x :: xs => if alikeL (x :: xs) then some (W.minD x xs) else none
def maxL : List D → Option D
  | [] => none
  | x :: xs => if alikeL (x :: xs) then some (W.maxD x xs) else none
def bLen : List D → Option Opd
  | [.list xs] => some (.val (.int xs.length))
  | [.tuple xs] => some (.val (.int xs.length))
  | [.str x] => if x.length ≤ sizeLine then some (.val (.int x.length)) else none
  | _ => none
def bAbs : List D → Option Opd
  | [.int i] => some (.val (.int (if i < 0 then -i else i)))
  | _ => none
def bInt : List D → Option Opd
  | [.int i] => some (.val (.int i))
  | [.bool b] => some (.val (.int (if b then 1 else 0)))
  | _ => none
def bList : List D → Option Opd
  | [.list xs] => some (.own (.list xs))
  | [.tuple xs] => some (.own (.list xs))
  | _ => none
def bTuple : List D → Option Opd
  | [.list xs] => some (.val (.tuple xs))
  | [.tuple xs] => some (.val (.tuple xs))
  | _ => none
def bRev : List D → Option Opd
  | [.list xs] => some (.own (.list xs.reverse))
  | _ => none
def bSum : List D → Option Opd
  | [.list xs] => (intsD xs).map fun l => .val (.int l.sum)
  | _ => none
def bMax : List D → Option Opd
  | [.list xs] => (maxL xs).map .val
  | [.tuple xs] => (maxL xs).map .val
  | _ => none
def bMin : List D → Option Opd
  | [.list xs] => (minL xs).map .val
  | [.tuple xs] => (minL xs).map .val
  | _ => none
def bMax2 : List D → Option Opd
  | [.int a, .int b] => some (.val (.int (if b > a then b else a)))
  | _ => none
def bMin2 : List D → Option Opd
  | [.int a, .int b] => some (.val (.int (if b < a then b else a)))
  | _ => none
def bAll : List D → Option Opd
  | [.list xs] => (boolsD xs).map fun l => .val (.bool (l.all id))
  | _ => none
def bAny : List D → Option Opd
  | [.list xs] => (boolsD xs).map fun l => .val (.bool (l.any id))
  | _ => none
/-- tuples with an item at least, or neither tuples nor None -/
def sortable (xs : List D) : Bool := (xs.all fun d => match d with
  | .tuple (_ :: _) => true
  | _ => false) || (xs.all fun d => match d with
  | .none => false
  | .tuple _ => false
  | _ => true)
def sortD (xs : List D) : List D := xs.mergeSort (W.dataLe false id)
def bSort : List D → Option Opd
  | [.list xs] => if (alikeL xs && sortable xs) && decide (xs.length ≤ 100000) then some (.own (.list (sortD xs))) else none
  | _ => none
def builtin : Bi → List D → Option Opd
  | .len, ds => bLen ds
  | .abs, ds => bAbs ds
  | .int, ds => bInt ds
  | .list, ds => bList ds
  | .tuple, ds => bTuple ds
  | .reversed, ds => bRev ds
  | .sum, ds => bSum ds
  | .max, ds => bMax ds
  | .min, ds => bMin ds
  | .max2, ds => bMax2 ds
  | .min2, ds => bMin2 ds
  | .all, ds => bAll ds
  | .any, ds => bAny ds
  | .sorted, ds => bSort ds
  | _, _ => none
def method : Me → D → List D → Option Opd
  | .count, .list xs, [d] => if okD d && okD (.list xs) then some (.val (.int (xs.countP fun z => PyData.eqv z d : Nat))) else none
  | .index, .list xs, [d] => if (okD d && okD (.list xs)) && (SeqAt.shaped d && SeqAt.shaped (.list xs)) then (xs.findIdx? fun z => PyData.eqv z d).map fun j => .val (.int (j : Nat)) else none
  | _, _, _ => none
def rngL (lo : Int) (n : Nat) : List D := (List.range n).map fun (k : Nat) => .int (lo + (k : Int))
def enumL (ds : List D) : List D := (List.range ds.length).zipWith (fun (k : Nat) d => .tuple [.int (k : Int), d]) ds
def small62 (i : Int) : Bool := decide (-(2 ^ 62) ≤ i) && decide (i < 2 ^ 62)

mutual
def bindT (io : Option Nat) : Tg → D → Rho → Option Rho
  | .v i, d, ρ => if io = some i then none else if i < ρ.length then some (ρ.set i (.f d)) else none
  | .t ts, .tuple ds, ρ => bindTs io ts ds ρ
  | .t _, _, _ => none
def bindTs (io : Option Nat) : Tgs → List D → Rho → Option Rho
  | .nil, [], ρ => some ρ
  | .cons t ts, d :: ds, ρ => (bindT io t d ρ).bind fun ρ1 => bindTs io ts ds ρ1
  | _, _, _ => none
end
def hide (ρ : Rho) : List Nat → Rho
  | [] => ρ
  | v :: vs => (hide ρ vs).set v .u
/-- the slots in vs as they were in ρ0 -/
def unhide (ρ ρ0 : Rho) : List Nat → Rho
  | [] => ρ
  | v :: vs => match ρ0[v]? with
    | some s => (unhide ρ ρ0 vs).set v s
    | none => unhide ρ ρ0 vs
def plainAt (ρ : Rho) (i : Nat) : Bool := match ρ[i]? with
  | some (.u) => true
  | some (.f _) => true
  | _ => false
def lcLoop (f : D → Rho → Rs (Option D × Rho)) : List D → Rho → Rs (List D × Rho)
  | [], ρ => .ok ([], ρ)
  | d :: ds, ρ => do
    let (o, ρ) ← f d ρ
    let (r, ρ) ← lcLoop f ds ρ
    .ok (o.toList ++ r, ρ)

/-! ### a call -/
def lookAll (ρ : Rho) : List Opd → Option (List D)
  | [] => some []
  | x :: xs => (look ρ x).bind fun d => (lookAll ρ xs).map (d :: ·)
def valsOf : List Opd → Option (List D)
  | [] => some []
  | .val d :: xs => (valsOf xs).map (d :: ·)
  | _ => none
/-- the slots that are lent, but the one that the callee changes -/
def lent (ρ : Rho) (io : Option Nat) : List Opd → Nat → List Nat
  | [], _ => []
  | .slot j :: xs, k => if io = some k then lent ρ io xs (k + 1) else (match ρ[j]? with
    | some (.o _) => j :: lent ρ io xs (k + 1)
    | _ => lent ρ io xs (k + 1))
  | _ :: xs, k => lent ρ io xs (k + 1)
def flatL : D → Bool
  | .list xs => flatAll xs
  | .dict _ => false
  | d => flat d
def flatR (r : Ret) : Bool := (if r.own then flatL r.d else flat r.d) && flatL r.io
def afterCall (ρ : Rho) (io : Option Nat) (xs : List Opd) (r : Ret) : Option (Opd × Rho) :=
  let res : Opd := if r.own then .own r.d else .val r.d
  let ls := lent ρ io xs 0
  if ls.isEmpty || flatR r then
    match io with
    | none => some (res, ρ)
    | some p => match xs[p]? with
      | some (.slot j) => (match ρ[j]? with
        | some (.o _) => if ls.contains j then none else some (res, ρ.set j (.o r.io))
        | _ => none)
      | _ => none
  else none

section
variable (C : Cfg) (io : Option Nat)
mutual
def ev : E → Rho → Rs (Opd × Rho)
  | .c d, ρ => .ok (.val d, ρ)
  | .v i, ρ => match look ρ (.slot i) with
    | some _ => .ok (.slot i, ρ)
    | none => .st
  | .g k, ρ => match C.globs[k]? with
    | some d => .ok (.val d, ρ)
    | none => .st
  | .neg a, ρ => do
    let (x, ρ) ← stl (ev a ρ)
    match look ρ x with
    | some (.int i) => .ok (.val (.int (-i)), ρ)
    | _ => .st
  | .bin o a b, ρ => do
    let (x, ρ) ← stl (ev a ρ)
    let (y, ρ) ← stl (ev b ρ)
    let dx ← Rs.of (look ρ x)
    let dy ← Rs.of (look ρ y)
    let r ← Rs.of (binop o dx dy)
    .ok (r, ρ)
  | .not a, ρ => do
    let (x, ρ) ← stl (ev a ρ)
    let d ← Rs.of (look ρ x)
    let t ← Rs.of (tr d)
    .ok (.val (.bool (!t)), ρ)
  | .and a b, ρ => do
    let (x, ρ) ← stl (ev a ρ)
    let d ← Rs.of (look ρ x)
    let t ← Rs.of (tr d)
    if t then stl (ev b ρ) else .ok (x, ρ)
  | .or a b, ρ => do
    let (x, ρ) ← stl (ev a ρ)
    let d ← Rs.of (look ρ x)
    let t ← Rs.of (tr d)
    if t then .ok (x, ρ) else stl (ev b ρ)
  | .cmp o a b, ρ => do
    let (x, ρ) ← stl (ev a ρ)
    let (y, ρ) ← stl (ev b ρ)
    let dx ← Rs.of (look ρ x)
    let dy ← Rs.of (look ρ y)
    let r ← Rs.of (cmpop o dx dy)
    .ok (.val (.bool r), ρ)
  | .ch o o' a b c, ρ => do
    let (x, ρ) ← stl (ev a ρ)
    let (y, ρ) ← stl (ev b ρ)
    let dx ← Rs.of (look ρ x)
    let dy ← Rs.of (look ρ y)
    let r ← Rs.of (cmpop o dx dy)
    if r then do
      let (z, ρ) ← stl (ev c ρ)
      let dy ← Rs.of (look ρ y)
      let dz ← Rs.of (look ρ z)
      let r ← Rs.of (cmpop o' dy dz)
      .ok (.val (.bool r), ρ)
    else .ok (.val (.bool false), ρ)
  | .ch3 o o' o'' a b c d, ρ => do
    let (x, ρ) ← stl (ev a ρ)
    let (y, ρ) ← stl (ev b ρ)
    let dx ← Rs.of (look ρ x)
    let dy ← Rs.of (look ρ y)
    let r ← Rs.of (cmpop o dx dy)
    if r then do
      let (z, ρ) ← stl (ev c ρ)
      let dy ← Rs.of (look ρ y)
      let dz ← Rs.of (look ρ z)
      let r ← Rs.of (cmpop o' dy dz)
      if r then do
        let (w, ρ) ← stl (ev d ρ)
        let dz ← Rs.of (look ρ z)
        let dw ← Rs.of (look ρ w)
        let r ← Rs.of (cmpop o'' dz dw)
        .ok (.val (.bool r), ρ)
      else .ok (.val (.bool false), ρ)
    else .ok (.val (.bool false), ρ)
  | .isC a d neg, ρ => do
    let (x, ρ) ← stl (ev a ρ)
    let dx ← Rs.of (look ρ x)
    let r ← Rs.of (isD dx d)
    .ok (.val (.bool (if neg then !r else r)), ρ)
  | .ite t a b, ρ => do
    let (x, ρ) ← stl (ev t ρ)
    let d ← Rs.of (look ρ x)
    let t ← Rs.of (tr d)
    if t then ev a ρ else ev b ρ
  | .tup es, ρ => do
    let (xs, ρ) ← evA es ρ
    let ds ← Rs.of (valsOf xs)
    if ds.length ≤ 1000 then .ok (.val (.tuple ds), ρ) else .st
  | .lst es, ρ => do
    let (xs, ρ) ← evA es ρ
    let ds ← Rs.of (valsOf xs)
    if ds.length ≤ sizeLine then .ok (.own (.list ds), ρ) else .st
  | .rep es b, ρ => do
    let (xs, ρ) ← evA es ρ
    let ds ← Rs.of (valsOf xs)
    if ds.length ≤ 1000 then do
      let (y, ρ) ← stl (ev b ρ)
      match look ρ y with
      | some (.int k) => if (decide (-(2 ^ 63) ≤ k) && decide (k < 2 ^ 63)) && decide (ds.length * k.toNat ≤ sizeLine) then .ok (.own (.list (List.replicate k.toNat ds).flatten), ρ) else .st
      | _ => .st
    else .st
  | .ix a b, ρ => do
    let (x, ρ) ← stl (ev a ρ)
    let (y, ρ) ← stl (ev b ρ)
    let dx ← Rs.of (look ρ x)
    let dy ← Rs.of (look ρ y)
    let r ← Rs.of (ixD dx dy)
    .ok (.val r, ρ)
  | .sl a lo hi, ρ => do
    let (x, ρ) ← stl (ev a ρ)
    let (l, ρ) ← evO lo ρ
    let (h, ρ) ← evO hi ρ
    let dx ← Rs.of (look ρ x)
    let r ← Rs.of (slD dx l h)
    .ok (r, ρ)
  | .slSt a lo hi n, ρ => do
    let (x, ρ) ← stl (ev a ρ)
    let (l, ρ) ← evO lo ρ
    let (h, ρ) ← evO hi ρ
    let dx ← Rs.of (look ρ x)
    let r ← Rs.of (slStD dx l h n)
    .ok (r, ρ)
  | .call f es, ρ => do
    let (xs, ρ) ← evA es ρ
    let ds ← Rs.of (lookAll ρ xs)
    let fd ← Rs.of (C.defs[f]?)
    let r ← C.call f ds
    Rs.of (afterCall ρ fd.io xs r)
  | .bi b es, ρ => do
    let (xs, ρ) ← evA es ρ
    let ds ← Rs.of (lookAll ρ xs)
    let r ← Rs.of (builtin b ds)
    .ok (r, ρ)
  | .isi a t, ρ => do
    let (x, ρ) ← stl (ev a ρ)
    let d ← Rs.of (look ρ x)
    .ok (.val (.bool (isi t d)), ρ)
  | .me m o es, ρ => do
    let (x, ρ) ← stl (ev o ρ)
    let d0 ← Rs.of (look ρ x)
    if EV.isi .list d0 then do
      let (xs, ρ) ← evA es ρ
      let dx ← Rs.of (look ρ x)
      let ds ← Rs.of (lookAll ρ xs)
      let r ← Rs.of (method m dx ds)
      .ok (r, ρ)
    else .st
  | .pop i, ρ => match ρ[i]? with
    | some (.o (.list ds)) => (match ds.getLast? with
      | some d => .ok (.val d, ρ.set i (.o (.list ds.dropLast)))
      | none => .st)
    | _ => .st
  | .rev e, ρ => do
    let (x, ρ) ← stl (ev e ρ)
    let d ← Rs.of (look ρ x)
    let r ← Rs.of (bRev [d])
    .ok (r, ρ)
  | .li it, ρ => do
    let (ds, ρ) ← evI it ρ
    if ds.length ≤ 100000 then .ok (.own (.list ds), ρ) else .st
  | .lc elt tg it cd own, ρ => do
    let (ds, ρ) ← evI it ρ
    if own.all (plainAt ρ) && !(own.any fun i => io == some i) && decide (ds.length ≤ sizeLine) then do
      let (acc, ρ1) ← noex (lcLoop (fun d ρ2 => do
        let ρ2 ← Rs.of (bindT io tg d ρ2)
        let (t, ρ2) ← evC cd ρ2
        if t then do
          let (x, ρ2) ← stl (ev elt ρ2)
          let (dx, ρ2) ← frz io ρ2 x
          .ok (some dx, hide ρ2 own)
        else .ok (none, hide ρ2 own)) ds (hide ρ own))
      .ok (.own (.list acc), unhide ρ1 ρ own)
    else .st
def evO : Eo → Rho → Rs (Option Int × Rho)
  | .no, ρ => .ok (none, ρ)
  | .yes e, ρ => do
    let (x, ρ) ← stl (ev e ρ)
    match look ρ x with
    | some (.int i) => .ok (some i, ρ)
    | _ => .st
def evC : Eo → Rho → Rs (Bool × Rho)
  | .no, ρ => .ok (true, ρ)
  | .yes e, ρ => do
    let (x, ρ) ← stl (ev e ρ)
    let d ← Rs.of (look ρ x)
    let t ← Rs.of (tr d)
    .ok (t, ρ)
def evA : Es → Rho → Rs (List Opd × Rho)
  | .nil, ρ => .ok ([], ρ)
  | .cons e es, ρ => do
    let (x, ρ) ← stl (ev e ρ)
    let (d, ρ) ← frz io ρ x
    let (xs, ρ) ← evA es ρ
    .ok (.val d :: xs, ρ)
  | .bor e es, ρ => do
    let (x, ρ) ← stl (ev e ρ)
    let (xs, ρ) ← evA es ρ
    .ok (x :: xs, ρ)
  | .star e es, ρ => do
    let (x, ρ) ← stl (ev e ρ)
    let (d, ρ) ← frz io ρ x
    match d with
    | .list ds => do
      let (xs, ρ) ← evA es ρ
      .ok (ds.map Opd.val ++ xs, ρ)
    | .tuple ds => do
      let (xs, ρ) ← evA es ρ
      .ok (ds.map Opd.val ++ xs, ρ)
    | _ => .st
def evI : It → Rho → Rs (List D × Rho)
  | .seq e, ρ => do
    let (x, ρ) ← stl (ev e ρ)
    let (d, ρ) ← frz io ρ x
    match d with
    | .list ds => .ok (ds, ρ)
    | .tuple ds => .ok (ds, ρ)
    | _ => .st
  | .rng1 a, ρ => do
    let (x, ρ) ← stl (ev a ρ)
    match look ρ x with
    | some (.int j) => if small62 j then .ok (rngL 0 j.toNat, ρ) else .st
    | _ => .st
  | .rng2 a b, ρ => do
    let (x, ρ) ← stl (ev a ρ)
    let (y, ρ) ← stl (ev b ρ)
    match look ρ x, look ρ y with
    | some (.int i), some (.int j) => if small62 i && small62 j then .ok (rngL i (j - i).toNat, ρ) else .st
    | _, _ => .st
  | .enu a, ρ => do
    let (x, ρ) ← stl (ev a ρ)
    let (d, ρ) ← frz io ρ x
    match d with
    | .list ds => .ok (enumL ds, ρ)
    | _ => .st
  | .zip a b, ρ => do
    let (x, ρ) ← stl (ev a ρ)
    let (d, ρ) ← frz io ρ x
    let (y, ρ) ← stl (ev b ρ)
    let (e, ρ) ← frz io ρ y
    match d, e with
    | .list ds, .list es => .ok (ds.zipWith (fun d e => .tuple [d, e]) es, ρ)
    | _, _ => .st
  | .enuZip a b, ρ => do
    let (x, ρ) ← stl (ev a ρ)
    let (d, ρ) ← frz io ρ x
    let (y, ρ) ← stl (ev b ρ)
    let (e, ρ) ← frz io ρ y
    match d, e with
    | .list ds, .list es => .ok (enumL (ds.zipWith (fun d e => .tuple [d, e]) es), ρ)
    | _, _ => .st
end
end

/-! ### statements -/
inductive Fl where
  | nx | bk | ct | rt (o : Opd)
def forLoop (f : D → Rho → Rs (Fl × Rho)) : List D → Rho → Rs (Fl × Rho)
  | [], ρ => .ok (.nx, ρ)
  | d :: ds, ρ => do
    let (fl, ρ) ← f d ρ
    match fl with
    | .nx => forLoop f ds ρ
    | .ct => forLoop f ds ρ
    | .bk => .ok (.nx, ρ)
    | .rt o => .ok (.rt o, ρ)
def whlLoop (c : Rho → Rs (Bool × Rho)) (f : Rho → Rs (Fl × Rho)) : Nat → Rho → Rs (Fl × Rho)
  | 0, _ => .st
  | n + 1, ρ => do
    let (t, ρ) ← c ρ
    if t then do
      let (fl, ρ) ← f ρ
      match fl with
      | .nx => whlLoop c f n ρ
      | .ct => whlLoop c f n ρ
      | .bk => .ok (.nx, ρ)
      | .rt o => .ok (.rt o, ρ)
    else .ok (.nx, ρ)
/-- a name gets an operand's value -/
def store (io : Option Nat) (i : Nat) (o : Opd) (ρ : Rho) : Rs Rho :=
  if io = some i then .st else if i < ρ.length then (match o with
    | .own d => .ok (ρ.set i (.o d))
    | o => do
      let (d, ρ) ← frz io ρ o
      .ok (ρ.set i (.f d))) else .st
/-- an operand taken out of its slot -/
def takeO (io : Option Nat) (x : Opd) (ρ : Rho) : Rs (Opd × Rho) := match x with
  | .own d => .ok (.own d, ρ)
  | x => do
    let (d, ρ) ← frz io ρ x
    .ok (.val d, ρ)
section
variable (C : Cfg) (io : Option Nat)
mutual
def exS : S → Rho → Rs (Fl × Rho)
  | .asg (.v i) e, ρ => do
    let (x, ρ) ← ev C io e ρ
    let ρ ← store io i x ρ
    .ok (.nx, ρ)
  | .asg (.t ts) e, ρ => do
    let (x, ρ) ← stl (ev C io e ρ)
    let (d, ρ) ← frz io ρ x
    let ρ ← Rs.of (bindT io (.t ts) d ρ)
    .ok (.nx, ρ)
  | .par2 i j a b, ρ => do
    let (x, ρ) ← ev C io a ρ
    let (x, ρ) ← takeO io x ρ
    let (y, ρ) ← ev C io b ρ
    let (y, ρ) ← takeO io y ρ
    let ρ ← store io i x ρ
    let ρ ← store io j y ρ
    .ok (.nx, ρ)
  | .par3 i j k a b c, ρ => do
    let (x, ρ) ← ev C io a ρ
    let (x, ρ) ← takeO io x ρ
    let (y, ρ) ← ev C io b ρ
    let (y, ρ) ← takeO io y ρ
    let (z, ρ) ← ev C io c ρ
    let (z, ρ) ← takeO io z ρ
    let ρ ← store io i x ρ
    let ρ ← store io j y ρ
    let ρ ← store io k z ρ
    .ok (.nx, ρ)
  | .setIx i ix e, ρ => do
    let (x, ρ) ← stl (ev C io e ρ)
    let (d, ρ) ← frz io ρ x
    let _ ← Rs.of (look ρ (.slot i))
    let (y, ρ) ← stl (ev C io ix ρ)
    match ρ[i]?, look ρ y with
    | some (.o (.list ds)), some (.int k) => (match L2.ixN ds.length k with
      | some j => .ok (.nx, ρ.set i (.o (.list (ds.set j d))))
      | none => .st)
    | _, _ => .st
  | .aug i o e, ρ => do
    let dx ← Rs.of (look ρ (.slot i))
    let (y, ρ) ← stl (ev C io e ρ)
    let dy ← Rs.of (look ρ y)
    match dx, dy with
    | .int a, .int b => do
      let r ← Rs.of (binop o (.int a) (.int b))
      let ρ ← store io i r ρ
      .ok (.nx, ρ)
    | _, _ => .st
  | .exp e, ρ => do
    let (_, ρ) ← stl (ev C io e ρ)
    .ok (.nx, ρ)
  | .app i e, ρ => do
    let d0 ← Rs.of (look ρ (.slot i))
    if isi .list d0 then do
      let (x, ρ) ← stl (ev C io e ρ)
      let (d, ρ) ← frz io ρ x
      match ρ[i]? with
      | some (.o (.list ds)) => if ds.length < sizeLine then .ok (.nx, ρ.set i (.o (.list (ds ++ [d])))) else .st
      | _ => .st
    else .st
  | .ret e, ρ => do
    let (x, ρ) ← ev C io e ρ
    .ok (.rt x, ρ)
  | .retN, ρ => .ok (.rt (.val .none), ρ)
  | .ite c a b, ρ => do
    let (x, ρ) ← stl (ev C io c ρ)
    let d ← Rs.of (look ρ x)
    let t ← Rs.of (tr d)
    if t then exSs a ρ else exSs b ρ
  | .for_ tg it b, ρ => do
    let (ds, ρ) ← evI C io it ρ
    forLoop (fun d ρ => do
      let ρ ← Rs.of (bindT io tg d ρ)
      exSs b ρ) ds ρ
  | .whl c b, ρ => whlLoop (fun ρ => do
      let (x, ρ) ← stl (ev C io c ρ)
      let d ← Rs.of (look ρ x)
      let t ← Rs.of (tr d)
      .ok (t, ρ)) (fun ρ => exSs b ρ) C.wf ρ
  | .brk, ρ => .ok (.bk, ρ)
  | .rai c, _ => .ex c
def exSs : Ss → Rho → Rs (Fl × Rho)
  | .nil, ρ => .ok (.nx, ρ)
  | .cons s ss, ρ => do
    let (fl, ρ) ← exS s ρ
    match fl with
    | .nx => exSs ss ρ
    | fl => .ok (fl, ρ)
end
end

/-! ### defs -/
/-- the parameters' slots -/
def params (fd : FD) (ds : List D) : Option (List D) :=
  if fd.star then (if fd.np ≤ ds.length + 1 ∧ 0 < fd.np ∧ ds.length ≤ 1000 then some (ds.take (fd.np - 1) ++ [.tuple (ds.drop (fd.np - 1))]) else none)
  else if ds.length = fd.np then some ds else none
def slots0 (io : Option Nat) : List D → Nat → Rho
  | [], _ => []
  | d :: ds, k => (if io = some k then Sl.o d else Sl.f d) :: slots0 io ds (k + 1)
def enter (fd : FD) (ps : List D) : Rho := slots0 fd.io ps 0 ++ List.replicate (fd.ns - ps.length) Sl.u
def leave (io : Option Nat) (o : Opd) (ρ : Rho) : Rs Ret := do
  let (own, d, ρ) ← (match o with
    | .own d => .ok (true, d, ρ)
    | .val d => .ok (false, d, ρ)
    | .slot i => if io = some i then .st else (match ρ[i]? with
      | some (.o d) => .ok (true, d, ρ)
      | some (.f d) => .ok (false, d, ρ)
      | _ => .st) : Rs (Bool × D × Rho))
  match io with
  | none => .ok ⟨own, d, .none⟩
  | some p => match ρ[p]? with
    | some (.o e) => .ok ⟨own, d, e⟩
    | _ => .st
def runB (C : Cfg) (fd : FD) (ps : List D) : Rs Ret :=
  match exSs C fd.io fd.body (enter fd ps) with
  | .ok (.rt o, ρ) => leave fd.io o ρ
  | .ok (.nx, ρ) => leave fd.io (.val .none) ρ
  | .ok _ => .st
  | .ex c => if fd.io.isSome then .st else .ex c
  | .st => .st
def runDef (C : Cfg) (fd : FD) (ds : List D) : Rs Ret := do
  let ps ← Rs.of (params fd ds)
  runB C fd ps
def callF (defs : List FD) (globs : List D) (wf : Nat) : Nat → Nat → List D → Rs Ret
  | 0, _, _ => .st
  | n + 1, f, ds => match defs[f]? with
    | some fd => runDef ⟨defs, globs, wf, callF defs globs wf n⟩ fd ds
    | none => .st
end EV
end

section
/-! EvB -/
set_option Elab.async false
set_option linter.all false
set_option maxRecDepth 100000
set_option maxHeartbeats 1000000
/-! EvB: how the evaluator's data stand in the layer's heap. -/
namespace EV
open PySem PySem.Spec L2

def kD : Key → D
  | .inl i => .int i
  | .inr x => .str x
mutual
/-- a value and its datum, in the part F of the heap that is not changed any more -/
inductive Rp (K : W.Frag) (F : Hp) : V → D → Prop
  | non : Rp K F .non .none
  | bl (b : Bool) : Rp K F (.bl b) (.bool b)
  | int (i : Int) : Rp K F (.int i) (.int i)
  | str (x : Str) : Rp K F (.str x) (.str x)
  | lst {a : Addr} {xs : List V} {ds : List D} : SqL K F a xs → RpAll K F xs ds → Rp K F (.ref a) (.list ds)
  | tup {a : Addr} {xs : List V} {ds : List D} : SqT K F a xs → RpAll K F xs ds → Rp K F (.ref a) (.tuple ds)
  | dct {a : Addr} {kvs : List (Key × V)} {es : List (D × D)} : F a = some (.dK kvs) → RpKV K F kvs es → Rp K F (.ref a) (.dict es)
inductive RpAll (K : W.Frag) (F : Hp) : List V → List D → Prop
  | nil : RpAll K F [] []
  | cons {v : V} {vs : List V} {d : D} {ds : List D} : Rp K F v d → RpAll K F vs ds → RpAll K F (v :: vs) (d :: ds)
inductive RpKV (K : W.Frag) (F : Hp) : List (Key × V) → List (D × D) → Prop
  | nil : RpKV K F [] []
  | cons {k : Key} {v : V} {vs : List (Key × V)} {d : D} {ds : List (D × D)} : Rp K F v d → RpKV K F vs ds → RpKV K F ((k, v) :: vs) ((kD k, d) :: ds)
end
/-- a list or dict that one slot alone holds -/
inductive Ow (K : W.Frag) (F H : Hp) (a : Addr) : D → Prop
  | lst {xs : List V} {ds : List D} : H a = some (.lst xs) → RpAll K F xs ds → Ow K F H a (.list ds)
  | dct {kvs : List (Key × V)} {es : List (D × D)} : H a = some (.dK kvs) → RpKV K F kvs es → Ow K F H a (.dict es)
def Vw (K : W.Frag) (F H : Hp) (v : V) (d : D) : Prop := Rp K F v d ∨ ∃ a, v = .ref a ∧ Ow K F H a d

theorem same_rd {H H' : Hp} {a : Addr} {u : HO} (e : Same H H') (h : Rd H a u) : Rd H' a u := h.imp (e _ _) fun ⟨o, h⟩ => ⟨o, e _ _ h⟩
theorem same_sqT {K : W.Frag} {H H' : Hp} {a : Addr} {xs : List V} (e : Same H H') (h : SqT K H a xs) : SqT K H' a xs := by
  rcases h with (h | ⟨o, h⟩) | h
  · exact .inl (.inl (e _ _ h))
  · exact .inl (.inr ⟨o, e _ _ h⟩)
  · exact .inr h
mutual
theorem Rp.mono {K : W.Frag} {F F' : Hp} (s : Same F F') : ∀ {v : V} {d : D}, Rp K F v d → Rp K F' v d
  | _, _, .non => .non
  | _, _, .bl b => .bl b
  | _, _, .int i => .int i
  | _, _, .str x => .str x
  | _, _, .lst h r => .lst (s.seq h) (RpAll.mono s r)
  | _, _, .tup h r => .tup (same_sqT s h) (RpAll.mono s r)
  | _, _, .dct h r => .dct (s _ _ h) (RpKV.mono s r)
theorem RpAll.mono {K : W.Frag} {F F' : Hp} (s : Same F F') : ∀ {v : List V} {d : List D}, RpAll K F v d → RpAll K F' v d
  | _, _, .nil => .nil
  | _, _, .cons h r => .cons (Rp.mono s h) (RpAll.mono s r)
theorem RpKV.mono {K : W.Frag} {F F' : Hp} (s : Same F F') : ∀ {v : List (Key × V)} {d : List (D × D)}, RpKV K F v d → RpKV K F' v d
  | _, _, .nil => .nil
  | _, _, .cons h r => .cons (Rp.mono s h) (RpKV.mono s r)
end
theorem Ow.mono {K : W.Frag} {F F' H H' : Hp} {a : Addr} {d : D} (s : Same F F') (h : H' a = H a) (o : Ow K F H a d) : Ow K F' H' a d := by
  cases o with
  | lst e r => exact .lst (h.trans e) (r.mono s)
  | dct e r => exact .dct (h.trans e) (r.mono s)
theorem Ow.at {K : W.Frag} {F H : Hp} {a : Addr} {d : D} (o : Ow K F H a d) : ∃ u, H a = some u := by
  cases o with
  | lst e r => exact ⟨_, e⟩
  | dct e r => exact ⟨_, e⟩
theorem Ow.rp {K : W.Frag} {F H : Hp} {a : Addr} {d : D} (o : Ow K F H a d) {F' : Hp} (s : Same F F') (h : F' a = H a) : Rp K F' (.ref a) d := by
  cases o with
  | lst e r => exact .lst (.inl (.inl (h.trans e))) (r.mono s)
  | dct e r => exact .dct (h.trans e) (r.mono s)
theorem RpAll.len {K : W.Frag} {F : Hp} : ∀ {vs : List V} {ds : List D}, RpAll K F vs ds → vs.length = ds.length
  | _, _, .nil => rfl
  | _, _, .cons _ r => by rw [List.length_cons, List.length_cons, r.len]
theorem RpAll.get {K : W.Frag} {F : Hp} : ∀ {vs : List V} {ds : List D} {i : Nat} {d : D}, RpAll K F vs ds → ds[i]? = some d → ∃ v, vs[i]? = some v ∧ Rp K F v d
  | _, _, _, _, .nil, h => by simp at h
  | _, _, 0, d, .cons h _, e => by simp at e; subst e; exact ⟨_, rfl, h⟩
  | _, _, i + 1, d, .cons _ r, e => by simpa using r.get (i := i) (by simpa using e)
theorem RpAll.getv {K : W.Frag} {F : Hp} : ∀ {vs : List V} {ds : List D} {i : Nat} {v : V}, RpAll K F vs ds → vs[i]? = some v → ∃ d, ds[i]? = some d ∧ Rp K F v d
  | _, _, _, _, .nil, h => by simp at h
  | _, _, 0, d, .cons h _, e => by simp at e; subst e; exact ⟨_, rfl, h⟩
  | _, _, i + 1, d, .cons _ r, e => by simpa using r.getv (i := i) (by simpa using e)
theorem RpAll.append {K : W.Frag} {F : Hp} : ∀ {vs ws : List V} {ds es : List D}, RpAll K F vs ds → RpAll K F ws es → RpAll K F (vs ++ ws) (ds ++ es)
  | _, _, _, _, .nil, s => s
  | _, _, _, _, .cons h r, s => .cons h (r.append s)
theorem RpAll.take {K : W.Frag} {F : Hp} : ∀ {vs : List V} {ds : List D} (n : Nat), RpAll K F vs ds → RpAll K F (vs.take n) (ds.take n)
  | _, _, 0, _ => .nil
  | _, _, _ + 1, .nil => .nil
  | _, _, n + 1, .cons h r => .cons h (r.take n)
theorem RpAll.drop {K : W.Frag} {F : Hp} : ∀ {vs : List V} {ds : List D} (n : Nat), RpAll K F vs ds → RpAll K F (vs.drop n) (ds.drop n)
  | _, _, 0, r => r
  | _, _, _ + 1, .nil => .nil
  | _, _, n + 1, .cons h r => r.drop n
theorem RpAll.reverse {K : W.Frag} {F : Hp} : ∀ {vs : List V} {ds : List D}, RpAll K F vs ds → RpAll K F vs.reverse ds.reverse
  | _, _, .nil => .nil
  | _, _, .cons h r => by rw [List.reverse_cons, List.reverse_cons]; exact r.reverse.append (.cons h .nil)
theorem RpAll.set {K : W.Frag} {F : Hp} {v : V} {d : D} (h : Rp K F v d) : ∀ {vs : List V} {ds : List D} (i : Nat), RpAll K F vs ds → RpAll K F (vs.set i v) (ds.set i d)
  | _, _, _, .nil => .nil
  | _, _, 0, .cons _ r => .cons h r
  | _, _, i + 1, .cons q r => .cons q (r.set h i)
theorem RpAll.dropLast {K : W.Frag} {F : Hp} {vs : List V} {ds : List D} (r : RpAll K F vs ds) : RpAll K F vs.dropLast ds.dropLast := by
  rw [List.dropLast_eq_take, List.dropLast_eq_take, r.len]; exact r.take _
theorem RpAll.rep {K : W.Frag} {F : Hp} {vs : List V} {ds : List D} (r : RpAll K F vs ds) : ∀ n : Nat, RpAll K F (List.replicate n vs).flatten (List.replicate n ds).flatten
  | 0 => .nil
  | n + 1 => by rw [List.replicate_succ, List.replicate_succ, List.flatten_cons, List.flatten_cons]; exact r.append (r.rep n)
/-- ints, bools -/
theorem RpAll.ofInts {K : W.Frag} {F : Hp} : ∀ {vs : List V} {ds : List D} {l : List Int}, RpAll K F vs ds → intsD ds = some l → vs = l.map V.int
  | _, _, _, .nil, h => by unfold intsD at h; cases h; rfl
  | _, _, l, .cons h r, e => by
    cases h <;> (unfold intsD at e; try cases e)
    rename_i i
    cases q : intsD _ with
    | none => rw [q] at e; cases e
    | some l' => rw [q] at e; cases e; rw [List.map_cons, ← r.ofInts q]
theorem RpAll.ofBools {K : W.Frag} {F : Hp} : ∀ {vs : List V} {ds : List D} {l : List Bool}, RpAll K F vs ds → boolsD ds = some l → vs = l.map V.bl
  | _, _, _, .nil, h => by unfold boolsD at h; cases h; rfl
  | _, _, l, .cons h r, e => by
    cases h <;> (unfold boolsD at e; try cases e)
    rename_i i
    cases q : boolsD _ with
    | none => rw [q] at e; cases e
    | some l' => rw [q] at e; cases e; rw [List.map_cons, ← r.ofBools q]
mutual
theorem Rp.dp {K : W.Frag} {F : Hp} : ∀ {n : Nat} {v : V} {d : D}, Rp K F v d → dp n d = true → Dp K F v d
  | _, _, _, .non, _ => .non
  | _, _, _, .bl b, _ => .bl b
  | _, _, _, .int i, _ => .int i
  | _, _, _, .str x, _ => .str x
  | 0, _, _, .lst h r, c => by simp [EV.dp] at c
  | n + 1, _, _, .lst h r, c => .lst h (RpAll.dp (n := n) r (by simpa [EV.dp] using c))
  | 0, _, _, .tup h r, c => by simp [EV.dp] at c
  | n + 1, _, _, .tup h r, c => .tup h (RpAll.dp (n := n) r (by simpa [EV.dp] using c))
  | n, _, _, .dct h r, c => by cases n <;> simp [EV.dp] at c
theorem RpAll.dp {K : W.Frag} {F : Hp} : ∀ {n : Nat} {v : List V} {d : List D}, RpAll K F v d → (∀ x ∈ d, dp n x = true) → DpAll K F v d
  | _, _, _, .nil, _ => .nil
  | _, _, _, .cons h r, c => .cons (Rp.dp h (c _ List.mem_cons_self)) (RpAll.dp r fun x hx => c x (List.mem_cons_of_mem _ hx))
end
mutual
theorem dp_mono {K : W.Frag} {F F' : Hp} (s : Same F F') : ∀ {v : V} {d : D}, Dp K F v d → Dp K F' v d
  | _, _, .non => .non
  | _, _, .bl b => .bl b
  | _, _, .int i => .int i
  | _, _, .str x => .str x
  | _, _, .lst h r => .lst (s.seq h) (dpAll_mono s r)
  | _, _, .tup h r => .tup (same_sqT s h) (dpAll_mono s r)
theorem dpAll_mono {K : W.Frag} {F F' : Hp} (s : Same F F') : ∀ {v : List V} {d : List D}, DpAll K F v d → DpAll K F' v d
  | _, _, .nil => .nil
  | _, _, .cons h r => .cons (dp_mono s h) (dpAll_mono s r)
end
section
variable {K : W.Frag} {F H : Hp} {v : V}
theorem Vw.list {ds : List D} (s : Same F H) (h : Vw K F H v (.list ds)) : ∃ a xs, v = .ref a ∧ SqL K H a xs ∧ RpAll K F xs ds := by
  rcases h with h | ⟨a, rfl, h⟩
  · cases h with
    | lst h r => exact ⟨_, _, rfl, s.seq h, r⟩
  · cases h with
    | lst h r => exact ⟨_, _, rfl, .inl (.inl h), r⟩
theorem Vw.tup {ds : List D} (s : Same F H) (h : Vw K F H v (.tuple ds)) : ∃ a xs, v = .ref a ∧ SqT K H a xs ∧ RpAll K F xs ds := by
  rcases h with h | ⟨a, rfl, h⟩
  · cases h with
    | tup h r => exact ⟨_, _, rfl, same_sqT s h, r⟩
  · cases h
theorem Vw.int {i : Int} (h : Vw K F H v (.int i)) : v = .int i := by
  rcases h with h | ⟨a, rfl, h⟩
  · cases h; rfl
  · cases h
theorem Vw.bool {i : Bool} (h : Vw K F H v (.bool i)) : v = .bl i := by
  rcases h with h | ⟨a, rfl, h⟩
  · cases h; rfl
  · cases h
theorem Vw.str {i : Str} (h : Vw K F H v (.str i)) : v = .str i := by
  rcases h with h | ⟨a, rfl, h⟩
  · cases h; rfl
  · cases h
theorem Vw.none (h : Vw K F H v .none) : v = .non := by
  rcases h with h | ⟨a, rfl, h⟩
  · cases h; rfl
  · cases h
theorem Vw.dict {es : List (D × D)} (s : Same F H) (h : Vw K F H v (.dict es)) : ∃ a kvs, v = .ref a ∧ H a = some (.dK kvs) ∧ RpKV K F kvs es := by
  rcases h with h | ⟨a, rfl, h⟩
  · cases h with
    | dct h r => exact ⟨_, _, rfl, s _ _ h, r⟩
  · cases h with
    | dct h r => exact ⟨_, _, rfl, h, r⟩
theorem Vw.dp {n : Nat} {d : D} (s : Same F H) (h : Vw K F H v d) (c : EV.dp n d = true) : Dp K H v d := by
  rcases h with h | ⟨a, rfl, h⟩
  · exact dp_mono s (h.dp c)
  · cases h with
    | lst h r => cases n with
      | zero => simp [EV.dp] at c
      | succ n => exact .lst (.inl (.inl h)) (dpAll_mono s (r.dp (n := n) (by simpa [EV.dp] using c)))
    | dct h r => cases n <;> simp [EV.dp] at c
end
mutual
theorem dp_plain : ∀ (n : Nat) (d : D), dp n d = true → d.plain = true ∧ d.depth ≤ n
  | _, .none, _ => ⟨rfl, Nat.zero_le _⟩
  | _, .bool _, _ => ⟨rfl, Nat.zero_le _⟩
  | _, .int _, _ => ⟨rfl, Nat.zero_le _⟩
  | _, .str _, _ => ⟨rfl, Nat.zero_le _⟩
  | 0, .list _, h => by simp [dp] at h
  | n + 1, .list xs, h => by
    obtain ⟨h1, h2⟩ := dp_plainAll n xs (by simpa [dp] using h)
    exact ⟨by simpa only [PyData.plain] using h1, by simp only [PyData.depth]; omega⟩
  | 0, .tuple _, h => by simp [dp] at h
  | n + 1, .tuple xs, h => by
    obtain ⟨h1, h2⟩ := dp_plainAll n xs (by simpa [dp] using h)
    exact ⟨by simpa only [PyData.plain] using h1, by simp only [PyData.depth]; omega⟩
  | n, .dict _, h => by cases n <;> simp [dp] at h
theorem dp_plainAll : ∀ (n : Nat) (xs : List D), (∀ x ∈ xs, dp n x = true) → PyData.plainAll xs = true ∧ PyData.depthAll xs ≤ n
  | _, [], _ => ⟨rfl, Nat.zero_le _⟩
  | n, x :: xs, h => by
    obtain ⟨h1, h2⟩ := dp_plain n x (h x List.mem_cons_self)
    obtain ⟨h3, h4⟩ := dp_plainAll n xs fun y hy => h y (List.mem_cons_of_mem _ hy)
    exact ⟨by simp only [PyData.plainAll, h1, h3, Bool.and_self], by simp only [PyData.depthAll]; omega⟩
end

/-! ### the state -/
/-- what the def found: its frozen part, its heap, the parameter that it changes -/
structure Bs where
  F0 : Hp
  H0 : Hp
  io : Option (Nat × Addr)
/-- what was there is there -/
def Fra (B : Bs) (H : Hp) : Prop := ∀ a o, B.H0 a = some o → (∀ i, B.io ≠ some (i, a)) → H a = some o
structure Rel (K : W.Frag) (B : Bs) (ρ : Rho) (σ : L2.St) (F H : Hp) : Prop where
  len : ρ.length = σ.length
  sub : Same F H
  f : ∀ (i : Nat) (d : D), ρ[i]? = some (Sl.f d) → ∃ v, σ[i]? = some (some v) ∧ Rp K F v d
  o : ∀ (i : Nat) (d : D), ρ[i]? = some (Sl.o d) → ∃ a, σ[i]? = some (some (V.ref a)) ∧ Ow K F H a d ∧ F a = none ∧ (B.H0 a = none ∨ B.io = some (i, a))
  dj : ∀ (i j : Nat) (d e : D) (a : Addr), i ≠ j → ρ[i]? = some (Sl.o d) → ρ[j]? = some (Sl.o e) → σ[i]? = some (some (V.ref a)) → σ[j]? = some (some (V.ref a)) → False
  b1 : Same B.F0 F
  b2 : Fra B H
  b3 : ∀ a, B.H0 a ≠ none → B.F0 a = none → F a = none
  bio : ∀ (i : Nat) (a : Addr), B.io = some (i, a) → σ[i]? = some (some (V.ref a)) ∧ (∃ d, ρ[i]? = some (Sl.o d)) ∧ B.H0 a ≠ none ∧ B.F0 a = none
section
variable {K : W.Frag} {B : Bs} {ρ : Rho} {σ : L2.St} {F H : Hp}
/-- the slots' own addresses do not hold this one -/
def NoSl (ρ : Rho) (σ : L2.St) (a : Addr) : Prop := ∀ (i : Nat) (d : D), ρ[i]? = some (Sl.o d) → σ[i]? ≠ some (some (V.ref a))
theorem Rel.newB (R : Rel K B ρ σ F H) {p : Addr} (h : H p = none) : B.H0 p = none ∧ F p = none ∧ NoSl ρ σ p := by
  refine ⟨?_, R.sub.free h, fun i d e q => ?_⟩
  · cases q : B.H0 p with
    | none => rfl
    | some o =>
      by_cases z : ∃ i, B.io = some (i, p)
      · obtain ⟨i, z⟩ := z
        obtain ⟨e, ⟨d, hd⟩, _⟩ := R.bio i p z
        obtain ⟨a, e2, ow, _⟩ := R.o i d hd
        rw [e] at e2; cases e2
        obtain ⟨u, hu⟩ := ow.at
        rw [h] at hu; cases hu
      · have := R.b2 p o q fun i hi => z ⟨i, hi⟩
        rw [h] at this; cases this
  · obtain ⟨a, e2, ow, _⟩ := R.o i d e
    rw [q] at e2; cases e2
    obtain ⟨u, hu⟩ := ow.at
    rw [h] at hu; cases hu
theorem upd_of_ne {H : Hp} {p a : Addr} {o : HO} (h : H p = none) (u : ∃ x, H a = some x) : upd H p o a = H a := by
  obtain ⟨x, e⟩ := u
  exact upd_ne (ne_of_none e h)
theorem same_new {F : Hp} {p : Addr} {o : HO} (h : F p = none) : Same F (upd F p o) := fun b x e => by rw [upd_ne (ne_of_none e h)]; exact e
/-- a new object that belongs to nobody yet -/
theorem Rel.laid (R : Rel K B ρ σ F H) {p : Addr} {o : HO} (h : H p = none) : Rel K B ρ σ F (upd H p o) := by
  obtain ⟨hb, hf, hn⟩ := R.newB h
  refine ⟨R.len, R.sub.trans (same_new h), R.f, fun i d e => ?_, R.dj, R.b1, fun a x e q => ?_, R.b3, R.bio⟩
  · obtain ⟨a, e1, ow, e2, e3⟩ := R.o i d e
    exact ⟨a, e1, ow.mono (Same.refl F) (upd_of_ne h ow.at), e2, e3⟩
  · exact same_new h _ _ (R.b2 a x e q)
/-- an object that nobody holds is frozen -/
theorem Rel.freeze (R : Rel K B ρ σ F H) {p : Addr} {o : HO} (h : H p = some o) (hf : F p = none) (hb : B.H0 p = none) (hn : NoSl ρ σ p) : Rel K B ρ σ (upd F p o) H := by
  have sF : Same F (upd F p o) := same_new hf
  refine ⟨R.len, fun a x e => ?_, fun i d e => ?_, fun i d e => ?_, R.dj, R.b1.trans sF, R.b2, fun a e q => ?_, R.bio⟩
  · by_cases ha : a = p
    · subst ha; rw [upd_same] at e; cases e; exact h
    · rw [upd_ne ha] at e; exact R.sub a x e
  · obtain ⟨v, e1, r⟩ := R.f i d e
    exact ⟨v, e1, r.mono sF⟩
  · obtain ⟨a, e1, ow, e2, e3⟩ := R.o i d e
    refine ⟨a, e1, ow.mono sF rfl, ?_, e3⟩
    rw [upd_ne (show a ≠ p from fun z => hn i d e (z ▸ e1))]; exact e2
  · have := R.b3 a e q
    rw [upd_ne (show a ≠ p from fun z => e (z ▸ hb))]; exact this
theorem Rel.laidF (R : Rel K B ρ σ F H) {p : Addr} {o : HO} (h : H p = none) : Rel K B ρ σ (upd F p o) (upd H p o) :=
  let ⟨hb, hf, hn⟩ := R.newB h
  (R.laid h).freeze upd_same hf hb hn
/-- a slot's object is frozen -/
theorem Rel.freezeSlot (R : Rel K B ρ σ F H) {i : Nat} {d : D} (e : ρ[i]? = some (Sl.o d)) (hio : ∀ a, B.io ≠ some (i, a)) : ∃ a o, σ[i]? = some (some (V.ref a)) ∧ H a = some o ∧ F a = none ∧ Rp K (upd F a o) (.ref a) d ∧ Rel K B (ρ.set i (.f d)) σ (upd F a o) H := by
  obtain ⟨a, e1, ow, hf, hb⟩ := R.o i d e
  have hb : B.H0 a = none := hb.elim id fun z => absurd z (hio a)
  obtain ⟨o, ho⟩ := ow.at
  have sF : Same F (upd F a o) := same_new hf
  have hr : Rp K (upd F a o) (.ref a) d := ow.rp sF (upd_same.trans ho.symm)
  have hi : i < ρ.length := (List.getElem?_eq_some_iff.mp e).1
  refine ⟨a, o, e1, ho, hf, hr, by rw [List.length_set]; exact R.len, fun b x q => ?_, fun j c q => ?_, fun j c q => ?_, fun j k c c' b hjk q1 q2 => ?_, R.b1.trans sF, R.b2, fun b q1 q2 => ?_, fun j b q => ?_⟩
  · by_cases hbe : b = a
    · subst hbe; rw [upd_same] at q; cases q; exact ho
    · rw [upd_ne hbe] at q; exact R.sub b x q
  · by_cases hj : i = j
    · subst hj
      rw [List.getElem?_set_self hi] at q; cases q
      exact ⟨_, e1, hr⟩
    · rw [List.getElem?_set_ne hj] at q
      obtain ⟨v, e2, r⟩ := R.f j c q
      exact ⟨v, e2, r.mono sF⟩
  · by_cases hj : i = j
    · subst hj
      rw [List.getElem?_set_self hi] at q; cases q
    · rw [List.getElem?_set_ne hj] at q
      obtain ⟨b, e2, ow2, hf2, hb2⟩ := R.o j c q
      refine ⟨b, e2, ow2.mono sF rfl, ?_, hb2⟩
      rw [upd_ne (show b ≠ a from fun z => R.dj i j d c a hj e q e1 (z ▸ e2))]; exact hf2
  · by_cases hj : i = j
    · subst hj
      rw [List.getElem?_set_self hi] at q1; cases q1
    · by_cases hk : i = k
      · subst hk
        rw [List.getElem?_set_self hi] at q2; cases q2
      · rw [List.getElem?_set_ne hj] at q1
        rw [List.getElem?_set_ne hk] at q2
        exact R.dj j k c c' b hjk q1 q2
  · rw [upd_ne (show b ≠ a from fun z => q1 (z ▸ hb))]; exact R.b3 b q1 q2
  · obtain ⟨x1, ⟨c, x2⟩, x3⟩ := R.bio j b q
    have hj : i ≠ j := fun z => hio b (z ▸ q)
    exact ⟨x1, ⟨c, by rw [List.getElem?_set_ne hj]; exact x2⟩, x3⟩
/-- a slot's object is changed -/
theorem Rel.write (R : Rel K B ρ σ F H) {i : Nat} {d d' : D} {a : Addr} {o : HO} (e : ρ[i]? = some (Sl.o d)) (e1 : σ[i]? = some (some (V.ref a))) (ow' : Ow K F (upd H a o) a d') : Rel K B (ρ.set i (.o d')) σ F (upd H a o) := by
  obtain ⟨a', e1', ow, hf, hb⟩ := R.o i d e
  rw [e1] at e1'; cases e1'
  have hi : i < ρ.length := (List.getElem?_eq_some_iff.mp e).1
  refine ⟨by rw [List.length_set]; exact R.len, fun b x q => ?_, fun j c q => ?_, fun j c q => ?_, fun j k c c' b hjk q1 q2 s1 s2 => ?_, R.b1, fun b x q1 q2 => ?_, R.b3, fun j b q => ?_⟩
  · rw [upd_ne (ne_of_none q hf)]; exact R.sub b x q
  · by_cases hj : i = j
    · subst hj
      rw [List.getElem?_set_self hi] at q; cases q
    · rw [List.getElem?_set_ne hj] at q
      exact R.f j c q
  · by_cases hj : i = j
    · subst hj
      rw [List.getElem?_set_self hi] at q; cases q
      exact ⟨a, e1, ow', hf, hb⟩
    · rw [List.getElem?_set_ne hj] at q
      obtain ⟨b, e2, ow2, hf2, hb2⟩ := R.o j c q
      exact ⟨b, e2, ow2.mono (Same.refl F) (upd_ne (fun z => R.dj i j d c a hj e q e1 (z ▸ e2))), hf2, hb2⟩
  · have fix : ∀ n c, (ρ.set i (Sl.o d'))[n]? = some (Sl.o c) → ∃ c, ρ[n]? = some (Sl.o c) := fun n c q => by
      by_cases hj : i = n
      · subst hj; exact ⟨_, e⟩
      · rw [List.getElem?_set_ne hj] at q; exact ⟨_, q⟩
    obtain ⟨_, q1⟩ := fix j c q1
    obtain ⟨_, q2⟩ := fix k c' q2
    exact R.dj j k _ _ b hjk q1 q2 s1 s2
  · by_cases hba : b = a
    · subst hba
      rcases hb with hb | hb
      · rw [hb] at q1; cases q1
      · exact absurd hb (q2 i)
    · rw [upd_ne hba]; exact R.b2 b x q1 q2
  · obtain ⟨x1, ⟨c, x2⟩, x3⟩ := R.bio j b q
    refine ⟨x1, ?_, x3⟩
    by_cases hj : i = j
    · subst hj; exact ⟨_, List.getElem?_set_self hi⟩
    · exact ⟨c, by rw [List.getElem?_set_ne hj]; exact x2⟩
/-- a slot gets a value that stays -/
theorem Rel.setF (R : Rel K B ρ σ F H) {i : Nat} {d : D} {v : V} (hi : i < ρ.length) (hio : ∀ a, B.io ≠ some (i, a)) (r : Rp K F v d) : Rel K B (ρ.set i (.f d)) (σ.set i (some v)) F H := by
  have hσ : i < σ.length := by rw [← R.len]; exact hi
  refine ⟨by rw [List.length_set, List.length_set]; exact R.len, R.sub, fun j c q => ?_, fun j c q => ?_, fun j k c c' b hjk q1 q2 s1 s2 => ?_, R.b1, R.b2, R.b3, fun j b q => ?_⟩
  · by_cases hj : i = j
    · subst hj
      rw [List.getElem?_set_self hi] at q; cases q
      exact ⟨v, List.getElem?_set_self hσ, r⟩
    · rw [List.getElem?_set_ne hj] at q ⊢
      exact R.f j c q
  · by_cases hj : i = j
    · subst hj
      rw [List.getElem?_set_self hi] at q; cases q
    · rw [List.getElem?_set_ne hj] at q ⊢
      exact R.o j c q
  · by_cases hj : i = j
    · subst hj
      rw [List.getElem?_set_self hi] at q1; cases q1
    · by_cases hk : i = k
      · subst hk
        rw [List.getElem?_set_self hi] at q2; cases q2
      · rw [List.getElem?_set_ne hj] at q1 s1
        rw [List.getElem?_set_ne hk] at q2 s2
        exact R.dj j k c c' b hjk q1 q2 s1 s2
  · have hj : i ≠ j := fun z => hio b (z ▸ q)
    rw [List.getElem?_set_ne hj, List.getElem?_set_ne hj]
    exact R.bio j b q
/-- a slot gets an object that nobody else holds -/
theorem Rel.setO (R : Rel K B ρ σ F H) {i : Nat} {d : D} {a : Addr} (hi : i < ρ.length) (hio : ∀ a, B.io ≠ some (i, a)) (ow : Ow K F H a d) (hf : F a = none) (hb : B.H0 a = none) (hn : NoSl ρ σ a) : Rel K B (ρ.set i (.o d)) (σ.set i (some (.ref a))) F H := by
  have hσ : i < σ.length := by rw [← R.len]; exact hi
  refine ⟨by rw [List.length_set, List.length_set]; exact R.len, R.sub, fun j c q => ?_, fun j c q => ?_, fun j k c c' b hjk q1 q2 s1 s2 => ?_, R.b1, R.b2, R.b3, fun j b q => ?_⟩
  · by_cases hj : i = j
    · subst hj
      rw [List.getElem?_set_self hi] at q; cases q
    · rw [List.getElem?_set_ne hj] at q ⊢
      exact R.f j c q
  · by_cases hj : i = j
    · subst hj
      rw [List.getElem?_set_self hi] at q; cases q
      exact ⟨a, List.getElem?_set_self hσ, ow, hf, .inl hb⟩
    · rw [List.getElem?_set_ne hj] at q ⊢
      exact R.o j c q
  · by_cases hj : i = j
    · subst hj
      have hk : i ≠ k := hjk
      rw [List.getElem?_set_self hσ] at s1; cases s1
      rw [List.getElem?_set_ne hk] at q2 s2
      exact hn k c' q2 s2
    · by_cases hk : i = k
      · subst hk
        rw [List.getElem?_set_self hσ] at s2; cases s2
        rw [List.getElem?_set_ne hj] at q1 s1
        exact hn j c q1 s1
      · rw [List.getElem?_set_ne hj] at q1 s1
        rw [List.getElem?_set_ne hk] at q2 s2
        exact R.dj j k c c' b hjk q1 q2 s1 s2
  · have hj : i ≠ j := fun z => hio b (z ▸ q)
    rw [List.getElem?_set_ne hj, List.getElem?_set_ne hj]
    exact R.bio j b q
/-- slots forgotten: σ' may hold anything there -/
theorem Rel.forget {σ' : L2.St} {ρ' : Rho} (R : Rel K B ρ σ F H) (hl : ρ'.length = σ'.length) (h : ∀ i : Nat, ρ'[i]? = some Sl.u ∨ (ρ'[i]? = ρ[i]? ∧ σ'[i]? = σ[i]?)) (hio : ∀ (i : Nat) (a : Addr), B.io = some (i, a) → ρ'[i]? = ρ[i]? ∧ σ'[i]? = σ[i]?) : Rel K B ρ' σ' F H := by
  refine ⟨hl, R.sub, fun j c q => ?_, fun j c q => ?_, fun j k c c' b hjk q1 q2 s1 s2 => ?_, R.b1, R.b2, R.b3, fun j b q => ?_⟩
  · rcases h j with z | ⟨z1, z2⟩
    · rw [z] at q; cases q
    · rw [z1] at q; rw [z2]; exact R.f j c q
  · rcases h j with z | ⟨z1, z2⟩
    · rw [z] at q; cases q
    · rw [z1] at q; rw [z2]; exact R.o j c q
  · rcases h j with z | ⟨z1, z2⟩
    · rw [z] at q1; cases q1
    · rcases h k with y | ⟨y1, y2⟩
      · rw [y] at q2; cases q2
      · rw [z1] at q1; rw [z2] at s1; rw [y1] at q2; rw [y2] at s2
        exact R.dj j k c c' b hjk q1 q2 s1 s2
  · obtain ⟨z1, z2⟩ := hio j b q
    rw [z1, z2]; exact R.bio j b q
/-- an object that nobody holds is kept apart: told as found -/
def Bs.pin (B : Bs) (p : Addr) (o : HO) : Bs := ⟨B.F0, upd B.H0 p o, B.io⟩
theorem Rel.pin (R : Rel K B ρ σ F H) {p : Addr} {o : HO} (h : H p = some o) (hf : F p = none) (hb : B.H0 p = none) (hn : NoSl ρ σ p) : Rel K (B.pin p o) ρ σ F H := by
  refine ⟨R.len, R.sub, R.f, fun i d e => ?_, R.dj, R.b1, fun a x e q => ?_, fun a e q => ?_, fun i a e => ?_⟩
  · obtain ⟨a, e1, ow, e2, e3⟩ := R.o i d e
    refine ⟨a, e1, ow, e2, e3.imp (fun z => ?_) id⟩
    show upd B.H0 p o a = none
    rw [upd_ne (show a ≠ p from fun y => hn i d e (y ▸ e1))]; exact z
  · have e : upd B.H0 p o a = some x := e
    by_cases ha : a = p
    · subst ha; rw [upd_same] at e; cases e; exact h
    · rw [upd_ne ha] at e; exact R.b2 a x e q
  · by_cases ha : a = p
    · subst ha; exact hf
    · have e : upd B.H0 p o a ≠ none := e
      rw [upd_ne ha] at e; exact R.b3 a e q
  · obtain ⟨x1, x2, x3, x4⟩ := R.bio i a e
    refine ⟨x1, x2, ?_, x4⟩
    show upd B.H0 p o a ≠ none
    rw [upd_ne (show a ≠ p from fun y => x3 (y ▸ hb))]; exact x3
theorem Rel.unpin {p : Addr} {o : HO} (R : Rel K (B.pin p o) ρ σ F H) (hb : B.H0 p = none) (hfb : B.F0 p = none) (hio : ∀ i, B.io ≠ some (i, p)) : Rel K B ρ σ F H ∧ H p = some o ∧ F p = none ∧ NoSl ρ σ p := by
  have e0 : (B.pin p o).H0 p = some o := upd_same
  have en : ∀ a, a ≠ p → (B.pin p o).H0 a = B.H0 a := fun a h => upd_ne h
  refine ⟨⟨R.len, R.sub, R.f, fun j d e => ?_, R.dj, R.b1, fun a x e q => ?_, fun a e q => ?_, fun j a e => ?_⟩, R.b2 p o e0 hio, R.b3 p (by rw [e0]; exact fun z => nomatch z) hfb, fun i d e q => ?_⟩
  · obtain ⟨a, e1, ow, e2, e3⟩ := R.o j d e
    refine ⟨a, e1, ow, e2, e3.imp (fun z => ?_) id⟩
    by_cases ha : a = p
    · subst ha; exact hb
    · rw [en a ha] at z; exact z
  · have ha : a ≠ p := fun z => by rw [z, hb] at e; cases e
    exact R.b2 a x (by rw [en a ha]; exact e) q
  · have ha : a ≠ p := fun z => e (z ▸ hb)
    exact R.b3 a (by rw [en a ha]; exact e) q
  · obtain ⟨x1, x2, x3, x4⟩ := R.bio j a e
    have ha : a ≠ p := fun z => hio j (z ▸ e)
    exact ⟨x1, x2, by rw [← en a ha]; exact x3, x4⟩
  · obtain ⟨a, e1, ow, e2, e3⟩ := R.o i d e
    rw [q] at e1; cases e1
    rcases e3 with e3 | e3
    · rw [e0] at e3; cases e3
    · exact hio i e3
end
end EV
end

section
/-! EvC -/
set_option Elab.async false
set_option linter.all false
set_option maxRecDepth 100000
set_option maxHeartbeats 1000000
/-! EvC: the operations by values. -/
namespace EV
open PySem PySem.Spec L2

/-- what an operation brings: a value that was there, or a new object -/
inductive NewR (K : W.Frag) (F H : Hp) : Hp → Hp → Opd → V → Prop
  | val {v : V} {d : D} : Rp K F v d → NewR K F H F H (.val d) v
  | own {p : Addr} {o : HO} {d : D} : H p = none → Ow K F (upd H p o) p d → NewR K F H F (upd H p o) (.own d) (.ref p)
  | frz {p : Addr} {o : HO} {d : D} : H p = none → Rp K (upd F p o) (.ref p) d → NewR K F H (upd F p o) (upd H p o) (.val d) (.ref p)
def OV (K : W.Frag) (B : Bs) (ρ : Rho) (σ : L2.St) (F H : Hp) : Opd → V → Prop
  | .val d, v => Rp K F v d
  | .own d, v => ∃ a, v = .ref a ∧ Ow K F H a d ∧ F a = none ∧ B.H0 a = none ∧ NoSl ρ σ a
  | .slot i, v => σ[i]? = some (some v)
theorem Rel.newR {K : W.Frag} {B : Bs} {ρ : Rho} {σ : L2.St} {F H F' H' : Hp} {r : Opd} {v : V} (R : Rel K B ρ σ F H) (n : NewR K F H F' H' r v) : Same F F' ∧ Rel K B ρ σ F' H' ∧ OV K B ρ σ F' H' r v := by
  cases n with
  | val h => exact ⟨Same.refl _, R, h⟩
  | own h o =>
    obtain ⟨h1, h2, h3⟩ := R.newB h
    exact ⟨Same.refl _, R.laid h, _, rfl, o, h2, h1, h3⟩
  | frz h o => exact ⟨same_new (R.newB h).2.1, R.laidF h, o⟩

/-- an operation of two values -/
def rN (K : W.Frag) (g : D → D → Option Opd) : R2 := fun x y H Q => ∃ F dx dy r, Same F H ∧ Vw K F H x dx ∧ Vw K F H y dy ∧ g dx dy = some r ∧ ∀ v F' H', NewR K F H F' H' r v → Q v H'
def rNB (K : W.Frag) (g : D → D → Option Bool) : R2 := fun x y H Q => ∃ F dx dy r, Same F H ∧ Vw K F H x dx ∧ Vw K F H y dy ∧ g dx dy = some r ∧ Q (.bl r) H
def rNL (K : W.Frag) (g : List D → Option Opd) : List V → Hp → VK → Prop := fun xs H Q => ∃ F ds r, Same F H ∧ Paired (Vw K F H) xs ds ∧ g ds = some r ∧ ∀ v F' H', NewR K F H F' H' r v → Q v H'
def bopOf : Bop → Operator
  | .add => .Add
  | .sub => .Sub
  | .mul => .Mult
  | .fdiv => .FloorDiv
  | .mod => .Mod
  | .pow => .Pow
def copOf : Cop → CmpOp
  | .eq => .Eq
  | .ne => .NotEq
  | .lt => .Lt
  | .le => .LtE
  | .gt => .Gt
  | .ge => .GtE
  | .inn => .In
  | .nin => .NotIn
section
variable {X : Cx}
theorem sized (P : Program) (w : World) {H : Hp} {h : Heap} {a : Addr} {xs : List V} (ok : HOk P w H h) (r : Rd H a (.lst xs)) : ∃ (its : List Value) (n : Nat), xs.length ≤ sizeLine ∧ Vals xs its ∧ h.get? a = some { cls := .type "list", data := .seq its.toArray n } := by
  obtain ⟨z, its, n, rv, e⟩ := r.ok ok
  exact ⟨its, n, z, rv, e⟩
theorem op_catR : OpR X (binaryOp .Add) (fun x y H Q => ∃ a b xs ys, x = .ref a ∧ y = .ref b ∧ SqL X.K H a xs ∧ SqL X.K H b ys ∧ xs.length + ys.length ≤ sizeLine ∧ ∀ p, H p = none → Q (.ref p) (upd H p (.lst (xs ++ ys)))) := by
  intro pins s σ H x y v u Q I rx ry ⟨a, b, xs, ys, ex, ey, ra, rb, hz, q⟩
  subst ex ey
  cases rx
  cases ry
  obtain ⟨i1, v1, hl1, z1⟩ := I.list ra
  obtain ⟨i2, v2, hl2, z2⟩ := I.list rb
  have l1 := v1.length
  have l2 := v2.length
  obtain ⟨⟨cls, dd, data, sl⟩, ho, hc, n, hd⟩ := hl1.isList
  obtain ⟨⟨cls2, dd2, data2, sl2⟩, ho2, hc2, n2, hd2⟩ := hl2.isList
  simp only at hc hd hc2 hd2
  subst hc hd hc2 hd2
  refine PySem.concat_meets ⟨_, ho, rfl⟩ ⟨_, ho2, rfl⟩ PySem.noFill_list_add PySem.seq_list_add PySem.F.slot_list_add PySem.F.entry_list_add (PySem.F.args_list_add_2 _ _) (PyProof.Rows.list_addW a b i1.toArray i2.toArray n n2 dd dd2 sl sl2 (by simp only [List.size_toArray]; omega)) ⟨ho, ho2, ?_⟩
  rw [show i1.toArray ++ i2.toArray = (i1 ++ i2).toArray by simp]
  exact ⟨.ref _, _, I.lnew (t' := s.toks) (v1.append v2) (by rw [List.length_append]; omega), rfl, q _ I.fresh⟩
theorem op_bin (o : Bop) : OpR X (binaryOp (bopOf o)) (rN X.K (binop o)) := by
  intro pins s σ H x y v u Q I rx ry ⟨F, dx, dy, r, sF, vx, vy, e, q⟩
  cases o <;> cases dx <;> cases dy <;> simp only [binop, reduceCtorEq] at e
  -- + of ints
  · cases vx.int; cases vy.int; cases e
    exact op_add pins s σ H _ _ v u Q I rx ry ⟨_, _, rfl, rfl, q _ _ _ (.val (.int _))⟩
  · cases vx.str; cases vy.str
    split at e <;> cases e
    exact op_add_str pins s σ H _ _ v u Q I rx ry ⟨_, _, rfl, rfl, by assumption, q _ _ _ (.val (.str _))⟩
  · obtain ⟨a, xs, rfl, ra, pa⟩ := vx.list sF
    obtain ⟨b, ys, rfl, rb, pb⟩ := vy.list sF
    split at e <;> cases e
    rename_i hz
    exact op_catR pins s σ H _ _ v u Q I rx ry ⟨a, b, xs, ys, rfl, rfl, ra, rb, by rw [pa.len, pb.len]; exact hz, fun p hp => q _ _ _ (.own hp (.lst upd_same (pa.append pb)))⟩
  · cases vx.int; cases vy.int; cases e
    exact op_sub pins s σ H _ _ v u Q I rx ry ⟨_, _, rfl, rfl, q _ _ _ (.val (.int _))⟩
  · cases vx.int; cases vy.int
    split at e <;> cases e
    rename_i i j hm
    unfold mulOk at hm
    simp only [Bool.or_eq_true, Bool.and_eq_true, decide_eq_true_eq] at hm
    rcases hm with hm | hm
    · exact op_mul pins s σ H _ _ v u Q I rx ry ⟨_, _, rfl, rfl, hm, q _ _ _ (.val (.int _))⟩
    · exact op_mulW pins s σ H _ _ v u Q I rx ry ⟨_, _, rfl, rfl, wide_mul hm.1 hm.2 (by decide) (by decide) (by decide), q _ _ _ (.val (.int _))⟩
  · cases vx.int; cases vy.int
    split at e <;> cases e
    rename_i i j hm
    simp only [Bool.and_eq_true, decide_eq_true_eq] at hm
    exact op_fdivW pins s σ H _ _ v u Q I rx ry ⟨_, _, rfl, rfl, wide_div hm.1 (b := 4000) hm.2 (by decide) (by decide), q _ _ _ (.val (.int _))⟩
  · cases vx.int; cases vy.int
    split at e <;> cases e
    exact op_mod pins s σ H _ _ v u Q I rx ry ⟨_, _, rfl, rfl, by assumption, q _ _ _ (.val (.int _))⟩
  · cases vx.int; cases vy.int
    split at e <;> cases e
    rename_i i j hm
    simp only [Bool.and_eq_true, decide_eq_true_eq] at hm
    exact op_pow pins s σ H _ _ v u Q I rx ry ⟨_, _, rfl, rfl, ⟨hm.1.1.1, by omega, by omega⟩, q _ _ _ (.val (.int _))⟩

/-! ### comparisons -/
theorem ord_of {x y : D} (h : ordable x y = true) : W.alike x y = true ∧ x ≠ .none ∧ okD x = true ∧ okD y = true := by
  unfold ordable at h
  simp only [Bool.and_eq_true] at h
  refine ⟨h.1.1, fun e => ?_, h.1.2⟩
  subst e
  exact absurd h.2 (by decide)
theorem room9 {a b : D} {u : Nat} (hu : u + 64 < cLine) (h : okD a = true) : u + min a.depth b.depth < cLine := by
  have h1 := (dp_plain 9 a h).2
  have h2 : min a.depth b.depth ≤ a.depth := Nat.min_le_left _ _
  omega
end
section
variable {X : Cx} {pins : List (Addr × Obj)} {s : Shared} {σ : L2.St} {H F : Hp} {x : V} {v : Value} {d : D} {n : Nat}
theorem reads_of (I : Inv X pins σ H s) (sF : Same F H) (h : Vw X.K F H x d) (c : dp n d = true) (r : RelV x v) : ∃ as, Reads s.heap v d as := Dp.reads I d x v (h.dp sF c) r
end
section
variable {X : Cx}
theorem op_cmp (hu : X.A.units + 64 < cLine) (o : Cop) : OpR X (compareOp (copOf o)) (rNB X.K (cmpop o)) := by
  intro pins s σ H x y v u Q I rx ry ⟨F, dx, dy, r, sF, vx, vy, e, q⟩
  have guard : ∀ {c b : Bool} {g : Bool}, (if c = true then some b else none) = some g → c = true ∧ b = g := fun {c b g} h => by
    cases c
    · cases h
    · exact ⟨rfl, Option.some.inj h⟩
  have both : ∀ {b g : Bool}, (if (okD dx && okD dy) = true then some b else none) = some g → okD dx = true ∧ okD dy = true ∧ b = g := fun h => by
    obtain ⟨h1, h2⟩ := guard h
    simp only [Bool.and_eq_true] at h1
    exact ⟨h1.1, h1.2, h2⟩
  have done : EP X pins σ Q (.bool r) s := ⟨.bl r, H, I, rfl, q⟩
  have ords : ∀ {b : Bool}, (if ordable dx dy = true then some b else none) = some r → b = r ∧ W.alike dx dy = true ∧ dx ≠ .none ∧ okD dx = true ∧ ∃ as bs, Reads s.heap v dx as ∧ Reads s.heap u dy bs := fun h => by
    obtain ⟨h1, h2⟩ := guard h
    obtain ⟨h3, h4, h5, h6⟩ := ord_of h1
    obtain ⟨as, r1⟩ := reads_of I sF vx h5 rx
    obtain ⟨bs, r2⟩ := reads_of I sF vy h6 ry
    exact ⟨h2, h3, h4, h5, as, bs, r1, r2⟩
  cases o
  · obtain ⟨h1, h2, h3⟩ := both e
    subst h3
    obtain ⟨as, r1⟩ := reads_of I sF vx h1 rx
    obtain ⟨bs, r2⟩ := reads_of I sF vy h2 ry
    exact SeqAt.eq_plain r1 r2 (dp_plain 9 _ h1).1 (dp_plain 9 _ h2).1 (room9 hu h1) done
  · obtain ⟨h1, h2, h3⟩ := both e
    subst h3
    obtain ⟨as, r1⟩ := reads_of I sF vx h1 rx
    obtain ⟨bs, r2⟩ := reads_of I sF vy h2 ry
    exact SeqAt.ne_plain r1 r2 (dp_plain 9 _ h1).1 (dp_plain 9 _ h2).1 (room9 hu h1) done
  · have e : ltD dx dy = some r := e
    unfold ltD at e
    split at e
    · cases vx.int; cases vy.int
      exact op_lt pins s σ H _ _ v u Q I rx ry ⟨_, _, rfl, rfl, by cases e; exact q⟩
    · obtain ⟨h1, h2, h3, h4, as, bs, r1, r2⟩ := ords e
      subst h1
      exact W.lt_data r1 r2 h2 h3 (room9 hu h4) done
  · have e : leD dx dy = some r := e
    unfold leD at e
    split at e
    · cases vx.int; cases vy.int
      exact op_le pins s σ H _ _ v u Q I rx ry ⟨_, _, rfl, rfl, by cases e; exact q⟩
    · obtain ⟨h1, h2, h3, h4, as, bs, r1, r2⟩ := ords e
      subst h1
      exact W.le_data r1 r2 h2 h3 (room9 hu h4) done
  · have e : gtD dx dy = some r := e
    unfold gtD at e
    split at e
    · cases vx.int; cases vy.int
      exact op_gt pins s σ H _ _ v u Q I rx ry ⟨_, _, rfl, rfl, by cases e; exact q⟩
    · obtain ⟨h1, h2, h3, h4, as, bs, r1, r2⟩ := ords e
      subst h1
      exact W.gt_data r1 r2 h2 h3 (room9 hu h4) done
  · have e : geD dx dy = some r := e
    unfold geD at e
    split at e
    · cases vx.int; cases vy.int
      exact op_ge pins s σ H _ _ v u Q I rx ry ⟨_, _, rfl, rfl, by cases e; exact q⟩
    · obtain ⟨h1, h2, h3, h4, as, bs, r1, r2⟩ := ords e
      subst h1
      exact W.ge_data r1 r2 h2 h3 (room9 hu h4) done
  all_goals
    have e' : (inD dx dy).isSome = true := by
      cases h : inD dx dy with
      | none => simp [cmpop, h] at e
      | some b => rfl
    have room : ∀ {ds : List D}, okD dx = true → X.A.units + 1 + min (PyData.depthAll ds) dx.depth < cLine := fun {ds} h => by
      have h1 := (dp_plain 9 dx h).2
      have h2 : min (PyData.depthAll ds) dx.depth ≤ dx.depth := Nat.min_le_right _ _
      omega
    cases dy with
    | list ds =>
      have hin : inD dx (.list ds) = if okD dx && okD (.list ds) then some (ds.any fun z => PyData.eqv z dx) else none := by cases dx <;> rfl
      simp only [cmpop, hin] at e
      by_cases hg : (okD dx && okD (.list ds)) = true
      · rw [if_pos hg] at e
        simp only [Bool.and_eq_true] at hg
        obtain ⟨as, r1⟩ := reads_of I sF vx hg.1 rx
        obtain ⟨bs, r2⟩ := reads_of I sF vy hg.2 ry
        have hp : PyData.plainAll ds = true := by simpa only [PyData.plain] using (dp_plain 9 _ hg.2).1
        simp only [Option.map_some, Option.some.injEq] at e
        subst e
        first
          | exact SeqAt.in_list_data r2 r1 hp (dp_plain 9 _ hg.1).1 (room hg.1) done
          | exact SeqAt.notIn_list_data r2 r1 hp (dp_plain 9 _ hg.1).1 (room hg.1) done
      · rw [if_neg hg] at e
        cases e
    | tuple ds =>
      have hin : inD dx (.tuple ds) = if okD dx && okD (.tuple ds) then some (ds.any fun z => PyData.eqv z dx) else none := by cases dx <;> rfl
      simp only [cmpop, hin] at e
      by_cases hg : (okD dx && okD (.tuple ds)) = true
      · rw [if_pos hg] at e
        simp only [Bool.and_eq_true] at hg
        obtain ⟨as, r1⟩ := reads_of I sF vx hg.1 rx
        obtain ⟨bs, r2⟩ := reads_of I sF vy hg.2 ry
        have hp : PyData.plainAll ds = true := by simpa only [PyData.plain] using (dp_plain 9 _ hg.2).1
        simp only [Option.map_some, Option.some.injEq] at e
        subst e
        first
          | exact SeqAt.in_tuple_data r2 r1 hp (dp_plain 9 _ hg.1).1 (room hg.1) done
          | exact SeqAt.notIn_tuple_data r2 r1 hp (dp_plain 9 _ hg.1).1 (room hg.1) done
      · rw [if_neg hg] at e
        cases e
    | _ => cases dx <;> simp [inD] at e'

/-! ### truth, isinstance, items, slices -/
end
section
variable {X : Cx}
theorem truV {F H : Hp} {x : V} {d : D} {b : Bool} (sF : Same F H) (h : Vw X.K F H x d) (e : tr d = some b) : TruV X.K x H b := by
  cases d with
  | none => cases h.none; cases e; rfl
  | bool c => cases h.bool; cases e; rfl
  | int i =>
    cases h.int; cases e
    show (!decide (i = 0)) = (i != 0)
    rw [bne, Bool.beq_eq_decide_eq]
  | str z =>
    cases h.str
    simp only [tr] at e
    by_cases hz : z.length ≤ sizeLine
    case neg => rw [if_neg hz] at e; cases e
    rw [if_pos hz] at e
    obtain rfl := Option.some.inj e
    show z.length ≤ sizeLine ∧ (!decide (z.length = 0)) = ((z.length : Int) != 0)
    refine ⟨hz, ?_⟩
    rw [bne, Bool.beq_eq_decide_eq]
    congr 1
    by_cases h0 : z.length = 0 <;> simp [h0]
  | list xs =>
    obtain ⟨a, ys, rfl, r, p⟩ := h.list sF
    obtain rfl := Option.some.inj e
    refine .inl ⟨ys, r, ?_⟩
    cases p <;> rfl
  | tuple xs =>
    obtain ⟨a, ys, rfl, r, p⟩ := h.tup sF
    obtain rfl := Option.some.inj e
    refine .inr (.inl ⟨ys, r, ?_⟩)
    cases p <;> rfl
  | dict es =>
    obtain ⟨a, ys, rfl, r, p⟩ := h.dict sF
    obtain rfl := Option.some.inj e
    refine .inr (.inr ⟨ys, r, ?_⟩)
    cases p <;> rfl
theorem atI_all {K : W.Frag} {F : Hp} {vs : List V} {ds : List D} {i : Int} {d : D} (p : RpAll K F vs ds) (h : atI ds i = some d) : ∃ v, atI vs i = some v ∧ Rp K F v d := by
  unfold atI at h ⊢
  rw [p.len]
  cases q : ixN ds.length i with
  | none => rw [q] at h; cases h
  | some j => rw [q] at h; exact p.get h
def rIxN (K : W.Frag) : R2 := fun x y H Q => ∃ F dx dy r, Same F H ∧ Vw K F H x dx ∧ Vw K F H y dy ∧ ixD dx dy = some r ∧ ∀ v, Rp K F v r → Q v H
theorem ix_pv : IxR X (rIxN X.K) := by
  intro val sli pins s σ H x y v u Q I rx ry ⟨F, dx, dy, r, sF, vx, vy, e, q⟩ hsub
  cases dx <;> cases dy <;> simp only [ixD, reduceCtorEq] at e
  · cases vy.int
    obtain ⟨a, xs, rfl, ra, pa⟩ := vx.list sF
    obtain ⟨w, hw, rw_⟩ := atI_all pa e
    exact ix_list val sli pins s σ H _ _ v u Q I rx ry ⟨a, xs, _, w, rfl, rfl, ra, hw, q w rw_⟩ hsub
  · cases vy.int
    obtain ⟨a, xs, rfl, ra, pa⟩ := vx.tup sF
    obtain ⟨w, hw, rw_⟩ := atI_all pa e
    exact ix_tup val sli pins s σ H _ _ v u Q I rx ry ⟨a, xs, _, w, rfl, rfl, ra, hw, q w rw_⟩ hsub

/-! ### slices -/
theorem cut_all {K : W.Frag} {F : Hp} {vs : List V} {ds : List D} (lo hi : Option Int) (p : RpAll K F vs ds) : RpAll K F (cutV vs lo hi) (cut ds lo hi) := by
  unfold cutV cut
  rw [p.len]
  exact (p.drop _).take _
def rSlN (K : W.Frag) : V → Option Int → Option Int → Hp → VK → Prop := fun x lo hi H Q => ∃ F d r, Same F H ∧ Vw K F H x d ∧ slD d lo hi = some r ∧ ∀ v F' H', NewR K F H F' H' r v → Q v H'
theorem cut_whole {xs : List D} {lo hi : Option Int} (h1 : HT.sIx xs.length 0 lo = 0) (h2 : HT.sIx xs.length xs.length hi = xs.length) : cut xs lo hi = xs := by
  unfold cut
  rw [h1, h2]
  simp
theorem sl_pv : SlR X (rSlN X.K) := by
  intro pins s σ H x v vl vu lo hi sl Q I rx hs pl pu ⟨F, d, r, sF, vx, e, q⟩
  cases d <;> simp only [slD, reduceCtorEq] at e
  · obtain ⟨a, xs, rfl, ra, pa⟩ := vx.list sF
    cases e
    exact sl_list pins s σ H _ v vl vu lo hi sl Q I rx hs pl pu ⟨a, xs, rfl, ra, fun p hp => q _ _ _ (.own hp (.lst upd_same (cut_all lo hi pa)))⟩
  · rcases id vx with h' | ⟨a, rfl, h'⟩
    case inr => cases h'
    obtain ⟨a, xs, rfl, ra, pa⟩ := vx.tup sF
    cases e
    refine sl_tupA pins s σ H _ v vl vu lo hi sl Q I rx hs pl pu ⟨a, xs, rfl, ra, fun h => ?_, fun _ p hp => q _ _ _ (.frz hp (.tup (.of upd_same) ((cut_all lo hi pa).mono (same_new (sF.free hp)))))⟩
    rw [pa.len] at h
    exact q _ _ _ (.val (by rw [cut_whole h.1 h.2]; exact h'))

/-! ### isinstance -/
def tyN : Ty → String
  | .int => "int"
  | .bool => "bool"
  | .str => "str"
  | .list => "list"
  | .tuple => "tuple"
  | .dict => "dict"
def nameD : D → String
  | .none => "NoneType"
  | .bool _ => "bool"
  | .int _ => "int"
  | .str _ => "str"
  | .list _ => "list"
  | .tuple _ => "tuple"
  | .dict _ => "dict"
theorem kit_isi (t : Ty) (d : D) : kitB (nameD d) (tyN t) = some (isi t d) := by
  cases d <;> cases t <;> (simp only [isi, nameD, tyN]; decide +kernel)
theorem tyx {F H : Hp} {x : V} {d : D} (sF : Same F H) (h : Vw X.K F H x d) : TyX X.K H x (.type (nameD d)) := by
  cases d with
  | none => cases h.none; exact .base .non
  | bool b => cases h.bool; exact .base (.bl b)
  | int b => cases h.int; exact .base (.int b)
  | str b => cases h.str; exact .base (.str b)
  | list xs =>
    obtain ⟨a, ys, rfl, ra, _⟩ := h.list sF
    rcases ra with (ra | ⟨o, ra⟩) | ⟨o, its, n, hk, hc, _⟩
    · exact .base (.lst ra)
    · exact .base (.frz ra)
    · exact .kList hk hc
  | tuple xs =>
    obtain ⟨a, ys, rfl, ra, _⟩ := h.tup sF
    rcases ra with (ra | ⟨o, ra⟩) | ⟨o, its, n, hk, hc, _⟩
    · exact .base (.tup ra)
    · exact .fTuple ra
    · exact .kTuple hk hc
  | dict es =>
    obtain ⟨a, ys, rfl, ra, _⟩ := h.dict sF
    exact .base (.dK ra)

/-! ### built-in functions -/
theorem paired1 {F H : Hp} {xs : List V} {d : D} (p : Paired (Vw X.K F H) xs [d]) : ∃ x, xs = [x] ∧ Vw X.K F H x d := by
  cases p with
  | cons h t => cases t; exact ⟨_, rfl, h⟩
theorem paired2 {F H : Hp} {xs : List V} {d e : D} (p : Paired (Vw X.K F H) xs [d, e]) : ∃ x y, xs = [x, y] ∧ Vw X.K F H x d ∧ Vw X.K F H y e := by
  cases p with
  | cons h t =>
    obtain ⟨y, rfl, h2⟩ := paired1 t
    exact ⟨_, _, rfl, h, h2⟩
theorem cb_len : CallR X (.builtin "len") (rNL X.K bLen) := by
  intro pins s σ H xs us Q I r ⟨F, ds, o, sF, p, e, q⟩
  unfold bLen at e
  split at e
  · obtain ⟨x, rfl, h⟩ := paired1 p
    obtain ⟨a, ys, rfl, ra, pa⟩ := h.list sF
    cases e
    exact call_len_seq pins s σ H _ us Q I r ⟨a, ys, rfl, .inl ra, by rw [pa.len]; exact q _ _ _ (.val (.int _))⟩
  · obtain ⟨x, rfl, h⟩ := paired1 p
    obtain ⟨a, ys, rfl, ra, pa⟩ := h.tup sF
    cases e
    exact call_len_seq pins s σ H _ us Q I r ⟨a, ys, rfl, .inr ra, by rw [pa.len]; exact q _ _ _ (.val (.int _))⟩
  · obtain ⟨x, rfl, h⟩ := paired1 p
    cases h.str
    split at e <;> cases e
    rename_i hz
    exact call_len_str pins s σ H _ us Q I r ⟨_, rfl, hz, q _ _ _ (.val (.int _))⟩
  · cases e
theorem cb_abs : CallR X (.builtin "abs") (rNL X.K bAbs) := by
  intro pins s σ H xs us Q I r ⟨F, ds, o, sF, p, e, q⟩
  unfold bAbs at e
  split at e <;> cases e
  obtain ⟨x, rfl, h⟩ := paired1 p
  cases h.int
  exact call_abs pins s σ H _ us Q I r ⟨_, rfl, q _ _ _ (.val (.int _))⟩
theorem cb_int : CallR X (.type "int") (rNL X.K bInt) := by
  intro pins s σ H xs us Q I r ⟨F, ds, o, sF, p, e, q⟩
  unfold bInt at e
  split at e <;> cases e
  · obtain ⟨x, rfl, h⟩ := paired1 p
    cases h.int
    exact call_int1 pins s σ H _ us Q I r (.inl ⟨_, rfl, q _ _ _ (.val (.int _))⟩)
  · obtain ⟨x, rfl, h⟩ := paired1 p
    cases h.bool
    exact call_int1 pins s σ H _ us Q I r (.inr ⟨_, rfl, q _ _ _ (.val (.int _))⟩)
theorem cb_list : CallR X (.type "list") (rNL X.K bList) := by
  intro pins s σ H xs us Q I r ⟨F, ds, o, sF, p, e, q⟩
  unfold bList at e
  split at e <;> cases e
  · obtain ⟨x, rfl, h⟩ := paired1 p
    obtain ⟨a, ys, rfl, ra, pa⟩ := h.list sF
    exact call_list_of pins s σ H _ us Q I r ⟨a, ys, rfl, .inl ra, fun l hl => q _ _ _ (.own hl (.lst upd_same pa))⟩
  · obtain ⟨x, rfl, h⟩ := paired1 p
    obtain ⟨a, ys, rfl, ra, pa⟩ := h.tup sF
    exact call_list_of pins s σ H _ us Q I r ⟨a, ys, rfl, .inr ra, fun l hl => q _ _ _ (.own hl (.lst upd_same pa))⟩
theorem cb_tuple : CallR X (.type "tuple") (rNL X.K bTuple) := by
  intro pins s σ H xs us Q I r ⟨F, ds, o, sF, p, e, q⟩
  unfold bTuple at e
  split at e <;> cases e
  · obtain ⟨x, rfl, h⟩ := paired1 p
    obtain ⟨a, ys, rfl, ra, pa⟩ := h.list sF
    refine call_tuple_of pins s σ H _ us Q I r ⟨a, ys, rfl, .inl ⟨ra, fun l hl => q _ _ _ (.frz hl (.tup (.of upd_same) (pa.mono (same_new (sF.free hl)))))⟩⟩
  · obtain ⟨x, rfl, h⟩ := paired1 p
    rcases id h with h' | ⟨a, rfl, h'⟩
    · obtain ⟨a, ys, rfl, ra, pa⟩ := h.tup sF
      exact call_tuple_of pins s σ H _ us Q I r ⟨a, ys, rfl, .inr ⟨ra, q _ _ _ (.val h')⟩⟩
    · cases h'
theorem cb_sum (hc : X.calm = true) : CallR X (.builtin "sum") (rNL X.K bSum) := by
  intro pins s σ H xs us Q I r ⟨F, ds, o, sF, p, e, q⟩
  unfold bSum at e
  split at e
  · obtain ⟨x, rfl, h⟩ := paired1 p
    obtain ⟨a, ys, rfl, ra, pa⟩ := h.list sF
    cases hi : intsD _ with
    | none => rw [hi] at e; cases e
    | some l =>
      rw [hi] at e; cases e
      have := pa.ofInts hi
      subst this
      exact cr_sum hc pins s σ H _ us Q I r ⟨a, l, rfl, ra, q _ _ _ (.val (.int _))⟩
  · cases e
theorem cb_all (hc : X.calm = true) : CallR X (.builtin "all") (rNL X.K bAll) := by
  intro pins s σ H xs us Q I r ⟨F, ds, o, sF, p, e, q⟩
  unfold bAll at e
  split at e
  · obtain ⟨x, rfl, h⟩ := paired1 p
    obtain ⟨a, ys, rfl, ra, pa⟩ := h.list sF
    cases hi : boolsD _ with
    | none => rw [hi] at e; cases e
    | some l =>
      rw [hi] at e; cases e
      have := pa.ofBools hi
      subst this
      exact cr_all hc pins s σ H _ us Q I r ⟨a, l, rfl, ra, q _ _ _ (.val (.bl _))⟩
  · cases e
theorem cb_any (hc : X.calm = true) : CallR X (.builtin "any") (rNL X.K bAny) := by
  intro pins s σ H xs us Q I r ⟨F, ds, o, sF, p, e, q⟩
  unfold bAny at e
  split at e
  · obtain ⟨x, rfl, h⟩ := paired1 p
    obtain ⟨a, ys, rfl, ra, pa⟩ := h.list sF
    cases hi : boolsD _ with
    | none => rw [hi] at e; cases e
    | some l =>
      rw [hi] at e; cases e
      have := pa.ofBools hi
      subst this
      exact cr_any hc pins s σ H _ us Q I r ⟨a, l, rfl, ra, q _ _ _ (.val (.bl _))⟩
  · cases e
theorem cb_max2 (hc : X.calm = true) : CallR X (.builtin "max") (rNL X.K bMax2) := by
  intro pins s σ H xs us Q I r ⟨F, ds, o, sF, p, e, q⟩
  unfold bMax2 at e
  split at e <;> cases e
  obtain ⟨x, y, rfl, h, h2⟩ := paired2 p
  cases h.int; cases h2.int
  exact call_max2 hc pins s σ H _ us Q I r ⟨_, _, rfl, q _ _ _ (.val (.int _))⟩
theorem cb_min2 (hc : X.calm = true) : CallR X (.builtin "min") (rNL X.K bMin2) := by
  intro pins s σ H xs us Q I r ⟨F, ds, o, sF, p, e, q⟩
  unfold bMin2 at e
  split at e <;> cases e
  obtain ⟨x, y, rfl, h, h2⟩ := paired2 p
  cases h.int; cases h2.int
  exact call_min2 hc pins s σ H _ us Q I r ⟨_, _, rfl, q _ _ _ (.val (.int _))⟩
theorem alikeL_of {x : D} {xs : List D} (h : alikeL (x :: xs) = true) : W.AlikeAll (x :: xs) ∧ okD (.list (x :: xs)) = true := by
  unfold alikeL at h
  simp only [Bool.and_eq_true, List.all_eq_true] at h
  refine ⟨⟨fun a ha b hb => (h.2 a ha).2 b hb, fun a ha e => ?_⟩, h.1⟩
  have := (h.2 a ha).1
  subst e
  exact absurd this (by decide)
/-- the item that was chosen, as a value of the layer -/
theorem chosen {F H : Hp} {pins : List (Addr × Obj)} {σ : L2.St} {s : Shared} {xs : List V} {ds : List D} {vs : List Value} {i : Nat} {v : Value} {h' : Heap} {bs : List Addr} {d : D} (I : Inv X pins σ H s) (sF : Same F H) (pa : RpAll X.K F xs ds) (rv : Vals xs vs)
    (hk : ∀ b o, s.heap.get? b = some o → h'.get? b = some o) (hv : vs[i]? = some v) (r : Reads h' v d bs) (hd : ∀ z ∈ ds, dp 8 z = true) (hp : d.plain = true) : ∃ x, xs[i]? = some x ∧ RelV x v ∧ Rp X.K F x d := by
  have hi : i < xs.length := by rw [rv.length]; exact (List.getElem?_eq_some_iff.mp hv).1
  obtain ⟨u, hu, ru⟩ := rv.get (x := xs[i]) (List.getElem?_eq_getElem hi)
  rw [hv] at hu; cases hu
  obtain ⟨z, hz, rz⟩ := pa.getv (List.getElem?_eq_getElem hi)
  have hzz := hd z (List.mem_of_getElem? hz)
  obtain ⟨as, r2⟩ := reads_of I sF (.inl rz) hzz ru
  have e1 := SeqAt.readOf_plain (dp_plain 8 z hzz).1 (W.reads_keeps hk r2)
  have e2 := SeqAt.readOf_plain hp r
  rw [e1] at e2
  subst e2
  exact ⟨_, List.getElem?_eq_getElem hi, ru, rz⟩
theorem minD_mem (f : D → D → Bool) : ∀ (xs : List D) (x : D), xs.foldl (fun a y => if f y a then y else a) x ∈ x :: xs
  | [], x => by simp
  | y :: r, x => by
    rw [List.foldl_cons]
    have := minD_mem f r (if f y x then y else x)
    rcases List.mem_cons.mp this with h | h
    · rw [h]
      split <;> simp
    · exact List.mem_cons_of_mem _ (List.mem_cons_of_mem _ h)
theorem maxD_mem (f : D → D → Bool) : ∀ (xs : List D) (x : D), xs.foldl (fun a y => if f a y then y else a) x ∈ x :: xs
  | [], x => by simp
  | y :: r, x => by
    rw [List.foldl_cons]
    have := maxD_mem f r (if f x y then y else x)
    rcases List.mem_cons.mp this with h | h
    · rw [h]
      split <;> simp
    · exact List.mem_cons_of_mem _ (List.mem_cons_of_mem _ h)
theorem cb_min (hc : X.calm = true) (hu : X.A.units + 64 < cLine) : CallR X (.builtin "min") (rNL X.K bMin) := by
  intro pins s σ H xs us Q I r ⟨F, ds, o, sF, p, e, q⟩
  unfold bMin at e
  split at e
  · rename_i l
    obtain ⟨x, rfl, h⟩ := paired1 p
    obtain ⟨a, ys, rfl, ra, pa⟩ := h.list sF
    cases l with
    | nil => cases e
    | cons z zs =>
      have eL : minL (z :: zs) = if alikeL (z :: zs) then some (W.minD z zs) else none := rfl
      rw [eL] at e
      by_cases hal : alikeL (z :: zs) = true
      · rw [if_pos hal] at e
        cases e
        obtain ⟨h1, h2⟩ := alikeL_of hal
        have h8 : ∀ y ∈ z :: zs, dp 8 y = true := by simpa [okD, dp] using h2
        rw [Vals.ref1 r]
        obtain ⟨its, rv, hl, hz⟩ := I.list (ra)
        obtain ⟨bs, rr⟩ := Dp.readsAll I _ _ _ (dpAll_mono sF (pa.dp h8)) rv
        have hdp := (dp_plainAll 8 _ h8).2
        refine W.min_list_data (I.ok.hd hc) hl.isList (by simpa using rr) h1 (by omega) fun i v h' tk bs' hv hr hk => ?_
        obtain ⟨y, hy, ry, rp⟩ := chosen I sF pa rv hk (by simpa using hv) hr h8 (dp_plain 8 _ (h8 _ (minD_mem W.dataLt zs z))).1
        exact ⟨y, H, I.kept hk, ry, q _ _ _ (.val rp)⟩
      · rw [if_neg hal] at e
        cases e
  · rename_i l
    obtain ⟨x, rfl, h⟩ := paired1 p
    obtain ⟨a, ys, rfl, ra, pa⟩ := h.tup sF
    cases l with
    | nil => cases e
    | cons z zs =>
      have eL : minL (z :: zs) = if alikeL (z :: zs) then some (W.minD z zs) else none := rfl
      rw [eL] at e
      by_cases hal : alikeL (z :: zs) = true
      · rw [if_pos hal] at e
        cases e
        obtain ⟨h1, h2⟩ := alikeL_of hal
        have h8 : ∀ y ∈ z :: zs, dp 8 y = true := by simpa [okD, dp] using h2
        rw [Vals.ref1 r]
        obtain ⟨its, rv, hl, hz⟩ := I.tuple ra
        obtain ⟨bs, rr⟩ := Dp.readsAll I _ _ _ (dpAll_mono sF (pa.dp h8)) rv
        have hdp := (dp_plainAll 8 _ h8).2
        refine W.min_tuple_data (I.ok.hd hc) hl (by simpa using rr) h1 (by omega) fun i v h' tk bs' hv hr hk => ?_
        obtain ⟨y, hy, ry, rp⟩ := chosen I sF pa rv hk (by simpa using hv) hr h8 (dp_plain 8 _ (h8 _ (minD_mem W.dataLt zs z))).1
        exact ⟨y, H, I.kept hk, ry, q _ _ _ (.val rp)⟩
      · rw [if_neg hal] at e
        cases e
  · cases e
theorem cb_max (hc : X.calm = true) (hu : X.A.units + 64 < cLine) : CallR X (.builtin "max") (rNL X.K bMax) := by
  intro pins s σ H xs us Q I r ⟨F, ds, o, sF, p, e, q⟩
  unfold bMax at e
  split at e
  · rename_i l
    obtain ⟨x, rfl, h⟩ := paired1 p
    obtain ⟨a, ys, rfl, ra, pa⟩ := h.list sF
    cases l with
    | nil => cases e
    | cons z zs =>
      have eL : maxL (z :: zs) = if alikeL (z :: zs) then some (W.maxD z zs) else none := rfl
      rw [eL] at e
      by_cases hal : alikeL (z :: zs) = true
      · rw [if_pos hal] at e
        cases e
        obtain ⟨h1, h2⟩ := alikeL_of hal
        have h8 : ∀ y ∈ z :: zs, dp 8 y = true := by simpa [okD, dp] using h2
        rw [Vals.ref1 r]
        obtain ⟨its, rv, hl, hz⟩ := I.list (ra)
        obtain ⟨bs, rr⟩ := Dp.readsAll I _ _ _ (dpAll_mono sF (pa.dp h8)) rv
        have hdp := (dp_plainAll 8 _ h8).2
        refine W.max_list_data (I.ok.hd hc) hl.isList (by simpa using rr) h1 (by omega) fun i v h' tk bs' hv hr hk => ?_
        obtain ⟨y, hy, ry, rp⟩ := chosen I sF pa rv hk (by simpa using hv) hr h8 (dp_plain 8 _ (h8 _ (maxD_mem W.dataLt zs z))).1
        exact ⟨y, H, I.kept hk, ry, q _ _ _ (.val rp)⟩
      · rw [if_neg hal] at e
        cases e
  · rename_i l
    obtain ⟨x, rfl, h⟩ := paired1 p
    obtain ⟨a, ys, rfl, ra, pa⟩ := h.tup sF
    cases l with
    | nil => cases e
    | cons z zs =>
      have eL : maxL (z :: zs) = if alikeL (z :: zs) then some (W.maxD z zs) else none := rfl
      rw [eL] at e
      by_cases hal : alikeL (z :: zs) = true
      · rw [if_pos hal] at e
        cases e
        obtain ⟨h1, h2⟩ := alikeL_of hal
        have h8 : ∀ y ∈ z :: zs, dp 8 y = true := by simpa [okD, dp] using h2
        rw [Vals.ref1 r]
        obtain ⟨its, rv, hl, hz⟩ := I.tuple ra
        obtain ⟨bs, rr⟩ := Dp.readsAll I _ _ _ (dpAll_mono sF (pa.dp h8)) rv
        have hdp := (dp_plainAll 8 _ h8).2
        refine W.max_tuple_data (I.ok.hd hc) hl (by simpa using rr) h1 (by omega) fun i v h' tk bs' hv hr hk => ?_
        obtain ⟨y, hy, ry, rp⟩ := chosen I sF pa rv hk (by simpa using hv) hr h8 (dp_plain 8 _ (h8 _ (maxD_mem W.dataLt zs z))).1
        exact ⟨y, H, I.kept hk, ry, q _ _ _ (.val rp)⟩
      · rw [if_neg hal] at e
        cases e
  · cases e

theorem each_vals {K : W.Frag} {F : Hp} : ∀ {out : List Value} {ds : List D}, W.EachIs (fun v d => ∃ y, RelV y v ∧ Rp K F y d) out ds → ∃ ys, Vals ys out ∧ RpAll K F ys ds
  | _, _, .nil => ⟨[], .nil, .nil⟩
  | _, _, .cons ⟨y, r, p⟩ t => let ⟨ys, rs, ps⟩ := each_vals t; ⟨y :: ys, .cons r rs, .cons p ps⟩
theorem each_of {K : W.Frag} {F : Hp} : ∀ {ys : List V} {its : List Value} {ds : List D}, Vals ys its → RpAll K F ys ds → W.EachIs (fun v d => ∃ y, RelV y v ∧ Rp K F y d) its ds
  | _, _, _, .nil, .nil => .nil
  | _, _, _, .cons r rs, .cons p ps => .cons ⟨_, r, p⟩ (each_of rs ps)
theorem each_reads {h : Heap} : ∀ {its : List Value} {ds : List D} {as : List Addr}, ReadsAll h its ds as → W.EachIs (fun v d => ∃ as, Reads h v d as) its ds
  | _, _, _, .nil => .nil
  | _, _, _, .cons r1 r2 => .cons ⟨_, r1⟩ (each_reads r2)
theorem cb_sorted (hc : X.calm = true) (hu : X.A.units + 64 < cLine) : CallR X (.builtin "sorted") (rNL X.K bSort) := by
  intro pins s σ H xs us Q I r ⟨F, ds, o, sF, p, e, q⟩
  unfold bSort at e
  split at e
  · rename_i l
    obtain ⟨x, rfl, h⟩ := paired1 p
    obtain ⟨a, ys, rfl, ra, pa⟩ := h.list sF
    by_cases hg : ((alikeL l && sortable l) && decide (l.length ≤ 100000)) = true
    · rw [if_pos hg] at e
      cases e
      simp only [Bool.and_eq_true, decide_eq_true_eq] at hg
      obtain ⟨⟨hal, hso⟩, hln⟩ := hg
      unfold alikeL at hal
      simp only [Bool.and_eq_true, List.all_eq_true] at hal
      have h8 : ∀ y ∈ l, dp 8 y = true := by simpa [okD, dp] using hal.1
      rw [Vals.ref1 r]
      obtain ⟨its, rv, hl, hz⟩ := I.list ra
      obtain ⟨bs, rr⟩ := Dp.readsAll I _ _ _ (dpAll_mono sF (pa.dp h8)) rv
      have hid : l.map id = l := List.map_id l
      refine W.sorted_data (bs := l) (enc := id) (R := fun v d => ∃ y, RelV y v ∧ Rp X.K F y d) hl.isList (each_of rv pa) (each_reads rr) (by rw [hid]; exact fun d hd d' hd' => (hal.2 d hd).2 d' hd') ?_ ?_ ?_ fun out ho eo => ?_
      · rw [hid]
        unfold sortable at hso
        rw [Bool.or_eq_true, List.all_eq_true, List.all_eq_true] at hso
        rcases hso with hso | hso
        · refine .inl fun d hd => ?_
          have := hso d hd
          split at this
          · exact ⟨_, _, rfl⟩
          · cases this
        · refine .inr fun d hd => ⟨fun e => ?_, fun xs e => ?_⟩
          · have := hso d hd; rw [e] at this; cases this
          · have := hso d hd; rw [e] at this; cases this
      · rw [PySem.sizeLine_eq]; omega
      · intro b hb
        have := (dp_plain 8 b (h8 b hb)).2
        show X.A.units + 2 + b.depth < cLine
        omega
      · obtain ⟨ys', v', p'⟩ := each_vals eo
        obtain ⟨c, hc'⟩ := PyProof.Rows.sortedAll_at s.heap its (List.toArray out)
        have ln : ys'.length = l.length := by rw [v'.length]; exact ho
        have hp : s.heap.objs.size ≤ s.heap.objs.size + 1 := Nat.le_succ _
        have J := I.laid (t' := s.toks) (h' := PyProof.Rows.sortedAll s.heap its (List.toArray out)) (a := s.heap.objs.size + 1) (o := .lst ys') (fun b u z => PyProof.Rows.sortedAll_old z) hp (show ObjOk X.prog X.w _ _ _ (.lst ys') from ⟨by rw [ln, PySem.sizeLine_eq]; omega, out, c, v', hc'⟩)
        exact ⟨.ref _, _, J, rfl, q _ _ _ (.own (I.hok.fresh hp) (.lst upd_same p'))⟩
    · rw [if_neg hg] at e
      cases e
  · cases e

/-! ### methods -/
def rMN (K : W.Frag) (g : D → List D → Option Opd) : V → List V → Hp → VK → Prop := fun x xs H Q => ∃ F d ds r, Same F H ∧ Vw K F H x d ∧ Paired (Vw K F H) xs ds ∧ g d ds = some r ∧ ∀ v F' H', NewR K F H F' H' r v → Q v H'
theorem mb_count (hu : X.A.units + 64 < cLine) : MtR X "list.count" (rMN X.K (method .count)) := by
  intro pins s σ H x xs v us Q I rx r ⟨F, d, ds, o, sF, vx, p, e, q⟩
  cases d with
  | list l =>
    match ds, p, e with
    | [z], p, e =>
      obtain ⟨y, rfl, h⟩ := paired1 p
      obtain ⟨a, ys, rfl, ra, pa⟩ := vx.list sF
      have e' : (if okD z && okD (.list l) then some (Opd.val (.int (l.countP fun y => PyData.eqv y z : Nat))) else none) = some o := e
      by_cases hg : (okD z && okD (.list l)) = true
      · rw [if_pos hg] at e'
        obtain rfl := Option.some.inj e'
        simp only [Bool.and_eq_true] at hg
        obtain ⟨u, rfl, ru⟩ := Vals.one r
        cases rx
        obtain ⟨its, rv, hl, hz⟩ := I.list (ra)
        have h8 : ∀ y ∈ l, dp 8 y = true := by simpa [okD, dp] using hg.2
        obtain ⟨as, rr⟩ := Dp.readsAll I _ _ _ (dpAll_mono sF (pa.dp h8)) rv
        obtain ⟨bs, r2⟩ := reads_of I sF h hg.1 ru
        have h1 := (dp_plain 9 z hg.1).2
        have h2 : min (PyData.depthAll l) z.depth ≤ z.depth := Nat.min_le_right _ _
        refine SeqAt.count_list_data hl.isList (by simpa using rr) r2 (dp_plainAll 8 _ h8).1 (dp_plain 9 z hg.1).1 (by omega) ?_
        exact ⟨.int _, H, I.tok _, ⟨_, rfl⟩, q _ _ _ (.val (.int _))⟩
      · rw [if_neg hg] at e'
        cases e'
    | [], p, e => cases e
    | _ :: _ :: _, p, e => cases e
  | _ => cases e
theorem mb_index (hu : X.A.units + 65 < cLine) : MtR X "list.index" (rMN X.K (method .index)) := by
  intro pins s σ H x xs v us Q I rx r ⟨F, d, ds, o, sF, vx, p, e, q⟩
  cases d with
  | list l =>
    match ds, p, e with
    | [z], p, e =>
      obtain ⟨y, rfl, h⟩ := paired1 p
      obtain ⟨a, ys, rfl, ra, pa⟩ := vx.list sF
      have e' : (if (okD z && okD (.list l)) && (SeqAt.shaped z && SeqAt.shaped (.list l)) then (l.findIdx? fun y => PyData.eqv y z).map fun j => Opd.val (.int (j : Nat)) else none) = some o := e
      by_cases hg : ((okD z && okD (.list l)) && (SeqAt.shaped z && SeqAt.shaped (.list l))) = true
      · rw [if_pos hg] at e'
        simp only [Bool.and_eq_true] at hg
        cases hf : l.findIdx? fun y => PyData.eqv y z with
        | none => rw [hf] at e'; cases e'
        | some j =>
          rw [hf] at e'
          obtain rfl := Option.some.inj e'
          obtain ⟨hj, h1, h2⟩ := List.findIdx?_eq_some_iff_getElem.mp hf
          exact mt_indexD hu pins s σ H _ _ v us Q I rx r ⟨a, y, z, l, j, l[j], rfl, rfl, vx.dp sF hg.1.2, h.dp sF hg.1.1, hg.2.2, hg.2.1, List.getElem?_eq_getElem hj, h1, fun m z' hm hz' => by
            obtain ⟨hm', rfl⟩ := List.getElem?_eq_some_iff.mp hz'
            simpa using h2 m hm, q _ _ _ (.val (.int _))⟩
      · rw [if_neg hg] at e'
        cases e'
    | [], p, e => cases e
    | _ :: _ :: _, p, e => cases e
  | _ => cases e
end
end EV
end

section
/-! EvD -/
set_option Elab.async false
set_option linter.all false
set_option maxRecDepth 100000
set_option maxHeartbeats 1000000
/-! EvD: expressions. -/
namespace EV
open PySem PySem.Spec L2

theorem pe_imp {X : Cx} {e : Expr} {t t' : TE} (h : PE X e t) (i : ∀ σ H Q, t' σ H Q → t σ H Q) : PE X e t' := ⟨fun pins s σ H Q I q => h.run pins s σ H Q I (i σ H Q q)⟩
theorem pt_imp {X : Cx} {e : Expr} {t t' : TT} (h : PT X e t) (i : ∀ σ H Q, t' σ H Q → t σ H Q) : PT X e t' := ⟨fun pins s σ H Q I q => h.run pins s σ H Q I (i σ H Q q)⟩
theorem pw_imp {X : Cx} {e : Expr} {t t' : TT} (h : PW X e t) (i : ∀ σ H Q, t' σ H Q → t σ H Q) : PW X e t' := ⟨fun wh pins s σ H Q I q => h.run wh pins s σ H Q I (i σ H Q q)⟩
theorem pa_imp {X : Cx} {e : List Expr} {t t' : TA} (h : PA X e t) (i : ∀ σ H Q, t' σ H Q → t σ H Q) : PA X e t' := ⟨fun pos pins s σ H Q I q => h.run pos pins s σ H Q I (i σ H Q q)⟩

def Post {α : Type} (W : Nat → Prop) (r : Rs α) (P : α → Prop) : Prop := match r with
  | .ok a => P a
  | .ex c => W c
  | .st => False
theorem Post.bind {α β : Type} {W : Nat → Prop} {r : Rs α} {k : α → Rs β} {P : β → Prop} (h : Post W (r >>= k) P) : Post W r fun a => Post W (k a) P := by
  cases r <;> exact h
theorem Post.mono {α : Type} {W : Nat → Prop} {r : Rs α} {P P' : α → Prop} (h : Post W r P) (i : ∀ a, P a → P' a) : Post W r P' := by
  cases r with
  | ok a => exact i a h
  | ex c => exact h
  | st => exact h
theorem Post.step {α β : Type} {W : Nat → Prop} {r : Rs α} {k : α → Rs β} {P : β → Prop} {P' : α → Prop} (h : Post W (r >>= k) P) (i : ∀ a, Post W (k a) P → P' a) : Post W r P' := h.bind.mono i
theorem Post.of {α β : Type} {W : Nat → Prop} {o : Option α} {k : α → Rs β} {P : β → Prop} (h : Post W (Rs.of o >>= k) P) : ∃ a, o = some a ∧ Post W (k a) P := by
  cases o with
  | none => exact h.elim
  | some a => exact ⟨a, rfl, h⟩

section
variable (K : W.Frag) (B : Bs) (W : Nat → Prop)
/-- a settled operand and its value -/
def SV (σ : L2.St) (F : Hp) : Opd → V → Prop
  | .val d, v => Rp K F v d
  | .own _, _ => False
  | .slot i, v => σ[i]? = some (some v)
def tE (r : Rho → Rs (Opd × Rho)) : TE := fun σ H Q => ∃ ρ F, Rel K B ρ σ F H ∧ Post W (r ρ) fun p => ∀ v F' H', Same F F' → Rel K B p.2 σ F' H' → OV K B p.2 σ F' H' p.1 v → Q v H'
def tS (r : Rho → Rs (Opd × Rho)) : TE := fun σ H Q => ∃ ρ F, Rel K B ρ σ F H ∧ Post W (r ρ) fun p => ∀ v F' H', Same F F' → Rel K B p.2 σ F' H' → SV K σ F' p.1 v → Q v H'
def tT (r : Rho → Rs (Bool × Rho)) : TT := fun σ H Q => ∃ ρ F, Rel K B ρ σ F H ∧ Post W (r ρ) fun p => ∀ F' H', Same F F' → Rel K B p.2 σ F' H' → Q p.1 H'
def tAs (r : Rho → Rs (List Opd × Rho)) : TA := fun σ H Q => ∃ ρ F, Rel K B ρ σ F H ∧ Post W (r ρ) fun p => ∀ vs F' H', Same F F' → Rel K B p.2 σ F' H' → Paired (SV K σ F') p.1 vs → Q vs H'
end
section
variable {K : W.Frag} {B : Bs} {W : Nat → Prop} {X : Cx} {σ : L2.St} {F F' H : Hp} {ρ : Rho} {x : Opd} {v : V} {d : D}
theorem SV.mono (h : SV K σ F x v) (s : Same F F') : SV K σ F' x v := by
  cases x with
  | val d => exact Rp.mono s h
  | own d => exact h
  | slot i => exact h
theorem view (R : Rel K B ρ σ F H) (h : SV K σ F x v) (e : look ρ x = some d) : Vw K F H v d := by
  cases x with
  | val c => cases e; exact .inl h
  | own c => exact h.elim
  | slot i =>
    simp only [look] at e
    have h : σ[i]? = some (some v) := h
    split at e
    · rename_i c hc
      cases e
      obtain ⟨u, e1, r⟩ := R.f i _ hc
      rw [h] at e1; cases e1
      exact .inl r
    · rename_i c hc
      cases e
      obtain ⟨a, e1, r, _⟩ := R.o i _ hc
      rw [h] at e1; cases e1
      exact .inr ⟨a, rfl, r⟩
    · cases e
/-- an operand's value kept elsewhere -/
theorem freezes {io : Option Nat} {ρ' : Rho} (R : Rel K B ρ σ F H) (hio : ∀ i a, B.io = some (i, a) → io = some i) (h : SV K σ F x v) (e : frz io ρ x = .ok (d, ρ')) : ∃ F', Same F F' ∧ Rel K B ρ' σ F' H ∧ Rp K F' v d := by
  cases x with
  | val c => cases e; exact ⟨F, Same.refl _, R, h⟩
  | own c => exact h.elim
  | slot i =>
    simp only [EV.frz] at e
    have h : σ[i]? = some (some v) := h
    split at e
    · rename_i c hc
      cases e
      obtain ⟨u, e1, r⟩ := R.f i _ hc
      rw [h] at e1; cases e1
      exact ⟨F, Same.refl _, R, r⟩
    · rename_i c hc
      split at e
      · cases e
      · rename_i hn
        cases e
        obtain ⟨a, o, e1, _, hf, r, R'⟩ := R.freezeSlot hc fun a z => hn (hio i a z)
        rw [h] at e1; cases e1
        exact ⟨_, same_new hf, R', r⟩
    · cases e
theorem frz_ex {io : Option Nat} {c : Nat} (e : frz io ρ x = .ex c) : False := by
  cases x with
  | val c => cases e
  | own c => cases e
  | slot i =>
    simp only [EV.frz] at e
    split at e
    · cases e
    · split at e <;> cases e
    · cases e
theorem Post.frz {β : Type} {io : Option Nat} {k : D × Rho → Rs β} {P : β → Prop} (h : Post W (frz io ρ x >>= k) P) : ∃ d ρ', EV.frz io ρ x = .ok (d, ρ') ∧ Post W (k (d, ρ')) P := by
  cases q : EV.frz io ρ x with
  | ok p => rw [q] at h; exact ⟨p.1, p.2, rfl, h⟩
  | ex c => exact (frz_ex q).elim
  | st => rw [q] at h; exact h.elim
/-- an operand is settled -/
theorem sE_stl {e : Expr} {r : Rho → Rs (Opd × Rho)} (h : PE X e (tE X.K B W r)) : PE X e (tS X.K B W fun ρ => stl (r ρ)) := by
  refine pe_imp h fun σ H Q ⟨ρ, F, R, p⟩ => ⟨ρ, F, R, ?_⟩
  have p : Post W (stl (r ρ)) _ := p
  cases q : r ρ with
  | ex c => rw [q] at p; exact p
  | st => rw [q] at p; exact p
  | ok a =>
    obtain ⟨x, ρ1⟩ := a
    rw [q] at p
    intro v F' H' s R1 o
    cases x with
    | val c => exact p v F' H' s R1 o
    | slot i => exact p v F' H' s R1 o
    | own c =>
      obtain ⟨a, rfl, ow, hf, hb, hn⟩ := o
      obtain ⟨u, hu⟩ := ow.at
      exact p _ _ _ (s.trans (same_new hf)) (R1.freeze hu hf hb hn) (ow.rp (same_new hf) (upd_same.trans hu.symm))
/-- a settled operand is one -/
theorem sE_of {e : Expr} {r : Rho → Rs (Opd × Rho)} (h : PE X e (tS X.K B W r)) : PE X e (tE X.K B W r) := by
  refine pe_imp h fun σ H Q ⟨ρ, F, R, p⟩ => ⟨ρ, F, R, p.mono fun a q v F' H' s R1 o => q v F' H' s R1 ?_⟩
  cases h : a.1 with
  | val c => rw [h] at o; exact o
  | slot i => rw [h] at o; exact o
  | own c => rw [h] at o; exact o.elim
end

section
variable {B : Bs} {W : Nat → Prop} {X : Cx} {a b c : Expr} {pos : Pos} {ra rb rc : Rho → Rs (Opd × Rho)}
theorem sE_bin (o : Bop) (ha : PE X a (tS X.K B W ra)) (hb : PE X b (tS X.K B W rb)) : PE X (.BinOp a (bopOf o) b pos) (tE X.K B W fun ρ => do
    let (x, ρ) ← ra ρ
    let (y, ρ) ← rb ρ
    let dx ← Rs.of (look ρ x)
    let dy ← Rs.of (look ρ y)
    let r ← Rs.of (binop o dx dy)
    .ok (r, ρ)) := by
  refine pe_imp (pe_op (op_bin o) ha hb) fun σ H Q ⟨ρ, F, R, p⟩ => ⟨ρ, F, R, p.step fun ⟨x, ρ1⟩ p v F1 H1 s1 R1 v1 => ?_⟩
  refine ⟨ρ1, F1, R1, Post.step p fun ⟨y, ρ2⟩ p u F2 H2 s2 R2 v2 => ?_⟩
  obtain ⟨dx, e1, p⟩ := Post.of p
  obtain ⟨dy, e2, p⟩ := Post.of p
  obtain ⟨r, e3, p⟩ := Post.of p
  exact ⟨F2, dx, dy, r, R2.sub, view R2 (v1.mono s2) e1, view R2 v2 e2, e3, fun w F3 H3 n => let ⟨s3, R3, o3⟩ := R2.newR n; p w F3 H3 (s1.trans (s2.trans s3)) R3 o3⟩
theorem sS_cmp (hu : X.A.units + 64 < cLine) (o : Cop) (ha : PE X a (tS X.K B W ra)) (hb : PE X b (tS X.K B W rb)) (hm : behindInMarks (copOf o) b = false) : PE X (.Compare a [copOf o] [b] pos) (tS X.K B W fun ρ => do
    let (x, ρ) ← ra ρ
    let (y, ρ) ← rb ρ
    let dx ← Rs.of (look ρ x)
    let dy ← Rs.of (look ρ y)
    let r ← Rs.of (cmpop o dx dy)
    .ok (.val (.bool r), ρ)) := by
  refine pe_imp (pe_cmpR (op_cmp hu o) ha hb hm) fun σ H Q ⟨ρ, F, R, p⟩ => ⟨ρ, F, R, p.step fun ⟨x, ρ1⟩ p v F1 H1 s1 R1 v1 => ?_⟩
  refine ⟨ρ1, F1, R1, Post.step p fun ⟨y, ρ2⟩ p u F2 H2 s2 R2 v2 => ?_⟩
  obtain ⟨dx, e1, p⟩ := Post.of p
  obtain ⟨dy, e2, p⟩ := Post.of p
  obtain ⟨r, e3, p⟩ := Post.of p
  exact ⟨F2, dx, dy, r, R2.sub, view R2 (v1.mono s2) e1, view R2 v2 e2, e3, p _ F2 H2 (s1.trans s2) R2 (.bl r)⟩
/-- as a test -/
theorem sT_cmp (hu : X.A.units + 64 < cLine) (o : Cop) (ha : PE X a (tS X.K B W ra)) (hb : PE X b (tS X.K B W rb)) (hm : behindInMarks (copOf o) b = false) : PT X (.Compare a [copOf o] [b] pos) (tT X.K B W fun ρ => do
    let (x, ρ) ← ra ρ
    let (y, ρ) ← rb ρ
    let dx ← Rs.of (look ρ x)
    let dy ← Rs.of (look ρ y)
    let r ← Rs.of (cmpop o dx dy)
    .ok (r, ρ)) := by
  refine pt_imp (pt_cmpR (op_cmp hu o) ha hb hm) fun σ H Q ⟨ρ, F, R, p⟩ => ⟨ρ, F, R, p.step fun ⟨x, ρ1⟩ p v F1 H1 s1 R1 v1 => ?_⟩
  refine ⟨ρ1, F1, R1, Post.step p fun ⟨y, ρ2⟩ p u F2 H2 s2 R2 v2 => ?_⟩
  obtain ⟨dx, e1, p⟩ := Post.of p
  obtain ⟨dy, e2, p⟩ := Post.of p
  obtain ⟨r, e3, p⟩ := Post.of p
  exact ⟨F2, dx, dy, r, R2.sub, view R2 (v1.mono s2) e1, view R2 v2 e2, e3, r, rfl, p F2 H2 (s1.trans s2) R2⟩
theorem sE_ix (ha : PE X a (tS X.K B W ra)) (hb : PE X b (tS X.K B W rb)) (hp : PlainIx b) : PE X (.Subscript a b pos) (tE X.K B W fun ρ => do
    let (x, ρ) ← ra ρ
    let (y, ρ) ← rb ρ
    let dx ← Rs.of (look ρ x)
    let dy ← Rs.of (look ρ y)
    let r ← Rs.of (ixD dx dy)
    .ok (.val r, ρ)) := by
  refine pe_imp (pe_ix ix_pv ha hb hp) fun σ H Q ⟨ρ, F, R, p⟩ => ⟨ρ, F, R, p.step fun ⟨x, ρ1⟩ p v F1 H1 s1 R1 v1 => ?_⟩
  refine ⟨ρ1, F1, R1, Post.step p fun ⟨y, ρ2⟩ p u F2 H2 s2 R2 v2 => ?_⟩
  obtain ⟨dx, e1, p⟩ := Post.of p
  obtain ⟨dy, e2, p⟩ := Post.of p
  obtain ⟨r, e3, p⟩ := Post.of p
  exact ⟨F2, dx, dy, r, R2.sub, view R2 (v1.mono s2) e1, view R2 v2 e2, e3, fun w hw => p w F2 H2 (s1.trans s2) R2 hw⟩
/-- a test whose value is asked -/
def rT (ra : Rho → Rs (Opd × Rho)) : Rho → Rs (Bool × Rho) := fun ρ => do
    let (x, ρ) ← ra ρ
    let d ← Rs.of (look ρ x)
    let t ← Rs.of (tr d)
    .ok (t, ρ)
theorem sT_val (ha : PE X a (tS X.K B W ra)) (he : ∀ whole, isTrue a X.env whole = (do let v ← whole; standAt a.pos; holding [v] (truthy v))) : PT X a (tT X.K B W (rT ra)) := by
  refine pt_imp (pt_truth ha he) fun σ H Q ⟨ρ, F, R, p⟩ => ⟨ρ, F, R, p.step fun ⟨x, ρ1⟩ p v F1 H1 s1 R1 v1 => ?_⟩
  obtain ⟨d, e1, p⟩ := Post.of p
  obtain ⟨t, e2, p⟩ := Post.of p
  exact ⟨t, truV R1.sub (view R1 v1 e1) e2, p F1 H1 s1 R1⟩
theorem sS_not (ha : PE X a (tS X.K B W ra)) : PE X (.UnaryOp .Not a pos) (tS X.K B W fun ρ => do
    let (x, ρ) ← ra ρ
    let d ← Rs.of (look ρ x)
    let t ← Rs.of (tr d)
    .ok (.val (.bool (!t)), ρ)) := by
  refine pe_imp (pe_notT ha) fun σ H Q ⟨ρ, F, R, p⟩ => ⟨ρ, F, R, p.step fun ⟨x, ρ1⟩ p v F1 H1 s1 R1 v1 => ?_⟩
  obtain ⟨d, e1, p⟩ := Post.of p
  obtain ⟨t, e2, p⟩ := Post.of p
  exact ⟨t, truV R1.sub (view R1 v1 e1) e2, p _ F1 H1 s1 R1 (.bl _)⟩
theorem sT_not {ta : Rho → Rs (Bool × Rho)} (ha : PT X a (tT X.K B W ta)) : PT X (.UnaryOp .Not a pos) (tT X.K B W fun ρ => do
    let (t, ρ) ← ta ρ
    .ok (!t, ρ)) := by
  refine pt_imp (pt_not ha) fun σ H Q ⟨ρ, F, R, p⟩ => ⟨ρ, F, R, p.step fun ⟨t, ρ1⟩ p F1 H1 s1 R1 => ?_⟩
  exact p F1 H1 s1 R1
variable {rest : List Expr}
theorem sS_and (ha : PE X a (tS X.K B W ra)) (hb : PE X (.BoolOp .And (b :: rest) pos) (tS X.K B W rb)) : PE X (.BoolOp .And (a :: b :: rest) pos) (tS X.K B W fun ρ => do
    let (x, ρ) ← ra ρ
    let d ← Rs.of (look ρ x)
    let t ← Rs.of (tr d)
    if t then rb ρ else .ok (x, ρ)) := by
  refine pe_imp (pe_andT ha hb) fun σ H Q ⟨ρ, F, R, p⟩ => ⟨ρ, F, R, p.step fun ⟨x, ρ1⟩ p v F1 H1 s1 R1 v1 => ?_⟩
  obtain ⟨d, e1, p⟩ := Post.of p
  obtain ⟨t, e2, p⟩ := Post.of p
  refine ⟨t, truV R1.sub (view R1 v1 e1) e2, ?_⟩
  cases t with
  | true => exact ⟨ρ1, F1, R1, Post.mono p fun ⟨y, ρ2⟩ p u F2 H2 s2 R2 v2 => p u F2 H2 (s1.trans s2) R2 v2⟩
  | false => exact p v F1 H1 s1 R1 v1
theorem sS_or (ha : PE X a (tS X.K B W ra)) (hb : PE X (.BoolOp .Or (b :: rest) pos) (tS X.K B W rb)) : PE X (.BoolOp .Or (a :: b :: rest) pos) (tS X.K B W fun ρ => do
    let (x, ρ) ← ra ρ
    let d ← Rs.of (look ρ x)
    let t ← Rs.of (tr d)
    if t then .ok (x, ρ) else rb ρ) := by
  refine pe_imp (pe_orT ha hb) fun σ H Q ⟨ρ, F, R, p⟩ => ⟨ρ, F, R, p.step fun ⟨x, ρ1⟩ p v F1 H1 s1 R1 v1 => ?_⟩
  obtain ⟨d, e1, p⟩ := Post.of p
  obtain ⟨t, e2, p⟩ := Post.of p
  refine ⟨t, truV R1.sub (view R1 v1 e1) e2, ?_⟩
  cases t with
  | false => exact ⟨ρ1, F1, R1, Post.mono p fun ⟨y, ρ2⟩ p u F2 H2 s2 R2 v2 => p u F2 H2 (s1.trans s2) R2 v2⟩
  | true => exact p v F1 H1 s1 R1 v1
variable {ta tb : Rho → Rs (Bool × Rho)}
theorem sW_and (ha : PT X a (tT X.K B W ta)) (hb : PW X (.BoolOp .And (b :: rest) pos) (tT X.K B W tb)) : PW X (.BoolOp .And (a :: b :: rest) pos) (tT X.K B W fun ρ => do
    let (t, ρ) ← ta ρ
    if t then tb ρ else .ok (false, ρ)) := by
  refine pw_imp (pw_and ha hb) fun σ H Q ⟨ρ, F, R, p⟩ => ⟨ρ, F, R, p.step fun ⟨t, ρ1⟩ p F1 H1 s1 R1 => ?_⟩
  cases t with
  | true => exact ⟨ρ1, F1, R1, Post.mono p fun ⟨y, ρ2⟩ p F2 H2 s2 R2 => p F2 H2 (s1.trans s2) R2⟩
  | false => exact p F1 H1 s1 R1
theorem sW_or (ha : PT X a (tT X.K B W ta)) (hb : PW X (.BoolOp .Or (b :: rest) pos) (tT X.K B W tb)) : PW X (.BoolOp .Or (a :: b :: rest) pos) (tT X.K B W fun ρ => do
    let (t, ρ) ← ta ρ
    if t then .ok (true, ρ) else tb ρ) := by
  refine pw_imp (pw_or ha hb) fun σ H Q ⟨ρ, F, R, p⟩ => ⟨ρ, F, R, p.step fun ⟨t, ρ1⟩ p F1 H1 s1 R1 => ?_⟩
  cases t with
  | false => exact ⟨ρ1, F1, R1, Post.mono p fun ⟨y, ρ2⟩ p F2 H2 s2 R2 => p F2 H2 (s1.trans s2) R2⟩
  | true => exact p F1 H1 s1 R1
theorem sE_ite (hc : PT X c (tT X.K B W ta)) (ha : PE X a (tE X.K B W ra)) (hb : PE X b (tE X.K B W rb)) : PE X (.IfExp c a b pos) (tE X.K B W fun ρ => do
    let (t, ρ) ← ta ρ
    if t then ra ρ else rb ρ) := by
  refine pe_imp (pe_ifExp hc ha hb) fun σ H Q ⟨ρ, F, R, p⟩ => ⟨ρ, F, R, p.step fun ⟨t, ρ1⟩ p F1 H1 s1 R1 => ?_⟩
  cases t with
  | false => exact ⟨ρ1, F1, R1, Post.mono p fun ⟨y, ρ2⟩ p u F2 H2 s2 R2 v2 => p u F2 H2 (s1.trans s2) R2 v2⟩
  | true => exact ⟨ρ1, F1, R1, Post.mono p fun ⟨y, ρ2⟩ p u F2 H2 s2 R2 v2 => p u F2 H2 (s1.trans s2) R2 v2⟩
end
end EV
end

section
/-! EvE -/
set_option Elab.async false
set_option linter.all false
set_option maxRecDepth 100000
set_option maxHeartbeats 1000000
/-! EvE: names, displays, calls. -/
namespace EV
open PySem PySem.Spec L2

section
variable {B : Bs} {W : Nat → Prop} {X : Cx} {e : Expr} {es : List Expr} {pos : Pos} {ra : Rho → Rs (Opd × Rho)} {rs : Rho → Rs (List Opd × Rho)} {io : Option Nat}
theorem sE_v {x : Str} {i : Nat} (hN : X.N[i]? = some x) (hv : Vis X.env.scope x) (hd : (x == ("__debug__" : Str)) = false) (hcd : (x == ("__classdict__" : Str)) = false) : PE X (.Name x pos) (tE X.K B W fun ρ => match look ρ (.slot i) with
    | some _ => .ok (.slot i, ρ)
    | none => .st) := by
  refine pe_imp (pe_var hN hv hd hcd) fun σ H Q ⟨ρ, F, R, p⟩ => ?_
  have p : Post W (match look ρ (.slot i) with
    | some _ => Rs.ok (Opd.slot i, ρ)
    | none => Rs.st) _ := p
  cases q : look ρ (.slot i) with
  | none => rw [q] at p; exact p.elim
  | some d =>
    rw [q] at p
    have hs : ∃ v, σ[i]? = some (some v) := by
      simp only [look] at q
      split at q
      · rename_i c hc
        obtain ⟨u, e1, r⟩ := R.f i _ hc
        exact ⟨_, e1⟩
      · rename_i c hc
        obtain ⟨a, e1, r⟩ := R.o i _ hc
        exact ⟨_, e1⟩
      · cases q
    obtain ⟨v, hv⟩ := hs
    exact ⟨v, hv, p v F H (Same.refl _) R hv⟩
theorem sE_const {d : D} {v : V} (h : PE X e (tC v)) (r : ∀ F, Rp X.K F v d) : PE X e (tE X.K B W fun ρ => .ok (.val d, ρ)) :=
  pe_imp h fun σ H Q ⟨ρ, F, R, p⟩ => p v F H (Same.refl _) R (r F)
theorem sE_neg (ha : PE X e (tS X.K B W ra)) : PE X (.UnaryOp .USub e pos) (tE X.K B W fun ρ => do
    let (x, ρ) ← ra ρ
    match look ρ x with
    | some (.int i) => .ok (.val (.int (-i)), ρ)
    | _ => .st) := by
  refine pe_imp (pe_un un_neg ha) fun σ H Q ⟨ρ, F, R, p⟩ => ⟨ρ, F, R, p.step fun ⟨x, ρ1⟩ p v F1 H1 s1 R1 v1 => ?_⟩
  have p : Post W (match look ρ1 x with
    | some (.int i) => Rs.ok (Opd.val (.int (-i)), ρ1)
    | _ => Rs.st) _ := p
  split at p
  · rename_i i hi
    cases (view R1 v1 hi).int
    exact ⟨i, rfl, p _ F1 H1 s1 R1 (.int _)⟩
  · exact p.elim
theorem sE_isi {t : Ty} {x : Str} {p1 p2 : Pos} (hg : Gl X "isinstance") (hm : X.mg "isinstance" = none) (hg2 : Gl X x) (hm2 : X.mg x = none) (hv : bootBuiltins x = some (.type (tyN t))) (hn : x ≠ "__name__") (hdb : (x == ("__debug__" : Str)) = false) (ha : PE X e (tS X.K B W ra))
    (hs : starEach [e, .Name x p2] X.env = (false, eval e X.env) :: starEach [.Name x p2] X.env) : PE X (.Call (.Name "isinstance" p1) [e, .Name x p2] [] pos) (tE X.K B W fun ρ => do
    let (x, ρ) ← ra ρ
    let d ← Rs.of (look ρ x)
    .ok (.val (.bool (isi t d)), ρ)) := by
  refine pe_imp (pe_callB call_isi hg hm PyProof.Rows.boot_isinstance (pa_cons ha (pa_cons (pe_bltn hg2 hm2 hv (v := .ty (tyN t)) rfl hn hdb) pa_nil) hs) (by decide) (by decide) hs (by rfl)) fun σ H Q ⟨ρ, F, R, p⟩ => ⟨ρ, F, R, p.step fun ⟨x, ρ1⟩ p v F1 H1 s1 R1 v1 => ?_⟩
  obtain ⟨d, e1, p⟩ := Post.of p
  exact ⟨v, .ty (tyN t), .type (nameD d), .type (tyN t), isi t d, rfl, .ty _, tyx R1.sub (view R1 v1 e1), kit_ty (kit_isi t d), p _ F1 H1 s1 R1 (.bl _)⟩

/-! ### arguments -/
theorem sA_nil : PA X [] (tAs X.K B W fun ρ => .ok ([], ρ)) := pa_imp pa_nil fun σ H Q ⟨ρ, F, R, p⟩ => p [] F H (Same.refl _) R .nil
theorem svs_mono {K : PySem.W.Frag} {σ : L2.St} {F F' : Hp} (s : Same F F') : ∀ {xs : List Opd} {vs : List V}, Paired (SV K σ F) xs vs → Paired (SV K σ F') xs vs
  | _, _, .nil => .nil
  | _, _, .cons h t => .cons (SV.mono h s) (svs_mono s t)
theorem sA_cons (hio : ∀ i a, B.io = some (i, a) → io = some i) (ha : PE X e (tS X.K B W ra)) (hr : PA X es (tAs X.K B W rs)) (hs : starEach (e :: es) X.env = (false, eval e X.env) :: starEach es X.env) : PA X (e :: es) (tAs X.K B W fun ρ => do
    let (x, ρ) ← ra ρ
    let (d, ρ) ← frz io ρ x
    let (xs, ρ) ← rs ρ
    .ok (.val d :: xs, ρ)) := by
  refine pa_imp (pa_cons ha hr hs) fun σ H Q ⟨ρ, F, R, p⟩ => ⟨ρ, F, R, p.step fun ⟨x, ρ1⟩ p v F1 H1 s1 R1 v1 => ?_⟩
  obtain ⟨d, ρ2, e2, p⟩ := Post.frz p
  obtain ⟨F2, s2, R2, r2⟩ := freezes R1 hio v1 e2
  exact ⟨ρ2, F2, R2, Post.step p fun ⟨xs, ρ3⟩ p vs F3 H3 s3 R3 v3 => p (v :: vs) F3 H3 (s1.trans (s2.trans s3)) R3 (.cons (r2.mono s3) v3)⟩
theorem sA_bor (ha : PE X e (tS X.K B W ra)) (hr : PA X es (tAs X.K B W rs)) (hs : starEach (e :: es) X.env = (false, eval e X.env) :: starEach es X.env) : PA X (e :: es) (tAs X.K B W fun ρ => do
    let (x, ρ) ← ra ρ
    let (xs, ρ) ← rs ρ
    .ok (x :: xs, ρ)) := by
  refine pa_imp (pa_cons ha hr hs) fun σ H Q ⟨ρ, F, R, p⟩ => ⟨ρ, F, R, p.step fun ⟨x, ρ1⟩ p v F1 H1 s1 R1 v1 => ?_⟩
  exact ⟨ρ1, F1, R1, Post.step p fun ⟨xs, ρ3⟩ p vs F3 H3 s3 R3 v3 => p (v :: vs) F3 H3 (s1.trans s3) R3 (.cons (v1.mono s3) v3)⟩
theorem svs_vals {K : PySem.W.Frag} {σ : L2.St} {F : Hp} : ∀ {ds : List D} {vs : List V}, RpAll K F vs ds → Paired (SV K σ F) (ds.map Opd.val) vs
  | _, _, .nil => .nil
  | _, _, .cons h t => .cons h (svs_vals t)
theorem svs_append {K : PySem.W.Frag} {σ : L2.St} {F : Hp} : ∀ {xs ys : List Opd} {vs ws : List V}, Paired (SV K σ F) xs vs → Paired (SV K σ F) ys ws → Paired (SV K σ F) (xs ++ ys) (vs ++ ws)
  | _, _, _, _, .nil, s => s
  | _, _, _, _, .cons h t, s => .cons h (svs_append t s)
theorem sA_star {p0 : Pos} (hio : ∀ i a, B.io = some (i, a) → io = some i) (ha : PE X e (tS X.K B W ra)) (hr : PA X es (tAs X.K B W rs)) : PA X (.Starred e p0 :: es) (tAs X.K B W fun ρ => do
    let (x, ρ) ← ra ρ
    let (d, ρ) ← frz io ρ x
    match d with
    | .list ds => do
      let (xs, ρ) ← rs ρ
      .ok (ds.map Opd.val ++ xs, ρ)
    | .tuple ds => do
      let (xs, ρ) ← rs ρ
      .ok (ds.map Opd.val ++ xs, ρ)
    | _ => .st) := by
  refine pa_imp (StX.pa_star ha hr) fun σ H Q ⟨ρ, F, R, p⟩ => ⟨ρ, F, R, p.step fun ⟨x, ρ1⟩ p v F1 H1 s1 R1 v1 => ?_⟩
  obtain ⟨d, ρ2, e2, p⟩ := Post.frz p
  obtain ⟨F2, s2, R2, r2⟩ := freezes R1 hio v1 e2
  cases d with
  | list ds =>
    cases r2 with
    | lst h r => exact ⟨_, _, rfl, .inr (R2.sub.seq h), ρ2, F2, R2, Post.step p fun ⟨xs, ρ3⟩ p vs F3 H3 s3 R3 v3 => p _ F3 H3 (s1.trans (s2.trans s3)) R3 (svs_append (svs_vals (r.mono s3)) v3)⟩
  | tuple ds =>
    cases r2 with
    | tup h r => exact ⟨_, _, rfl, .inl (same_sqT R2.sub h), ρ2, F2, R2, Post.step p fun ⟨xs, ρ3⟩ p vs F3 H3 s3 R3 v3 => p _ F3 H3 (s1.trans (s2.trans s3)) R3 (svs_append (svs_vals (r.mono s3)) v3)⟩
  | _ => exact (show False from p).elim
theorem rp_valsOf {K : PySem.W.Frag} {σ : L2.St} {F : Hp} : ∀ {xs : List Opd} {vs : List V} {ds : List D}, Paired (SV K σ F) xs vs → valsOf xs = some ds → RpAll K F vs ds
  | _, _, _, .nil, h => by cases h; exact .nil
  | .val d :: xs, _, ds, .cons h t, e => by
    simp only [valsOf] at e
    cases q : valsOf xs with
    | none => rw [q] at e; cases e
    | some es => rw [q] at e; cases e; exact .cons h (rp_valsOf t q)
  | .own d :: xs, _, ds, .cons h t, e => by cases e
  | .slot d :: xs, _, ds, .cons h t, e => by cases e
theorem sE_tup {k} (h : PA X es (tAs X.K B W rs)) : PE X (.Tuple es k pos) (tE X.K B W fun ρ => do
    let (xs, ρ) ← rs ρ
    let ds ← Rs.of (valsOf xs)
    if ds.length ≤ 1000 then .ok (.val (.tuple ds), ρ) else .st) := by
  refine pe_imp (pe_tup h) fun σ H Q ⟨ρ, F, R, p⟩ => ⟨ρ, F, R, p.step fun ⟨xs, ρ1⟩ p vs F1 H1 s1 R1 v1 => ?_⟩
  obtain ⟨ds, e1, p⟩ := Post.of p
  have r := rp_valsOf v1 e1
  split at p
  · rename_i hl
    refine ⟨by rw [r.len]; exact Nat.le_trans hl (by decide), fun a ha => ?_⟩
    obtain ⟨s3, R3, o3⟩ := R1.newR (r := .val (.tuple ds)) (.frz ha (.tup (.of upd_same) (r.mono (same_new (R1.sub.free ha)))))
    exact p _ _ _ (s1.trans s3) R3 o3
  · exact p.elim
theorem sE_lst (h : PA X es (tAs X.K B W rs)) : PE X (.List es pos) (tE X.K B W fun ρ => do
    let (xs, ρ) ← rs ρ
    let ds ← Rs.of (valsOf xs)
    if ds.length ≤ sizeLine then .ok (.own (.list ds), ρ) else .st) := by
  refine pe_imp (pe_lst h) fun σ H Q ⟨ρ, F, R, p⟩ => ⟨ρ, F, R, p.step fun ⟨xs, ρ1⟩ p vs F1 H1 s1 R1 v1 => ?_⟩
  obtain ⟨ds, e1, p⟩ := Post.of p
  have r := rp_valsOf v1 e1
  split at p
  · rename_i hl
    refine ⟨by rw [r.len]; exact hl, fun a ha => ?_⟩
    obtain ⟨s3, R3, o3⟩ := R1.newR (r := .own (.list ds)) (.own ha (.lst upd_same r))
    exact p _ _ _ (s1.trans s3) R3 o3
  · exact p.elim
theorem vw_all {σ : L2.St} {F H : Hp} {ρ : Rho} (R : Rel X.K B ρ σ F H) : ∀ {xs : List Opd} {vs : List V} {ds : List D}, Paired (SV X.K σ F) xs vs → lookAll ρ xs = some ds → Paired (Vw X.K F H) vs ds
  | _, _, _, .nil, e => by cases e; exact .nil
  | x :: xs, _, ds, .cons h t, e => by
    simp only [lookAll] at e
    cases q : look ρ x with
    | none => rw [q] at e; cases e
    | some d =>
      rw [q] at e
      cases q2 : lookAll ρ xs with
      | none => rw [q2] at e; cases e
      | some es => rw [q2] at e; cases e; exact .cons (view R h q) (vw_all R t q2)
/-- a call of a built-in function or type -/
theorem sE_bi {g : List D → Option Opd} {ec : Expr} (hc : PE X ec (tCB (rNL X.K g) (tAs X.K B W rs))) : PE X ec (tE X.K B W fun ρ => do
    let (xs, ρ) ← rs ρ
    let ds ← Rs.of (lookAll ρ xs)
    let r ← Rs.of (g ds)
    .ok (r, ρ)) := by
  refine pe_imp hc fun σ H Q ⟨ρ, F, R, p⟩ => ⟨ρ, F, R, p.step fun ⟨xs, ρ1⟩ p vs F1 H1 s1 R1 v1 => ?_⟩
  obtain ⟨ds, e1, p⟩ := Post.of p
  obtain ⟨r, e2, p⟩ := Post.of p
  exact ⟨F1, ds, r, R1.sub, vw_all R1 v1 e1, e2, fun v F2 H2 n => let ⟨s3, R3, o3⟩ := R1.newR n; p v F2 H2 (s1.trans s3) R3 o3⟩
/-- a method of a list -/
theorem sE_me {g : D → List D → Option Opd} {ro : Rho → Rs (Opd × Rho)} {ec : Expr} (hc : PE X ec (tBM X.K "list" (rMN X.K g) (tS X.K B W ro) (tAs X.K B W rs))) (hl : ∀ d ds, (g d ds).isSome = true → ∃ xs, d = .list xs)
 : PE X ec (tE X.K B W fun ρ => do
    let (x, ρ) ← ro ρ
    let dx0 ← Rs.of (look ρ x)
    if isi .list dx0 then do
      let (xs, ρ) ← rs ρ
      let dx ← Rs.of (look ρ x)
      let ds ← Rs.of (lookAll ρ xs)
      let r ← Rs.of (g dx ds)
      .ok (r, ρ)
    else .st) := by
  refine pe_imp hc fun σ H Q ⟨ρ, F, R, p⟩ => ⟨ρ, F, R, p.step fun ⟨x, ρ1⟩ p v F1 H1 s1 R1 v1 => ?_⟩
  obtain ⟨d0, e0, p⟩ := Post.of p
  cases d0 with
  | list l0 =>
    obtain ⟨a, ys, rfl, ra, _⟩ := (view R1 v1 e0).list R1.sub
    refine ⟨.inl ⟨rfl, ys, ra⟩, ρ1, F1, R1, Post.step (show Post W (rs ρ1 >>= _) _ from p) fun ⟨xs, ρ2⟩ p vs F2 H2 s2 R2 v2 => ?_⟩
    obtain ⟨dx, e1, p⟩ := Post.of p
    obtain ⟨ds, e2, p⟩ := Post.of p
    obtain ⟨r, e3, p⟩ := Post.of p
    exact ⟨F2, dx, ds, r, R2.sub, view R2 (v1.mono s2) e1, vw_all R2 v2 e2, e3, fun u F3 H3 n => let ⟨s3, R3, o3⟩ := R2.newR n; p u F3 H3 (s1.trans (s2.trans s3)) R3 o3⟩
  | _ => exact (show False from p).elim
end
end EV
end

section
/-! EvF -/
set_option Elab.async false
set_option linter.all false
set_option maxRecDepth 100000
set_option maxHeartbeats 1000000
/-! EvF: a call of a def. -/
namespace EV
open PySem PySem.Spec L2

/-- the arguments as the callee finds them -/
def ArgsOk (K : W.Frag) (F H : Hp) (io : Option Nat) (vs : List V) (ds : List D) : Prop :=
  vs.length = ds.length ∧ ∀ (k : Nat) (v : V) (d : D), vs[k]? = some v → ds[k]? = some d → if io = some k then ∃ a, v = .ref a ∧ Ow K F H a d ∧ F a = none else Rp K F v d
/-- what the callee leaves -/
structure CEnd (K : W.Frag) (F H F' H' : Hp) (io : Option Nat) (vs : List V) (r : Ret) (v : V) : Prop where
  sF : Same F F'
  sub : Same F' H'
  keep : ∀ a o, H a = some o → (∀ k, io = some k → vs[k]? ≠ some (.ref a)) → H' a = some o
  free : ∀ a, H a ≠ none → F a = none → F' a = none
  res : if r.own then ∃ p, v = .ref p ∧ Ow K F' H' p r.d ∧ F' p = none ∧ H p = none else Rp K F' v r.d
  io : ∀ (k : Nat) (a : Addr), io = some k → vs[k]? = some (.ref a) → Ow K F' H' a r.io
def spF (K : W.Frag) (ca : Nat → Addr) (call : List D → Rs Ret) (io : Option Nat) : Sp := fun vs H Q E => ∃ F ds, Same F H ∧ ArgsOk K F H io vs ds ∧ match call ds with
  | .ok r => ∀ v F' H', CEnd K F H F' H' io vs r v → Q v H'
  | .ex c => io = none ∧ ∀ H', (∀ a o, H a = some o → H' a = some o) → E (.ref (ca c)) none H'
  | .st => False

/-! ### what is flat stays when lent lists are given back -/
mutual
theorem Rp.flat {K : W.Frag} {F G : Hp} (h : ∀ a, G a = F a ∨ (∃ xs, F a = some (.lst xs)) ∨ ∃ kvs, F a = some (.dK kvs)) : ∀ {v : V} {d : D}, Rp K F v d → EV.flat d = true → Rp K G v d
  | _, _, .non, _ => .non
  | _, _, .bl b, _ => .bl b
  | _, _, .int i, _ => .int i
  | _, _, .str x, _ => .str x
  | _, _, .lst _ _, e => by simp [EV.flat] at e
  | _, _, .tup s r, e => .tup (by
      rcases s with (s | ⟨o, s⟩) | s
      · rcases h _ with z | ⟨_, z⟩ | ⟨_, z⟩
        · exact .inl (.inl (z.trans s))
        · rw [s] at z; cases z
        · rw [s] at z; cases z
      · rcases h _ with z | ⟨_, z⟩ | ⟨_, z⟩
        · exact .inl (.inr ⟨o, z.trans s⟩)
        · rw [s] at z; cases z
        · rw [s] at z; cases z
      · exact .inr s) (RpAll.flat h r (by simpa [EV.flat] using e))
  | _, _, .dct _ _, e => by simp [EV.flat] at e
theorem RpAll.flat {K : W.Frag} {F G : Hp} (h : ∀ a, G a = F a ∨ (∃ xs, F a = some (.lst xs)) ∨ ∃ kvs, F a = some (.dK kvs)) : ∀ {vs : List V} {ds : List D}, RpAll K F vs ds → flatAll ds = true → RpAll K G vs ds
  | _, _, .nil, _ => .nil
  | _, _, .cons r s, e => by
    simp only [flatAll, Bool.and_eq_true] at e
    exact .cons (Rp.flat h r e.1) (RpAll.flat h s e.2)
end
theorem Ow.flat {K : W.Frag} {F G H : Hp} {a : Addr} {d : D} (h : ∀ a, G a = F a ∨ (∃ xs, F a = some (.lst xs)) ∨ ∃ kvs, F a = some (.dK kvs)) (o : Ow K F H a d) (e : flatL d = true) : Ow K G H a d := by
  cases o with
  | lst q r => exact .lst q (r.flat h (by simpa [flatL] using e))
  | dct q r => simp [flatL] at e

theorem lent_sub {ρ : Rho} {io : Option Nat} : ∀ {xs : List Opd} {k j : Nat}, j ∈ lent ρ io xs k → ∃ d, ρ[j]? = some (.o d)
  | [], _, _, h => by simp [lent] at h
  | .val d :: xs, k, j, h => lent_sub (xs := xs) (k := k + 1) (by simpa [lent] using h)
  | .own d :: xs, k, j, h => lent_sub (xs := xs) (k := k + 1) (by simpa [lent] using h)
  | .slot i :: xs, k, j, h => by
    simp only [lent] at h
    split at h
    · exact lent_sub (xs := xs) (k := k + 1) h
    · split at h
      · rename_i d hd
        rcases List.mem_cons.mp h with rfl | h
        · exact ⟨d, hd⟩
        · exact lent_sub (xs := xs) (k := k + 1) h
      · exact lent_sub (xs := xs) (k := k + 1) h
/-- an owned slot that is lent as the k-th argument -/
theorem lent_mem {ρ : Rho} {io : Option Nat} : ∀ {xs : List Opd} {n k j : Nat} {d : D}, xs[k]? = some (.slot j) → io ≠ some (n + k) → ρ[j]? = some (.o d) → j ∈ lent ρ io xs n
  | [], _, _, _, _, h, _, _ => by simp at h
  | x :: xs, n, 0, j, d, h, hn, hd => by
    simp only [List.getElem?_cons_zero, Option.some.injEq] at h
    subst h
    simp only [lent]
    rw [if_neg (by simpa using hn), hd]
    exact List.mem_cons_self
  | x :: xs, n, k + 1, j, d, h, hn, hd => by
    have ih : j ∈ lent ρ io xs (n + 1) := lent_mem (k := k) (by simpa using h) (by rw [show n + 1 + k = n + (k + 1) by omega]; exact hn) hd
    cases x with
    | val _ => simpa [lent] using ih
    | own _ => simpa [lent] using ih
    | slot i =>
      simp only [lent]
      split
      · exact ih
      · split
        · exact List.mem_cons_of_mem _ ih
        · exact ih
theorem lookAll_get {ρ : Rho} : ∀ {xs : List Opd} {ds : List D} {k : Nat} {d : D}, lookAll ρ xs = some ds → ds[k]? = some d → ∃ x, xs[k]? = some x ∧ look ρ x = some d
  | [], ds, k, d, e, h => by cases e; simp at h
  | x :: xs, ds, k, d, e, h => by
    simp only [lookAll] at e
    cases q : look ρ x with
    | none => rw [q] at e; cases e
    | some c =>
      rw [q] at e
      cases q2 : lookAll ρ xs with
      | none => rw [q2] at e; cases e
      | some es =>
        rw [q2] at e; cases e
        cases k with
        | zero => simp at h; subst h; exact ⟨x, rfl, q⟩
        | succ k => simpa using lookAll_get (k := k) q2 (by simpa using h)
theorem lookAll_len {ρ : Rho} : ∀ {xs : List Opd} {ds : List D}, lookAll ρ xs = some ds → xs.length = ds.length
  | [], ds, e => by cases e; rfl
  | x :: xs, ds, e => by
    simp only [lookAll] at e
    cases q : look ρ x with
    | none => rw [q] at e; cases e
    | some c =>
      rw [q] at e
      cases q2 : lookAll ρ xs with
      | none => rw [q2] at e; cases e
      | some es => rw [q2] at e; cases e; simp [lookAll_len q2]
theorem svs_get {K : W.Frag} {σ : L2.St} {F : Hp} : ∀ {xs : List Opd} {vs : List V} {k : Nat} {v : V}, Paired (SV K σ F) xs vs → vs[k]? = some v → ∃ x, xs[k]? = some x ∧ SV K σ F x v
  | _, _, _, _, .nil, h => by simp at h
  | _, _, 0, _, .cons h t, e => by simp at e; subst e; exact ⟨_, rfl, h⟩
  | _, _, k + 1, _, .cons h t, e => by simpa using svs_get (k := k) t (by simpa using e)
theorem svs_get' {K : W.Frag} {σ : L2.St} {F : Hp} : ∀ {xs : List Opd} {vs : List V} {k : Nat} {x : Opd}, Paired (SV K σ F) xs vs → xs[k]? = some x → ∃ v, vs[k]? = some v ∧ SV K σ F x v
  | _, _, _, _, .nil, h => by simp at h
  | _, _, 0, _, .cons h t, e => by simp at e; subst e; exact ⟨_, rfl, h⟩
  | _, _, k + 1, _, .cons h t, e => by simpa using svs_get' (k := k) t (by simpa using e)

section
open Classical
variable {K : PySem.W.Frag} {B : Bs} {ρ : Rho} {σ : L2.St} {F H : Hp}
/-- the address of a lent slot -/
def LentA (σ : L2.St) (ls : List Nat) (a : Addr) : Prop := ∃ j ∈ ls, σ[j]? = some (some (.ref a))
noncomputable def Fc (σ : L2.St) (ls : List Nat) (F H : Hp) : Hp := fun a => if LentA σ ls a then H a else F a
noncomputable def Fb (σ : L2.St) (ls : List Nat) (F : Hp) : Hp := fun a => if LentA σ ls a then none else F a
theorem lentA_free (R : Rel K B ρ σ F H) {ls : List Nat} (hl : ∀ j ∈ ls, ∃ d, ρ[j]? = some (.o d)) {a : Addr} (h : LentA σ ls a) : F a = none ∧ ∃ d, Ow K F H a d := by
  obtain ⟨j, hj, e⟩ := h
  obtain ⟨d, hd⟩ := hl j hj
  obtain ⟨b, e1, ow, hf, _⟩ := R.o j d hd
  rw [e] at e1; cases e1
  exact ⟨hf, d, ow⟩
theorem same_Fc (R : Rel K B ρ σ F H) {ls : List Nat} (hl : ∀ j ∈ ls, ∃ d, ρ[j]? = some (.o d)) : Same F (Fc σ ls F H) ∧ Same (Fc σ ls F H) H := by
  refine ⟨fun a o e => ?_, fun a o e => ?_⟩
  · unfold Fc
    rw [if_neg fun z => ?_]
    · exact e
    · rw [(lentA_free R hl z).1] at e; cases e
  · unfold Fc at e
    split at e
    · exact e
    · exact R.sub a o e
/-- behind a call: the state again -/
theorem Rel.called {io : Option Nat} {xs : List Opd} {vs : List V} {ds : List D} {r : Ret} {res : Opd} {ρ2 : Rho} {v : V} {F' H' : Hp} (R : Rel K B ρ σ F H) (hv : Paired (SV K σ F) xs vs) (hd : lookAll ρ xs = some ds) (ha : afterCall ρ io xs r = some (res, ρ2))
    (c : CEnd K (Fc σ (lent ρ io xs 0) F H) H F' H' io vs r v) : ∃ F2, Same F F2 ∧ Rel K B ρ2 σ F2 H' ∧ OV K B ρ2 σ F2 H' res v := by
  have hl : ∀ j ∈ lent ρ io xs 0, ∃ d, ρ[j]? = some (.o d) := fun j h => lent_sub h
  obtain ⟨s1, s2⟩ := same_Fc R hl
  obtain ⟨ls, els⟩ : ∃ ls, ls = lent ρ io xs 0 := ⟨_, rfl⟩
  rw [← els] at c hl s1 s2
  have aft : (ls.isEmpty || flatR r) = true ∧ res = (if r.own then .own r.d else .val r.d) ∧ ((io = none ∧ ρ2 = ρ) ∨ ∃ k j e, io = some k ∧ xs[k]? = some (.slot j) ∧ ρ[j]? = some (.o e) ∧ j ∉ ls ∧ ρ2 = ρ.set j (.o r.io)) := by
    unfold afterCall at ha
    rw [← els] at ha
    simp only at ha
    split at ha
    · rename_i hg
      refine ⟨hg, ?_⟩
      split at ha
      · cases ha; exact ⟨rfl, .inl ⟨rfl, rfl⟩⟩
      · rename_i p
        split at ha
        · rename_i j hj
          split at ha
          · rename_i e he
            split at ha
            · cases ha
            · rename_i hn
              cases ha
              exact ⟨rfl, .inr ⟨p, j, e, rfl, hj, he, by simpa using hn, rfl⟩⟩
          · cases ha
        · cases ha
    · cases ha
  obtain ⟨hg, rfl, hio⟩ := aft
  -- the lent lists are given back
  have back : ∀ a, Fb σ ls F' a = F' a ∨ (∃ xs, F' a = some (.lst xs)) ∨ ∃ kvs, F' a = some (.dK kvs) := fun a => by
    by_cases h : LentA σ ls a
    · obtain ⟨_, d, ow⟩ := lentA_free R hl h
      have q : ∀ o, H a = some o → F' a = some o := fun o e => c.sF a o (by unfold Fc; rw [if_pos h]; exact e)
      cases ow with
      | lst e _ => exact .inr (.inl ⟨_, q _ e⟩)
      | dct e _ => exact .inr (.inr ⟨_, q _ e⟩)
    · exact .inl (if_neg h)
  have whole : ls = [] → Fb σ ls F' = F' := fun e => by
    funext a
    unfold Fb
    rw [if_neg]
    rintro ⟨j, hj, _⟩
    rw [e] at hj; cases hj
  have ls0 : ls = [] ∨ flatR r = true := by
    simp only [Bool.or_eq_true, List.isEmpty_iff] at hg
    exact hg
  have sB : Same F (Fb σ ls F') := fun a o e => by
    have hn : ¬ LentA σ ls a := fun z => by rw [(lentA_free R hl z).1] at e; cases e
    unfold Fb
    rw [if_neg hn]
    exact c.sF a o (s1 a o e)
  have sub2 : Same (Fb σ ls F') F' := fun a o e => by
    unfold Fb at e
    split at e
    · cases e
    · exact e
  -- an address that the heap held and F did not: not in F2
  have nofr : ∀ a, H a ≠ none → F a = none → Fb σ ls F' a = none := fun a h1 h2 => by
    by_cases h : LentA σ ls a
    · exact if_pos h
    · unfold Fb
      rw [if_neg h]
      refine c.free a h1 ?_
      unfold Fc
      rw [if_neg h]; exact h2
  -- the io slot's address
  have ioA : ∀ k, io = some k → ∃ j a e, xs[k]? = some (.slot j) ∧ vs[k]? = some (.ref a) ∧ σ[j]? = some (some (.ref a)) ∧ ρ[j]? = some (.o e) ∧ j ∉ ls ∧ ρ2 = ρ.set j (.o r.io) := fun k hk => by
    rcases hio with ⟨h, _⟩ | ⟨k', j, e, h1, h2, h3, h4, h5⟩
    · rw [h] at hk; cases hk
    · rw [h1] at hk; cases hk
      obtain ⟨a, e1, _⟩ := R.o j e h3
      obtain ⟨w, hw, sv⟩ := svs_get' hv h2
      have : σ[j]? = some (some w) := sv
      rw [e1] at this; cases this
      exact ⟨j, a, e, h2, hw, e1, h3, h4, h5⟩
  -- kept slots
  have kept : ∀ (i : Nat) (d : D) (a : Addr), ρ[i]? = some (.o d) → σ[i]? = some (some (.ref a)) → (∀ k j, io = some k → xs[k]? = some (.slot j) → i ≠ j) → H' a = H a := fun i d a h1 h2 h3 => by
    obtain ⟨b, e1, ow, _⟩ := R.o i d h1
    rw [h2] at e1; cases e1
    obtain ⟨u, hu⟩ := ow.at
    rw [hu]
    refine c.keep a u hu fun k hk hv' => ?_
    obtain ⟨j, a', e, g1, g2, g3, g4, _⟩ := ioA k hk
    rw [g2] at hv'; cases hv'
    exact R.dj i j d e a (h3 k j hk g1) h1 g4 h2 g3
  have flatIo : ls ≠ [] → flatL r.io = true ∧ (if r.own then flatL r.d = true else EV.flat r.d = true) := fun h => by
    have := ls0.resolve_left h
    unfold flatR at this
    simp only [Bool.and_eq_true] at this
    refine ⟨this.2, ?_⟩
    split
    · rename_i ho; rw [if_pos ho] at this; exact this.1
    · rename_i ho; rw [if_neg ho] at this; exact this.1
  have ρ2get : ∀ i, ρ2[i]? = ρ[i]? ∨ ∃ k j, io = some k ∧ xs[k]? = some (.slot j) ∧ i = j ∧ ρ2[i]? = some (.o r.io) := fun i => by
    rcases hio with ⟨_, h⟩ | ⟨k, j, e, h1, h2, h3, h4, h5⟩
    · rw [h]; exact .inl rfl
    · by_cases hij : j = i
      · subst hij
        exact .inr ⟨k, j, h1, h2, rfl, by rw [h5]; exact List.getElem?_set_self (List.getElem?_eq_some_iff.mp h3).1⟩
      · rw [h5, List.getElem?_set_ne hij]; exact .inl rfl
  have ρown : ∀ (i : Nat) (d : D), ρ2[i]? = some (.o d) → ∃ e, ρ[i]? = some (.o e) := fun i d h => by
    rcases ρ2get i with g | ⟨k, j, g1, g2, g3, _⟩
    · rw [g] at h; exact ⟨d, h⟩
    · obtain ⟨j', a, e, q1, _, _, q4, _⟩ := ioA k g1
      rw [g2] at q1; cases q1
      exact ⟨e, g3 ▸ q4⟩
  have RR : Rel K B ρ2 σ (Fb σ ls F') H' := by
    refine ⟨?_, sub2.trans c.sub, fun i d h => ?_, fun i d h => ?_, fun i j d e a hij h1 h2 => ?_, R.b1.trans sB, fun a o h1 h2 => ?_, fun a h1 h2 => ?_, fun i a h => ?_⟩
    · rcases hio with ⟨_, h⟩ | ⟨_, _, _, _, _, _, _, h⟩
      · rw [h]; exact R.len
      · rw [h, List.length_set]; exact R.len
    · rcases ρ2get i with g | ⟨_, _, _, _, _, g⟩
      · rw [g] at h
        obtain ⟨w, e1, r1⟩ := R.f i d h
        exact ⟨w, e1, r1.mono sB⟩
      · rw [g] at h; cases h
    · rcases ρ2get i with g | ⟨k, j, g1, g2, g3, g4⟩
      · rw [g] at h
        obtain ⟨a, e1, ow, hf, hb⟩ := R.o i d h
        by_cases hk : ∃ k, io = some k ∧ xs[k]? = some (.slot i)
        · obtain ⟨k, hk1, hk2⟩ := hk
          obtain ⟨j, a', e, q1, q2, q3, q4, q5, q6⟩ := ioA k hk1
          rw [hk2] at q1; cases q1
          rw [e1] at q3; cases q3
          have hi : i < ρ.length := (List.getElem?_eq_some_iff.mp h).1
          rw [q6, List.getElem?_set_self hi, h] at g
          simp only [Option.some.injEq, Sl.o.injEq] at g
          have o' := c.io k a hk1 q2
          refine ⟨a, e1, ?_, nofr a (fun z => by obtain ⟨u, hu⟩ := ow.at; rw [hu] at z; cases z) hf, hb⟩
          rw [← g]
          by_cases hl0 : ls = []
          · rw [whole hl0]; exact o'
          · exact o'.flat back (flatIo hl0).1
        · have kk := kept i d a h e1 fun k j z1 z2 z3 => hk ⟨k, z1, z3 ▸ z2⟩
          exact ⟨a, e1, ow.mono sB kk, nofr a (fun z => by obtain ⟨u, hu⟩ := ow.at; rw [hu] at z; cases z) hf, hb⟩
      · rw [g4] at h; cases h
        obtain ⟨j', a, e, q1, q2, q3, q4, q5, q6⟩ := ioA k g1
        rw [g2] at q1; cases q1
        subst g3
        obtain ⟨a', e1, ow, hf, hb⟩ := R.o i e q4
        rw [q3] at e1; cases e1
        have o' := c.io k a g1 q2
        refine ⟨a, q3, ?_, nofr a (fun z => by obtain ⟨u, hu⟩ := ow.at; rw [hu] at z; cases z) hf, hb⟩
        by_cases hl0 : ls = []
        · rw [whole hl0]; exact o'
        · exact o'.flat back (flatIo hl0).1
    · obtain ⟨d', h1'⟩ := ρown i d h1
      obtain ⟨e', h2'⟩ := ρown j e h2
      exact R.dj i j d' e' a hij h1' h2'
    · have hh := R.b2 a o h1 h2
      refine c.keep a o hh fun k hk hv' => ?_
      obtain ⟨j, a', e, q1, q2, q3, q4, _⟩ := ioA k hk
      rw [q2] at hv'; cases hv'
      obtain ⟨b, e1, _, _, hb⟩ := R.o j e q4
      rw [q3] at e1; cases e1
      rcases hb with hb | hb
      · rw [hb] at h1; cases h1
      · exact h2 j hb
    · refine nofr a ?_ (R.b3 a h1 h2)
      by_cases hk : ∃ i, B.io = some (i, a)
      · obtain ⟨i, hk⟩ := hk
        obtain ⟨e1, ⟨d, hd⟩, _⟩ := R.bio i a hk
        obtain ⟨b, e2, ow, _⟩ := R.o i d hd
        rw [e1] at e2; cases e2
        obtain ⟨u, hu⟩ := ow.at
        rw [hu]; exact fun z => nomatch z
      · cases q : B.H0 a with
        | none => exact absurd q h1
        | some o =>
          rw [R.b2 a o q fun i z => hk ⟨i, z⟩]
          exact fun z => nomatch z
    · obtain ⟨x1, ⟨d, x2⟩, x3⟩ := R.bio i a h
      refine ⟨x1, ?_, x3⟩
      rcases ρ2get i with g | ⟨_, _, _, _, _, g⟩
      · exact ⟨d, g.trans x2⟩
      · exact ⟨_, g⟩
  refine ⟨_, sB, RR, ?_⟩
  have hres := c.res
  by_cases ho : r.own = true
  · rw [if_pos ho] at hres ⊢
    obtain ⟨p, rfl, ow, hf, hp⟩ := hres
    obtain ⟨n1, n2, n3⟩ := R.newB hp
    refine ⟨p, rfl, ?_, ?_, n1, fun i d h => ?_⟩
    · by_cases hl0 : ls = []
      · rw [whole hl0]; exact ow
      · have := (flatIo hl0).2
        rw [if_pos ho] at this
        exact ow.flat back this
    · cases q : Fb σ ls F' p with
      | none => rfl
      | some o => rw [sub2 p o q] at hf; cases hf
    · obtain ⟨e, he⟩ := ρown i d h
      exact n3 i e he
  · rw [if_neg ho] at hres ⊢
    show Rp K _ v r.d
    by_cases hl0 : ls = []
    · rw [whole hl0]; exact hres
    · have := (flatIo hl0).2
      rw [if_neg ho] at this
      exact hres.flat back this
/-- the arguments are as the callee wants them -/
theorem argsOk_of {io : Option Nat} {xs : List Opd} {vs : List V} {ds : List D} {r : Ret} {p : Opd × Rho} (R : Rel K B ρ σ F H) (hv : Paired (SV K σ F) xs vs) (hd : lookAll ρ xs = some ds)
    (ha : ∀ k, io = some k → ∃ j e, xs[k]? = some (.slot j) ∧ ρ[j]? = some (.o e) ∧ j ∉ lent ρ io xs 0) : ArgsOk K (Fc σ (lent ρ io xs 0) F H) H io vs ds := by
  have hl : ∀ j ∈ lent ρ io xs 0, ∃ d, ρ[j]? = some (.o d) := fun j h => lent_sub h
  obtain ⟨s1, s2⟩ := same_Fc R hl
  refine ⟨?_, fun k v d e1 e2 => ?_⟩
  · rw [← lookAll_len hd]; exact (Paired.length hv).symm
  · obtain ⟨x, hx, hlk⟩ := lookAll_get hd e2
    obtain ⟨x', hx', sv⟩ := svs_get hv e1
    rw [hx] at hx'; cases hx'
    split
    · rename_i hk
      obtain ⟨j, e, h1, h2, h3⟩ := ha k hk
      rw [hx] at h1; cases h1
      simp only [look, h2, Option.some.injEq] at hlk
      subst hlk
      obtain ⟨a, e3, ow, hf, _⟩ := R.o j e h2
      have sv : σ[j]? = some (some v) := sv
      rw [e3] at sv; cases sv
      have hn : ¬ LentA σ (lent ρ io xs 0) a := fun ⟨i, hi, z⟩ => by
        obtain ⟨c, hc⟩ := hl i hi
        exact R.dj i j c e a (fun y => h3 (y ▸ hi)) hc h2 z e3
      exact ⟨a, rfl, ow.mono s1 rfl, by unfold Fc; rw [if_neg hn]; exact hf⟩
    · rename_i hk
      cases x with
      | val c =>
        cases hlk
        exact Rp.mono s1 sv
      | own c => exact sv.elim
      | slot j =>
        have sv : σ[j]? = some (some v) := sv
        simp only [look] at hlk
        split at hlk
        · rename_i c hc
          cases hlk
          obtain ⟨u, e3, rr⟩ := R.f j _ hc
          rw [sv] at e3; cases e3
          exact rr.mono s1
        · rename_i c hc
          cases hlk
          obtain ⟨a, e3, ow, hf, _⟩ := R.o j _ hc
          rw [sv] at e3; cases e3
          have hm : LentA σ (lent ρ io xs 0) a := ⟨j, lent_mem hx (by simpa using hk) hc, sv⟩
          exact ow.rp s1 (by unfold Fc; rw [if_pos hm])
        · cases hlk
end
theorem after_io {ρ ρ2 : Rho} {io : Option Nat} {xs : List Opd} {r : Ret} {res : Opd} (ha : afterCall ρ io xs r = some (res, ρ2)) : ∀ k, io = some k → ∃ j e, xs[k]? = some (.slot j) ∧ ρ[j]? = some (.o e) ∧ j ∉ lent ρ io xs 0 := fun k hk => by
  unfold afterCall at ha
  simp only at ha
  split at ha
  · subst hk
    simp only at ha
    split at ha
    · rename_i j hj
      split at ha
      · rename_i e he
        split at ha
        · cases ha
        · rename_i hn
          exact ⟨j, e, hj, he, by simpa using hn⟩
      · cases ha
    · cases ha
  · cases ha
section
variable {B : Bs} {X : Cx} {rs : Rho → Rs (List Opd × Rho)} {ec : Expr} {E : XK} {ca : Nat → Addr}
/-- a call of a def -/
theorem sE_call {call : List D → Rs Ret} {io : Option Nat} (hex : ∀ ds c, call ds = .ex c → io = none) (hc : PE X ec (fun σ H Q => tAs X.K B (fun c => ∀ H', Fra B H' → E (.ref (ca c)) none H') rs σ H fun vs H1 => spF X.K ca call io vs H1 Q E)) :
    PE X ec (tE X.K B (fun c => ∀ H', Fra B H' → E (.ref (ca c)) none H') fun ρ => do
    let (xs, ρ) ← rs ρ
    let ds ← Rs.of (lookAll ρ xs)
    let r ← call ds
    Rs.of (afterCall ρ io xs r)) := by
  refine pe_imp hc fun σ H Q ⟨ρ, F, R, p⟩ => ⟨ρ, F, R, p.step fun ⟨xs, ρ1⟩ p vs F1 H1 s1 R1 v1 => ?_⟩
  obtain ⟨ds, e1, p⟩ := Post.of p
  cases q : call ds with
  | st => rw [q] at p; exact p.elim
  | ex c =>
    rw [q] at p
    have hio : io = none := hex ds c q
    subst hio
    refine ⟨Fc σ (lent ρ1 none xs 0) F1 H1, ds, (same_Fc R1 fun j h => lent_sub h).2, argsOk_of (r := ⟨false, .none, .none⟩) (p := (.val .none, ρ1)) R1 v1 e1 (fun k hk => nomatch hk), ?_⟩
    rw [q]
    exact ⟨rfl, fun H' hk => p H' fun a o ha hi => hk a o (R1.b2 a o ha hi)⟩
  | ok r =>
    rw [q] at p
    cases q2 : afterCall ρ1 io xs r with
    | none => rw [bind_ok, q2] at p; exact p.elim
    | some z =>
      obtain ⟨res, ρ2⟩ := z
      rw [bind_ok, q2] at p
      refine ⟨Fc σ (lent ρ1 io xs 0) F1 H1, ds, (same_Fc R1 fun j h => lent_sub h).2, argsOk_of (r := r) (p := (res, ρ2)) R1 v1 e1 (after_io q2), ?_⟩
      rw [q]
      intro v F' H' c
      obtain ⟨F2, s2, R2, o2⟩ := R1.called v1 e1 q2 c
      exact p v F2 H' (s1.trans s2) R2 o2
end
end EV
end

section
/-! EvG -/
set_option Elab.async false
set_option linter.all false
set_option maxRecDepth 100000
set_option maxHeartbeats 1000000
/-! EvG: what is walked; list comprehensions. -/
namespace EV
open PySem PySem.Spec L2

theorem pi_imp {X : Cx} {tg e : Expr} {t t' : TI} (h : PI X tg e t) (i : ∀ σ H Q, t' σ H Q → t σ H Q) : PI X tg e t' := ⟨fun pins s σ H Q I q => h.run pins s σ H Q I (i σ H Q q)⟩
/-- the iterator hands out just these data -/
structure ItOk (K : PySem.W.Frag) (J : L2.It) (F : Hp) (ds : List D) : Prop where
  go : ∀ {B : Bs} {ρ : Rho} {σ : L2.St} {F' H : Hp} (i : Nat), Same F F' → Rel K B ρ σ F' H → i < ds.length → J.go i H
  stop : ∀ {B : Bs} {ρ : Rho} {σ : L2.St} {F' H : Hp} (i : Nat), Same F F' → Rel K B ρ σ F' H → ds.length ≤ i → J.stop i H
  yld : ∀ {B : Bs} {ρ : Rho} {σ : L2.St} {F' H H' : Hp} (i : Nat) (x : V) (d : D), Same F F' → Rel K B ρ σ F' H → ds[i]? = some d → J.yld i H x H' → ∃ F2, Same F' F2 ∧ Rel K B ρ σ F2 H' ∧ Rp K F2 x d
def tI (K : PySem.W.Frag) (B : Bs) (W : Nat → Prop) (r : Rho → Rs (List D × Rho)) : TI := fun σ H R => ∃ ρ F, Rel K B ρ σ F H ∧ Post W (r ρ) fun p => ∀ J F' H', Same F F' → Rel K B p.2 σ F' H' → ItOk K J F' p.1 → R J H'

section
variable {K : PySem.W.Frag}
theorem rd_uniq {H : Hp} {a : Addr} {u v : HO} (h : Rd H a u) (h' : Rd H a v) (hu : ∀ o w, u ≠ .frz o w) (hv : ∀ o w, v ≠ .frz o w) : u = v := by
  rcases h with h | ⟨o, h⟩ <;> rcases h' with h' | ⟨o', h'⟩
  · rw [h] at h'; exact Option.some.inj h'
  · rw [h] at h'; exact absurd (Option.some.inj h') (hu _ _)
  · rw [h] at h'; exact absurd (Option.some.inj h').symm (hv _ _)
  · rw [h] at h'; cases h'; rfl
theorem itOk_list {a : Addr} {F : Hp} {xs : List V} {ds : List D} (ra : SqL K F a xs) (pa : RpAll K F xs ds) : ItOk K (Itl K a) F ds where
  go := fun i s R hi => ⟨xs, xs[i]'(by rw [pa.len]; exact hi), (s.trans R.sub).seq ra, List.getElem?_eq_getElem _⟩
  stop := fun i s R hi => ⟨xs, (s.trans R.sub).seq ra, by rw [pa.len]; exact hi⟩
  yld := fun {B ρ σ F' H H'} i x d s R hd ⟨e, hy⟩ => by
    subst e
    obtain ⟨v, hv, rv⟩ := pa.get hd
    have := hy xs (Same.seq (s.trans R.sub) ra)
    rw [hv] at this; cases this
    exact ⟨F', Same.refl _, R, rv.mono s⟩
theorem itOk_tup {a : Addr} {F : Hp} {xs : List V} {ds : List D} (ra : SqT K F a xs) (pa : RpAll K F xs ds) : ItOk K (Itt K a) F ds where
  go := fun i s R hi => ⟨xs, xs[i]'(by rw [pa.len]; exact hi), same_sqT (s.trans R.sub) ra, List.getElem?_eq_getElem _⟩
  stop := fun i s R hi => ⟨xs, same_sqT (s.trans R.sub) ra, by rw [pa.len]; exact hi⟩
  yld := fun {B ρ σ F' H H'} i x d s R hd ⟨e, hy⟩ => by
    subst e
    obtain ⟨v, hv, rv⟩ := pa.get hd
    have := hy xs (same_sqT (s.trans R.sub) ra)
    rw [hv] at this; cases this
    exact ⟨F', Same.refl _, R, rv.mono s⟩
theorem rngL_get {lo : Int} {n i : Nat} {d : D} (h : (rngL lo n)[i]? = some d) : d = .int (lo + (i : Int)) := by
  unfold rngL at h
  rw [List.getElem?_map] at h
  cases q : (List.range n)[i]? with
  | none => rw [q] at h; cases h
  | some j =>
    rw [q] at h; cases h
    obtain ⟨_, e⟩ := List.getElem?_eq_some_iff.mp q
    simp at e
    subst e; rfl
theorem rngL_len (lo : Int) (n : Nat) : (rngL lo n).length = n := by unfold rngL; simp
theorem itOk_rng {F : Hp} (lo : Int) (n : Nat) : ItOk K (Itr lo n) F (rngL lo n) where
  go := fun i s R hi => by rw [rngL_len] at hi; exact hi
  stop := fun i s R hi => by rw [rngL_len] at hi; exact hi
  yld := fun {B ρ σ F' H H'} i x d s R hd ⟨e, hy⟩ => by
    subst e hy
    rw [rngL_get hd]
    exact ⟨F', Same.refl _, R, .int _⟩
theorem enumL_get {ds : List D} {i : Nat} {d : D} (h : (enumL ds)[i]? = some d) : ∃ c, ds[i]? = some c ∧ d = .tuple [.int (i : Nat), c] := by
  unfold enumL at h
  rw [List.getElem?_zipWith] at h
  cases q : (List.range ds.length)[i]? with
  | none => rw [q] at h; simp at h
  | some j =>
    obtain ⟨_, e⟩ := List.getElem?_eq_some_iff.mp q
    simp at e
    subst e
    cases q2 : ds[i]? with
    | none => rw [q, q2] at h; simp at h
    | some c => rw [q, q2] at h; simp at h; exact ⟨c, rfl, h.symm⟩
theorem enumL_len (ds : List D) : (enumL ds).length = ds.length := by unfold enumL; simp
theorem tup_new {B : Bs} {ρ : Rho} {σ : L2.St} {F H : Hp} {T : Addr} {vs : List V} {ds : List D} (R : Rel K B ρ σ F H) (nT : H T = none) (r : RpAll K F vs ds) : ∃ F2, Same F F2 ∧ Rel K B ρ σ F2 (upd H T (.tup vs)) ∧ Rp K F2 (.ref T) (.tuple ds) :=
  ⟨_, same_new (R.newB nT).2.1, R.laidF nT, .tup (.of upd_same) (r.mono (same_new (R.newB nT).2.1))⟩
theorem itOk_enu {a : Addr} {F : Hp} {xs : List V} {ds : List D} (ra : SqL K F a xs) (pa : RpAll K F xs ds) : ItOk K (Ite K a) F (enumL ds) where
  go := fun i s R hi => ⟨xs, xs[i]'(by rw [pa.len]; rw [enumL_len] at hi; exact hi), (s.trans R.sub).seq ra, List.getElem?_eq_getElem _⟩
  stop := fun i s R hi => ⟨xs, (s.trans R.sub).seq ra, by rw [pa.len]; rw [enumL_len] at hi; exact hi⟩
  yld := fun {B ρ σ F' H H'} i x d s R hd ⟨T, y, ex, nT, eH, hy⟩ => by
    subst ex eH
    obtain ⟨c, hc, rfl⟩ := enumL_get hd
    obtain ⟨v, hv, rv⟩ := pa.get hc
    have := hy xs (Same.seq (s.trans R.sub) ra)
    rw [hv] at this; cases this
    exact tup_new R nT (.cons (.int _) (.cons (rv.mono s) .nil))
theorem zip_get {ds es : List D} {i : Nat} {d : D} (h : (ds.zipWith (fun d e => PyData.tuple [d, e]) es)[i]? = some d) : ∃ a b, ds[i]? = some a ∧ es[i]? = some b ∧ d = .tuple [a, b] := by
  rw [List.getElem?_zipWith] at h
  cases q : ds[i]? with
  | none => rw [q] at h; simp at h
  | some a =>
    cases q2 : es[i]? with
    | none => rw [q, q2] at h; simp at h
    | some b => rw [q, q2] at h; simp at h; exact ⟨a, b, rfl, rfl, h.symm⟩
theorem itOk_zip {a b : Addr} {F : Hp} {xs ys : List V} {ds es : List D} (ra : SqL K F a xs) (pa : RpAll K F xs ds) (rb : SqL K F b ys) (pb : RpAll K F ys es) : ItOk K (Itz K a b) F (ds.zipWith (fun d e => PyData.tuple [d, e]) es) where
  go := fun i s R hi => by
    rw [List.length_zipWith] at hi
    exact ⟨xs, ys, xs[i]'(by rw [pa.len]; omega), ys[i]'(by rw [pb.len]; omega), (s.trans R.sub).seq ra, (s.trans R.sub).seq rb, List.getElem?_eq_getElem _, List.getElem?_eq_getElem _⟩
  stop := fun i s R hi => by
    rw [List.length_zipWith] at hi
    exact ⟨xs, ys, (s.trans R.sub).seq ra, (s.trans R.sub).seq rb, by rw [pa.len, pb.len]; omega⟩
  yld := fun {B ρ σ F' H H'} i x d s R hd ⟨T, y, z, ex, nT, eH, hy, hz⟩ => by
    subst ex eH
    obtain ⟨c, e, hc, he, rfl⟩ := zip_get hd
    obtain ⟨v, hv, rv⟩ := pa.get hc
    obtain ⟨w, hw, rw_⟩ := pb.get he
    have := hy xs (Same.seq (s.trans R.sub) ra)
    rw [hv] at this; cases this
    have := hz ys ((s.trans R.sub).seq rb)
    rw [hw] at this; cases this
    exact tup_new R nT (.cons (rv.mono s) (.cons (rw_.mono s) .nil))
end

section
variable {B : Bs} {W : Nat → Prop} {X : Cx} {tg e a b : Expr} {pos p0 : Pos} {ra rb : Rho → Rs (Opd × Rho)} {io : Option Nat}
/-- a list or a tuple, walked -/
theorem pi_any {te : TE} (he : PE X e te) : PI X tg e (fun σ H R => te σ H fun x H1 => ∃ a, x = .ref a ∧ ((∃ xs, SqL X.K H1 a xs ∧ R (Itl X.K a) H1) ∨ ∃ xs, SqT X.K H1 a xs ∧ R (Itt X.K a) H1)) := by
  have two : ∀ (pins : List (Addr × Obj)) (σ : L2.St) (H1 : Hp) (s1 : Shared) (a : Addr) (R : L2.It → Hp → Prop), Inv X pins σ H1 s1 → ((∃ xs, SqL X.K H1 a xs ∧ R (Itl X.K a) H1) ∨ ∃ xs, SqT X.K H1 a xs ∧ R (Itt X.K a) H1) →
      wpAny (model X.prog X.w) X.A (pyIter (.ref a)) (PIE X pins σ tg R) X.xe s1 := fun pins σ H1 s1 a R I1 h => by
    have new : ∀ b, b ∈ [s1.heap.objs.size] → FpOk X pins H1 b := fun b hb => by
      rw [List.mem_singleton] at hb
      subst hb
      exact I1.fpOk (Nat.le_refl _) I1.fresh
    rcases h with ⟨xs, r, q⟩ | ⟨xs, r, q⟩
    · obtain ⟨its, rv, pl, hz⟩ := I1.list r
      exact wpAny_pyIter_list pl.isList ⟨_, [s1.heap.objs.size], _, _, H1, rfl, I1.kept (t' := s1.toks) fun _ _ h => Heap.get?_push_of_some _ h, turn_list a _, ⟨_, Heap.get?_push_size _ rfl, rfl, rfl⟩, new, q⟩
    · obtain ⟨its, rv, pl, hz⟩ := I1.tuple r
      exact wpAny_pyIter_tuple (show s1.heap.IsTuple a its.toArray from pl) ⟨_, [s1.heap.objs.size], _, _, H1, rfl, I1.kept (t' := s1.toks) fun _ _ h => Heap.get?_push_of_some _ h, turn_tuple a _, ⟨_, Heap.get?_push_size _ rfl, rfl, rfl⟩, new, q⟩
  refine ⟨fun pins s σ H R I h => thn (he.run pins s σ H _ I h) fun v s1 ⟨x, H1, I1, r1, a, ex, q⟩ => ?_⟩
  subst ex
  cases r1
  exact two pins σ H1 s1 a R I1 q
theorem sI_seq (hio : ∀ i a, B.io = some (i, a) → io = some i) (he : PE X e (tS X.K B W ra)) : PI X tg e (tI X.K B W fun ρ => do
    let (x, ρ) ← ra ρ
    let (d, ρ) ← frz io ρ x
    match d with
    | .list ds => .ok (ds, ρ)
    | .tuple ds => .ok (ds, ρ)
    | _ => .st) := by
  refine pi_imp (pi_any he) fun σ H Q ⟨ρ, F, R, p⟩ => ⟨ρ, F, R, p.step fun ⟨x, ρ1⟩ p v F1 H1 s1 R1 v1 => ?_⟩
  obtain ⟨d, ρ2, e2, p⟩ := Post.frz p
  obtain ⟨F2, s2, R2, r2⟩ := freezes R1 hio v1 e2
  cases d with
  | list ds =>
    cases r2 with
    | lst h r => exact ⟨_, rfl, .inl ⟨_, R2.sub.seq h, p _ F2 H1 (s1.trans s2) R2 (itOk_list h r)⟩⟩
  | tuple ds =>
    cases r2 with
    | tup h r => exact ⟨_, rfl, .inr ⟨_, same_sqT R2.sub h, p _ F2 H1 (s1.trans s2) R2 (itOk_tup h r)⟩⟩
  | _ => exact (show False from p).elim
theorem small62_of {i : Int} (h : small62 i = true) : -(2 ^ 62) ≤ i ∧ i < 2 ^ 62 := by
  unfold small62 at h
  simpa only [Bool.and_eq_true, decide_eq_true_eq] using h
theorem sI_rng1 (hg : Gl X "range") (hm : X.mg "range" = none) (ha : PE X a (tS X.K B W ra)) (hs : starEach [a] X.env = [(false, eval a X.env)]) (hs' : starEach (a :: []) X.env = (false, eval a X.env) :: starEach [] X.env) : PI X tg (.Call (.Name "range" p0) [a] [] pos) (tI X.K B W fun ρ => do
    let (x, ρ) ← ra ρ
    match look ρ x with
    | some (.int j) => if small62 j then .ok (rngL 0 j.toNat, ρ) else .st
    | _ => .st) := by
  refine pi_imp (pi_range1 hg hm (pa_cons ha pa_nil hs') hs) fun σ H Q ⟨ρ, F, R, p⟩ => ⟨ρ, F, R, p.step fun ⟨x, ρ1⟩ p v F1 H1 s1 R1 v1 => ?_⟩
  have p : Post W (match look ρ1 x with
    | some (.int j) => if small62 j then Rs.ok (rngL 0 j.toNat, ρ1) else Rs.st
    | _ => Rs.st) _ := p
  split at p
  · rename_i j hj
    cases (view R1 v1 hj).int
    split at p
    · rename_i h
      exact ⟨j, rfl, (small62_of h).1, (small62_of h).2, p _ F1 H1 s1 R1 (itOk_rng 0 j.toNat)⟩
    · exact p.elim
  · exact p.elim
theorem sI_rng2 (hg : Gl X "range") (hm : X.mg "range" = none) (ha : PE X a (tS X.K B W ra)) (hb : PE X b (tS X.K B W rb)) (hs : starEach [a, b] X.env = [(false, eval a X.env), (false, eval b X.env)]) (hs2 : starEach [b] X.env = [(false, eval b X.env)])
    (h1 : starEach (a :: [b]) X.env = (false, eval a X.env) :: starEach [b] X.env) (h2 : starEach (b :: []) X.env = (false, eval b X.env) :: starEach [] X.env) : PI X tg (.Call (.Name "range" p0) [a, b] [] pos) (tI X.K B W fun ρ => do
    let (x, ρ) ← ra ρ
    let (y, ρ) ← rb ρ
    match look ρ x, look ρ y with
    | some (.int i), some (.int j) => if small62 i && small62 j then .ok (rngL i (j - i).toNat, ρ) else .st
    | _, _ => .st) := by
  refine pi_imp (pi_range2 hg hm (pa_cons ha (pa_cons hb pa_nil h2) h1) hs hs2) fun σ H Q ⟨ρ, F, R, p⟩ => ⟨ρ, F, R, p.step fun ⟨x, ρ1⟩ p v F1 H1 s1 R1 v1 => ?_⟩
  refine ⟨ρ1, F1, R1, Post.step p fun ⟨y, ρ2⟩ p u F2 H2 s2 R2 v2 => ?_⟩
  have p : Post W (match look ρ2 x, look ρ2 y with
    | some (.int i), some (.int j) => if small62 i && small62 j then Rs.ok (rngL i (j - i).toNat, ρ2) else Rs.st
    | _, _ => Rs.st) _ := p
  split at p
  · rename_i i j hi hj
    cases (view R2 (v1.mono s2) hi).int
    cases (view R2 v2 hj).int
    split at p
    · rename_i h
      simp only [Bool.and_eq_true] at h
      exact ⟨i, j, rfl, ⟨(small62_of h.1).1, (small62_of h.1).2, (small62_of h.2).1, (small62_of h.2).2⟩, p _ F2 H2 (s1.trans s2) R2 (itOk_rng i _)⟩
    · exact p.elim
  · exact p.elim
theorem sI_enu {elts : List Expr} {kk : Nat} {tpos : Pos} (hio : ∀ i a, B.io = some (i, a) → io = some i) (hg : Gl X "enumerate") (hm : X.mg "enumerate" = none) (ha : PE X a (tS X.K B W ra)) (hs : starEach [a] X.env = [(false, eval a X.env)]) (hs' : starEach (a :: []) X.env = (false, eval a X.env) :: starEach [] X.env) :
    PI X (.Tuple elts kk tpos) (.Call (.Name "enumerate" p0) [a] [] pos) (tI X.K B W fun ρ => do
    let (x, ρ) ← ra ρ
    let (d, ρ) ← frz io ρ x
    match d with
    | .list ds => .ok (enumL ds, ρ)
    | _ => .st) := by
  refine pi_imp (pi_enum hg hm (pa_cons ha pa_nil hs') hs) fun σ H Q ⟨ρ, F, R, p⟩ => ⟨ρ, F, R, p.step fun ⟨x, ρ1⟩ p v F1 H1 s1 R1 v1 => ?_⟩
  obtain ⟨d, ρ2, e2, p⟩ := Post.frz p
  obtain ⟨F2, s2, R2, r2⟩ := freezes R1 hio v1 e2
  cases d with
  | list ds =>
    cases r2 with
    | lst h r => exact ⟨_, _, rfl, R2.sub.seq h, p _ F2 H1 (s1.trans s2) R2 (itOk_enu h r)⟩
  | _ => exact (show False from p).elim
theorem sI_zip {elts : List Expr} {kk : Nat} {tpos : Pos} (hio : ∀ i a, B.io = some (i, a) → io = some i) (hg : Gl X "zip") (hm : X.mg "zip" = none) (ha : PE X a (tS X.K B W ra)) (hb : PE X b (tS X.K B W rb))
    (h1 : starEach (a :: [b]) X.env = (false, eval a X.env) :: starEach [b] X.env) (h2 : starEach (b :: []) X.env = (false, eval b X.env) :: starEach [] X.env) (hpl : (backTo pos (starEach [b] X.env)).any (·.1) = false) :
    PI X (.Tuple elts kk tpos) (.Call (.Name "zip" p0) [a, b] [] pos) (tI X.K B W fun ρ => do
    let (x, ρ) ← ra ρ
    let (d, ρ) ← frz io ρ x
    let (y, ρ) ← rb ρ
    let (e, ρ) ← frz io ρ y
    match d, e with
    | .list ds, .list es => .ok (ds.zipWith (fun d e => .tuple [d, e]) es, ρ)
    | _, _ => .st) := by
  refine pi_imp (pi_zip hg hm (pa_cons ha (pa_cons hb pa_nil h2) h1) h1 hpl) fun σ H Q ⟨ρ, F, R, p⟩ => ⟨ρ, F, R, p.step fun ⟨x, ρ1⟩ p v F1 H1 s1 R1 v1 => ?_⟩
  obtain ⟨d, ρ2, e2, p⟩ := Post.frz p
  obtain ⟨F2, s2, R2, r2⟩ := freezes R1 hio v1 e2
  refine ⟨ρ2, F2, R2, Post.step p fun ⟨y, ρ3⟩ p u F3 H3 s3 R3 v3 => ?_⟩
  obtain ⟨e, ρ4, e4, p⟩ := Post.frz p
  obtain ⟨F4, s4, R4, r4⟩ := freezes R3 hio v3 e4
  have r2 := r2.mono (s3.trans s4)
  cases d with
  | list ds =>
    cases e with
    | list es =>
      cases r2 with
      | lst h r =>
        cases r4 with
        | lst h' r' => exact ⟨_, _, _, _, rfl, R4.sub.seq h, R4.sub.seq h', p _ F4 H3 (s1.trans (s2.trans (s3.trans s4))) R4 (itOk_zip h r h' r')⟩
    | _ => exact (show False from p).elim
  | _ => exact (show False from p).elim

end
end EV
end

section
/-! EvH -/
set_option Elab.async false
set_option linter.all false
set_option maxRecDepth 100000
set_option maxHeartbeats 1000000
/-! EvH: targets, comprehensions. -/
namespace EV
open PySem PySem.Spec L2

mutual
def tgS : Tg → List Nat
  | .v i => [i]
  | .t ts => tgsS ts
def tgsS : Tgs → List Nat
  | .nil => []
  | .cons t ts => tgS t ++ tgsS ts
end
/-- a target's reading -/
def tG (K : PySem.W.Frag) (B : Bs) (vs : List Nat) (r : D → Rho → Option Rho) : TG := fun v σ H Q => ∃ ρ F d ρ', Rel K B ρ σ F H ∧ Rp K F v d ∧ r d ρ = some ρ' ∧ ∀ σ', Rel K B ρ' σ' F H → (∀ j, j ∉ vs → σ'[j]? = σ[j]?) → σ'.length = σ.length → Q σ' H
def tGs (K : PySem.W.Frag) (B : Bs) (vs : List Nat) (r : List D → Rho → Option Rho) : TGs := fun us σ H Q => ∃ ρ F ds ρ', Rel K B ρ σ F H ∧ RpAll K F us ds ∧ r ds ρ = some ρ' ∧ ∀ σ', Rel K B ρ' σ' F H → (∀ j, j ∉ vs → σ'[j]? = σ[j]?) → σ'.length = σ.length → Q σ' H
section
variable {B : Bs} {W : Nat → Prop} {X : Cx} {e : Expr} {es : List Expr} {pos : Pos} {io : Option Nat}
theorem pg_imp {t t' : TG} (h : PG X e t) (i : ∀ v σ H Q, t' v σ H Q → t v σ H Q) : PG X e t' := ⟨fun pins s σ H v u Q I r q => h.run pins s σ H v u Q I r (i v σ H Q q)⟩
theorem pgs_imp {t t' : TGs} (h : PGs X es t) (i : ∀ v σ H Q, t' v σ H Q → t v σ H Q) : PGs X es t' := ⟨fun pins s σ H v u Q I r q => h.run pins s σ H v u Q I r (i v σ H Q q)⟩
theorem sG_v {i : Nat} {x : Str} (hio : ∀ i a, B.io = some (i, a) → io = some i) (hN : X.N.Nodup) (hi : X.N[i]? = some x) (hx : Loc X.env.scope x) (hf : X.fn x = true ∨ X.env.scope.names.lookup x = some .local) : PG X (.Name x pos) (tG X.K B [i] (bindT io (.v i))) := by
  refine pg_imp (pg_name hN hi hx hf) fun v σ H Q ⟨ρ, F, d, ρ', R, r, e, q⟩ => ?_
  simp only [bindT] at e
  split at e
  · cases e
  · rename_i hn
    split at e
    · rename_i hl
      cases e
      refine q _ (R.setF hl (fun a z => hn (hio i a z)) r) (fun j hj => ?_) (by rw [List.length_set])
      rw [List.getElem?_set_ne (fun z => hj (by rw [z]; exact List.mem_singleton_self _))]
    · cases e
theorem sGs_nil : PGs X [] (tGs X.K B [] (bindTs io .nil)) := by
  refine pgs_imp pgs_nil fun v σ H Q ⟨ρ, F, ds, ρ', R, r, e, q⟩ => ?_
  cases r with
  | nil => simp only [bindTs] at e; cases e; exact ⟨rfl, q σ R (fun _ _ => rfl) rfl⟩
  | cons h t => simp only [bindTs] at e; cases e
theorem sGs_cons {t : Tg} {ts : Tgs} (h1 : PG X e (tG X.K B (tgS t) (bindT io t))) (h2 : PGs X es (tGs X.K B (tgsS ts) (bindTs io ts))) (hs : (assignEach (e :: es) X.env).map (·.2) = assign e X.env :: (assignEach es X.env).map (·.2)) : PGs X (e :: es) (tGs X.K B (tgS t ++ tgsS ts) (bindTs io (.cons t ts))) := by
  refine pgs_imp (pgs_cons h1 h2 hs) fun v σ H Q ⟨ρ, F, ds, ρ', R, r, e, q⟩ => ?_
  cases r with
  | nil => simp only [bindTs] at e; cases e
  | @cons w ws d ds h r =>
    simp only [bindTs] at e
    cases q1 : bindT io t d ρ with
    | none => rw [q1] at e; cases e
    | some ρ1 =>
      rw [q1] at e
      exact ⟨w, ws, rfl, ρ, F, d, ρ1, R, h, q1, fun σ1 R1 k1 l1 => ⟨ρ1, F, ds, ρ', R1, r, e, fun σ2 R2 k2 l2 => q σ2 R2 (fun j hj => by
        rw [List.mem_append] at hj
        rw [k2 j fun z => hj (.inr z), k1 j fun z => hj (.inl z)]) (l2.trans l1)⟩⟩
theorem bindTs_len {io : Option Nat} : ∀ {ts : Tgs} {ds : List D} {ρ ρ' : Rho}, bindTs io ts ds ρ = some ρ' → ∀ n : Nat, (match ts with | _ => True) := fun _ _ => trivial
def tgsN : Tgs → Nat
  | .nil => 0
  | .cons _ ts => tgsN ts + 1
theorem bindTs_n {io : Option Nat} : ∀ (ts : Tgs) {ds : List D} {ρ ρ' : Rho}, bindTs io ts ds ρ = some ρ' → ds.length = tgsN ts
  | .nil, [], _, _, _ => rfl
  | .nil, _ :: _, _, _, e => by simp only [bindTs] at e; cases e
  | .cons t ts, [], _, _, e => by simp only [bindTs] at e; cases e
  | .cons t ts, d :: ds, ρ, ρ', e => by
    simp only [bindTs] at e
    cases q1 : bindT io t d ρ with
    | none => rw [q1] at e; cases e
    | some ρ1 => rw [q1] at e; simp [tgsN, bindTs_n ts e]
theorem sG_t {ts : Tgs} {k : Nat} (hc : X.calm = true) (h : PGs X es (tGs X.K B (tgsS ts) (bindTs io ts))) (hn : (assignEach es X.env).length = tgsN ts) (hst : (assignEach es X.env).findIdx? (·.1) = none) : PG X (.Tuple es k pos) (tG X.K B (tgsS ts) (bindT io (.t ts))) := by
  refine pg_imp (pg_tup hc h hn hst) fun v σ H Q ⟨ρ, F, d, ρ', R, r, e, q⟩ => ?_
  cases d with
  | tuple ds =>
    simp only [bindT] at e
    cases r with
    | tup s r => exact ⟨_, _, rfl, same_sqT R.sub s, by rw [r.len]; exact bindTs_n ts e, ρ, F, ds, ρ', R, r, e, q⟩
  | _ => simp only [bindT] at e; cases e
end

/-! ### hidden slots -/
theorem hide_len (ρ : Rho) : ∀ vs : List Nat, (hide ρ vs).length = ρ.length
  | [] => rfl
  | v :: vs => by simp only [hide, List.length_set, hide_len ρ vs]
theorem hide_at (ρ : Rho) : ∀ (vs : List Nat) (i : Nat), (hide ρ vs)[i]? = if i ∈ vs ∧ i < ρ.length then some .u else ρ[i]?
  | [], i => by simp [hide]
  | v :: vs, i => by
    simp only [hide]
    have ih := hide_at ρ vs i
    by_cases h : v = i
    · subst h
      by_cases hl : v < ρ.length
      · rw [List.getElem?_set_self (by rw [hide_len]; exact hl), if_pos ⟨List.mem_cons_self, hl⟩]
      · rw [List.getElem?_eq_none (by rw [List.length_set, hide_len]; omega), if_neg (fun z => hl z.2), List.getElem?_eq_none (by omega)]
    · rw [List.getElem?_set_ne h, ih]
      have : (i ∈ v :: vs) ↔ i ∈ vs := by
        rw [List.mem_cons]
        exact ⟨fun z => z.resolve_left fun y => h y.symm, .inr⟩
      simp only [this]
theorem wipe_at (σ : L2.St) : ∀ (vs : List Nat) (i : Nat), (wipe σ vs)[i]? = if i ∈ vs ∧ i < σ.length then some none else σ[i]?
  | [], i => by simp [wipe]
  | v :: vs, i => by
    have ih := wipe_at σ vs i
    show ((wipe σ vs).set v none)[i]? = _
    by_cases h : v = i
    · subst h
      by_cases hl : v < σ.length
      · rw [List.getElem?_set_self (by rw [wipe_length]; exact hl), if_pos ⟨List.mem_cons_self, hl⟩]
      · rw [List.getElem?_eq_none (by rw [List.length_set, wipe_length]; omega), if_neg (fun z => hl z.2), List.getElem?_eq_none (by omega)]
    · rw [List.getElem?_set_ne h, ih]
      have : (i ∈ v :: vs) ↔ i ∈ vs := by
        rw [List.mem_cons]
        exact ⟨fun z => z.resolve_left fun y => h y.symm, .inr⟩
      simp only [this]
theorem unhide_len (ρ ρ0 : Rho) : ∀ vs : List Nat, (unhide ρ ρ0 vs).length = ρ.length
  | [] => rfl
  | v :: vs => by
    simp only [unhide]
    split
    · rw [List.length_set, unhide_len ρ ρ0 vs]
    · exact unhide_len ρ ρ0 vs
theorem unhide_at (ρ ρ0 : Rho) (hl : ρ.length = ρ0.length) : ∀ (vs : List Nat) (i : Nat), (unhide ρ ρ0 vs)[i]? = if i ∈ vs then ρ0[i]? else ρ[i]?
  | [], i => by simp [unhide]
  | v :: vs, i => by
    have ih := unhide_at ρ ρ0 hl vs i
    simp only [unhide]
    by_cases h : v = i
    · subst h
      rw [if_pos List.mem_cons_self]
      cases q : ρ0[v]? with
      | none =>
        simp only
        rw [List.getElem?_eq_none]
        rw [unhide_len, hl]
        exact List.getElem?_eq_none_iff.mp q
      | some s =>
        simp only
        rw [List.getElem?_set_self]
        rw [unhide_len, hl]
        exact (List.getElem?_eq_some_iff.mp q).1
    · have : (i ∈ v :: vs) ↔ i ∈ vs := by
        rw [List.mem_cons]
        exact ⟨fun z => z.resolve_left fun y => h y.symm, .inr⟩
      simp only [this]
      split
      · rw [List.getElem?_set_ne h, ih]
      · exact ih
section
variable {K : PySem.W.Frag} {B : Bs} {ρ : Rho} {σ : L2.St} {F H : Hp}
theorem Rel.hide (R : Rel K B ρ σ F H) {vs : List Nat} (hio : ∀ i a, B.io = some (i, a) → i ∉ vs) : Rel K B (EV.hide ρ vs) (wipe σ vs) F H := by
  refine R.forget (by rw [hide_len, wipe_length]; exact R.len) (fun i => ?_) fun i a h => ?_
  · rw [hide_at, wipe_at, R.len]
    by_cases h : i ∈ vs ∧ i < σ.length
    · rw [if_pos h]; exact .inl rfl
    · rw [if_neg h, if_neg h]; exact .inr ⟨rfl, rfl⟩
  · rw [hide_at, wipe_at, if_neg fun z => hio i a h z.1, if_neg fun z => hio i a h z.1]
    exact ⟨rfl, rfl⟩
/-- the hidden slots again -/
theorem Rel.unhide {ρ1 : Rho} {F1 H1 : Hp} {vs : List Nat} (R0 : Rel K B ρ σ F H) (R : Rel K B ρ1 (wipe σ vs) F1 H1) (s : Same F F1) (hp : ∀ i ∈ vs, plainAt ρ i = true) (hio : ∀ i a, B.io = some (i, a) → i ∉ vs) : Rel K B (EV.unhide ρ1 ρ vs) σ F1 H1 := by
  have hl : ρ1.length = ρ.length := by rw [R.len, wipe_length, R0.len]
  have hσ : ∀ i, i ∉ vs → (wipe σ vs)[i]? = σ[i]? := fun i hi => by rw [wipe_at, if_neg fun z => hi z.1]
  have noO : ∀ i d, i ∈ vs → ρ[i]? ≠ some (.o d) := fun i d hi e => by
    have := hp i hi
    unfold plainAt at this
    rw [e] at this
    exact Bool.noConfusion this
  refine ⟨by rw [unhide_len, hl]; exact R0.len, R.sub, fun i d h => ?_, fun i d h => ?_, fun i j d e a hij h1 h2 g1 g2 => ?_, R.b1, R.b2, R.b3, fun i a h => ?_⟩
  · rw [unhide_at ρ1 ρ hl] at h
    by_cases hi : i ∈ vs
    · rw [if_pos hi] at h
      obtain ⟨v, e1, r⟩ := R0.f i d h
      exact ⟨v, e1, r.mono s⟩
    · rw [if_neg hi] at h
      obtain ⟨v, e1, r⟩ := R.f i d h
      exact ⟨v, by rw [← hσ i hi]; exact e1, r⟩
  · rw [unhide_at ρ1 ρ hl] at h
    by_cases hi : i ∈ vs
    · rw [if_pos hi] at h; exact absurd h (noO i d hi)
    · rw [if_neg hi] at h
      obtain ⟨a, e1, r⟩ := R.o i d h
      exact ⟨a, by rw [← hσ i hi]; exact e1, r⟩
  · rw [unhide_at ρ1 ρ hl] at h1 h2
    by_cases hi : i ∈ vs
    · rw [if_pos hi] at h1; exact absurd h1 (noO i d hi)
    · by_cases hj : j ∈ vs
      · rw [if_pos hj] at h2; exact absurd h2 (noO j e hj)
      · rw [if_neg hi] at h1; rw [if_neg hj] at h2
        exact R.dj i j d e a hij h1 h2 (by rw [hσ i hi]; exact g1) (by rw [hσ j hj]; exact g2)
  · obtain ⟨x1, ⟨d, x2⟩, x3⟩ := R.bio i a h
    have hi := hio i a h
    refine ⟨by rw [← hσ i hi]; exact x1, ⟨d, ?_⟩, x3⟩
    rw [unhide_at ρ1 ρ hl, if_neg hi]; exact x2
/-- an object that no slot and nothing frozen holds is changed -/
theorem Rel.writeFree (R : Rel K B ρ σ F H) {p : Addr} {o : HO} (hf : F p = none) (hb : B.H0 p = none) (hn : NoSl ρ σ p) : Rel K B ρ σ F (upd H p o) := by
  refine ⟨R.len, fun a x e => ?_, R.f, fun i d e => ?_, R.dj, R.b1, fun a x e q => ?_, R.b3, R.bio⟩
  · rw [upd_ne (ne_of_none e hf)]; exact R.sub a x e
  · obtain ⟨a, e1, ow, e2, e3⟩ := R.o i d e
    exact ⟨a, e1, ow.mono (Same.refl F) (upd_ne (show a ≠ p from fun z => hn i d e (z ▸ e1))), e2, e3⟩
  · rw [upd_ne (ne_of_none e hb)]; exact R.b2 a x e q
end

/-! ### list comprehensions -/
abbrev WE (E : XK) (ca : Nat → Addr) (B : Bs) : Nat → Prop := fun c => ∀ H', Fra B H' → E (.ref (ca c)) none H'
/-- one turn -/
def lcF (io : Option Nat) (tg : Tg) (rc : Rho → Rs (Bool × Rho)) (re : Rho → Rs (Opd × Rho)) (own : List Nat) : D → Rho → Rs (Option D × Rho) := fun d ρ2 => do
    let ρ2 ← Rs.of (bindT io tg d ρ2)
    let (t, ρ2) ← rc ρ2
    if t then do
      let (x, ρ2) ← re ρ2
      let (dx, ρ2) ← frz io ρ2 x
      .ok (some dx, hide ρ2 own)
    else .ok (none, hide ρ2 own)
theorem lcLoop_cons_ok {f : D → Rho → Rs (Option D × Rho)} {d : D} {ds : List D} {ρ ρ1 : Rho} {acc : List D} (h : lcLoop f (d :: ds) ρ = .ok (acc, ρ1)) : ∃ o ρ2 r, f d ρ = .ok (o, ρ2) ∧ lcLoop f ds ρ2 = .ok (r, ρ1) ∧ acc = o.toList ++ r := by
  simp only [lcLoop] at h
  cases q : f d ρ with
  | ex c => rw [q] at h; cases h
  | st => rw [q] at h; cases h
  | ok p =>
    obtain ⟨o, ρ2⟩ := p
    rw [q] at h
    simp only [bind_ok] at h
    cases q2 : lcLoop f ds ρ2 with
    | ex c => rw [q2] at h; cases h
    | st => rw [q2] at h; cases h
    | ok p2 =>
      obtain ⟨r, ρ3⟩ := p2
      rw [q2] at h
      cases h
      exact ⟨o, ρ2, r, rfl, q2, rfl⟩
theorem of_ok {α β : Type} {r : Rs α} {k : α → Rs β} {b : β} (h : (r >>= k) = .ok b) : ∃ a, r = .ok a ∧ k a = .ok b := by
  cases r with
  | ok a => exact ⟨a, rfl, h⟩
  | ex c => cases h
  | st => cases h
theorem of_of {α : Type} {o : Option α} {a : α} (h : Rs.of o = .ok a) : o = some a := by
  cases o with
  | none => cases h
  | some b => cases h; rfl
section
variable {B : Bs} {X : Cx} {elt tg iter : Expr} {ifs : List Expr} {scope : Scope} {own : List (Str × Nat)} {pos : Pos} {io : Option Nat} {E : XK} {ca : Nat → Addr}
theorem tLc_of {ri : Rho → Rs (List D × Rho)} {rc : Rho → Rs (Bool × Rho)} {re : Rho → Rs (Opd × Rho)} {t : Tg} {vs : List Nat} {g : TG} {tt : TT} {te : TE} {K : PySem.W.Frag} (hio : ∀ i a, B.io = some (i, a) → io = some i) (htg : ∀ i ∈ tgS t, i ∈ vs)
    (hg : ∀ p o v σ H Q, tG K (B.pin p o) (tgS t) (bindT io t) v σ H Q → g v σ H Q) (ht : ∀ p o σ H Q, tT K (B.pin p o) (WE E0 ca (B.pin p o)) rc σ H Q → tt σ H Q) (he : ∀ p o σ H Q, tS K (B.pin p o) (WE E0 ca (B.pin p o)) re σ H Q → te σ H Q)
    (σ : L2.St) (H : Hp) (Q : VK) (h : tE K B (WE E ca B) (fun ρ => do
      let (ds, ρ) ← ri ρ
      if vs.all (plainAt ρ) && !(vs.any fun i => io == some i) && decide (ds.length ≤ sizeLine) then do
        let (acc, ρ1) ← noex (lcLoop (lcF io t rc re vs) ds (hide ρ vs))
        .ok (.own (.list acc), unhide ρ1 ρ vs)
      else .st) σ H Q) : tLc (tI K B (WE E ca B) ri) g tt te vs σ H Q := by
  obtain ⟨ρ, F, R, p⟩ := h
  refine ⟨ρ, F, R, Post.step p fun ⟨ds, ρa⟩ p J F1 H1 s1 R1 itOk D hD => ?_⟩
  have p : Post (WE E ca B) (if vs.all (plainAt ρa) && !(vs.any fun i => io == some i) && decide (ds.length ≤ sizeLine) then (noex (lcLoop (lcF io t rc re vs) ds (EV.hide ρa vs)) >>= fun x => Rs.ok (Opd.own (.list x.1), EV.unhide x.2 ρa vs)) else Rs.st) _ := p
  split at p
  case isFalse => exact p.elim
  rename_i hc
  simp only [Bool.and_eq_true, List.all_eq_true, decide_eq_true_eq, Bool.not_eq_true', List.any_eq_false, beq_iff_eq] at hc
  obtain ⟨⟨hp, hni⟩, hz⟩ := hc
  have hvs : ∀ i a, B.io = some (i, a) → i ∉ vs := fun i a e z => hni i z (hio i a e)
  cases q : lcLoop (lcF io t rc re vs) ds (EV.hide ρa vs) with
  | ex c => rw [q] at p; exact p.elim
  | st => rw [q] at p; exact p.elim
  | ok z =>
    obtain ⟨acc, ρ1⟩ := z
    rw [q] at p
    have Rh : Rel K B (EV.hide ρa vs) (wipe σ vs) F1 H1 := R1.hide hvs
    obtain ⟨n1, n2, n3⟩ := Rh.newB hD
    refine ⟨fun i m H => m = ds.length - i ∧ i ≤ ds.length ∧ ∃ ρi Fi accV done rest, Same F1 Fi ∧ Rel K B ρi (wipe σ vs) Fi H ∧ H D = some (.lst accV) ∧ RpAll K Fi accV done ∧ Fi D = none ∧ NoSl ρi (wipe σ vs) D ∧ accV.length ≤ i ∧ lcLoop (lcF io t rc re vs) (ds.drop i) ρi = .ok (rest, ρ1) ∧ acc = done ++ rest,
      ⟨ds.length, by simp, Nat.zero_le _, EV.hide ρa vs, F1, [], [], acc, Same.refl _, Rh.laid hD, upd_same, .nil, n2, n3, Nat.le_refl _, by simpa using q, rfl⟩, ?_⟩
    rintro i m H2 ⟨rfl, hi, ρi, Fi, accV, done, rest, s2, R2, hDv, pv, fD, nD, hlen, hloop, hacc⟩
    have R2p : Rel K (B.pin D (.lst accV)) ρi (wipe σ vs) Fi H2 := R2.pin hDv fD n1 nD
    by_cases hlt : i < ds.length
    · right
      refine ⟨itOk.go i s2 R2 hlt, fun H' => ∃ ρi Fi accV done rest, Same F1 Fi ∧ Rel K B ρi (wipe σ vs) Fi H' ∧ H' D = some (.lst accV) ∧ RpAll K Fi accV done ∧ Fi D = none ∧ NoSl ρi (wipe σ vs) D ∧ accV.length ≤ i + 1 ∧ lcLoop (lcF io t rc re vs) (ds.drop (i + 1)) ρi = .ok (rest, ρ1) ∧ acc = done ++ rest,
        fun H' hN => ⟨ds.length - (i + 1), by omega, rfl, hlt, hN⟩, fun x H3 hy => ?_⟩
      have hd : ds[i]? = some ds[i] := List.getElem?_eq_getElem hlt
      obtain ⟨F3, s3, R3, rx⟩ := itOk.yld i x _ s2 R2p hd hy
      rw [List.drop_eq_getElem_cons hlt] at hloop
      obtain ⟨o, ρb, r, hf, hrest, eacc⟩ := lcLoop_cons_ok hloop
      unfold lcF at hf
      obtain ⟨ρc, hb, hf⟩ := of_ok hf
      have hb := of_of hb
      obtain ⟨⟨tb, ρd⟩, hcnd, hf⟩ := of_ok hf
      refine hg _ _ _ _ _ _ ⟨ρi, F3, ds[i], ρc, R3, rx, hb, fun σ4 R4 k4 l4 => ⟨?_, ?_⟩⟩
      · apply List.ext_getElem?
        intro j
        rw [wipe_at, wipe_at]
        have hl4 : σ4.length = σ.length := by rw [l4, wipe_length]
        rw [hl4]
        by_cases hj : j ∈ vs ∧ j < σ.length
        · rw [if_pos hj, if_pos hj]
        · rw [if_neg hj, if_neg hj]
          by_cases hjv : j ∈ vs
          · have hjl : ¬ j < σ.length := fun z => hj ⟨hjv, z⟩
            rw [List.getElem?_eq_none (by rw [hl4]; omega), List.getElem?_eq_none (by omega)]
          · rw [k4 j fun z => hjv (htg j z), wipe_at, if_neg fun z => hjv z.1]
      · have wip : wipe σ4 vs = wipe σ vs := by
          apply List.ext_getElem?
          intro j
          rw [wipe_at, wipe_at]
          have hl4 : σ4.length = σ.length := by rw [l4, wipe_length]
          rw [hl4]
          by_cases hj : j ∈ vs ∧ j < σ.length
          · rw [if_pos hj, if_pos hj]
          · rw [if_neg hj, if_neg hj]
            by_cases hjv : j ∈ vs
            · have hjl : ¬ j < σ.length := fun z => hj ⟨hjv, z⟩
              rw [List.getElem?_eq_none (by rw [hl4]; omega), List.getElem?_eq_none (by omega)]
            · rw [k4 j fun z => hjv (htg j z), wipe_at, if_neg fun z => hjv z.1]
        refine ht D (.lst accV) _ _ _ ⟨ρc, F3, R4, ?_⟩
        rw [hcnd]
        intro F5 H5 s5 R5
        cases tb with
        | false =>
          simp only [Bool.false_eq_true, if_false] at hf ⊢
          cases hf
          obtain ⟨U, u1, u2, u3⟩ := R5.unpin n1 (R1.b1.free n2) (fun j z => by
            obtain ⟨_, _, w, _⟩ := R1.bio j D z
            exact w n1)
          have U2 := U.hide (vs := vs) hvs
          rw [wip] at U2
          refine ⟨_, F5, accV, done, r, s2.trans (s3.trans s5), U2, u1, pv.mono (s3.trans s5), u2, ?_, by omega, hrest, by rw [hacc, eacc]; rfl⟩
          intro j d e z
          rw [hide_at] at e
          split at e
          · cases e
          · rename_i hj
            rw [← wip, wipe_at] at z
            split at z
            · cases z
            · exact u3 j d e z
        | true =>
          simp only [if_true] at hf ⊢
          obtain ⟨⟨xo, ρe⟩, hel, hf⟩ := of_ok hf
          obtain ⟨⟨dx, ρf⟩, hfr, hf⟩ := of_ok hf
          cases hf
          refine he D (.lst accV) _ _ _ ⟨ρd, F5, R5, ?_⟩
          rw [hel]
          intro y F6 H6 s6 R6 o6
          obtain ⟨F7, s7, R7, r7⟩ := freezes R6 (fun i a z => hio i a z) o6 hfr
          obtain ⟨U, u1, u2, u3⟩ := R7.unpin n1 (R1.b1.free n2) (fun j z => by
            obtain ⟨_, _, w, _⟩ := R1.bio j D z
            exact w n1)
          have U2 := U.hide (vs := vs) hvs
          rw [wip] at U2
          have u4 : NoSl (EV.hide ρf vs) (wipe σ vs) D := fun j d e z => by
            rw [hide_at] at e
            split at e
            · cases e
            · rename_i hj
              rw [← wip, wipe_at] at z
              split at z
              · cases z
              · exact u3 j d e z
          refine ⟨accV, u1, by omega, EV.hide ρf vs, F7, accV ++ [y], done ++ [dx], r, s2.trans (s3.trans (s5.trans (s6.trans s7))), U2.writeFree u2 n1 u4, upd_same, (pv.mono (s3.trans (s5.trans (s6.trans s7)))).append (.cons r7 .nil), u2, u4, by rw [List.length_append]; simp; omega, hrest, ?_⟩
          rw [hacc, eacc]
          simp
    · left
      have e : i = ds.length := by omega
      subst e
      rw [List.drop_length] at hloop
      cases hloop
      rw [List.append_nil] at hacc
      subst hacc
      refine ⟨itOk.stop _ s2 R2 (Nat.le_refl _), p _ Fi H2 (s1.trans s2) (R1.unhide R2 s2 (fun i hi => hp i hi) hvs) ⟨D, rfl, .lst hDv pv, fD, n1, fun j d e z => ?_⟩⟩
      have hl : ρ1.length = ρa.length := by rw [R2.len, wipe_length, R1.len]
      rw [unhide_at ρ1 ρa hl] at e
      by_cases hj : j ∈ vs
      · rw [if_pos hj] at e
        have := hp j hj
        unfold plainAt at this
        rw [e] at this
        exact Bool.noConfusion this
      · rw [if_neg hj] at e
        exact nD j d e (by rw [wipe_at, if_neg fun w => hj w.1]; exact z)
end
end EV
end

section
/-! EvI -/
set_option Elab.async false
set_option linter.all false
set_option maxRecDepth 100000
set_option maxHeartbeats 1000000
/-! EvI: further expressions, statements. -/
namespace EV
open PySem PySem.Spec L2

section
variable {B : Bs} {W : Nat → Prop} {X : Cx} {a b c d e : Expr} {pos : Pos} {ra rb rc rd : Rho → Rs (Opd × Rho)} {io : Option Nat}
/-! ### is None -/
def isOf (neg : Bool) : CmpOp := if neg then .IsNot else .Is
theorem is_none {F H : Hp} {v : V} {dx : D} (sF : Same F H) (h : Vw X.K F H v dx) : decide (v = .non) = isConst dx .none := by
  cases dx with
  | none => cases h.none; rfl
  | bool b => cases h.bool; rfl
  | int b => cases h.int; rfl
  | str b => cases h.str; rfl
  | list b => obtain ⟨_, _, rfl, _⟩ := h.list sF; rfl
  | tuple b => obtain ⟨_, _, rfl, _⟩ := h.tup sF; rfl
  | dict b => obtain ⟨_, _, rfl, _⟩ := h.dict sF; rfl
def rNI (K : PySem.W.Frag) (neg : Bool) (d : D) : R2 := fun x y H Q => ∃ F dx r, Same F H ∧ Vw K F H x dx ∧ Rp K F y d ∧ isD dx d = some r ∧ Q (.bl (if neg then !r else r)) H
theorem op_is (neg : Bool) (d : D) : OpR X (compareOp (isOf neg)) (rNI X.K neg d) := by
  intro pins s σ H x y v u Q I rx ry ⟨F, dx, r, sF, vx, vy, e, q⟩
  cases d with
  | none =>
    cases vy
    have e : some (isConst dx .none) = some r := by cases dx <;> exact e
    obtain rfl := Option.some.inj e
    rw [← is_none sF vx] at q
    cases neg
    · exact op_isN pins s σ H x _ v u Q I rx ry ⟨rfl, q⟩
    · exact op_notN pins s σ H x _ v u Q I rx ry ⟨rfl, q⟩
  | bool b =>
    cases vy
    cases dx with
    | bool c =>
      cases vx.bool
      obtain rfl := Option.some.inj e
      cases neg
      · exact op_isBl pins s σ H _ _ v u Q I rx ry ⟨c, b, rfl, rfl, q⟩
      · exact op_notBl pins s σ H _ _ v u Q I rx ry ⟨c, b, rfl, rfl, q⟩
    | _ => cases e
  | _ => cases dx <;> cases e
theorem sS_is {d : D} {w : V} (neg : Bool) (ha : PE X a (tS X.K B W ra)) (hb : PE X b (tC w)) (hw : ∀ F, Rp X.K F w d) (hm : behindInMarks (isOf neg) b = false) : PE X (.Compare a [isOf neg] [b] pos) (tS X.K B W fun ρ => do
    let (x, ρ) ← ra ρ
    let dx ← Rs.of (look ρ x)
    let r ← Rs.of (isD dx d)
    .ok (.val (.bool (if neg then !r else r)), ρ)) := by
  refine pe_imp (pe_cmpR (op_is neg d) ha hb hm) fun σ H Q ⟨ρ, F, R, p⟩ => ⟨ρ, F, R, p.step fun ⟨x, ρ1⟩ p v F1 H1 s1 R1 v1 => ?_⟩
  obtain ⟨dx, e1, p⟩ := Post.of p
  obtain ⟨r, e2, p⟩ := Post.of p
  exact ⟨F1, dx, r, R1.sub, view R1 v1 e1, hw F1, e2, p _ F1 H1 s1 R1 (.bl _)⟩
theorem sT_is {d : D} {w : V} (neg : Bool) (ha : PE X a (tS X.K B W ra)) (hb : PE X b (tC w)) (hw : ∀ F, Rp X.K F w d) (hm : behindInMarks (isOf neg) b = false) : PT X (.Compare a [isOf neg] [b] pos) (tT X.K B W fun ρ => do
    let (x, ρ) ← ra ρ
    let dx ← Rs.of (look ρ x)
    let r ← Rs.of (isD dx d)
    .ok (if neg then !r else r, ρ)) := by
  refine pt_imp (pt_cmpR (op_is neg d) ha hb hm) fun σ H Q ⟨ρ, F, R, p⟩ => ⟨ρ, F, R, p.step fun ⟨x, ρ1⟩ p v F1 H1 s1 R1 v1 => ?_⟩
  obtain ⟨dx, e1, p⟩ := Post.of p
  obtain ⟨r, e2, p⟩ := Post.of p
  exact ⟨F1, dx, r, R1.sub, view R1 v1 e1, hw F1, e2, _, rfl, p F1 H1 s1 R1⟩

/-! ### chains -/
/-- a chain's first link -/
theorem sS_ch (hu : X.A.units + 64 < cLine) (o o' : Cop) (ha : PE X a (tS X.K B W ra)) (hb : PE X b (tS X.K B W rb)) (hc : PE X c (tS X.K B W rc)) (hm : lastMarks [copOf o, copOf o'] [b, c] = false) : PE X (.Compare a [copOf o, copOf o'] [b, c] pos) (tS X.K B W fun ρ => do
    let (x, ρ) ← ra ρ
    let (y, ρ) ← rb ρ
    let dx ← Rs.of (look ρ x)
    let dy ← Rs.of (look ρ y)
    let r ← Rs.of (cmpop o dx dy)
    if r then do
      let (z, ρ) ← rc ρ
      let dy ← Rs.of (look ρ y)
      let dz ← Rs.of (look ρ z)
      let r ← Rs.of (cmpop o' dy dz)
      .ok (.val (.bool r), ρ)
    else .ok (.val (.bool false), ρ)) := by
  refine pe_imp (pe_chain (op_cmp hu o) (op_cmp hu o') ha hb hc hm) fun σ H Q ⟨ρ, F, R, p⟩ => ⟨ρ, F, R, p.step fun ⟨x, ρ1⟩ p v F1 H1 s1 R1 v1 => ?_⟩
  refine ⟨ρ1, F1, R1, Post.step p fun ⟨y, ρ2⟩ p u F2 H2 s2 R2 v2 => ?_⟩
  obtain ⟨dx, e1, p⟩ := Post.of p
  obtain ⟨dy, e2, p⟩ := Post.of p
  obtain ⟨r, e3, p⟩ := Post.of p
  refine ⟨F2, dx, dy, r, R2.sub, view R2 (v1.mono s2) e1, view R2 v2 e2, e3, r, rfl, ?_⟩
  cases r with
  | false => exact p _ F2 H2 (s1.trans s2) R2 (.bl _)
  | true =>
    refine ⟨ρ2, F2, R2, Post.step (show Post W (rc ρ2 >>= _) _ from p) fun ⟨z, ρ3⟩ p w F3 H3 s3 R3 v3 => ?_⟩
    obtain ⟨dy', e4, p⟩ := Post.of p
    obtain ⟨dz, e5, p⟩ := Post.of p
    obtain ⟨r', e6, p⟩ := Post.of p
    exact ⟨F3, dy', dz, r', R3.sub, view R3 (v2.mono s3) e4, view R3 v3 e5, e6, p _ F3 H3 (s1.trans (s2.trans s3)) R3 (.bl _)⟩
theorem sT_ch (hu : X.A.units + 64 < cLine) (o o' : Cop) (ha : PE X a (tS X.K B W ra)) (hb : PE X b (tS X.K B W rb)) (hc : PE X c (tS X.K B W rc)) (hm : lastMarks [copOf o, copOf o'] [b, c] = false) : PT X (.Compare a [copOf o, copOf o'] [b, c] pos) (tT X.K B W fun ρ => do
    let (x, ρ) ← ra ρ
    let (y, ρ) ← rb ρ
    let dx ← Rs.of (look ρ x)
    let dy ← Rs.of (look ρ y)
    let r ← Rs.of (cmpop o dx dy)
    if r then do
      let (z, ρ) ← rc ρ
      let dy ← Rs.of (look ρ y)
      let dz ← Rs.of (look ρ z)
      let r ← Rs.of (cmpop o' dy dz)
      .ok (r, ρ)
    else .ok (false, ρ)) := by
  refine pt_imp (pt_chain (op_cmp hu o) (op_cmp hu o') ha hb hc hm) fun σ H Q ⟨ρ, F, R, p⟩ => ⟨ρ, F, R, p.step fun ⟨x, ρ1⟩ p v F1 H1 s1 R1 v1 => ?_⟩
  refine ⟨ρ1, F1, R1, Post.step p fun ⟨y, ρ2⟩ p u F2 H2 s2 R2 v2 => ?_⟩
  obtain ⟨dx, e1, p⟩ := Post.of p
  obtain ⟨dy, e2, p⟩ := Post.of p
  obtain ⟨r, e3, p⟩ := Post.of p
  refine ⟨F2, dx, dy, r, R2.sub, view R2 (v1.mono s2) e1, view R2 v2 e2, e3, r, rfl, ?_⟩
  cases r with
  | false => exact ⟨false, rfl, p F2 H2 (s1.trans s2) R2⟩
  | true =>
    refine ⟨ρ2, F2, R2, Post.step (show Post W (rc ρ2 >>= _) _ from p) fun ⟨z, ρ3⟩ p w F3 H3 s3 R3 v3 => ?_⟩
    obtain ⟨dy', e4, p⟩ := Post.of p
    obtain ⟨dz, e5, p⟩ := Post.of p
    obtain ⟨r', e6, p⟩ := Post.of p
    exact ⟨F3, dy', dz, r', R3.sub, view R3 (v2.mono s3) e4, view R3 v3 e5, e6, r', rfl, p F3 H3 (s1.trans (s2.trans s3)) R3⟩

/-! ### slices -/
def tPO (K : PySem.W.Frag) (B : Bs) (W : Nat → Prop) (r : Rho → Rs (Option Int × Rho)) : TO := fun σ H Q => ∃ ρ F, Rel K B ρ σ F H ∧ Post W (r ρ) fun p => ∀ F' H', Same F F' → Rel K B p.2 σ F' H' → Q p.1 H'
theorem po_imp {o : Option Expr} {t t' : TO} (h : PO X o t) (i : ∀ σ H Q, t' σ H Q → t σ H Q) : PO X o t' := ⟨fun pins s σ H Q I q => h.run pins s σ H Q I (i σ H Q q)⟩
theorem sO_no : PO X none (tPO X.K B W fun ρ => .ok (none, ρ)) := po_imp po_none fun σ H Q ⟨ρ, F, R, p⟩ => p F H (Same.refl _) R
theorem sO_yes (ha : PE X a (tS X.K B W ra)) : PO X (some a) (tPO X.K B W fun ρ => do
    let (x, ρ) ← ra ρ
    match look ρ x with
    | some (.int i) => .ok (some i, ρ)
    | _ => .st) := by
  refine po_imp (po_some ha) fun σ H Q ⟨ρ, F, R, p⟩ => ⟨ρ, F, R, p.step fun ⟨x, ρ1⟩ p v F1 H1 s1 R1 v1 => ?_⟩
  have p : Post W (match look ρ1 x with
    | some (.int i) => Rs.ok (some i, ρ1)
    | _ => Rs.st) _ := p
  split at p
  · rename_i i hi
    cases (view R1 v1 hi).int
    exact ⟨i, rfl, p F1 H1 s1 R1⟩
  · exact p.elim
theorem sE_sl {lo hi : Option Expr} {rl rh : Rho → Rs (Option Int × Rho)} {p2 : Pos} (ha : PE X a (tS X.K B W ra)) (hl : PO X lo (tPO X.K B W rl)) (hh : PO X hi (tPO X.K B W rh)) : PE X (.Subscript a (.Slice lo hi none p2) pos) (tE X.K B W fun ρ => do
    let (x, ρ) ← ra ρ
    let (l, ρ) ← rl ρ
    let (h, ρ) ← rh ρ
    let dx ← Rs.of (look ρ x)
    let r ← Rs.of (slD dx l h)
    .ok (r, ρ)) := by
  refine pe_imp (pe_slice sl_pv ha hl hh) fun σ H Q ⟨ρ, F, R, p⟩ => ⟨ρ, F, R, p.step fun ⟨x, ρ1⟩ p v F1 H1 s1 R1 v1 => ?_⟩
  refine ⟨ρ1, F1, R1, Post.step p fun ⟨l, ρ2⟩ p F2 H2 s2 R2 => ?_⟩
  refine ⟨ρ2, F2, R2, Post.step p fun ⟨h, ρ3⟩ p F3 H3 s3 R3 => ?_⟩
  obtain ⟨dx, e1, p⟩ := Post.of p
  obtain ⟨r, e2, p⟩ := Post.of p
  exact ⟨F3, dx, r, R3.sub, view R3 (v1.mono (s2.trans s3)) e1, e2, fun w F4 H4 n => let ⟨s4, R4, o4⟩ := R3.newR n; p w F4 H4 (s1.trans (s2.trans (s3.trans s4))) R4 o4⟩
/-! ### [..] * n -/
theorem sE_rep {es : List Expr} {rs : Rho → Rs (List Opd × Rho)} {p2 : Pos} (h : PA X es (tAs X.K B W rs)) (hb : PE X b (tS X.K B W rb)) : PE X (.BinOp (.List es p2) .Mult b pos) (tE X.K B W fun ρ => do
    let (xs, ρ) ← rs ρ
    let ds ← Rs.of (valsOf xs)
    if ds.length ≤ 1000 then do
      let (y, ρ) ← rb ρ
      match look ρ y with
      | some (.int k) => if (decide (-(2 ^ 63) ≤ k) && decide (k < 2 ^ 63)) && decide (ds.length * k.toNat ≤ sizeLine) then .ok (.own (.list (List.replicate k.toNat ds).flatten), ρ) else .st
      | _ => .st
    else .st) := by
  refine pe_imp (pe_op op_rep (pe_lst h) hb) fun σ H Q ⟨ρ, F, R, p⟩ => ⟨ρ, F, R, p.step fun ⟨xs, ρ1⟩ p vs F1 H1 s1 R1 v1 => ?_⟩
  obtain ⟨ds, e1, p⟩ := Post.of p
  have r := rp_valsOf v1 e1
  by_cases hl : ds.length ≤ 1000
  case neg => rw [if_neg hl] at p; exact p.elim
  rw [if_pos hl] at p
  refine ⟨by rw [r.len]; exact Nat.le_trans hl (by decide), fun q hq => ?_⟩
  have sn : Same F1 (upd F1 q (.lst vs)) := same_new (R1.newB hq).2.1
  refine ⟨ρ1, upd F1 q (.lst vs), R1.laidF hq, Post.step p fun ⟨y, ρ2⟩ p u F2 H2 s2 R2 v2 => ?_⟩
  have p : Post W (match look ρ2 y with
      | some (.int k) => if (decide (-(2 ^ 63) ≤ k) && decide (k < 2 ^ 63)) && decide (ds.length * k.toNat ≤ sizeLine) then Rs.ok (Opd.own (.list (List.replicate k.toNat ds).flatten), ρ2) else Rs.st
      | _ => Rs.st) _ := p
  split at p
  · rename_i k hk
    cases (view R2 v2 hk).int
    split at p
    · rename_i hc
      simp only [Bool.and_eq_true, decide_eq_true_eq] at hc
      refine ⟨q, k, vs, rfl, rfl, R2.sub _ _ (s2 _ _ upd_same), hc.1.1, hc.1.2, by rw [r.len]; exact hc.2, fun z hz => ?_⟩
      obtain ⟨s3, R3, o3⟩ := R2.newR (r := .own (.list (List.replicate k.toNat ds).flatten)) (.own hz (.lst upd_same ((r.mono (sn.trans s2)).rep k.toNat)))
      exact p _ _ _ (s1.trans (sn.trans (s2.trans s3))) R3 o3
    · exact p.elim
  · exact p.elim
/-! ### xs.pop() -/
theorem sE_pop {x : Str} {i : Nat} {apos p2 : Pos} (hN : X.N[i]? = some x) (hv : Vis X.env.scope x) (hd : (x == ("__debug__" : Str)) = false) (hcd : (x == ("__classdict__" : Str)) = false) (hline : (apos.endLine == pos.line) = true) : PE X (.Call (.Attribute (.Name x p2) "pop" apos) [] [] pos) (tE X.K B W fun ρ => match ρ[i]? with
    | some (.o (.list ds)) => (match ds.getLast? with
      | some d => .ok (.val d, ρ.set i (.o (.list ds.dropLast)))
      | none => .st)
    | _ => .st) := by
  refine pe_imp (pe_bm0 PySem.F.plainAttrs_list PySem.F.slot_list_pop PySem.F.type_list_pop mt_pop (pe_var hN hv hd hcd) rfl hline) fun σ H Q ⟨ρ, F, R, p⟩ => ?_
  have p : Post W (match ρ[i]? with
    | some (.o (.list ds)) => (match ds.getLast? with
      | some d => Rs.ok (Opd.val d, ρ.set i (.o (.list ds.dropLast)))
      | none => Rs.st)
    | _ => Rs.st) _ := p
  split at p
  · rename_i ds hds
    split at p
    · rename_i d hd
      obtain ⟨a, e1, ow, hf, hb⟩ := R.o i _ hds
      cases ow with
      | @lst xs _ ho ha =>
        have hl : ds[ds.length - 1]? = some d := by rw [← List.getLast?_eq_getElem?]; exact hd
        obtain ⟨v, hv, rv⟩ := ha.get hl
        rw [← ha.len] at hv
        refine ⟨.ref a, e1, .inl ⟨rfl, xs, .inl (.inl ho)⟩, a, xs, v, rfl, rfl, ho, hv, ?_⟩
        exact p v F _ (Same.refl _) (R.write hds e1 (.lst upd_same ha.dropLast)) rv
    · exact p.elim
  · exact p.elim
end

end EV
end

section
/-! EvJ -/
set_option Elab.async false
set_option linter.all false
set_option maxRecDepth 100000
set_option maxHeartbeats 1000000
/-! EvJ: statements. -/
namespace EV
open PySem PySem.Spec L2

def FlOk (K : PySem.W.Frag) (B : Bs) (D : Ends) : Fl → Rho → Prop
  | .nx, ρ => ∀ σ F H, Rel K B ρ σ F H → D.nx σ H
  | .bk, ρ => ∀ σ F H, Rel K B ρ σ F H → D.bk σ H
  | .ct, ρ => ∀ σ F H, Rel K B ρ σ F H → D.ct σ H
  | .rt o, ρ => ∀ σ v F H, Rel K B ρ σ F H → OV K B ρ σ F H o v → D.rt v H
def tX (K : PySem.W.Frag) (B : Bs) (W : Nat → Prop) (r : Rho → Rs (Fl × Rho)) : TS := fun D σ H => ∃ ρ F, Rel K B ρ σ F H ∧ Post W (r ρ) fun p => FlOk K B D p.1 p.2
theorem ps_imp {X : Cx} {s : Stmt} {t t' : TS} (h : PS X s t) (i : ∀ D σ H, t' D σ H → t D σ H) : PS X s t' := ⟨fun pins s σ H D I q => h.run pins s σ H D I (i D σ H q)⟩
theorem pss_imp {X : Cx} {s : List Stmt} {t t' : TS} (h : PSs X s t) (i : ∀ D σ H, t' D σ H → t D σ H) : PSs X s t' := ⟨fun pins s σ H D I q => h.run pins s σ H D I (i D σ H q)⟩
section
variable {B : Bs} {W : Nat → Prop} {X : Cx} {a b c d e : Expr} {st : Stmt} {ss ss' : List Stmt} {pos : Pos} {ra rb rc rd : Rho → Rs (Opd × Rho)} {io : Option Nat} {E : XK} {ca : Nat → Addr}
theorem sX_nil : PSs X [] (tX X.K B W fun ρ => .ok (.nx, ρ)) := pss_imp pss_nil fun D σ H ⟨ρ, F, R, p⟩ => p σ F H R
theorem sX_cons {r1 r2 : Rho → Rs (Fl × Rho)} (h1 : PS X st (tX X.K B W r1)) (h2 : PSs X ss (tX X.K B W r2)) : PSs X (st :: ss) (tX X.K B W fun ρ => do
    let (fl, ρ) ← r1 ρ
    match fl with
    | .nx => r2 ρ
    | fl => .ok (fl, ρ)) := by
  refine pss_imp (pss_cons h1 h2) fun D σ H ⟨ρ, F, R, p⟩ => ⟨ρ, F, R, p.step fun ⟨fl, ρ1⟩ p => ?_⟩
  cases fl with
  | nx => exact fun σ' F' H' R' => ⟨ρ1, F', R', p⟩
  | bk => exact p
  | ct => exact p
  | rt o => exact p
theorem sX_ret (ha : PE X a (tE X.K B W ra)) : PS X (.Return (some a) pos) (tX X.K B W fun ρ => do
    let (x, ρ) ← ra ρ
    .ok (.rt x, ρ)) :=
  ps_imp (ps_ret ha) fun D σ H ⟨ρ, F, R, p⟩ => ⟨ρ, F, R, p.step fun ⟨x, ρ1⟩ p v F1 H1 s1 R1 o1 => p σ v F1 H1 R1 o1⟩
theorem sX_retN : PS X (.Return none pos) (tX X.K B W fun ρ => .ok (.rt (.val .none), ρ)) :=
  ps_imp ps_retN fun D σ H ⟨ρ, F, R, p⟩ => p σ _ F H R .non
theorem sX_brk : PS X (.Break pos) (tX X.K B W fun ρ => .ok (.bk, ρ)) := ps_imp ps_break fun D σ H ⟨ρ, F, R, p⟩ => p σ F H R
theorem sX_exp (ha : PE X a (tS X.K B W ra)) (hs : swapsWith a none pos.line X.env = pure false) : PS X (.Expr a pos) (tX X.K B W fun ρ => do
    let (_, ρ) ← ra ρ
    .ok (.nx, ρ)) :=
  ps_imp (ps_expr ha hs) fun D σ H ⟨ρ, F, R, p⟩ => ⟨ρ, F, R, p.step fun ⟨x, ρ1⟩ p v F1 H1 s1 R1 o1 => p σ F1 H1 R1⟩
theorem sX_ite {ta : Rho → Rs (Bool × Rho)} {r1 r2 : Rho → Rs (Fl × Rho)} (hc : PT X c (tT X.K B W ta)) (h1 : PSs X ss (tX X.K B W r1)) (h2 : PSs X ss' (tX X.K B W r2)) : PS X (.If c ss ss' pos) (tX X.K B W fun ρ => do
    let (t, ρ) ← ta ρ
    if t then r1 ρ else r2 ρ) := by
  refine ps_imp (ps_if hc h1 h2) fun D σ H ⟨ρ, F, R, p⟩ => ⟨ρ, F, R, p.step fun ⟨t, ρ1⟩ p F1 H1 s1 R1 => ?_⟩
  cases t with
  | true => exact ⟨ρ1, F1, R1, p⟩
  | false => exact ⟨ρ1, F1, R1, p⟩
/-! ### stores -/
theorem stored {K : PySem.W.Frag} {B : Bs} {ρ ρ' : Rho} {σ : L2.St} {F H : Hp} {i : Nat} {x : Opd} {v : V} (R : Rel K B ρ σ F H) (hio : ∀ i a, B.io = some (i, a) → io = some i) (o : OV K B ρ σ F H x v) (e : store io i x ρ = .ok ρ') : ∃ F', Same F F' ∧ Rel K B ρ' (σ.set i (some v)) F' H := by
  unfold store at e
  split at e
  · cases e
  · rename_i hn
    have hni : ∀ a, B.io ≠ some (i, a) := fun a z => hn (hio i a z)
    split at e
    · rename_i hl
      cases x with
      | own d =>
        cases e
        obtain ⟨a, rfl, ow, hf, hb, hs⟩ := o
        exact ⟨F, Same.refl _, R.setO hl hni ow hf hb hs⟩
      | val d =>
        cases e
        exact ⟨F, Same.refl _, R.setF hl hni o⟩
      | slot j =>
        have e : (frz io ρ (.slot j) >>= fun p => Rs.ok (p.2.set i (.f p.1))) = .ok ρ' := e
        obtain ⟨⟨d, ρ1⟩, e1, e2⟩ := of_ok e
        cases e2
        obtain ⟨F', s, R', r⟩ := freezes (x := .slot j) R hio o e1
        have hl' : i < ρ1.length := by rw [R'.len, ← R.len]; exact hl
        exact ⟨F', s, R'.setF hl' hni r⟩
    · cases e
theorem store_ex {i : Nat} {x : Opd} {ρ : Rho} {c : Nat} (e : store io i x ρ = .ex c) : False := by
  unfold store at e
  split at e
  · cases e
  · split at e
    · cases x with
      | own d => cases e
      | val d => cases e
      | slot j =>
        have e : (frz io ρ (.slot j) >>= fun p => Rs.ok (p.2.set i (.f p.1))) = .ex c := e
        cases q : frz io ρ (.slot j) with
        | ok p => rw [q] at e; cases e
        | ex c => exact frz_ex q
        | st => rw [q] at e; cases e
    · cases e
theorem Post.store {β : Type} {W : Nat → Prop} {i : Nat} {x : Opd} {ρ : Rho} {k : Rho → Rs β} {P : β → Prop} (h : Post W (store io i x ρ >>= k) P) : ∃ ρ', EV.store io i x ρ = .ok ρ' ∧ Post W (k ρ') P := by
  cases q : EV.store io i x ρ with
  | ok p => rw [q] at h; exact ⟨p, rfl, h⟩
  | ex c => exact (store_ex q).elim
  | st => rw [q] at h; exact h.elim
/-- x = e, whatever the road of the store -/
theorem sX_asg {i : Nat} {te : TE} (hio : ∀ i a, B.io = some (i, a) → io = some i) (hp : PS X st (tAsg te (gName i))) (hi : ∀ σ H Q, tE X.K B W ra σ H Q → te σ H Q) : PS X st (tX X.K B W fun ρ => do
    let (x, ρ) ← ra ρ
    let ρ ← store io i x ρ
    .ok (.nx, ρ)) := by
  refine ps_imp hp fun D σ H ⟨ρ, F, R, p⟩ => hi _ _ _ ⟨ρ, F, R, p.step fun ⟨x, ρ1⟩ p v F1 H1 s1 R1 o1 => ?_⟩
  obtain ⟨ρ2, e, p⟩ := Post.store p
  obtain ⟨F2, s2, R2⟩ := stored R1 hio o1 e
  exact p _ F2 H1 R2
/-- a, .. = e -/
theorem sX_asgT {tg : Tg} {tge : Expr} (hio : ∀ i a, B.io = some (i, a) → io = some i) (ha : PE X a (tS X.K B W ra)) (hg : PG X tge (tG X.K B (tgS tg) (bindT io tg))) (hs : swapsWithSole [tge] a pos.line X.env = pure false) (hw : swappedStores [tge] a X.env = pure none) (h1 : (assignEach [tge] X.env).map (·.2) = [assign tge X.env]) :
    PS X (.Assign [tge] a pos) (tX X.K B W fun ρ => do
    let (x, ρ) ← ra ρ
    let (d, ρ) ← frz io ρ x
    let ρ ← Rs.of (bindT io tg d ρ)
    .ok (.nx, ρ)) := by
  refine ps_imp (ps_asg ha hg hs hw h1) fun D σ H ⟨ρ, F, R, p⟩ => ⟨ρ, F, R, p.step fun ⟨x, ρ1⟩ p v F1 H1 s1 R1 o1 => ?_⟩
  obtain ⟨d, ρ2, e2, p⟩ := Post.frz p
  obtain ⟨F2, s2, R2, r2⟩ := freezes R1 hio o1 e2
  obtain ⟨ρ3, e3, p⟩ := Post.of p
  exact ⟨ρ2, F2, d, ρ3, R2, r2, e3, fun σ' R' _ _ => p σ' F2 H1 R'⟩
/-! ### several at once -/
/-- an operand that no slot holds -/
def keepO : Opd → Prop
  | .slot _ => False
  | _ => True
def apart (x : Opd) (v : V) (y : Opd) (w : V) : Prop := (∃ d, x = .own d) → (∃ d, y = .own d) → v ≠ w
theorem keep_step {K : PySem.W.Frag} {ρ : Rho} {σ : L2.St} {F H : Hp} {x : Opd} {v : V} (R : Rel K B ρ σ F H) (hx : keepO x) (o : OV K B ρ σ F H x v) : ∃ B' : Bs, B'.io = B.io ∧ Rel K B' ρ σ F H ∧ (∀ c, WE E ca B c → WE E ca B' c) ∧ ∀ ρ2 F2 H2, Same F F2 → Rel K B' ρ2 σ F2 H2 → Rel K B ρ2 σ F2 H2 ∧ OV K B ρ2 σ F2 H2 x v ∧
    ∀ y w, keepO y → OV K B' ρ2 σ F2 H2 y w → OV K B ρ2 σ F2 H2 y w ∧ apart x v y w := by
  cases x with
  | slot i => exact hx.elim
  | val d => exact ⟨B, rfl, R, fun c h => h, fun ρ2 F2 H2 s R2 => ⟨R2, Rp.mono s o, fun y w _ h => ⟨h, fun ⟨_, z⟩ => nomatch z⟩⟩⟩
  | own d =>
    obtain ⟨p, rfl, ow, hf, hb, hn⟩ := o
    obtain ⟨u, hu⟩ := ow.at
    have hio : ∀ i, B.io ≠ some (i, p) := fun i z => (R.bio i p z).2.2.1 hb
    refine ⟨B.pin p u, rfl, R.pin hu hf hb hn, fun c h H' hfr => h H' fun a o ha hi => ?_, fun ρ2 F2 H2 s R2 => ?_⟩
    · by_cases hap : a = p
      · subst hap; rw [hb] at ha; cases ha
      · exact hfr a o (by show upd B.H0 p u a = some o; rw [upd_ne hap]; exact ha) hi
    · obtain ⟨R3, h1, h2, h3⟩ := R2.unpin hb (R.b1.free hf) hio
      refine ⟨R3, ⟨p, rfl, ow.mono s (h1.trans hu.symm), h2, hb, h3⟩, fun y w hy h => ?_⟩
      cases y with
      | slot i => exact hy.elim
      | val d => exact ⟨h, fun _ ⟨_, z⟩ => nomatch z⟩
      | own d' =>
        obtain ⟨q, rfl, ow', hf', hb', hn'⟩ := h
        have hqp : q ≠ p := fun z => by
          rw [z] at hb'
          have e0 : (B.pin p u).H0 p = some u := upd_same
          rw [e0] at hb'; cases hb'
        refine ⟨⟨q, rfl, ow', hf', ?_, hn'⟩, fun _ _ z => hqp (V.ref.inj z).symm⟩
        have e1 : (B.pin p u).H0 q = B.H0 q := upd_ne hqp
        rw [← e1]; exact hb'
theorem taken {β : Type} {K : PySem.W.Frag} {ρ : Rho} {σ : L2.St} {F H : Hp} {x : Opd} {v : V} {k : Opd × Rho → Rs β} {P : β → Prop} (R : Rel K B ρ σ F H) (hio : ∀ i a, B.io = some (i, a) → io = some i) (o : OV K B ρ σ F H x v) (p : Post W (takeO io x ρ >>= k) P) :
    ∃ y ρ' F', keepO y ∧ Same F F' ∧ Rel K B ρ' σ F' H ∧ OV K B ρ' σ F' H y v ∧ Post W (k (y, ρ')) P := by
  cases x with
  | own d => exact ⟨.own d, ρ, F, trivial, Same.refl _, R, o, p⟩
  | val d => exact ⟨.val d, ρ, F, trivial, Same.refl _, R, o, p⟩
  | slot i =>
    have p : Post W ((frz io ρ (.slot i) >>= fun q => Rs.ok (Opd.val q.1, q.2)) >>= k) P := p
    cases q : frz io ρ (.slot i) with
    | ex c => exact (frz_ex q).elim
    | st => rw [q] at p; exact p.elim
    | ok z =>
      obtain ⟨d, ρ'⟩ := z
      rw [q] at p
      obtain ⟨F', s, R', r⟩ := freezes (x := .slot i) R hio o q
      exact ⟨.val d, ρ', F', trivial, s, R', r, p⟩
/-- a kept operand behind the store of another one -/
theorem ov_stored {K : PySem.W.Frag} {ρ ρ' : Rho} {σ : L2.St} {F F' H : Hp} {i : Nat} {x y : Opd} {v w : V} (R : Rel K B ρ σ F H) (hx : keepO x) (hy : keepO y) (hap : apart x v y w) (ox : OV K B ρ σ F H x v) (oy : OV K B ρ σ F H y w) (e : store io i x ρ = .ok ρ') (s : F' = F) : OV K B ρ' (σ.set i (some v)) F' H y w := by
  subst s
  cases y with
  | slot j => exact hy.elim
  | val d => exact oy
  | own d =>
    obtain ⟨q, rfl, ow, hf, hb, hn⟩ := oy
    refine ⟨q, rfl, ow, hf, hb, fun j c hj hs => ?_⟩
    unfold store at e
    split at e
    · cases e
    · split at e
      · rename_i hl
        have hσ : i < σ.length := by rw [← R.len]; exact hl
        cases x with
        | slot _ => exact hx.elim
        | own d' =>
          cases e
          by_cases hij : i = j
          · subst hij
            rw [List.getElem?_set_self hσ] at hs
            cases hs
            exact hap ⟨_, rfl⟩ ⟨_, rfl⟩ rfl
          · rw [List.getElem?_set_ne hij] at hj hs
            exact hn j c hj hs
        | val d' =>
          cases e
          by_cases hij : i = j
          · subst hij
            rw [List.getElem?_set_self hl] at hj
            cases hj
          · rw [List.getElem?_set_ne hij] at hj hs
            exact hn j c hj hs
      · cases e
theorem stored_keep {K : PySem.W.Frag} {ρ ρ' : Rho} {σ : L2.St} {F H : Hp} {i : Nat} {x : Opd} {v : V} (R : Rel K B ρ σ F H) (hio : ∀ i a, B.io = some (i, a) → io = some i) (hx : keepO x) (o : OV K B ρ σ F H x v) (e : store io i x ρ = .ok ρ') : Rel K B ρ' (σ.set i (some v)) F H := by
  unfold store at e
  split at e
  · cases e
  · rename_i hn
    have hni : ∀ a, B.io ≠ some (i, a) := fun a z => hn (hio i a z)
    split at e
    · rename_i hl
      cases x with
      | own d =>
        cases e
        obtain ⟨a, rfl, ow, hf, hb, hs⟩ := o
        exact R.setO hl hni ow hf hb hs
      | val d =>
        cases e
        exact R.setF hl hni o
      | slot j => exact hx.elim
    · cases e
theorem sX_par2 {i j : Nat} (hio : ∀ i a, B.io = some (i, a) → io = some i) (hp : PS X st (tPar i j (tCons (tE X.K B (WE E ca B) ra) (fun σ H Q => ∃ B', B'.io = B.io ∧ tCons (tE X.K B' (WE E ca B') rb) tNil σ H Q)))) : PS X st (tX X.K B (WE E ca B) fun ρ => do
    let (x, ρ) ← ra ρ
    let (x, ρ) ← takeO io x ρ
    let (y, ρ) ← rb ρ
    let (y, ρ) ← takeO io y ρ
    let ρ ← store io i x ρ
    let ρ ← store io j y ρ
    .ok (.nx, ρ)) := by
  refine ps_imp hp fun D σ H ⟨ρ, F, R, p⟩ => ⟨ρ, F, R, p.step fun ⟨x, ρ1⟩ p v F1 H1 s1 R1 o1 => ?_⟩
  obtain ⟨x', ρ2, F2, k2, s2, R2, o2, p⟩ := taken R1 hio o1 p
  obtain ⟨B', hB, R2', hW, back⟩ := keep_step (E := E) (ca := ca) R2 k2 o2
  refine ⟨B', hB, ρ2, F2, R2', ?_⟩
  have p := Post.bind p
  cases q : rb ρ2 with
  | st => rw [q] at p; exact p.elim
  | ex c => rw [q] at p; exact hW c p
  | ok z =>
    obtain ⟨y, ρ3⟩ := z
    rw [q] at p
    intro w F3 H3 s3 R3 o3
    obtain ⟨y', ρ4, F4, k4, s4, R4, o4, p⟩ := taken (W := WE E ca B) R3 (fun i a z => hio i a (hB ▸ z)) o3 p
    obtain ⟨R5, ox, bk⟩ := back ρ4 F4 H3 (s3.trans s4) R4
    obtain ⟨oy, ap⟩ := bk y' w k4 o4
    obtain ⟨ρ5, e5, p⟩ := Post.store p
    obtain ⟨ρ6, e6, p⟩ := Post.store p
    have R6 := stored_keep R5 hio k2 ox e5
    have oy' := ov_stored R5 k2 k4 ap ox oy e5 rfl
    exact ⟨v, w, rfl, p _ F4 H3 (stored_keep R6 hio k4 oy' e6)⟩
theorem sX_par3 {i j l : Nat} (hio : ∀ i a, B.io = some (i, a) → io = some i) (hp : PS X st (tPar3 i j l (tCons (tE X.K B (WE E ca B) ra) (fun σ H Q => ∃ B', B'.io = B.io ∧ tCons (tE X.K B' (WE E ca B') rb) (fun σ H Q => ∃ B', B'.io = B.io ∧ tCons (tE X.K B' (WE E ca B') rc) tNil σ H Q) σ H Q)))) : PS X st (tX X.K B (WE E ca B) fun ρ => do
    let (x, ρ) ← ra ρ
    let (x, ρ) ← takeO io x ρ
    let (y, ρ) ← rb ρ
    let (y, ρ) ← takeO io y ρ
    let (z, ρ) ← rc ρ
    let (z, ρ) ← takeO io z ρ
    let ρ ← store io i x ρ
    let ρ ← store io j y ρ
    let ρ ← store io l z ρ
    .ok (.nx, ρ)) := by
  refine ps_imp hp fun D σ H ⟨ρ, F, R, p⟩ => ⟨ρ, F, R, p.step fun ⟨x, ρ1⟩ p v F1 H1 s1 R1 o1 => ?_⟩
  obtain ⟨x', ρ2, F2, k2, s2, R2, o2, p⟩ := taken R1 hio o1 p
  obtain ⟨B', hB, R2', hW, back⟩ := keep_step (E := E) (ca := ca) R2 k2 o2
  refine ⟨B', hB, ρ2, F2, R2', ?_⟩
  have p := Post.bind p
  cases q : rb ρ2 with
  | st => rw [q] at p; exact p.elim
  | ex c => rw [q] at p; exact hW c p
  | ok z =>
    obtain ⟨y, ρ3⟩ := z
    rw [q] at p
    intro w F3 H3 s3 R3 o3
    have hio' : ∀ i a, B'.io = some (i, a) → io = some i := fun i a z => hio i a (hB ▸ z)
    obtain ⟨y', ρ4, F4, k4, s4, R4, o4, p⟩ := taken (W := WE E ca B) R3 hio' o3 p
    obtain ⟨B'', hB', R4', hW', back'⟩ := keep_step (E := E) (ca := ca) R4 k4 o4
    refine ⟨B'', hB'.trans hB, ρ4, F4, R4', ?_⟩
    have p := Post.bind p
    cases q : rc ρ4 with
    | st => rw [q] at p; exact p.elim
    | ex c => rw [q] at p; exact hW' c (hW c p)
    | ok z =>
      obtain ⟨z, ρ5⟩ := z
      rw [q] at p
      intro u F5 H5 s5 R5 o5
      obtain ⟨z', ρ6, F6, k6, s6, R6, o6, p⟩ := taken (W := WE E ca B) R5 (fun i a z => hio' i a (hB' ▸ z)) o5 p
      obtain ⟨R7, oy, bk'⟩ := back' ρ6 F6 H5 (s5.trans s6) R6
      obtain ⟨oz, apyz⟩ := bk' z' u k6 o6
      obtain ⟨R8, ox, bk⟩ := back ρ6 F6 H5 (s3.trans (s4.trans (s5.trans s6))) R7
      obtain ⟨oy, apxy⟩ := bk y' w k4 oy
      obtain ⟨oz, apxz⟩ := bk z' u k6 oz
      obtain ⟨ρ7, e7, p⟩ := Post.store p
      obtain ⟨ρ8, e8, p⟩ := Post.store p
      obtain ⟨ρ9, e9, p⟩ := Post.store p
      have Ra := stored_keep R8 hio k2 ox e7
      have oya := ov_stored R8 k2 k4 apxy ox oy e7 rfl
      have oza := ov_stored R8 k2 k6 apxz ox oz e7 rfl
      have Rb := stored_keep Ra hio k4 oya e8
      have ozb := ov_stored Ra k4 k6 apyz oya oza e8 rfl
      exact ⟨v, w, u, rfl, p _ F6 H5 (stored_keep Rb hio k6 ozb e9)⟩
end
end EV
end

section
/-! EvK -/
set_option Elab.async false
set_option linter.all false
set_option maxRecDepth 100000
set_option maxHeartbeats 1000000
/-! EvK: stores into lists, loops, raise. -/
namespace EV
open PySem PySem.Spec L2

theorem pa_ex {X : Cx} {es : List Expr} {P : Bs → Prop} {t : Bs → TA} (h : ∀ B', P B' → PA X es (t B')) : PA X es (fun σ H Q => ∃ B', P B' ∧ t B' σ H Q) := ⟨fun pos pins s σ H Q I ⟨B', hB, q⟩ => (h B' hB).run pos pins s σ H Q I q⟩
section
variable {B : Bs} {W : Nat → Prop} {X : Cx} {a b c d e : Expr} {st : Stmt} {ss ss' : List Stmt} {pos : Pos} {ra rb rc rd : Rho → Rs (Opd × Rho)} {io : Option Nat} {E : XK} {ca : Nat → Addr}
theorem sX_app {x : Str} {i : Nat} {apos cpos p2 : Pos} (hio : ∀ i a, B.io = some (i, a) → io = some i) (hN : X.N[i]? = some x) (hv : Vis X.env.scope x) (hd : (x == ("__debug__" : Str)) = false) (hcd : (x == ("__classdict__" : Str)) = false) (ha : PE X a (tS X.K B W ra)) (hline : (apos.endLine == cpos.line) = true)
    (hs : starEach [a] X.env = (false, eval a X.env) :: starEach [] X.env) (hfew : ((backTo cpos (starEach [a] X.env)).all (fun x => !x.1) && (backToKw cpos (keywordEach [] X.env)).all (fun x => x.1.isSome) && decide ([a].length + ([] : List Keyword).length + (if ([] : List Keyword).isEmpty then 0 else 1) < 30)) = true) :
    PS X (.Expr (.Call (.Attribute (.Name x p2) "append" apos) [a] [] cpos) pos) (tX X.K B W fun ρ => do
    let d0 ← Rs.of (look ρ (.slot i))
    if isi .list d0 then do
      let (x, ρ) ← ra ρ
      let (d, ρ) ← frz io ρ x
      match ρ[i]? with
      | some (.o (.list ds)) => if ds.length < sizeLine then .ok (.nx, ρ.set i (.o (.list (ds ++ [d])))) else .st
      | _ => .st
    else .st) := by
  refine ps_imp (ps_expr (pe_bm PySem.F.plainAttrs_list PySem.F.slot_list_append PySem.F.type_list_append mt_append (pe_var hN hv hd hcd) (pa_cons ha pa_nil hs) rfl hfew hline hs (by rfl))) fun D σ H ⟨ρ, F, R, p⟩ => ?_
  obtain ⟨d0, e0, p⟩ := Post.of p
  have hv : ∃ w, σ[i]? = some (some w) ∧ SV X.K σ F (.slot i) w := by
    simp only [look] at e0
    split at e0
    · rename_i c hc
      obtain ⟨u, e1, _⟩ := R.f i _ hc
      exact ⟨u, e1, e1⟩
    · rename_i c hc
      obtain ⟨a, e1, _⟩ := R.o i _ hc
      exact ⟨_, e1, e1⟩
    · cases e0
  obtain ⟨w, hw, sw⟩ := hv
  cases d0 with
  | list l0 =>
    obtain ⟨q, ys, rfl, rq, _⟩ := (view R sw e0).list R.sub
    refine ⟨.ref q, hw, .inl ⟨rfl, ys, rq⟩, ρ, F, R, Post.step (show Post W (ra ρ >>= _) _ from p) fun ⟨x, ρ1⟩ p v F1 H1 s1 R1 v1 => ?_⟩
    obtain ⟨d, ρ2, e2, p⟩ := Post.frz p
    obtain ⟨F2, s2, R2, r2⟩ := freezes R1 hio v1 e2
    have p : Post W (match ρ2[i]? with
      | some (.o (.list ds)) => if ds.length < sizeLine then Rs.ok (Fl.nx, ρ2.set i (.o (.list (ds ++ [d])))) else Rs.st
      | _ => Rs.st) _ := p
    split at p
    · rename_i ds hds
      split at p
      · rename_i hz
        obtain ⟨a, e1, ow, hf, hb⟩ := R2.o i _ hds
        rw [hw] at e1; cases e1
        cases ow with
        | @lst xs _ ho hr =>
          refine ⟨_, xs, v, rfl, rfl, ho, by rw [hr.len]; exact hz, ?_⟩
          exact p σ F2 _ (R2.write hds hw (.lst upd_same (hr.append (.cons r2 .nil))))
      · exact p.elim
    · exact p.elim
  | _ => exact (show False from p).elim
theorem sX_aug {x : Str} {i : Nat} {p2 : Pos} {o : Bop} (hio : ∀ i a, B.io = some (i, a) → io = some i) (hN : X.N.Nodup) (hi : X.N[i]? = some x) (hx : Loc X.env.scope x) (hf : X.fn x = true ∨ X.env.scope.names.lookup x = some .local) (ha : PE X a (tS X.K B W ra))
    (ho : PIp X (bopOf o) (fun x y H Q => ∃ i j r, x = .int i ∧ y = .int j ∧ binop o (.int i) (.int j) = some (.val (.int r)) ∧ Q (.int r) H)) : PS X (.AugAssign (.Name x p2) (bopOf o) a pos) (tX X.K B W fun ρ => do
    let dx ← Rs.of (look ρ (.slot i))
    let (y, ρ) ← ra ρ
    let dy ← Rs.of (look ρ y)
    match dx, dy with
    | .int a, .int b => do
      let r ← Rs.of (binop o (.int a) (.int b))
      let ρ ← store io i r ρ
      .ok (.nx, ρ)
    | _, _ => .st) := by
  refine ps_imp (ps_aug hN hi hx ha ho hf) fun D σ H ⟨ρ, F, R, p⟩ => ?_
  obtain ⟨dx, e0, p⟩ := Post.of p
  have hv : ∃ w, σ[i]? = some (some w) ∧ SV X.K σ F (.slot i) w := by
    simp only [look] at e0
    split at e0
    · rename_i c hc
      obtain ⟨u, e1, _⟩ := R.f i _ hc
      exact ⟨u, e1, e1⟩
    · rename_i c hc
      obtain ⟨a, e1, _⟩ := R.o i _ hc
      exact ⟨_, e1, e1⟩
    · cases e0
  obtain ⟨w, hw, sw⟩ := hv
  refine ⟨w, hw, ρ, F, R, Post.step (show Post W (ra ρ >>= _) _ from p) fun ⟨y, ρ1⟩ p v F1 H1 s1 R1 v1 => ?_⟩
  obtain ⟨dy, e1, p⟩ := Post.of p
  cases dx with
  | int m =>
    cases (view R sw e0).int
    cases dy with
    | int n =>
      cases (view R1 v1 e1).int
      obtain ⟨r, e2, p⟩ := Post.of (show Post W (Rs.of (binop o (.int m) (.int n)) >>= _) _ from p)
      have hr : ∃ k, r = .val (.int k) := by
        cases o <;> simp only [binop] at e2
        · exact ⟨_, (Option.some.inj e2).symm⟩
        · exact ⟨_, (Option.some.inj e2).symm⟩
        · split at e2
          · exact ⟨_, (Option.some.inj e2).symm⟩
          · cases e2
        · split at e2
          · exact ⟨_, (Option.some.inj e2).symm⟩
          · cases e2
        · split at e2
          · exact ⟨_, (Option.some.inj e2).symm⟩
          · cases e2
        · split at e2
          · exact ⟨_, (Option.some.inj e2).symm⟩
          · cases e2
      obtain ⟨k, rfl⟩ := hr
      obtain ⟨ρ2, e3, p⟩ := Post.store p
      obtain ⟨F2, s2, R2⟩ := stored (x := .val (.int k)) (v := .int k) R1 hio (Rp.int k) e3
      exact ⟨m, n, k, rfl, rfl, e2, p _ F2 H1 R2⟩
    | _ => exact (show False from p).elim
  | _ => exact (show False from (by cases dy <;> exact p)).elim
theorem pip_add : PIp X (bopOf .add) (fun x y H Q => ∃ i j r, x = .int i ∧ y = .int j ∧ binop .add (.int i) (.int j) = some (.val (.int r)) ∧ Q (.int r) H) := by
  intro pins s σ H x y v u Q I rx ry ⟨i, j, r, ex, ey, e, q⟩
  cases e
  exact iop_add pins s σ H x y v u Q I rx ry ⟨i, j, ex, ey, q⟩
theorem pip_sub : PIp X (bopOf .sub) (fun x y H Q => ∃ i j r, x = .int i ∧ y = .int j ∧ binop .sub (.int i) (.int j) = some (.val (.int r)) ∧ Q (.int r) H) := by
  intro pins s σ H x y v u Q I rx ry ⟨i, j, r, ex, ey, e, q⟩
  cases e
  exact iop_sub pins s σ H x y v u Q I rx ry ⟨i, j, ex, ey, q⟩
/-- the base that freezes what is frozen now -/
def Bs.at (B : Bs) (F : Hp) : Bs := ⟨F, B.H0, B.io⟩
theorem Rel.at {K : PySem.W.Frag} {ρ : Rho} {σ : L2.St} {F H : Hp} (R : Rel K B ρ σ F H) : Rel K (B.at F) ρ σ F H :=
  ⟨R.len, R.sub, R.f, R.o, R.dj, Same.refl _, R.b2, fun a _ h => h, fun i a h => ⟨(R.bio i a h).1, (R.bio i a h).2.1, (R.bio i a h).2.2.1, R.b3 a (R.bio i a h).2.2.1 (R.bio i a h).2.2.2⟩⟩
theorem Rel.unat {K : PySem.W.Frag} {ρ ρ1 : Rho} {σ σ1 : L2.St} {F F1 H H1 : Hp} (R1 : Rel K B ρ1 σ1 F1 H1) (R : Rel K (B.at F1) ρ σ F H) : Same F1 F ∧ Rel K B ρ σ F H :=
  ⟨R.b1, R.len, R.sub, R.f, R.o, R.dj, R1.b1.trans R.b1, R.b2, fun a h1 h2 => R.b3 a h1 (R1.b3 a h1 h2), fun i a h => ⟨(R.bio i a h).1, (R.bio i a h).2.1, (R.bio i a h).2.2.1, (R1.bio i a h).2.2.2⟩⟩
theorem forLoop_cons {f : D → Rho → Rs (Fl × Rho)} {d : D} {ds : List D} {ρ : Rho} : forLoop f (d :: ds) ρ = (f d ρ >>= fun p => match p.1 with
    | .nx => forLoop f ds p.2
    | .ct => forLoop f ds p.2
    | .bk => .ok (.nx, p.2)
    | .rt o => .ok (.rt o, p.2)) := by
  simp only [forLoop]
  try congr 1
theorem sX_for {tg : Expr} {iter : Expr} {t : Tg} {ri : Rho → Rs (List D × Rho)} {rb : Rho → Rs (Fl × Rho)} (po : PassesOwn (model X.prog X.w) X.A X.env X.xe) (hc : X.calm = true) (hi : PI X tg iter (tI X.K B (WE E ca B) ri)) {g : TG} {tb : TS} (hg : PG X tg g) (hb : PSs X ss tb)
    (hg' : ∀ B', B'.io = B.io → ∀ v σ H Q, tG X.K B' (tgS t) (bindT io t) v σ H Q → g v σ H Q) (hb' : ∀ B', B'.io = B.io → ∀ D σ H, tX X.K B' (WE E ca B') rb D σ H → tb D σ H)
    (hs : ∀ x, foldedSetIterable iter X.env x = pure x) : PS X (.For tg iter ss [] pos) (tX X.K B (WE E ca B) fun ρ => do
    let (ds, ρ) ← ri ρ
    forLoop (fun d ρ => do
      let ρ ← Rs.of (bindT io t d ρ)
      rb ρ) ds ρ) := by
  refine ps_imp (ps_for po hc hi hg hb hs) fun D σ H ⟨ρ, F, R, p⟩ => ⟨ρ, F, R, p.step fun ⟨ds, ρ1⟩ p J F1 H1 s1 R1 itOk => ?_⟩
  have p : Post (WE E ca B) (forLoop (fun d ρ => Rs.of (bindT io t d ρ) >>= rb) ds ρ1) fun q => FlOk X.K B D q.1 q.2 := p
  refine ⟨fun i m σ H => m = ds.length - i ∧ i ≤ ds.length ∧ ∃ ρ F, Same F1 F ∧ Rel X.K B ρ σ F H ∧ Post (WE E ca B) (forLoop (fun d ρ => Rs.of (bindT io t d ρ) >>= rb) (ds.drop i) ρ) fun q => FlOk X.K B D q.1 q.2, ⟨ds.length, by simp, Nat.zero_le _, ρ1, F1, Same.refl _, R1, by simpa using p⟩, ?_⟩
  rintro i m σ2 H2 ⟨rfl, hi, ρ2, F2, s2, R2, p2⟩
  by_cases hlt : i < ds.length
  · right
    refine ⟨itOk.go i s2 R2 hlt, fun σ H => ∃ ρ F, Same F1 F ∧ Rel X.K B ρ σ F H ∧ Post (WE E ca B) (forLoop (fun d ρ => Rs.of (bindT io t d ρ) >>= rb) (ds.drop (i + 1)) ρ) fun q => FlOk X.K B D q.1 q.2, fun σ' H' hN => ⟨ds.length - (i + 1), by omega, rfl, hlt, hN⟩, fun x H3 hy => ?_⟩
    have hd : ds[i]? = some ds[i] := List.getElem?_eq_getElem hlt
    obtain ⟨F3, s3, R3, rx⟩ := itOk.yld i x _ s2 R2 hd hy
    rw [List.drop_eq_getElem_cons hlt, forLoop_cons] at p2
    have p2 := Post.bind p2
    cases q : bindT io t ds[i] ρ2 with
    | none =>
      have z : Post (WE E ca B) (Rs.of (bindT io t ds[i] ρ2) >>= rb) _ := p2
      rw [q] at z
      exact z.elim
    | some ρ4 =>
      have z : Post (WE E ca B) (Rs.of (bindT io t ds[i] ρ2) >>= rb) _ := p2
      rw [q] at z
      have z : Post (WE E ca B) (rb ρ4) _ := z
      refine hg' (B.at F3) rfl _ _ _ _ ⟨ρ2, F3, ds[i], ρ4, R3.at, rx, q, fun σ4 R4 _ _ => hb' (B.at F3) rfl _ _ _ ⟨ρ4, F3, R4, ?_⟩⟩
      refine Post.mono (show Post (WE E ca (B.at F3)) (rb ρ4) _ from z) fun ⟨fl, ρ5⟩ hq => ?_
      cases fl with
      | nx =>
        intro σ5 F5 H5 R5
        obtain ⟨s5, R5'⟩ := Rel.unat R3 R5
        exact ⟨ρ5, F5, s2.trans (s3.trans s5), R5', hq⟩
      | ct =>
        intro σ5 F5 H5 R5
        obtain ⟨s5, R5'⟩ := Rel.unat R3 R5
        exact ⟨ρ5, F5, s2.trans (s3.trans s5), R5', hq⟩
      | bk =>
        intro σ5 F5 H5 R5
        exact hq σ5 F5 H5 (Rel.unat R3 R5).2
      | rt o =>
        intro σ5 v F5 H5 R5 ov
        refine hq σ5 v F5 H5 (Rel.unat R3 R5).2 ?_
        cases o with
        | val d => exact ov
        | slot j => exact ov
        | own d => exact ov
  · left
    have e : i = ds.length := by omega
    subst e
    rw [List.drop_length] at p2
    exact ⟨itOk.stop _ s2 R2 (Nat.le_refl _), p2 σ2 F2 H2 R2⟩
theorem whl_succ {c : Rho → Rs (Bool × Rho)} {f : Rho → Rs (Fl × Rho)} {n : Nat} {ρ : Rho} : whlLoop c f (n + 1) ρ = (c ρ >>= fun p => if p.1 then (f p.2 >>= fun q => match q.1 with
      | .nx => whlLoop c f n q.2
      | .ct => whlLoop c f n q.2
      | .bk => .ok (.nx, q.2)
      | .rt o => .ok (.rt o, q.2)) else .ok (.nx, p.2)) := by
  simp only [whlLoop]
  try congr 1
theorem sX_whl {n : Nat} {rc : Rho → Rs (Bool × Rho)} {rb : Rho → Rs (Fl × Rho)} {tc : TT} {tb : TS} (po : PassesOwn (model X.prog X.w) X.A X.env X.xe) (hc : PT X c tc) (hb : PSs X ss tb)
    (hc' : ∀ σ H Q, tT X.K B (WE E ca B) rc σ H Q → tc σ H Q) (hb' : ∀ D σ H, tX X.K B (WE E ca B) rb D σ H → tb D σ H) : PS X (.While c ss [] pos) (tX X.K B (WE E ca B) fun ρ => whlLoop rc rb n ρ) := by
  refine ps_imp (ps_while po hc hb) fun D σ H ⟨ρ, F, R, p⟩ => ?_
  refine ⟨fun m σ H => ∃ ρ F, Rel X.K B ρ σ F H ∧ Post (WE E ca B) (whlLoop rc rb m ρ) fun q => FlOk X.K B D q.1 q.2, ⟨n, ρ, F, R, p⟩, ?_⟩
  rintro m σ1 H1 ⟨ρ1, F1, R1, p1⟩
  cases m with
  | zero => exact (show False from p1).elim
  | succ m =>
    rw [whl_succ] at p1
    refine hc' _ _ _ ⟨ρ1, F1, R1, Post.step p1 fun ⟨t, ρ2⟩ p2 F2 H2 s2 R2 => ?_⟩
    cases t with
    | false => exact p2 σ1 F2 H2 R2
    | true =>
      refine ⟨fun σ H => ∃ ρ F, Rel X.K B ρ σ F H ∧ Post (WE E ca B) (whlLoop rc rb m ρ) fun q => FlOk X.K B D q.1 q.2, fun σ' H' hN => ⟨m, Nat.lt_succ_self _, hN⟩, hb' _ _ _ ⟨ρ2, F2, R2, Post.step (show Post _ (rb ρ2 >>= _) _ from p2) fun ⟨fl, ρ3⟩ hq => ?_⟩⟩
      cases fl with
      | nx => exact fun σ5 F5 H5 R5 => ⟨ρ3, F5, R5, hq⟩
      | ct => exact fun σ5 F5 H5 R5 => ⟨ρ3, F5, R5, hq⟩
      | bk => exact hq
      | rt o => exact hq
end
end EV
end

section
/-! EvR -/
set_option Elab.async false
set_option linter.all false
set_option maxRecDepth 100000
set_option maxHeartbeats 1000000
/-! EvR: list(reversed(x)). -/
namespace RT
open PySem PySem.Spec PyProof.Rows
section
variable {prog : Program} {w : World} {A : Around} {E : Value → Shared → Prop} {s : Shared}
theorem call_list_rev {it l : Addr} {items : Array Value} {Q : Value → Shared → Prop} (hh : A.handled = none) (hit : s.heap.IsRevIter it l ((items.size : Int) - 1)) (hl : s.heap.IsList l items) (hne : l ≠ it) (hn : items.size ≤ sizeLine)
    (hQ : ∀ (h' : Heap) (tk : Nat) (acc : Array Value) (c : Nat), (∀ b o, b ≠ it → s.heap.get? b = some o → h'.get? b = some o) → h'.get? s.heap.objs.size = some { cls := .type "list", dict := none, data := .seq acc c, slots := #[] } →
      ItemsOf (fun i v => items[items.size - 1 - i]? = some v) acc items.size → Q (.ref s.heap.objs.size) { s with heap := h', toks := tk }) :
    wpAny (model prog w) A (call (.type "list") [.ref it]) Q E s := by
  have W := (Walks.listRev (prog := prog) (w := w) (A := A.in1.in1) hh it l hne items).toS
  obtain ⟨oi, hoi, _⟩ := id hit
  obtain ⟨ol, hol, _⟩ := id hl
  have hSi : s.heap.objs.size ≠ it := Nat.ne_of_gt (Heap.lt_size hoi)
  have hSl : s.heap.objs.size ≠ l := Nat.ne_of_gt (Heap.lt_size hol)
  have hSf : s.heap.objs.size ∉ [it, l] := by simp only [List.mem_cons, List.not_mem_nil, or_false, not_or]; exact ⟨hSi, hSl⟩
  refine callType_codes (Q₁ := fun obj s₁ => obj = .ref s.heap.objs.size ∧ s₁ = { s with heap := s.heap.push { cls := .type "list", data := .seq #[] } }) F.called_list (F.typeCall_list_1 _) F.entry_list_init
    (code_list_new _ ⟨rfl, rfl⟩) fun obj s₁ h₁ => ?_
  obtain ⟨rfl, rfl⟩ := h₁
  have hS : (s.heap.push { cls := .type "list", data := .seq #[] }).get? s.heap.objs.size = some { cls := .type "list", data := .seq #[] } := Heap.get?_push_size _ rfl
  refine ⟨⟨_, hS, rfl⟩, F.args_list_init_2 _ _, ?_⟩
  show wpAny _ A.in1.in1 (do let old ← Builtin.List.listItems (.ref s.heap.objs.size); Builtin.List.listUpdate (.ref s.heap.objs.size) (fun _ => #[]); letGo old.toList.reverse; Builtin.List.listExtendWith (.ref s.heap.objs.size) (.ref it) .none) _ _ _
  refine wpAny_bind ?_
  unfold Builtin.List.listItems
  refine wpAny_bind (wpAny_seqItems hS rfl (wpAny_pure ?_))
  show wpAny _ A.in1.in1 (updateSeq s.heap.objs.size (fun _ => #[]) >>= fun _ => letGo (#[] : Array Value).toList.reverse >>= fun _ => Builtin.List.listExtendWith (.ref s.heap.objs.size) (.ref it) .none) _ _ _
  refine wpAny_bind (wpAny_updateSeq hS rfl ?_)
  have hS₂ := Heap.get?_update_self (Obj.mapSeq (fun _ => (#[] : Array Value))) hS rfl
  have oth : ∀ b o, b ≠ s.heap.objs.size → (s.heap.push { cls := .type "list", data := .seq #[] }).get? b = some o → ((s.heap.push { cls := .type "list", data := .seq #[] }).update s.heap.objs.size (Obj.mapSeq (fun _ => (#[] : Array Value)))).get? b = some o :=
    fun b o hb e => (Heap.get?_update_other _ _ (Ne.symm hb)).trans e
  refine wpAny_bind (wpAny_letGo ?_)
  generalize hG : (s.heap.push { cls := .type "list", data := .seq #[] }).update s.heap.objs.size (Obj.mapSeq (fun _ => (#[] : Array Value))) = G at hS₂ oth
  have hit1 : G.IsRevIter it l ((items.size : Int) - 1) := hit.at fun o e => oth _ _ (Ne.symm hSi) (Heap.get?_push_of_some _ e)
  have hl1 : G.IsList l items := by
    obtain ⟨o, h1, h2⟩ := hl
    exact ⟨o, oth _ _ (Ne.symm hSl) (Heap.get?_push_of_some _ h1), h2⟩
  have hT : ({ s with heap := G } : Shared).TypeIs (.ref it) "list_reverseiterator" := Heap.IsRevIter.typeIs (s := { s with heap := G }) hit1
  have h1 : Builtin.List.listSameRef (.ref s.heap.objs.size) (.ref it) = false := by simp [Builtin.List.listSameRef, hSi]
  unfold Builtin.List.listExtendWith
  refine wpAny_bind (wpAny_typeOf hT ?_)
  rw [if_neg (by rw [h1]; decide)]
  refine wpAny_bind (wpAny_pyIter_revIter (s := { s with heap := G }) hit1 ?_)
  refine wpAny_bind (wpAny_holding ?_)
  unfold Builtin.List.listLengthHint
  refine wpAny_bind (wpAny_specialOf hT nolen_lri ?_)
  show wpAny _ A.in1.in1 (specialOf (Value.ref it) (Str.ofString "__length_hint__") >>= _) _ _ _
  refine wpAny_bind (wpAny_specialOf hT hint_lri ?_)
  generalize hid : ("list_reverseiterator.__length_hint__" : String) = id0
  wp_delta
  rw [show splitId id0 = some ("list_reverseiterator", "__length_hint__") from by subst hid; decide +kernel]
  subst hid
  refine wpAny_bind (wpAny_isInstance (b := true) hT (by rw [isSubtype_type]; kernel_rfl) ?_)
  refine wpAny_pure ?_
  rw [if_neg (by decide)]
  have e0 : ((items.size : Nat) : Int) - 1 - ((0 : Nat) : Int) = (items.size : Int) - 1 := by omega
  refine wpAny_pure ⟨plainId_quiet F.plain_extend_loop _, codeAny_extend_loopS W hn _ hSf _ items.size 0 _ _ _ rfl (Nat.zero_le _) ⟨Nat.zero_le _, by rw [e0]; exact hit1, hl1⟩ hS₂ (ItemsOf.nil _) fun s' acc' c' hm hS' hacc => ?_⟩
  refine ⟨rfl, ?_⟩
  rw [Moved.eq_with hm]
  refine hQ s'.heap s'.toks acc' c' (fun b o hb e => hm.heap b o (fun hmem => ?_) (oth b o (Nat.ne_of_lt (Heap.lt_size e)) (Heap.get?_push_of_some _ e))) hS' hacc
  rcases List.mem_cons.mp hmem with e' | hmem
  · exact absurd (Heap.lt_size e) (by rw [e']; exact Nat.lt_irrefl _)
  · exact hb (List.mem_singleton.mp hmem)
end
end RT
namespace L2
open PySem PySem.Spec PyProof.Rows RT
def tLstRev (K : PySem.W.Frag) (te : TE) : TE := fun σ H Q => te σ H fun v H1 => ∃ (a : Addr) (xs : List V), v = .ref a ∧ SqL K H1 a xs ∧ ∀ q, H1 q = none → Q (.ref q) (upd H1 q (.lst xs.reverse))
section
variable {X : Cx}
theorem pe_lstRev {e : Expr} {te : TE} {p p2 pos pos2 : Pos} (hc : X.calm = true) (hg : Gl X "list") (hm : X.mg "list" = none) (hg2 : Gl X "reversed") (hm2 : X.mg "reversed" = none) (he : PE X e te)
    (hs : starEach [e] X.env = (false, eval e X.env) :: starEach [] X.env)
    (hs2 : starEach [.Call (.Name "reversed" p2) [e] [] pos2] X.env = (false, eval (.Call (.Name "reversed" p2) [e] [] pos2) X.env) :: starEach [] X.env := by rfl) :
    PE X (.Call (.Name "list" p) [.Call (.Name "reversed" p2) [e] [] pos2] [] pos) (tLstRev X.K te) := by
  refine ⟨fun pins s σ H Q I h => ?_⟩
  refine Call_ (ld_blt I hg hm PyProof.Rows.boot_list (PyProof.Rows.callWith_type1 (args_cons (Call_ (ld_blt I hg2 hm2 PyProof.Rows.boot_reversed (PyProof.Rows.callWith_type1 (args_cons (thn (he.run pins s σ H _ I h) fun u s1 ⟨v, H1, I1, r1, q1⟩ => args_nil ?_) hs) hs rfl))) hs2) hs2 rfl))
  obtain ⟨a, xs, ev, hq, q⟩ := q1
  subst ev
  obtain rfl : u = Value.ref a := r1
  obtain ⟨its, rv, p', hz⟩ := I1.list hq
  refine call_reversed_list p'.isList (args_nil ?_)
  have k0 : ∀ b o, s1.heap.get? b = some o → (s1.heap.push (revObj a ((its.toArray.size : Int) - 1))).get? b = some o := fun b o e => Heap.get?_push_of_some _ e
  have I2 : Inv X pins σ H1 { s1 with heap := s1.heap.push (revObj a ((its.toArray.size : Int) - 1)) } := I1.kept (t' := s1.toks) k0
  obtain ⟨f0, f1, f2, f3, f4, f5⟩ := I1.fpOk (H' := H1) (b := s1.heap.objs.size) (Nat.le_refl _) (I1.hok.fresh (Nat.le_refl _))
  have hl := p'.isList
  obtain ⟨ol, hol, _⟩ := id hl
  have hne : a ≠ s1.heap.objs.size := Nat.ne_of_lt (Heap.lt_size hol)
  have hn : its.toArray.size ≤ sizeLine := by rw [List.size_toArray, ← rv.length]; exact hz
  have hsz : (s1.heap.push (revObj a ((its.toArray.size : Int) - 1))).objs.size = s1.heap.objs.size + 1 := Heap.size_push _ _
  refine call_list_rev (s := { s1 with heap := s1.heap.push (revObj a ((its.toArray.size : Int) - 1)) }) (I1.ok.hd hc) ⟨_, Heap.get?_push_size _ rfl, rfl, rfl⟩ (hl.push _) hne hn fun h' tk acc c hk hS hi => ?_
  have hlr := rv.length
  have J := I1.turnedNew (t' := tk) (h' := h') (ch := [s1.heap.objs.size]) (T := (s1.heap.push (revObj a ((its.toArray.size : Int) - 1))).objs.size) (ob := .lst xs.reverse) (fun b o hb e => hk b o (fun z => hb (by simp [z])) (k0 b o e))
    (fun b hb => by rw [List.mem_singleton.mp hb]; exact I1.fpOk (Nat.le_refl _) I1.fresh) (by rw [hsz]; exact Nat.le_succ _)
    (show ObjOk X.prog X.w _ _ _ (.lst xs.reverse) from ⟨by rw [List.length_reverse]; exact hz, acc.toList, c, vals_rev rv hi, by rw [Array.toArray_toList]; exact hS⟩)
  exact ⟨.ref _, _, J, rfl, q _ (I1.hok.fresh (by rw [hsz]; exact Nat.le_succ _))⟩
end
end L2

namespace EV
open PySem PySem.Spec L2
open PyProof.Rows (ite_ff ite_tt)
section
variable {B : Bs} {W : Nat → Prop} {X : Cx} {a b c d e : Expr} {pos : Pos} {ra rb rc rd : Rho → Rs (Opd × Rho)}
/-- list(reversed(e)) -/
theorem sE_lrev {p p2 pos pos2 : Pos} (hc : X.calm = true) (hg : Gl X "list") (hm : X.mg "list" = none) (hg2 : Gl X "reversed") (hm2 : X.mg "reversed" = none) (ha : PE X e (tS X.K B W ra)) (hs : starEach [e] X.env = (false, eval e X.env) :: starEach [] X.env) :
    PE X (.Call (.Name "list" p) [.Call (.Name "reversed" p2) [e] [] pos2] [] pos) (tE X.K B W fun ρ => do
    let (x, ρ) ← ra ρ
    let d ← Rs.of (look ρ x)
    let r ← Rs.of (bRev [d])
    .ok (r, ρ)) := by
  refine pe_imp (pe_lstRev hc hg hm hg2 hm2 ha hs) fun σ H Q ⟨ρ, F, R, p⟩ => ⟨ρ, F, R, p.step fun ⟨x, ρ1⟩ p v F1 H1 s1 R1 v1 => ?_⟩
  obtain ⟨d, e1, p⟩ := Post.of p
  obtain ⟨r, e2, p⟩ := Post.of p
  cases d with
  | list l =>
    obtain ⟨q, ys, rfl, rq, pq⟩ := (view R1 v1 e1).list R1.sub
    cases e2
    refine ⟨q, ys, rfl, rq, fun z hz => ?_⟩
    obtain ⟨s2, R2, o2⟩ := R1.newR (r := .own (.list l.reverse)) (.own hz (.lst upd_same pq.reverse))
    exact p _ _ _ (s1.trans s2) R2 o2
  | _ => cases e2
/-- a op b op2 c op3 d -/
def tChain3 (r r' r'' : R2) (ta tb tc td : TE) : TE := fun σ H Q => ta σ H fun x H1 => tb σ H1 fun y H2 => r x y H2 fun z H3 => ∃ k, z = .bl k ∧
  (if k = true then tc σ H3 fun w H4 => r' y w H4 fun z H5 => ∃ k, z = .bl k ∧ (if k = true then td σ H5 fun u H6 => r'' w u H6 Q else Q (.bl false) H5) else Q (.bl false) H3)
variable {ta tb tc td : TE}
theorem pe_chain3 {op op' op'' : CmpOp} {r r' r'' : R2} (ho : OpR X (compareOp op) r) (ho' : OpR X (compareOp op') r') (ho'' : OpR X (compareOp op'') r'') (ha : PE X a ta) (hb : PE X b tb) (hc : PE X c tc) (hd : PE X d td)
    (hm : lastMarks [op, op', op''] [b, c, d] = false) : PE X (.Compare a [op, op', op''] [b, c, d] pos) (tChain3 r r' r'' ta tb tc td) := by
  refine ⟨fun pins s σ H Q I h => ?_⟩
  refine PyProof.Rows.Compare_chain (thn (ha.run pins s σ H _ I h) fun v s1 ⟨x, H1, I1, r1, q1⟩ => PyProof.Rows.chain_link (thn (hb.run pins s1 σ H1 _ I1 q1) fun u s2 ⟨y, H2, I2, r2, q2⟩ =>
    thn (ho pins s2 σ H2 x y v u _ I2 r1 r2 q2) fun d s3 ⟨z, H3, I3, r3, k, e, q3⟩ => ?_)) hm
  subst e
  cases r3
  refine wpAny_truthy_bool ?_
  cases k with
  | false => exact ite_ff ⟨.bl false, H3, I3, rfl, q3⟩
  | true =>
    refine ite_tt (PyProof.Rows.chain_link (thn (hc.run pins s3 σ H3 _ I3 q3) fun w' s4 ⟨z', H4, I4, r4, q4⟩ => thn (ho' pins s4 σ H4 y z' u w' _ I4 r2 r4 q4) fun d s5 ⟨z, H5, I5, r5, k, e, q5⟩ => ?_))
    subst e
    cases r5
    refine wpAny_truthy_bool ?_
    cases k with
    | false => exact ite_ff ⟨.bl false, H5, I5, rfl, q5⟩
    | true => exact ite_tt (PyProof.Rows.chain_last (thn (hd.run pins s5 σ H5 _ I5 q5) fun w6 s6 ⟨z6, H6, I6, r6, q6⟩ => ho'' pins s6 σ H6 z' z6 w' w6 Q I6 r4 r6 q6))
theorem pt_chain3 {op op' op'' : CmpOp} {r r' r'' : R2} (ho : OpR X (compareOp op) r) (ho' : OpR X (compareOp op') r') (ho'' : OpR X (compareOp op'') r'') (ha : PE X a ta) (hb : PE X b tb) (hc : PE X c tc) (hd : PE X d td)
    (hm : lastMarks [op, op', op''] [b, c, d] = false) : PT X (.Compare a [op, op', op''] [b, c, d] pos) (tTest (tChain3 r r' r'' ta tb tc td)) := by
  refine ⟨fun pins s σ H Q I h => ?_⟩
  refine PyProof.Rows.isTrue_chain (thn (ha.run pins s σ H _ I h) fun v s1 ⟨x, H1, I1, r1, q1⟩ => PyProof.Rows.test_link (thn (hb.run pins s1 σ H1 _ I1 q1) fun u s2 ⟨y, H2, I2, r2, q2⟩ =>
    thn (ho pins s2 σ H2 x y v u _ I2 r1 r2 q2) fun d s3 ⟨z, H3, I3, r3, k, e, q3⟩ => ?_)) hm
  subst e
  cases r3
  refine wpAny_truthy_bool ?_
  cases k with
  | false =>
    obtain ⟨k', e', q'⟩ := q3
    cases e'
    exact ite_ff ⟨H3, I3, q'⟩
  | true =>
    refine ite_tt (PyProof.Rows.test_link (thn (hc.run pins s3 σ H3 _ I3 q3) fun w' s4 ⟨z', H4, I4, r4, q4⟩ => thn (ho' pins s4 σ H4 y z' u w' _ I4 r2 r4 q4) fun d s5 ⟨z, H5, I5, r5, k, e, q5⟩ => ?_))
    subst e
    cases r5
    refine wpAny_truthy_bool ?_
    cases k with
    | false =>
      obtain ⟨k', e', q'⟩ := q5
      cases e'
      exact ite_ff ⟨H5, I5, q'⟩
    | true =>
      refine ite_tt (PyProof.Rows.test_last (thn (hd.run pins s5 σ H5 _ I5 q5) fun w6 s6 ⟨z6, H6, I6, r6, q6⟩ => thn (ho'' pins s6 σ H6 z' z6 w' w6 _ I6 r4 r6 q6) fun d' s7 ⟨z2, H7, I7, r7, k2, e2, q7⟩ => ?_))
      subst e2
      cases r7
      exact wpAny_truthy_bool ⟨H7, I7, q7⟩
theorem sS_ch3 (hu : X.A.units + 64 < cLine) (o o' o'' : Cop) (ha : PE X a (tS X.K B W ra)) (hb : PE X b (tS X.K B W rb)) (hc : PE X c (tS X.K B W rc)) (hd : PE X d (tS X.K B W rd)) (hm : lastMarks [copOf o, copOf o', copOf o''] [b, c, d] = false) : PE X (.Compare a [copOf o, copOf o', copOf o''] [b, c, d] pos) (tS X.K B W fun ρ => do
    let (x, ρ) ← ra ρ
    let (y, ρ) ← rb ρ
    let dx ← Rs.of (look ρ x)
    let dy ← Rs.of (look ρ y)
    let r ← Rs.of (cmpop o dx dy)
    if r then do
      let (z, ρ) ← rc ρ
      let dy ← Rs.of (look ρ y)
      let dz ← Rs.of (look ρ z)
      let r ← Rs.of (cmpop o' dy dz)
      if r then do
        let (w, ρ) ← rd ρ
        let dz ← Rs.of (look ρ z)
        let dw ← Rs.of (look ρ w)
        let r ← Rs.of (cmpop o'' dz dw)
        .ok (.val (.bool r), ρ)
      else .ok (.val (.bool false), ρ)
    else .ok (.val (.bool false), ρ)) := by
  refine pe_imp (pe_chain3 (op_cmp hu o) (op_cmp hu o') (op_cmp hu o'') ha hb hc hd hm) fun σ H Q ⟨ρ, F, R, p⟩ => ⟨ρ, F, R, p.step fun ⟨x, ρ1⟩ p v F1 H1 s1 R1 v1 => ?_⟩
  refine ⟨ρ1, F1, R1, Post.step p fun ⟨y, ρ2⟩ p u F2 H2 s2 R2 v2 => ?_⟩
  obtain ⟨dx, e1, p⟩ := Post.of p
  obtain ⟨dy, e2, p⟩ := Post.of p
  obtain ⟨r, e3, p⟩ := Post.of p
  refine ⟨F2, dx, dy, r, R2.sub, view R2 (v1.mono s2) e1, view R2 v2 e2, e3, r, rfl, ?_⟩
  cases r with
  | false => exact p _ F2 H2 (s1.trans s2) R2 (.bl _)
  | true =>
    refine ⟨ρ2, F2, R2, Post.step (show Post W (rc ρ2 >>= _) _ from p) fun ⟨z, ρ3⟩ p w F3 H3 s3 R3 v3 => ?_⟩
    obtain ⟨dy', e4, p⟩ := Post.of p
    obtain ⟨dz, e5, p⟩ := Post.of p
    obtain ⟨r', e6, p⟩ := Post.of p
    refine ⟨F3, dy', dz, r', R3.sub, view R3 (v2.mono s3) e4, view R3 v3 e5, e6, r', rfl, ?_⟩
    cases r' with
    | false => exact p _ F3 H3 (s1.trans (s2.trans s3)) R3 (.bl _)
    | true =>
      refine ⟨ρ3, F3, R3, Post.step (show Post W (rd ρ3 >>= _) _ from p) fun ⟨t, ρ4⟩ p g F4 H4 s4 R4 v4 => ?_⟩
      obtain ⟨dz', e7, p⟩ := Post.of p
      obtain ⟨dt, e8, p⟩ := Post.of p
      obtain ⟨r'', e9, p⟩ := Post.of p
      exact ⟨F4, dz', dt, r'', R4.sub, view R4 (v3.mono s4) e7, view R4 v4 e8, e9, p _ F4 H4 (s1.trans (s2.trans (s3.trans s4))) R4 (.bl _)⟩
theorem sT_ch3 (hu : X.A.units + 64 < cLine) (o o' o'' : Cop) (ha : PE X a (tS X.K B W ra)) (hb : PE X b (tS X.K B W rb)) (hc : PE X c (tS X.K B W rc)) (hd : PE X d (tS X.K B W rd)) (hm : lastMarks [copOf o, copOf o', copOf o''] [b, c, d] = false) : PT X (.Compare a [copOf o, copOf o', copOf o''] [b, c, d] pos) (tT X.K B W fun ρ => do
    let (x, ρ) ← ra ρ
    let (y, ρ) ← rb ρ
    let dx ← Rs.of (look ρ x)
    let dy ← Rs.of (look ρ y)
    let r ← Rs.of (cmpop o dx dy)
    if r then do
      let (z, ρ) ← rc ρ
      let dy ← Rs.of (look ρ y)
      let dz ← Rs.of (look ρ z)
      let r ← Rs.of (cmpop o' dy dz)
      if r then do
        let (w, ρ) ← rd ρ
        let dz ← Rs.of (look ρ z)
        let dw ← Rs.of (look ρ w)
        let r ← Rs.of (cmpop o'' dz dw)
        .ok (r, ρ)
      else .ok (false, ρ)
    else .ok (false, ρ)) := by
  refine pt_imp (pt_chain3 (op_cmp hu o) (op_cmp hu o') (op_cmp hu o'') ha hb hc hd hm) fun σ H Q ⟨ρ, F, R, p⟩ => ⟨ρ, F, R, p.step fun ⟨x, ρ1⟩ p v F1 H1 s1 R1 v1 => ?_⟩
  refine ⟨ρ1, F1, R1, Post.step p fun ⟨y, ρ2⟩ p u F2 H2 s2 R2 v2 => ?_⟩
  obtain ⟨dx, e1, p⟩ := Post.of p
  obtain ⟨dy, e2, p⟩ := Post.of p
  obtain ⟨r, e3, p⟩ := Post.of p
  refine ⟨F2, dx, dy, r, R2.sub, view R2 (v1.mono s2) e1, view R2 v2 e2, e3, r, rfl, ?_⟩
  cases r with
  | false => exact ⟨false, rfl, p F2 H2 (s1.trans s2) R2⟩
  | true =>
    refine ⟨ρ2, F2, R2, Post.step (show Post W (rc ρ2 >>= _) _ from p) fun ⟨z, ρ3⟩ p w F3 H3 s3 R3 v3 => ?_⟩
    obtain ⟨dy', e4, p⟩ := Post.of p
    obtain ⟨dz, e5, p⟩ := Post.of p
    obtain ⟨r', e6, p⟩ := Post.of p
    refine ⟨F3, dy', dz, r', R3.sub, view R3 (v2.mono s3) e4, view R3 v3 e5, e6, r', rfl, ?_⟩
    cases r' with
    | false => exact ⟨false, rfl, p F3 H3 (s1.trans (s2.trans s3)) R3⟩
    | true =>
      refine ⟨ρ3, F3, R3, Post.step (show Post W (rd ρ3 >>= _) _ from p) fun ⟨t, ρ4⟩ p g F4 H4 s4 R4 v4 => ?_⟩
      obtain ⟨dz', e7, p⟩ := Post.of p
      obtain ⟨dt, e8, p⟩ := Post.of p
      obtain ⟨r'', e9, p⟩ := Post.of p
      exact ⟨F4, dz', dt, r'', R4.sub, view R4 (v3.mono s4) e7, view R4 v4 e8, e9, r'', rfl, p F4 H4 (s1.trans (s2.trans (s3.trans s4))) R4⟩

theorem rp_rgV {K : PySem.W.Frag} {F : Hp} (i j : Int) : RpAll K F (rgV i j) (rngL i (j - i).toNat) := by
  unfold rgV rngL
  generalize List.range (j - i).toNat = l
  induction l with
  | nil => exact .nil
  | cons a l ih => exact .cons (.int _) ih
/-- list(range(..)) -/
theorem sE_lirg {re : Rho → Rs ((Int × Int) × Rho)} {te : L2.St → Hp → (Int → Int → Hp → Prop) → Prop} {p : Pos} (hc : X.calm = true) (hg : Gl X "list") (hm : X.mg "list" = none) (he : PRg X e te) (hs : starEach [e] X.env = (false, eval e X.env) :: starEach [] X.env)
    (hi : ∀ σ H Q, (∃ ρ F, Rel X.K B ρ σ F H ∧ Post W (re ρ) fun p => ∀ F' H', Same F F' → Rel X.K B p.2 σ F' H' → Q p.1.1 p.1.2 H') → te σ H Q) : PE X (.Call (.Name "list" p) [e] [] pos) (tE X.K B W fun ρ => do
    let (q, ρ) ← re ρ
    if small62 q.1 && small62 q.2 then (if (rngL q.1 (q.2 - q.1).toNat).length ≤ 100000 then .ok (.own (.list (rngL q.1 (q.2 - q.1).toNat)), ρ) else .st) else .st) := by
  refine pe_imp (pe_listRg hc hg hm he hs) fun σ H Q ⟨ρ, F, R, p⟩ => hi σ H _ ⟨ρ, F, R, p.step fun ⟨q, ρ1⟩ p F1 H1 s1 R1 => ?_⟩
  obtain ⟨i, j⟩ := q
  have p : Post W (if small62 i && small62 j then (if (rngL i (j - i).toNat).length ≤ 100000 then Rs.ok (Opd.own (.list (rngL i (j - i).toNat)), ρ1) else Rs.st) else Rs.st) _ := p
  split at p
  · rename_i h
    simp only [Bool.and_eq_true] at h
    split at p
    · rename_i hl
      rw [rngL_len] at hl
      have a1 := small62_of h.1
      have a2 := small62_of h.2
      refine ⟨⟨a1.1, a1.2, a2.1, a2.2, (by omega : (j - i).toNat ≤ 2 ^ 24)⟩, fun z hz => ?_⟩
      obtain ⟨s2, R2, o2⟩ := R1.newR (r := .own (.list (rngL i (j - i).toNat))) (.own hz (.lst upd_same (rp_rgV i j)))
      exact p _ _ _ (s1.trans s2) R2 o2
    · exact p.elim
  · exact p.elim
theorem prg1_of {p0 p1 : Pos} {ra : Rho → Rs (Opd × Rho)} (hg : Gl X "range") (hm : X.mg "range" = none) (ha : PE X a (tS X.K B W ra)) (na : starEach [a] X.env = (false, eval a X.env) :: starEach [] X.env) : PRg X (.Call (.Name "range" p0) [a] [] p1) (tRg1 (tS X.K B W ra)) := prg_1 hg hm ha na
theorem rg1_read {re : Rho → Rs ((Int × Int) × Rho)} (hr : ∀ ρ, re ρ = (do
    let (x, ρ) ← ra ρ
    match look ρ x with
    | some (.int j) => .ok ((0, j), ρ)
    | _ => .st)) (σ : L2.St) (H : Hp) (Q : Int → Int → Hp → Prop) (h : ∃ ρ F, Rel X.K B ρ σ F H ∧ Post W (re ρ) fun p => ∀ F' H', Same F F' → Rel X.K B p.2 σ F' H' → Q p.1.1 p.1.2 H') : tRg1 (tS X.K B W ra) σ H Q := by
  obtain ⟨ρ, F, R, p⟩ := h
  rw [hr] at p
  refine ⟨ρ, F, R, Post.step p fun ⟨x, ρ1⟩ p v F1 H1 s1 R1 v1 => ?_⟩
  have p : Post W (match look ρ1 x with
    | some (.int j) => Rs.ok (((0 : Int), j), ρ1)
    | _ => Rs.st) _ := p
  split at p
  · rename_i j hj
    cases (view R1 v1 hj).int
    exact ⟨j, rfl, p F1 H1 s1 R1⟩
  · exact p.elim
theorem rg2_read {re : Rho → Rs ((Int × Int) × Rho)} (hr : ∀ ρ, re ρ = (do
    let (x, ρ) ← ra ρ
    let (y, ρ) ← rb ρ
    match look ρ x, look ρ y with
    | some (.int i), some (.int j) => .ok ((i, j), ρ)
    | _, _ => .st)) (σ : L2.St) (H : Hp) (Q : Int → Int → Hp → Prop) (h : ∃ ρ F, Rel X.K B ρ σ F H ∧ Post W (re ρ) fun p => ∀ F' H', Same F F' → Rel X.K B p.2 σ F' H' → Q p.1.1 p.1.2 H') : tRg2 (tS X.K B W ra) (tS X.K B W rb) σ H Q := by
  obtain ⟨ρ, F, R, p⟩ := h
  rw [hr] at p
  refine ⟨ρ, F, R, Post.step p fun ⟨x, ρ1⟩ p v F1 H1 s1 R1 v1 => ⟨ρ1, F1, R1, Post.step p fun ⟨y, ρ2⟩ p u F2 H2 s2 R2 v2 => ?_⟩⟩
  have p : Post W (match look ρ2 x, look ρ2 y with
    | some (.int i), some (.int j) => Rs.ok ((i, j), ρ2)
    | _, _ => Rs.st) _ := p
  split at p
  · rename_i i j hi hj
    cases (view R2 (v1.mono s2) hi).int
    cases (view R2 v2 hj).int
    exact ⟨i, j, rfl, rfl, p F2 H2 (s1.trans s2) R2⟩
  · exact p.elim
end
end EV
end

section
/-! EvL -/
set_option Elab.async false
set_option linter.all false
set_option maxRecDepth 100000
set_option maxHeartbeats 1000000
/-! EvL: the evaluator's text is the def's text: a check, and what follows from it, for expressions. -/
namespace EV
open PySem PySem.Spec L2

/-- the names of the defs, the constants, the exception classes -/
structure Tab where
  fnm : List Str
  gnm : List Str
  cnm : List Str
def glB (sc : Scope) (x : Str) : Bool := decide (sc.names.lookup x = some .globalImplicit) && !(x == ("__debug__" : Str))
def visB (sc : Scope) (x : Str) : Bool := (match sc.names.lookup x with
  | some .local => true
  | some .cell => true
  | some .free => true
  | _ => false) && (!(x == ("__debug__" : Str)) && !(x == ("__classdict__" : Str)))
def locB (sc : Scope) (blk : Option Scope) (x : Str) : Bool := match sc.names.lookup x with
  | some .local => true
  | some .cell => (match blk with
    | none => true
    | some s => decide (s.names.lookup x = some .cell))
  | _ => false
def noStar : Expr → Bool
  | .Starred .. => false
  | _ => true
def noStars : List Expr → Bool
  | [] => true
  | e :: es => noStar e && noStars es
def noComp : Expr → Bool
  | .ListComp .. => false
  | .SetComp .. => false
  | .DictComp .. => false
  | _ => true
def noSet : Expr → Bool
  | .Set .. => false
  | _ => true
def plainR : Expr → Bool
  | .Call _ [] [] _ => false
  | _ => true
def tupB : Expr → Bool
  | .Tuple .. => true
  | _ => false
def biN : Bi → String
  | .len => "len"
  | .abs => "abs"
  | .int => "int"
  | .list => "list"
  | .tuple => "tuple"
  | .sum => "sum"
  | .min => "min"
  | .max => "max"
  | .min2 => "min"
  | .max2 => "max"
  | .max3 => "max"
  | .min3 => "min"
  | .all => "all"
  | .any => "any"
  | .reversed => "reversed"
  | .sorted => "sorted"
  | .str => "str"
  | .repr => "repr"
  | .set => "set"
def meN : Me → String
  | .index => "index"
  | .count => "count"
/-- which built-in functions have a rule here -/
def biOk : Bi → Bool
  | .len => true
  | .abs => true
  | .int => true
  | .list => true
  | .tuple => true
  | .sum => true
  | .min => true
  | .max => true
  | .min2 => true
  | .max2 => true
  | .all => true
  | .any => true
  | .sorted => true
  | _ => false
def rngB : It → Bool
  | .rng1 _ => true
  | .rng2 _ _ => true
  | _ => false
def slicePlain : Expr → Bool
  | .Slice .. => false
  | _ => true
mutual
def chkT (N : List Str) (sc : Scope) (blk : Option Scope) : Tg → Expr → Bool
  | .v i, ex => (match ex with
    | .Name x _ => decide (N[i]? = some x) && locB sc blk x
    | _ => false)
  | .t ts, ex => (match ex with
    | .Tuple es _ _ => chkTs N sc blk ts es
    | _ => false)
def chkTs (N : List Str) (sc : Scope) (blk : Option Scope) : Tgs → List Expr → Bool
  | .nil, es => (match es with
    | [] => true
    | _ => false)
  | .cons t ts, es => (match es with
    | e :: es => noStar e && (chkT N sc blk t e && chkTs N sc blk ts es)
    | _ => false)
end
def bopB (op : Operator) (o : Bop) : Bool := decide (op = bopOf o)
def ownN (N : List Str) (own : List Nat) : List (Str × Nat) := own.map fun i => (N.getD i Str.empty, i)
def callB : List Expr → Bool
  | [] => true
  | x :: _ => noStar x
section
variable (N : List Str) (T : Tab)
mutual
def chk (sc : Scope) (blk : Option Scope) : E → Expr → Bool
  | .c d, ex => (match d, ex with
    | .int i, .Constant (.int j) _ _ => decide (i = j)
    | .bool i, .Constant (.bool j) _ _ => decide (i = j)
    | .none, .Constant .none _ _ => true
    | .str i, .Constant (.str j) _ _ => decide (i = j)
    | _, _ => false)
  | .v i, ex => (match ex with
    | .Name x _ => decide (N[i]? = some x) && visB sc x
    | _ => false)
  | .g k, ex => (match ex with
    | .Name x _ => decide (T.gnm[k]? = some x) && glB sc x
    | _ => false)
  | .neg a, ex => (match ex with
    | .UnaryOp .USub x _ => chk sc blk a x
    | _ => false)
  | .bin o a b, ex => (match ex with
    | .BinOp x op y _ => bopB op o && (chk sc blk a x && chk sc blk b y)
    | _ => false)
  | .not a, ex => (match ex with
    | .UnaryOp .Not x _ => chk sc blk a x
    | _ => false)
  | .and a b, ex => (match ex with
    | .BoolOp .And [x, y] _ => chk sc blk a x && chk sc blk b y
    | .BoolOp .And (x :: y :: z :: r) p => chk sc blk a x && chk sc blk b (.BoolOp .And (y :: z :: r) p)
    | _ => false)
  | .or a b, ex => (match ex with
    | .BoolOp .Or [x, y] _ => chk sc blk a x && chk sc blk b y
    | .BoolOp .Or (x :: y :: z :: r) p => chk sc blk a x && chk sc blk b (.BoolOp .Or (y :: z :: r) p)
    | _ => false)
  | .cmp o a b, ex => (match ex with
    | .Compare x [op] [y] _ => (decide (op = copOf o) && !behindInMarks (copOf o) y) && (chk sc blk a x && chk sc blk b y)
    | _ => false)
  | .ch o o' a b c, ex => (match ex with
    | .Compare x [op, op'] [y, z] _ => (decide (op = copOf o) && decide (op' = copOf o') && !lastMarks [copOf o, copOf o'] [y, z]) && (chk sc blk a x && (chk sc blk b y && chk sc blk c z))
    | _ => false)
  | .ch3 o o' o'' a b c d, ex => (match ex with
    | .Compare x [op, op', op''] [y, z, w] _ => (decide (op = copOf o) && decide (op' = copOf o') && decide (op'' = copOf o'') && !lastMarks [copOf o, copOf o', copOf o''] [y, z, w]) && (chk sc blk a x && (chk sc blk b y && (chk sc blk c z && chk sc blk d w)))
    | _ => false)
  | .isC a d neg, ex => (match ex with
    | .Compare x [op] [y] _ => decide (op = isOf neg) && ((match d, y with
      | .none, .Constant .none _ _ => true
      | .bool b, .Constant (.bool c) _ _ => decide (b = c)
      | _, _ => false) && chk sc blk a x)
    | _ => false)
  | .ite t a b, ex => (match ex with
    | .IfExp x y z _ => chk sc blk t x && (chk sc blk a y && chk sc blk b z)
    | _ => false)
  | .tup es, ex => (match ex with
    | .Tuple xs _ _ => chkA sc blk es xs
    | _ => false)
  | .lst es, ex => (match ex with
    | .List xs _ => chkA sc blk es xs
    | _ => false)
  | .rep es b, ex => (match ex with
    | .BinOp (.List xs _) op y _ => decide (op = .Mult) && (chkA sc blk es xs && chk sc blk b y)
    | _ => false)
  | .ix a b, ex => (match ex with
    | .Subscript x y _ => slicePlain y && (chk sc blk a x && chk sc blk b y)
    | _ => false)
  | .sl a lo hi, ex => (match ex with
    | .Subscript x (.Slice l h none _) _ => chk sc blk a x && (chkO sc blk lo l && chkO sc blk hi h)
    | _ => false)
  | .slSt _ _ _ _, _ => false
  | .call f es, ex => (match ex with
    | .Call (.Name x _) xs [] _ => (decide (T.fnm[f]? = some x) && glB sc x) && (callB xs && chkA sc blk es xs)
    | _ => false)
  | .bi b es, ex => (match ex with
    | .Call (.Name x _) (y :: ys) [] _ => (biOk b && decide (x = biN b) && glB sc x && noStars (y :: ys)) && chkA sc blk es (y :: ys)
    | _ => false)
  | .isi a t, ex => (match ex with
    | .Call (.Name x _) [y, .Name z _] [] _ => (decide (x = ("isinstance" : Str)) && glB sc x && decide (z = tyN t) && glB sc z && noStar y) && chk sc blk a y
    | _ => false)
  | .me m o es, ex => (match ex with
    | .Call (.Attribute x n ap) [y] [] p => (decide (n = meN m) && plainR x && noStar y && (ap.endLine == p.line)) && (chk sc blk o x && chkA sc blk es [y])
    | _ => false)
  | .pop i, ex => (match ex with
    | .Call (.Attribute (.Name x _) n ap) [] [] p => decide (n = ("pop" : Str)) && (ap.endLine == p.line) && decide (N[i]? = some x) && visB sc x
    | _ => false)
  | .rev e, ex => (match ex with
    | .Call (.Name x _) [.Call (.Name z _) [y] [] _] [] _ => (decide (x = ("list" : Str)) && glB sc x && decide (z = ("reversed" : Str)) && glB sc z && noStar y) && chk sc blk e y
    | _ => false)
  | .li it, ex => (match ex with
    | .Call (.Name x _) [r] [] _ => (decide (x = ("list" : Str)) && glB sc x && rngB it) && chkI sc blk it r false
    | _ => false)
  | .lc elt tg it cd own, ex => (match ex with
    | .ListComp x [⟨t, i, ifs, ia⟩] sc' _ => (decide (ia = 0) && noSet i && blkC N sc sc' (ownN N own) && decide ((ownN N own).map (·.2) = own) && (tgS tg).all (fun j => own.contains j) && chkT N (relS sc' sc) (some sc') tg t) && (chkI sc blk it i (tupB t) && (chk (relS sc' sc) (some sc') elt x && chkC (relS sc' sc) (some sc') cd ifs))
    | _ => false)
def chkC (sc : Scope) (blk : Option Scope) : Eo → List Expr → Bool
  | .no, xs => (match xs with
    | [] => true
    | _ => false)
  | .yes c, xs => (match xs with
    | [y] => chk sc blk c y
    | _ => false)
def chkO (sc : Scope) (blk : Option Scope) : Eo → Option Expr → Bool
  | .no, x => (match x with
    | none => true
    | _ => false)
  | .yes e, x => (match x with
    | some x => chk sc blk e x
    | _ => false)
def chkA (sc : Scope) (blk : Option Scope) : Es → List Expr → Bool
  | .nil, xs => (match xs with
    | [] => true
    | _ => false)
  | .cons e es, xs => (match xs with
    | x :: xs => noStar x && (chk sc blk e x && chkA sc blk es xs)
    | _ => false)
  | .bor e es, xs => (match xs with
    | x :: xs => noStar x && (chk sc blk e x && chkA sc blk es xs)
    | _ => false)
  | .star e es, xs => (match xs with
    | .Starred x _ :: xs => chk sc blk e x && chkA sc blk es xs
    | _ => false)
def chkI (sc : Scope) (blk : Option Scope) : It → Expr → Bool → Bool
  | .seq e, ex, _ => chk sc blk e ex
  | .rng1 a, ex, _ => (match ex with
    | .Call (.Name f _) [x] [] _ => (decide (f = ("range" : Str)) && glB sc f && noStar x) && chk sc blk a x
    | _ => false)
  | .rng2 a b, ex, _ => (match ex with
    | .Call (.Name f _) [x, y] [] _ => (decide (f = ("range" : Str)) && glB sc f && noStar x && noStar y) && (chk sc blk a x && chk sc blk b y)
    | _ => false)
  | .enu a, ex, t => (match ex with
    | .Call (.Name f _) [x] [] _ => (t && decide (f = ("enumerate" : Str)) && glB sc f && noStar x) && chk sc blk a x
    | _ => false)
  | .zip a b, ex, t => (match ex with
    | .Call (.Name f _) [x, y] [] _ => (t && decide (f = ("zip" : Str)) && glB sc f && noStar x && noStar y) && (chk sc blk a x && chk sc blk b y)
    | _ => false)
  | .enuZip _ _, _, _ => false
end
end

/-! ### small facts -/
theorem star_cons {e : Expr} {es : List Expr} {env : Env} (h : noStar e = true) : starEach (e :: es) env = (false, eval e env) :: starEach es env := by
  cases e <;> first | rfl | cases h
theorem stars_none {pos : Pos} {env : Env} : ∀ {es : List Expr}, noStars es = true → (backTo pos (starEach es env)).any (·.1) = false
  | [], _ => rfl
  | e :: es, h => by
    simp only [noStars, Bool.and_eq_true] at h
    rw [star_cons h.1]
    have ih := stars_none (pos := pos) (env := env) h.2
    unfold backTo at ih ⊢
    rw [List.map_cons, List.any_cons]
    simpa using ih
theorem asg_cons {e : Expr} {es : List Expr} {env : Env} (h : noStar e = true) : assignEach (e :: es) env = (false, assign e env) :: assignEach es env := by
  cases e <;> first | rfl | cases h
theorem stars_any {pos : Pos} {env : Env} : ∀ {es : List Expr}, noStars es = false → (backTo pos (starEach es env)).any (·.1) = true
  | [], h => by cases h
  | e :: es, h => by
    simp only [noStars, Bool.and_eq_false_iff] at h
    by_cases hn : noStar e = true
    · have h2 : noStars es = false := h.resolve_left (by rw [hn]; decide)
      have ih := stars_any (pos := pos) (env := env) h2
      rw [star_cons hn]
      unfold backTo at ih ⊢
      rw [List.map_cons, List.any_cons, ih, Bool.or_true]
    · cases e <;> first | rfl | exact absurd rfl hn
theorem noset_fold {e : Expr} {env : Env} (h : noSet e = true) : ∀ x, foldedSetIterable e env x = pure x := by
  intro x
  cases e <;> first | rfl | cases h
theorem nocomp_swap {e : Expr} {env : Env} {t : Option Expr} {l : Nat} (h : noComp e = true) : swapsWith e t l env = pure false := by
  cases e <;> first | rfl | cases h
theorem plain_base {o : Expr} {a : Str} {env : Env} {w : Sem Value} (h : plainR o = true) : attributeBase o a env w = w := by
  cases o with
  | Call f args kws p =>
    cases args with
    | nil =>
      cases kws with
      | nil => cases h
      | cons k ks => cases f <;> rfl
    | cons x xs => cases f <;> rfl
  | _ => rfl
theorem plainIx_of {b : Expr} (h : slicePlain b = true) : PlainIx b := by
  intro o i
  cases b <;> first | rfl | cases h
/-- a call by a positional promise -/
theorem pe_callR {X : Cx} {CX : CXT} {k : Nat} {f : Addr} {sp : Sp} {E : XK} {x : Str} {e : Expr} {es : List Expr} {t : TA} {p pos : Pos} (F : FnR X.prog X.w X.K X.mg X.base CX k f sp) (hr : Room k X.A) (hk : PySem.W.keepIn X.K (.ref f) = true) (hg : Gl X x) (hm : X.mg x = some (.ref f)) (hx : Passes CX X E)
    (ha : PA X (e :: es) t) (hd : (x == ("__debug__" : Str)) = false) (he : starEach (e :: es) X.env = (false, eval e X.env) :: starEach es X.env) (hpl : (backTo pos (starEach es X.env)).any (·.1) = false) :
    PE X (.Call (.Name x p) (e :: es) [] pos) (fun σ H Q => t σ H fun vs H1 => sp vs H1 Q E) := by
  refine ⟨fun pins s σ H Q I h => wpAny_Call_Name_kw (ld_glob I hg hm (PySem.W.callWith_K (h₀ := X.base) I.ok.mod.kin hk (thn (ha.run pos pins s σ H _ I h) fun us s1 ⟨vs, H1, I1, r, q⟩ => ⟨I1.kIn, ?_⟩) he hpl) hd)⟩
  exact wpAny_call (run_fnR F hr hx I1 r q)
theorem pe_callR0 {X : Cx} {CX : CXT} {k : Nat} {f : Addr} {sp : Sp} {E : XK} {x : Str} {p pos : Pos} (F : FnR X.prog X.w X.K X.mg X.base CX k f sp) (hr : Room k X.A) (hk : PySem.W.keepIn X.K (.ref f) = true) (hg : Gl X x) (hm : X.mg x = some (.ref f)) (hx : Passes CX X E)
    (hd : (x == ("__debug__" : Str)) = false) : PE X (.Call (.Name x p) [] [] pos) (fun σ H Q => tNil σ H fun vs H1 => sp vs H1 Q E) :=
  ⟨fun pins s σ H Q I h => wpAny_Call_Name_kw (ld_glob I hg hm (PySem.W.callWith_K0 I.kIn hk (wpAny_call (run_fnR (us := []) F hr hx I .nil h))) hd)⟩
theorem pg_ex {X : Cx} {e : Expr} {α : Type} {P : α → Prop} {t : α → TG} (h : ∀ B', P B' → PG X e (t B')) : PG X e (fun v σ H Q => ∃ B', P B' ∧ t B' v σ H Q) := ⟨fun pins s σ H v u Q I r ⟨B', hB, q⟩ => (h B' hB).run pins s σ H v u Q I r q⟩
theorem pe_ex {X : Cx} {e : Expr} {α : Type} {P : α → Prop} {t : α → TE} (h : ∀ B', P B' → PE X e (t B')) : PE X e (fun σ H Q => ∃ B', P B' ∧ t B' σ H Q) := ⟨fun pins s σ H Q I ⟨B', hB, q⟩ => (h B' hB).run pins s σ H Q I q⟩
theorem pt_ex {X : Cx} {e : Expr} {α : Type} {P : α → Prop} {t : α → TT} (h : ∀ B', P B' → PT X e (t B')) : PT X e (fun σ H Q => ∃ B', P B' ∧ t B' σ H Q) := ⟨fun pins s σ H Q I ⟨B', hB, q⟩ => (h B' hB).run pins s σ H Q I q⟩
theorem pss_ex {X : Cx} {e : List Stmt} {α : Type} {P : α → Prop} {t : α → TS} (h : ∀ B', P B' → PSs X e (t B')) : PSs X e (fun D σ H => ∃ B', P B' ∧ t B' D σ H) := ⟨fun pins s σ H D I ⟨B', hB, q⟩ => (h B' hB).run pins s σ H D I q⟩
/-! ### tests by values -/
theorem stl_ex (c : Nat) : stl (.ex c) = .ex c := rfl
theorem stl_st : stl .st = .st := rfl
theorem stl_val (d : D) (ρ : Rho) : stl (.ok (.val d, ρ)) = .ok (.val d, ρ) := rfl
theorem look_val (d : D) (ρ : Rho) : look ρ (.val d) = some d := rfl
theorem rT_not {ra : Rho → Rs (Opd × Rho)} : (rT fun ρ => stl (do
    let (x, ρ) ← ra ρ
    let d ← Rs.of (look ρ x)
    let t ← Rs.of (tr d)
    .ok (.val (.bool (!t)), ρ))) = (fun ρ => do
    let (t, ρ) ← rT ra ρ
    .ok (!t, ρ)) := by
  funext ρ
  simp only [rT]
  cases h : ra ρ with
  | ex c => rfl
  | st => rfl
  | ok p =>
    obtain ⟨x, ρ1⟩ := p
    simp only [bind_ok]
    cases h2 : look ρ1 x with
    | none => rfl
    | some d =>
      simp only [of_some, bind_ok]
      cases h3 : tr d with
      | none => rfl
      | some t => rfl
/-- settled results stay -/
def Settled (r : Rho → Rs (Opd × Rho)) : Prop := ∀ ρ d ρ', r ρ ≠ .ok (.own d, ρ')
theorem settled_stl (r : Rho → Rs (Opd × Rho)) : Settled fun ρ => stl (r ρ) := fun ρ d ρ' h => by
  have h : stl (r ρ) = .ok (.own d, ρ') := h
  cases q : r ρ with
  | ex c => rw [q] at h; cases h
  | st => rw [q] at h; cases h
  | ok p =>
    obtain ⟨x, ρ1⟩ := p
    rw [q] at h
    cases x <;> cases h
theorem stl_settled {r : Rs (Opd × Rho)} (h : ∀ d ρ', r ≠ .ok (.own d, ρ')) : stl r = r := by
  cases r with
  | ex c => rfl
  | st => rfl
  | ok p =>
    obtain ⟨x, ρ1⟩ := p
    cases x with
    | own d => exact absurd rfl (h d ρ1)
    | _ => rfl
theorem rT_and {ra rb : Rho → Rs (Opd × Rho)} (sa : Settled ra) (sb : Settled rb) : (rT fun ρ => stl (do
    let (x, ρ) ← ra ρ
    let d ← Rs.of (look ρ x)
    let t ← Rs.of (tr d)
    if t then rb ρ else .ok (x, ρ))) = (fun ρ => do
    let (t, ρ) ← rT ra ρ
    if t then rT rb ρ else .ok (false, ρ)) := by
  funext ρ
  simp only [rT]
  cases h : ra ρ with
  | ex c => rfl
  | st => rfl
  | ok p =>
    obtain ⟨x, ρ1⟩ := p
    simp only [bind_ok]
    cases h2 : look ρ1 x with
    | none => rfl
    | some d =>
      simp only [of_some, bind_ok]
      cases h3 : tr d with
      | none => rfl
      | some t =>
        simp only [of_some, bind_ok]
        cases t with
        | true =>
          simp only [if_true]
          rw [stl_settled (sb ρ1)]
        | false =>
          simp only [Bool.false_eq_true, if_false]
          rw [stl_settled (fun d ρ' e => sa ρ d ρ' (h.trans e))]
          simp only [bind_ok, h2, of_some, h3]
theorem rT_or {ra rb : Rho → Rs (Opd × Rho)} (sa : Settled ra) (sb : Settled rb) : (rT fun ρ => stl (do
    let (x, ρ) ← ra ρ
    let d ← Rs.of (look ρ x)
    let t ← Rs.of (tr d)
    if t then .ok (x, ρ) else rb ρ)) = (fun ρ => do
    let (t, ρ) ← rT ra ρ
    if t then .ok (true, ρ) else rT rb ρ) := by
  funext ρ
  simp only [rT]
  cases h : ra ρ with
  | ex c => rfl
  | st => rfl
  | ok p =>
    obtain ⟨x, ρ1⟩ := p
    simp only [bind_ok]
    cases h2 : look ρ1 x with
    | none => rfl
    | some d =>
      simp only [of_some, bind_ok]
      cases h3 : tr d with
      | none => rfl
      | some t =>
        simp only [of_some, bind_ok]
        cases t with
        | false =>
          simp only [Bool.false_eq_true, if_false]
          rw [stl_settled (sb ρ1)]
        | true =>
          simp only [if_true]
          rw [stl_settled (fun d ρ' e => sa ρ d ρ' (h.trans e))]
          simp only [bind_ok, h2, of_some, h3]
end EV
end

section
/-! EvM -/
set_option Elab.async false
set_option linter.all false
set_option maxRecDepth 100000
set_option maxHeartbeats 2000000
/-! EvM: the theorem for expressions. -/
namespace EV
open PySem PySem.Spec L2

def biNames : List Str := ["len", "abs", "int", "list", "tuple", "sum", "min", "max", "all", "any", "range", "enumerate", "zip", "isinstance", "bool", "str", "dict", "reversed", "sorted", "repr", "set"]
/-- the surroundings of a piece of text -/
structure Cc (X : Cx) (C : Cfg) (T : Tab) (N : List Str) (sc : Scope) (blk : Option Scope) (E : XK) (ca : Nat → Addr) (lv : Nat) : Prop where
  hN : X.N = N
  hsc : X.env.scope = sc
  nd : N.Nodup
  calm : X.calm = true
  room : Room lv X.A
  fnok : ∀ x, (∀ s, blk = some s → s.names.lookup x = some .cell) → X.fn x = true
  dom : ∀ (f : Nat) (x : Str), T.fnm[f]? = some x → ∃ fd, C.defs[f]? = some fd
  fns : ∀ (f : Nat) (fd : FD) (x : Str), C.defs[f]? = some fd → T.fnm[f]? = some x → ∃ a, X.mg x = some (.ref a) ∧ PySem.W.keepIn X.K (.ref a) = true ∧ FnR X.prog X.w X.K X.mg X.base (L2.CX X.prog X.w) lv a (spF X.K ca (C.call f) fd.io)
  nio : ∀ (f : Nat) (fd : FD) (ds : List D) (c : Nat), C.defs[f]? = some fd → C.call f ds = .ex c → fd.io = none
  gls : ∀ (k : Nat) (d : D) (x : Str), C.globs[k]? = some d → T.gnm[k]? = some x → ∃ u v, X.mg x = some u ∧ RelV v u ∧ ∀ F, Rp X.K F v d
  bis : ∀ x ∈ biNames, X.mg x = none
  hx : Passes (L2.CX X.prog X.w) X E
section
variable {X : Cx} {C : Cfg} {T : Tab} {N : List Str} {sc : Scope} {blk : Option Scope} {E : XK} {ca : Nat → Addr} {lv : Nat}
theorem Cc.hu (c : Cc X C T N sc blk E ca lv) : X.A.units + 64 < cLine := c.room.units
theorem Cc.hu2 (c : Cc X C T N sc blk E ca lv) : X.A.units + 65 < cLine := by have := c.room.un; omega
theorem Cc.gl (c : Cc X C T N sc blk E ca lv) {x : Str} (h : glB sc x = true) : Gl X x ∧ (x == ("__debug__" : Str)) = false := by
  unfold glB at h
  simp only [Bool.and_eq_true, decide_eq_true_eq, Bool.not_eq_true'] at h
  exact ⟨by unfold Gl Env.kindOf; rw [c.hsc]; exact h.1, h.2⟩
theorem Cc.vis (c : Cc X C T N sc blk E ca lv) {x : Str} (h : visB sc x = true) : Vis X.env.scope x ∧ (x == ("__debug__" : Str)) = false ∧ (x == ("__classdict__" : Str)) = false := by
  unfold visB at h
  simp only [Bool.and_eq_true, Bool.not_eq_true'] at h
  refine ⟨?_, h.2.1, h.2.2⟩
  rw [c.hsc]
  have h1 := h.1
  unfold Vis
  split at h1 <;> first | (rename_i q; first | exact .inl q | exact .inr (.inl q) | exact .inr (.inr q)) | cases h1
theorem Cc.loc (c : Cc X C T N sc blk E ca lv) {x : Str} (h : locB sc blk x = true) : Loc X.env.scope x ∧ (X.fn x = true ∨ X.env.scope.names.lookup x = some .local) := by
  rw [c.hsc]
  unfold locB at h
  split at h
  · rename_i q; exact ⟨.inl q, .inr q⟩
  · rename_i q
    refine ⟨.inr q, .inl (c.fnok x fun s e => ?_)⟩
    subst e
    exact of_decide_eq_true h
  · cases h
/-- in a comprehension's block -/
theorem Cc.inblk (c : Cc X C T N sc blk E ca lv) (s : Shared) (H : Hp) (sc' : Scope) (Ca : Addr) (cl : List (Str × Addr)) (fp : List Addr) : Cc (X.blk s H sc' (compEnvC sc' cl Ca X.env) fp) C T N (relS sc' sc) (some sc') E0 ca lv where
  hN := c.hN
  hsc := by rw [← c.hsc]; rfl
  nd := c.nd
  calm := c.calm
  room := c.room
  fnok := fun x h => by
    show (sc'.names.lookup x == some .cell) = true
    rw [h sc' rfl]; rfl
  dom := c.dom
  fns := c.fns
  nio := c.nio
  gls := c.gls
  bis := c.bis
  hx := passL
theorem boot_tyN (t : Ty) : bootBuiltins (tyN t : Str) = some (.type (tyN t)) := by
  cases t
  · exact PyProof.Rows.boot_int
  · exact PyProof.Rows.boot_bool
  · exact PyProof.Rows.boot_str
  · exact PyProof.Rows.boot_list
  · exact PyProof.Rows.boot_tuple
  · exact PyProof.Rows.boot_dict
theorem tyN_in (t : Ty) : (tyN t : Str) ∈ biNames := by cases t <;> decide +kernel
theorem tyN_ne (t : Ty) : (tyN t : Str) ≠ "__name__" := by cases t <;> decide +kernel
theorem biN_in (b : Bi) : (biN b : Str) ∈ biNames := by cases b <;> decide +kernel
theorem biN_ne (b : Bi) : (biN b : Str) ≠ "__name__" := by cases b <;> decide +kernel
/-- a built-in function called -/
theorem call_bi {W : Nat → Prop} {B : Bs} {rs : Rho → Rs (List Opd × Rho)} {e : Expr} {es : List Expr} {p pos : Pos} (c : Cc X C T N sc blk E ca lv) (b : Bi) (hb : biOk b = true) (hg : Gl X (biN b : Str)) (hd : ((biN b : Str) == ("__debug__" : Str)) = false) (hst : noStars (e :: es) = true) (ha : PA X (e :: es) (tAs X.K B W rs)) :
    PE X (.Call (.Name (biN b : Str) p) (e :: es) [] pos) (tE X.K B W fun ρ => do
    let (xs, ρ) ← rs ρ
    let ds ← Rs.of (lookAll ρ xs)
    let r ← Rs.of (builtin b ds)
    .ok (r, ρ)) := by
  have hm := c.bis _ (biN_in b)
  have hn := biN_ne b
  simp only [noStars, Bool.and_eq_true] at hst
  have he := star_cons (env := X.env) (es := es) hst.1
  have hpl := stars_none (pos := pos) (env := X.env) hst.2
  cases b <;> first
    | (cases hb; done)
    | exact sE_bi (g := bLen) (pe_callB cb_len hg hm PySem.boot_len ha hn hd he hpl)
    | exact sE_bi (g := bAbs) (pe_callB cb_abs hg hm PyProof.Rows.boot_abs ha hn hd he hpl)
    | exact sE_bi (g := bInt) (pe_callTy cb_int hg hm PyProof.Rows.boot_int ha hn hd he hpl)
    | exact sE_bi (g := bList) (pe_callTy cb_list hg hm PyProof.Rows.boot_list ha hn hd he hpl)
    | exact sE_bi (g := bTuple) (pe_callTy cb_tuple hg hm PyProof.Rows.boot_tuple ha hn hd he hpl)
    | exact sE_bi (g := bSum) (pe_callB (cb_sum c.calm) hg hm PyProof.Rows.boot_sum ha hn hd he hpl)
    | exact sE_bi (g := bMin) (pe_callB (cb_min c.calm c.hu) hg hm PyProof.Rows.boot_min ha hn hd he hpl)
    | exact sE_bi (g := bMax) (pe_callB (cb_max c.calm c.hu) hg hm PyProof.Rows.boot_max ha hn hd he hpl)
    | exact sE_bi (g := bMin2) (pe_callB (cb_min2 c.calm) hg hm PyProof.Rows.boot_min ha hn hd he hpl)
    | exact sE_bi (g := bMax2) (pe_callB (cb_max2 c.calm) hg hm PyProof.Rows.boot_max ha hn hd he hpl)
    | exact sE_bi (g := bAll) (pe_callB (cb_all c.calm) hg hm PyProof.Rows.boot_all ha hn hd he hpl)
    | exact sE_bi (g := bSort) (pe_callB (cb_sorted c.calm c.hu) hg hm PyProof.Rows.boot_sorted ha hn hd he hpl)
    | exact sE_bi (g := bAny) (pe_callB (cb_any c.calm) hg hm PyProof.Rows.boot_any ha hn hd he hpl)
theorem few_ok {y : Expr} {cpos : Pos} (h : noStar y = true) : ((backTo cpos (starEach [y] X.env)).all (fun x => !x.1) && (backToKw cpos (keywordEach [] X.env)).all (fun x => x.1.isSome) && decide ([y].length + ([] : List Keyword).length + (if ([] : List Keyword).isEmpty then 0 else 1) < 30)) = true := by
  rw [star_cons h]
  rfl
end
end EV
end

section
/-! EvN -/
set_option Elab.async false
set_option linter.all false
set_option maxRecDepth 100000
set_option maxHeartbeats 800000
/-! EvN: the theorem for expressions. -/
namespace EV
open PySem PySem.Spec L2

theorem b2 {a b : Bool} (h : (a && b) = true) : a = true ∧ b = true := Bool.and_eq_true_iff.mp h
/-- a test of an expression that has no road of its own -/
theorem sT_plain {X : Cx} {B : Bs} {W : Nat → Prop} {ex : Expr} {r : Rho → Rs (Opd × Rho)} (h : PE X ex (tE X.K B W r)) (he : ∀ whole, isTrue ex X.env whole = (do let v ← whole; standAt ex.pos; holding [v] (truthy v))) : PT X ex (tT X.K B W (rT fun ρ => stl (r ρ))) := sT_val (sE_stl h) he
theorem pt_cong {X : Cx} {B : Bs} {W : Nat → Prop} {ex : Expr} {r r' : Rho → Rs (Bool × Rho)} (h : PT X ex (tT X.K B W r)) (e : r' = r) : PT X ex (tT X.K B W r') := e ▸ h
theorem pw_cong {X : Cx} {B : Bs} {W : Nat → Prop} {ex : Expr} {r r' : Rho → Rs (Bool × Rho)} (h : PW X ex (tT X.K B W r)) (e : r' = r) : PW X ex (tT X.K B W r') := e ▸ h


section
variable {X : Cx} {e : Expr} {es : List Expr}
theorem pe_cong {t t' : TE} (h : PE X e t) (q : t' = t) : PE X e t' := q ▸ h
theorem pa_cong {t t' : TA} (h : PA X es t) (q : t' = t) : PA X es t' := q ▸ h
end
theorem tst_bool {ra : Rho → Rs (Bool × Rho)} : (rT fun ρ => stl (do
    let (b, ρ) ← ra ρ
    .ok (Opd.val (.bool b), ρ))) = ra := by
  funext ρ
  simp only [rT]
  cases h : ra ρ with
  | ex c => rfl
  | st => rfl
  | ok p => rfl

theorem pts_imp {X : Cx} {xs : List Expr} {t t' : TT} (h : PTs X xs t) (i : ∀ σ H Q, t' σ H Q → t σ H Q) : PTs X xs t' := ⟨fun pins s σ H Q I q => h.run pins s σ H Q I (i σ H Q q)⟩

theorem chkA_nil {N : List Str} {T : Tab} {sc : Scope} {blk : Option Scope} {C : Cfg} {io : Option Nat} {K : PySem.W.Frag} {B : Bs} {W : Nat → Prop} {σ : L2.St} {H : Hp} {Q : List V → Hp → Prop} : ∀ {es : Es}, chkA N T sc blk es [] = true → tAs K B W (evA C io es) σ H Q → tNil σ H Q
  | .nil, _, ⟨ρ, F, R, p⟩ => p [] F H (Same.refl _) R .nil
  | .cons _ _, h, _ => Bool.noConfusion (show false = true from h)
  | .bor _ _, h, _ => Bool.noConfusion (show false = true from h)
  | .star _ _, h, _ => Bool.noConfusion (show false = true from h)
theorem ite_ev {C : Cfg} {io : Option Nat} {t a b : EV.E} : ev C io (.ite t a b) = fun ρ => (do
    let (t, ρ) ← (rT fun ρ => stl (ev C io t ρ)) ρ
    if t then ev C io a ρ else ev C io b ρ) := by
  funext ρ
  rw [ev]
  simp only [rT]
  cases q : stl (ev C io t ρ) with
  | ex c => rfl
  | st => rfl
  | ok p =>
    obtain ⟨x, ρ1⟩ := p
    simp only [bind_ok]
    cases q2 : look ρ1 x with
    | none => rfl
    | some d =>
      simp only [of_some, bind_ok]
      cases q3 : tr d with
      | none => rfl
      | some t => rfl
theorem rT_ite {C : Cfg} {io : Option Nat} {t a b : EV.E} : (rT fun ρ => stl (ev C io (.ite t a b) ρ)) = fun ρ => (do
    let (t, ρ) ← (rT fun ρ => stl (ev C io t ρ)) ρ
    if t then (rT fun ρ => stl (ev C io a ρ)) ρ else (rT fun ρ => stl (ev C io b ρ)) ρ) := by
  rw [ite_ev]
  funext ρ
  show (rT fun ρ => stl (do
    let (t, ρ) ← (rT fun ρ => stl (ev C io t ρ)) ρ
    if t then ev C io a ρ else ev C io b ρ)) ρ = _
  generalize hr : (rT fun ρ => stl (ev C io t ρ)) = r
  simp only [rT]
  cases q : r ρ with
  | ex c => rfl
  | st => rfl
  | ok p =>
    obtain ⟨t, ρ1⟩ := p
    cases t <;> rfl
section
variable {ra rb rc rd : Rho → Rs (Opd × Rho)}
theorem bool_back {r : Rs (Bool × Rho)} {ρ : Rho} : (rT fun _ => stl (r >>= fun p => Rs.ok (Opd.val (.bool p.1), p.2))) ρ = r := by
  cases r with
  | ex c => rfl
  | st => rfl
  | ok p => rfl
theorem rT_cmp {o : Cop} : (rT fun ρ => stl (do
    let (x, ρ) ← ra ρ
    let (y, ρ) ← rb ρ
    let dx ← Rs.of (look ρ x)
    let dy ← Rs.of (look ρ y)
    let r ← Rs.of (cmpop o dx dy)
    .ok (.val (.bool r), ρ))) = fun ρ => (do
    let (x, ρ) ← ra ρ
    let (y, ρ) ← rb ρ
    let dx ← Rs.of (look ρ x)
    let dy ← Rs.of (look ρ y)
    let r ← Rs.of (cmpop o dx dy)
    .ok (r, ρ)) := by
  funext ρ
  refine Eq.trans ?_ (bool_back (ρ := ρ))
  simp only [rT]
  congr 2
  cases ra ρ with
  | ex c => rfl
  | st => rfl
  | ok p =>
    obtain ⟨x, ρ1⟩ := p
    simp only [bind_ok]
    cases rb ρ1 with
    | ex c => rfl
    | st => rfl
    | ok p =>
      obtain ⟨y, ρ2⟩ := p
      simp only [bind_ok]
      cases look ρ2 x with
      | none => rfl
      | some dx =>
        simp only [of_some, bind_ok]
        cases look ρ2 y with
        | none => rfl
        | some dy =>
          simp only [of_some, bind_ok]
          cases cmpop o dx dy <;> rfl
theorem rT_is {neg : Bool} {d0 : D} : (rT fun ρ => stl (do
    let (x, ρ) ← ra ρ
    let dx ← Rs.of (look ρ x)
    let r ← Rs.of (isD dx d0)
    .ok (.val (.bool (if neg then !r else r)), ρ))) = fun ρ => (do
    let (x, ρ) ← ra ρ
    let dx ← Rs.of (look ρ x)
    let r ← Rs.of (isD dx d0)
    .ok (if neg then !r else r, ρ)) := by
  funext ρ
  refine Eq.trans ?_ (bool_back (ρ := ρ))
  simp only [rT]
  congr 2
  cases ra ρ with
  | ex c => rfl
  | st => rfl
  | ok p =>
    obtain ⟨x, ρ1⟩ := p
    simp only [bind_ok]
    cases look ρ1 x with
    | none => rfl
    | some dx =>
      simp only [of_some, bind_ok]
      cases isD dx d0 <;> rfl
theorem rT_ch {o o' : Cop} : (rT fun ρ => stl (do
    let (x, ρ) ← ra ρ
    let (y, ρ) ← rb ρ
    let dx ← Rs.of (look ρ x)
    let dy ← Rs.of (look ρ y)
    let r ← Rs.of (cmpop o dx dy)
    if r then do
      let (z, ρ) ← rc ρ
      let dy ← Rs.of (look ρ y)
      let dz ← Rs.of (look ρ z)
      let r ← Rs.of (cmpop o' dy dz)
      .ok (.val (.bool r), ρ)
    else .ok (.val (.bool false), ρ))) = fun ρ => (do
    let (x, ρ) ← ra ρ
    let (y, ρ) ← rb ρ
    let dx ← Rs.of (look ρ x)
    let dy ← Rs.of (look ρ y)
    let r ← Rs.of (cmpop o dx dy)
    if r then do
      let (z, ρ) ← rc ρ
      let dy ← Rs.of (look ρ y)
      let dz ← Rs.of (look ρ z)
      let r ← Rs.of (cmpop o' dy dz)
      .ok (r, ρ)
    else .ok (false, ρ)) := by
  funext ρ
  refine Eq.trans ?_ (bool_back (ρ := ρ))
  simp only [rT]
  congr 2
  cases ra ρ with
  | ex c => rfl
  | st => rfl
  | ok p =>
    obtain ⟨x, ρ1⟩ := p
    simp only [bind_ok]
    cases rb ρ1 with
    | ex c => rfl
    | st => rfl
    | ok p =>
      obtain ⟨y, ρ2⟩ := p
      simp only [bind_ok]
      cases look ρ2 x with
      | none => rfl
      | some dx =>
        simp only [of_some, bind_ok]
        cases look ρ2 y with
        | none => rfl
        | some dy =>
          simp only [of_some, bind_ok]
          cases cmpop o dx dy with
          | none => rfl
          | some r =>
            simp only [of_some, bind_ok]
            cases r with
            | false => rfl
            | true =>
              simp only [if_true]
              cases rc ρ2 with
              | ex c => rfl
              | st => rfl
              | ok p =>
                obtain ⟨z, ρ3⟩ := p
                simp only [bind_ok]
                cases look ρ3 y with
                | none => rfl
                | some dy =>
                  simp only [of_some, bind_ok]
                  cases look ρ3 z with
                  | none => rfl
                  | some dz =>
                    simp only [of_some, bind_ok]
                    cases cmpop o' dy dz <;> rfl
theorem rT_ch3 {o o' o'' : Cop} : (rT fun ρ => stl (do
    let (x, ρ) ← ra ρ
    let (y, ρ) ← rb ρ
    let dx ← Rs.of (look ρ x)
    let dy ← Rs.of (look ρ y)
    let r ← Rs.of (cmpop o dx dy)
    if r then do
      let (z, ρ) ← rc ρ
      let dy ← Rs.of (look ρ y)
      let dz ← Rs.of (look ρ z)
      let r ← Rs.of (cmpop o' dy dz)
      if r then do
        let (w, ρ) ← rd ρ
        let dz ← Rs.of (look ρ z)
        let dw ← Rs.of (look ρ w)
        let r ← Rs.of (cmpop o'' dz dw)
        .ok (.val (.bool r), ρ)
      else .ok (.val (.bool false), ρ)
    else .ok (.val (.bool false), ρ))) = fun ρ => (do
    let (x, ρ) ← ra ρ
    let (y, ρ) ← rb ρ
    let dx ← Rs.of (look ρ x)
    let dy ← Rs.of (look ρ y)
    let r ← Rs.of (cmpop o dx dy)
    if r then do
      let (z, ρ) ← rc ρ
      let dy ← Rs.of (look ρ y)
      let dz ← Rs.of (look ρ z)
      let r ← Rs.of (cmpop o' dy dz)
      if r then do
        let (w, ρ) ← rd ρ
        let dz ← Rs.of (look ρ z)
        let dw ← Rs.of (look ρ w)
        let r ← Rs.of (cmpop o'' dz dw)
        .ok (r, ρ)
      else .ok (false, ρ)
    else .ok (false, ρ)) := by
  funext ρ
  refine Eq.trans ?_ (bool_back (ρ := ρ))
  simp only [rT]
  congr 2
  cases ra ρ with
  | ex c => rfl
  | st => rfl
  | ok p =>
    obtain ⟨x, ρ1⟩ := p
    simp only [bind_ok]
    cases rb ρ1 with
    | ex c => rfl
    | st => rfl
    | ok p =>
      obtain ⟨y, ρ2⟩ := p
      simp only [bind_ok]
      cases look ρ2 x with
      | none => rfl
      | some dx =>
        simp only [of_some, bind_ok]
        cases look ρ2 y with
        | none => rfl
        | some dy =>
          simp only [of_some, bind_ok]
          cases cmpop o dx dy with
          | none => rfl
          | some r =>
            simp only [of_some, bind_ok]
            cases r with
            | false => rfl
            | true =>
              simp only [if_true]
              cases rc ρ2 with
              | ex c => rfl
              | st => rfl
              | ok p =>
                obtain ⟨z, ρ3⟩ := p
                simp only [bind_ok]
                cases look ρ3 y with
                | none => rfl
                | some dy =>
                  simp only [of_some, bind_ok]
                  cases look ρ3 z with
                  | none => rfl
                  | some dz =>
                    simp only [of_some, bind_ok]
                    cases cmpop o' dy dz with
                    | none => rfl
                    | some r =>
                      simp only [of_some, bind_ok]
                      cases r with
                      | false => rfl
                      | true =>
                        simp only [if_true]
                        cases rd ρ3 with
                        | ex c => rfl
                        | st => rfl
                        | ok p =>
                          obtain ⟨w, ρ4⟩ := p
                          simp only [bind_ok]
                          cases look ρ4 z with
                          | none => rfl
                          | some dz =>
                            simp only [of_some, bind_ok]
                            cases look ρ4 w with
                            | none => rfl
                            | some dw =>
                              simp only [of_some, bind_ok]
                              cases cmpop o'' dz dw <;> rfl
theorem rev_ev {C : Cfg} {io : Option Nat} {e : EV.E} : ev C io (.rev e) = fun ρ => (do
    let (x, ρ) ← stl (ev C io e ρ)
    let d ← Rs.of (look ρ x)
    let r ← Rs.of (bRev [d])
    .ok (r, ρ)) := by
  funext ρ
  rw [ev]
theorem ch3_ev {C : Cfg} {io : Option Nat} {o o' o'' : Cop} {a b c d : EV.E} : ev C io (.ch3 o o' o'' a b c d) = fun ρ => (do
    let (x, ρ) ← (fun ρ => stl (ev C io a ρ)) ρ
    let (y, ρ) ← (fun ρ => stl (ev C io b ρ)) ρ
    let dx ← Rs.of (look ρ x)
    let dy ← Rs.of (look ρ y)
    let r ← Rs.of (cmpop o dx dy)
    if r then do
      let (z, ρ) ← (fun ρ => stl (ev C io c ρ)) ρ
      let dy ← Rs.of (look ρ y)
      let dz ← Rs.of (look ρ z)
      let r ← Rs.of (cmpop o' dy dz)
      if r then do
        let (w, ρ) ← (fun ρ => stl (ev C io d ρ)) ρ
        let dz ← Rs.of (look ρ z)
        let dw ← Rs.of (look ρ w)
        let r ← Rs.of (cmpop o'' dz dw)
        .ok (.val (.bool r), ρ)
      else .ok (.val (.bool false), ρ)
    else .ok (.val (.bool false), ρ)) := by
  funext ρ
  rw [ev]
def reg1 (C : Cfg) (io : Option Nat) (a : EV.E) : Rho → Rs ((Int × Int) × Rho) := fun ρ => do
    let (x, ρ) ← stl (ev C io a ρ)
    match look ρ x with
    | some (.int j) => .ok ((0, j), ρ)
    | _ => .st
def reg2 (C : Cfg) (io : Option Nat) (a b : EV.E) : Rho → Rs ((Int × Int) × Rho) := fun ρ => do
    let (x, ρ) ← stl (ev C io a ρ)
    let (y, ρ) ← stl (ev C io b ρ)
    match look ρ x, look ρ y with
    | some (.int i), some (.int j) => .ok ((i, j), ρ)
    | _, _ => .st
theorem li1_ev {C : Cfg} {io : Option Nat} {a : EV.E} : ev C io (.li (.rng1 a)) = fun ρ => (do
    let (q, ρ) ← reg1 C io a ρ
    if small62 q.1 && small62 q.2 then (if (rngL q.1 (q.2 - q.1).toNat).length ≤ 100000 then .ok (.own (.list (rngL q.1 (q.2 - q.1).toNat)), ρ) else .st) else .st) := by
  funext ρ
  rw [ev, evI]
  unfold reg1
  cases stl (ev C io a ρ) with
  | ex c => rfl
  | st => rfl
  | ok p =>
    obtain ⟨x, ρ1⟩ := p
    simp only [bind_ok]
    cases look ρ1 x with
    | none => rfl
    | some d =>
      cases d with
      | int j =>
        have e0 : small62 0 = true := by decide
        simp only [bind_ok, e0, Bool.true_and, Int.sub_zero]
        by_cases h : small62 j = true
        · rw [if_pos h, if_pos h]; rfl
        · rw [if_neg h, if_neg h]; rfl
      | _ => rfl
theorem li2_ev {C : Cfg} {io : Option Nat} {a b : EV.E} : ev C io (.li (.rng2 a b)) = fun ρ => (do
    let (q, ρ) ← reg2 C io a b ρ
    if small62 q.1 && small62 q.2 then (if (rngL q.1 (q.2 - q.1).toNat).length ≤ 100000 then .ok (.own (.list (rngL q.1 (q.2 - q.1).toNat)), ρ) else .st) else .st) := by
  funext ρ
  rw [ev, evI]
  unfold reg2
  cases stl (ev C io a ρ) with
  | ex c => rfl
  | st => rfl
  | ok p =>
    obtain ⟨x, ρ1⟩ := p
    simp only [bind_ok]
    cases stl (ev C io b ρ1) with
    | ex c => rfl
    | st => rfl
    | ok p =>
      obtain ⟨y, ρ2⟩ := p
      simp only [bind_ok]
      cases look ρ2 x with
      | none => rfl
      | some d =>
        cases d with
        | int i =>
          cases look ρ2 y with
          | none => rfl
          | some d =>
            cases d with
            | int j =>
              simp only [bind_ok]
              by_cases h : (small62 i && small62 j) = true
              · rw [if_pos h, if_pos h]; rfl
              · rw [if_neg h, if_neg h]; rfl
            | _ => rfl
        | _ => rfl
end
theorem sT_ite {X : Cx} {B : Bs} {W : Nat → Prop} {a b d : Expr} {pos : Pos} {ta tb tc : Rho → Rs (Bool × Rho)} (hc : PT X d (tT X.K B W tc)) (ha : PT X a (tT X.K B W ta)) (hb : PT X b (tT X.K B W tb)) : PT X (.IfExp d a b pos) (tT X.K B W fun ρ => do
    let (t, ρ) ← tc ρ
    if t then ta ρ else tb ρ) := by
  refine ⟨fun pins s σ H Q I h => ?_⟩
  have key : (tT X.K B W tc) σ H (fun t H1 => if t = true then (tT X.K B W ta) σ H1 Q else (tT X.K B W tb) σ H1 Q) := by
    obtain ⟨ρ, F, R, p⟩ := h
    refine ⟨ρ, F, R, p.step fun ⟨t, ρ1⟩ p F1 H1 s1 R1 => ?_⟩
    cases t with
    | false => exact ⟨ρ1, F1, R1, Post.mono p fun ⟨y, ρ2⟩ p F2 H2 s2 R2 => p F2 H2 (s1.trans s2) R2⟩
    | true => exact ⟨ρ1, F1, R1, Post.mono p fun ⟨y, ρ2⟩ p F2 H2 s2 R2 => p F2 H2 (s1.trans s2) R2⟩
  refine PyProof.Rows.isTrue_IfExp (thn (hc.run pins s σ H _ I key) fun t s1 ⟨H1, I1, q⟩ => ?_)
  cases t with
  | false => exact hb.run pins s1 σ H1 Q I1 q
  | true => exact ha.run pins s1 σ H1 Q I1 q
section
variable {X : Cx} {B : Bs} {W : Nat → Prop} {C : Cfg} {io : Option Nat}
theorem sE_ch3 (hu : X.A.units + 64 < cLine) {o o' o'' : Cop} {a b d f : EV.E} {x y z w : Expr} {pos : Pos} (h1 : PE X x (tE X.K B W (ev C io a))) (h2 : PE X y (tE X.K B W (ev C io b))) (h3 : PE X z (tE X.K B W (ev C io d))) (h4 : PE X w (tE X.K B W (ev C io f)))
   (h5 : lastMarks [copOf o, copOf o', copOf o''] [y, z, w] = false) : PE X (.Compare x [copOf o, copOf o', copOf o''] [y, z, w] pos) (tE X.K B W (ev C io (.ch3 o o' o'' a b d f))) := by
  have k := sS_ch3 (pos := pos) hu o o' o'' (sE_stl h1) (sE_stl h2) (sE_stl h3) (sE_stl h4) h5
  have k2 := sE_of k
  refine pe_imp k2 fun σ H Q q => ?_
  obtain ⟨ρ, F, R, p⟩ := q
  rw [ev] at p
  exact ⟨ρ, F, R, p⟩
theorem sT_ch3' (hu : X.A.units + 64 < cLine) {o o' o'' : Cop} {a b d f : EV.E} {x y z w : Expr} {pos : Pos} (h1 : PE X x (tE X.K B W (ev C io a))) (h2 : PE X y (tE X.K B W (ev C io b))) (h3 : PE X z (tE X.K B W (ev C io d))) (h4 : PE X w (tE X.K B W (ev C io f)))
   (h5 : lastMarks [copOf o, copOf o', copOf o''] [y, z, w] = false) : PT X (.Compare x [copOf o, copOf o', copOf o''] [y, z, w] pos) (tT X.K B W (rT fun ρ => stl (ev C io (.ch3 o o' o'' a b d f) ρ))) := by
  have k := sT_ch3 (pos := pos) hu o o' o'' (sE_stl h1) (sE_stl h2) (sE_stl h3) (sE_stl h4) h5
  refine pt_imp k fun σ H Q q => ?_
  obtain ⟨ρ, F, R, p⟩ := q
  have e := congrFun (rT_ch3 (ra := fun ρ => stl (ev C io a ρ)) (rb := fun ρ => stl (ev C io b ρ)) (rc := fun ρ => stl (ev C io d ρ)) (rd := fun ρ => stl (ev C io f ρ)) (o := o) (o' := o') (o'' := o'')) ρ
  dsimp only at e
  rw [ch3_ev] at p
  dsimp only at p
  rw [e] at p
  exact ⟨ρ, F, R, p⟩
end

structure IHs (C : Cfg) (T : Tab) (N : List Str) (ca : Nat → Addr) (lv : Nat) (io : Option Nat) (n : Nat) : Prop where
  snd : ∀ {X : Cx} {sc : Scope} {blk : Option Scope} {E : XK} (c : Cc X C T N sc blk E ca lv) {B : Bs} (hio : ∀ i a, B.io = some (i, a) → io = some i), ∀ (e : EV.E) (ex : Expr), chk N T sc blk e ex = true → (_ : sizeOf e < n := by omega) → PE X ex (tE X.K B (WE E ca B) (ev C io e))
  snt : ∀ {X : Cx} {sc : Scope} {blk : Option Scope} {E : XK} (c : Cc X C T N sc blk E ca lv) {B : Bs} (hio : ∀ i a, B.io = some (i, a) → io = some i), ∀ (e : EV.E) (ex : Expr), chk N T sc blk e ex = true → (_ : sizeOf e < n := by omega) → PT X ex (tT X.K B (WE E ca B) (rT fun ρ => stl (ev C io e ρ)))
  snw : ∀ {X : Cx} {sc : Scope} {blk : Option Scope} {E : XK} (c : Cc X C T N sc blk E ca lv) {B : Bs} (hio : ∀ i a, B.io = some (i, a) → io = some i), ∀ (e : EV.E) (ex : Expr), chk N T sc blk e ex = true → (_ : sizeOf e < n := by omega) → (∃ op xs p, ex = .BoolOp op xs p) → PW X ex (tT X.K B (WE E ca B) (rT fun ρ => stl (ev C io e ρ)))
  sndC : ∀ {X : Cx} {sc : Scope} {blk : Option Scope} {E : XK} (c : Cc X C T N sc blk E ca lv) {B : Bs} (hio : ∀ i a, B.io = some (i, a) → io = some i), ∀ (es : Eo) (xs : List Expr), chkC N T sc blk es xs = true → (_ : sizeOf es < n := by omega) → PTs X xs (fun σ H Q => ∃ z : Addr × HO, tT X.K (B.pin z.1 z.2) (WE E ca (B.pin z.1 z.2)) (evC C io es) σ H Q)
  sndA : ∀ {X : Cx} {sc : Scope} {blk : Option Scope} {E : XK} (c : Cc X C T N sc blk E ca lv) {B : Bs} (hio : ∀ i a, B.io = some (i, a) → io = some i), ∀ (es : Es) (xs : List Expr), chkA N T sc blk es xs = true → (_ : sizeOf es < n := by omega) → PA X xs (tAs X.K B (WE E ca B) (evA C io es))
  sndO : ∀ {X : Cx} {sc : Scope} {blk : Option Scope} {E : XK} (c : Cc X C T N sc blk E ca lv) {B : Bs} (hio : ∀ i a, B.io = some (i, a) → io = some i), ∀ (es : Eo) (xs : Option Expr), chkO N T sc blk es xs = true → (_ : sizeOf es < n := by omega) → PO X xs (tPO X.K B (WE E ca B) (evO C io es))
  sndI : ∀ {X : Cx} {sc : Scope} {blk : Option Scope} {E : XK} (c : Cc X C T N sc blk E ca lv) {B : Bs} (hio : ∀ i a, B.io = some (i, a) → io = some i), ∀ (it : EV.It) (ex : Expr) (b : Bool) (tg : Expr), (b = true → ∃ es k p, tg = .Tuple es k p) → chkI N T sc blk it ex b = true → (_ : sizeOf it < n := by omega) → PI X tg ex (tI X.K B (WE E ca B) (evI C io it))
section
variable {C : Cfg} {T : Tab} {N : List Str} {ca : Nat → Addr} {lv : Nat} (io : Option Nat)
mutual
/-- targets -/
theorem sndT {X : Cx} {sc : Scope} {blk : Option Scope} {E : XK} (c : Cc X C T N sc blk E ca lv) {B : Bs} (hio : ∀ i a, B.io = some (i, a) → io = some i) : ∀ (t : Tg) (ex : Expr), chkT N sc blk t ex = true → PG X ex (tG X.K B (tgS t) (bindT io t))
  | .v i, ex, h => by
    unfold chkT at h
    split at h
    · obtain ⟨h1, h2⟩ := b2 h
      obtain ⟨l1, l2⟩ := c.loc h2
      exact sG_v hio (by rw [c.hN]; exact c.nd) (by rw [c.hN]; exact of_decide_eq_true h1) l1 l2
    · cases h
  | .t ts, ex, h => by
    unfold chkT at h
    split at h
    · obtain ⟨h1, h2, h3⟩ := sndTs c hio ts _ h
      exact sG_t c.calm h1 h2 h3
    · cases h
theorem sndTs {X : Cx} {sc : Scope} {blk : Option Scope} {E : XK} (c : Cc X C T N sc blk E ca lv) {B : Bs} (hio : ∀ i a, B.io = some (i, a) → io = some i) : ∀ (ts : Tgs) (es : List Expr), chkTs N sc blk ts es = true → PGs X es (tGs X.K B (tgsS ts) (bindTs io ts)) ∧ (assignEach es X.env).length = tgsN ts ∧ (assignEach es X.env).findIdx? (·.1) = none
  | .nil, es, h => by
    unfold chkTs at h
    split at h
    · exact ⟨sGs_nil, rfl, rfl⟩
    · cases h
  | .cons t ts, es, h => by
    unfold chkTs at h
    split at h
    · obtain ⟨h0, h⟩ := b2 h
      obtain ⟨h1, h2⟩ := b2 h
      obtain ⟨q1, q2, q3⟩ := sndTs c hio ts _ h2
      refine ⟨sGs_cons (sndT c hio t _ h1) q1 (by rw [asg_cons h0]; rfl), ?_, ?_⟩
      · rw [asg_cons h0]; simp [tgsN, q2]
      · rw [asg_cons h0, List.findIdx?_cons]; simp [q3]
    · cases h
end
theorem snd_step {n : Nat} (ih : IHs C T N ca lv io n) {X : Cx} {sc : Scope} {blk : Option Scope} {E : XK} (c : Cc X C T N sc blk E ca lv) {B : Bs} (hio : ∀ i a, B.io = some (i, a) → io = some i) : ∀ (e : EV.E) (ex : Expr), chk N T sc blk e ex = true → sizeOf e < n + 1 → PE X ex (tE X.K B (WE E ca B) (ev C io e))
  | .c d, ex, h, hn => by
    try simp at hn
    unfold chk at h
    split at h
    · rw [of_decide_eq_true h]; exact sE_const pe_int fun F => .int _
    · rw [of_decide_eq_true h]; exact sE_const pe_bl fun F => .bl _
    · exact sE_const pe_non fun F => .non
    · rw [of_decide_eq_true h]; exact sE_const pe_str fun F => .str _
    · cases h
  | .v i, ex, h, hn => by
    try simp at hn
    unfold chk at h
    split at h
    · obtain ⟨h1, h2⟩ := b2 h
      obtain ⟨v1, v2, v3⟩ := c.vis h2
      exact sE_v (by rw [c.hN]; exact of_decide_eq_true h1) v1 v2 v3
    · cases h
  | .g k, ex, h, hn => by
    try simp at hn
    unfold chk at h
    split at h
    · obtain ⟨h1, h2⟩ := b2 h
      obtain ⟨g1, g2⟩ := c.gl h2
      cases q : C.globs[k]? with
      | none =>
        refine pe_imp (t := fun _ _ _ => False) ⟨fun _ _ _ _ _ _ z => z.elim⟩ fun σ H Q ⟨ρ, F, R, p⟩ => ?_
        rw [ev, q] at p
        exact p
      | some d =>
        obtain ⟨u, v, m1, m2, m3⟩ := c.gls k d _ q (of_decide_eq_true h1)
        rw [show ev C io (.g k) = fun ρ => Rs.ok (Opd.val d, ρ) from by funext ρ; rw [ev, q]]
        exact sE_const (pe_glob g1 m1 m2 g2) m3
    · cases h
  | .neg a, ex, h, hn => by
    try simp at hn
    unfold chk at h
    split at h
    · exact sE_neg (sE_stl (ih.snd c hio a _ h))
    · cases h
  | .bin o a b, ex, h, hn => by
    try simp at hn
    unfold chk at h
    split at h
    · obtain ⟨h0, h⟩ := b2 h
      obtain ⟨h1, h2⟩ := b2 h
      rw [of_decide_eq_true h0]
      exact sE_bin o (sE_stl (ih.snd c hio a _ h1)) (sE_stl (ih.snd c hio b _ h2))
    · cases h
  | .not a, ex, h, hn => by
    try simp at hn
    unfold chk at h
    split at h
    · exact sE_of (sS_not (sE_stl (ih.snd c hio a _ h)))
    · cases h
  | .and a b, ex, h, hn => by
    try simp at hn
    unfold chk at h
    split at h
    · obtain ⟨h1, h2⟩ := b2 h
      exact sE_of (sS_and (sE_stl (ih.snd c hio a _ h1)) (pe_one (sE_stl (ih.snd c hio b _ h2))))
    · obtain ⟨h1, h2⟩ := b2 h
      exact sE_of (sS_and (sE_stl (ih.snd c hio a _ h1)) (sE_stl (ih.snd c hio b _ h2)))
    · cases h
  | .or a b, ex, h, hn => by
    try simp at hn
    unfold chk at h
    split at h
    · obtain ⟨h1, h2⟩ := b2 h
      exact sE_of (sS_or (sE_stl (ih.snd c hio a _ h1)) (pe_one (sE_stl (ih.snd c hio b _ h2))))
    · obtain ⟨h1, h2⟩ := b2 h
      exact sE_of (sS_or (sE_stl (ih.snd c hio a _ h1)) (sE_stl (ih.snd c hio b _ h2)))
    · cases h
  | .cmp o a b, ex, h, hn => by
    try simp at hn
    unfold chk at h
    split at h
    · obtain ⟨h0, h⟩ := b2 h
      obtain ⟨h1, h2⟩ := b2 h
      obtain ⟨h3, h4⟩ := b2 h0
      rw [of_decide_eq_true h3]
      exact sE_of (sS_cmp c.hu o (sE_stl (ih.snd c hio a _ h1)) (sE_stl (ih.snd c hio b _ h2)) (by simpa using h4))
    · cases h
  | .ch o o' a b d, ex, h, hn => by
    try simp at hn
    unfold chk at h
    split at h
    · obtain ⟨h0, h⟩ := b2 h
      obtain ⟨h1, h⟩ := b2 h
      obtain ⟨h2, h3⟩ := b2 h
      obtain ⟨h0, h6⟩ := b2 h0
      obtain ⟨h4, h5⟩ := b2 h0
      rw [of_decide_eq_true h4, of_decide_eq_true h5]
      exact sE_of (sS_ch c.hu o o' (sE_stl (ih.snd c hio a _ h1)) (sE_stl (ih.snd c hio b _ h2)) (sE_stl (ih.snd c hio d _ h3)) (by simpa using h6))
    · cases h
  | .ch3 o o' o'' a b d f, ex, h, hn => by
    try simp at hn
    unfold chk at h
    split at h
    · obtain ⟨h0, h⟩ := b2 h
      obtain ⟨h1, h⟩ := b2 h
      obtain ⟨h2, h⟩ := b2 h
      obtain ⟨h3, h4⟩ := b2 h
      obtain ⟨h0, h5⟩ := b2 h0
      obtain ⟨h0, h6⟩ := b2 h0
      obtain ⟨h7, h8⟩ := b2 h0
      rw [of_decide_eq_true h7, of_decide_eq_true h8, of_decide_eq_true h6]
      exact sE_ch3 c.hu (ih.snd c hio a _ h1) (ih.snd c hio b _ h2) (ih.snd c hio d _ h3) (ih.snd c hio f _ h4) (by simpa using h5)
    · cases h
  | .isC a d neg, ex, h, hn => by
    try simp at hn
    unfold chk at h
    split at h
    · obtain ⟨h0, h⟩ := b2 h
      obtain ⟨h1, h2⟩ := b2 h
      rw [of_decide_eq_true h0]
      split at h1
      · exact sE_of (sS_is neg (sE_stl (ih.snd c hio a _ h2)) pe_non (fun F => .non) (by cases neg <;> rfl))
      · rw [of_decide_eq_true h1]
        exact sE_of (sS_is neg (sE_stl (ih.snd c hio a _ h2)) pe_bl (fun F => .bl _) (by cases neg <;> rfl))
      · cases h1
    · cases h
  | .ite t a b, ex, h, hn => by
    try simp at hn
    unfold chk at h
    split at h
    · obtain ⟨h0, h⟩ := b2 h
      obtain ⟨h1, h2⟩ := b2 h
      rw [show ev C io (.ite t a b) = _ from ite_ev]
      exact sE_ite (ih.snt c hio t _ h0) (ih.snd c hio a _ h1) (ih.snd c hio b _ h2)
    · cases h
  | .tup es, ex, h, hn => by
    try simp at hn
    unfold chk at h
    split at h
    · exact sE_tup (ih.sndA c hio es _ h)
    · cases h
  | .lst es, ex, h, hn => by
    try simp at hn
    unfold chk at h
    split at h
    · exact sE_lst (ih.sndA c hio es _ h)
    · cases h
  | .rep es b, ex, h, hn => by
    try simp at hn
    unfold chk at h
    split at h
    · obtain ⟨h0, h⟩ := b2 h
      obtain ⟨h1, h2⟩ := b2 h
      rw [of_decide_eq_true h0]
      exact sE_rep (ih.sndA c hio es _ h1) (sE_stl (ih.snd c hio b _ h2))
    · cases h
  | .ix a b, ex, h, hn => by
    try simp at hn
    unfold chk at h
    split at h
    · obtain ⟨h0, h⟩ := b2 h
      obtain ⟨h1, h2⟩ := b2 h
      exact sE_ix (sE_stl (ih.snd c hio a _ h1)) (sE_stl (ih.snd c hio b _ h2)) (plainIx_of h0)
    · cases h
  | .sl a lo hi, ex, h, hn => by
    try simp at hn
    unfold chk at h
    split at h
    · obtain ⟨h0, h⟩ := b2 h
      obtain ⟨h1, h2⟩ := b2 h
      exact sE_sl (sE_stl (ih.snd c hio a _ h0)) (ih.sndO c hio lo _ h1) (ih.sndO c hio hi _ h2)
    · cases h
  | .slSt _ _ _ _, ex, h, hn => by
    try simp at hn
    unfold chk at h
    cases h
  | .call f es, ex, h, hn => by
    try simp at hn
    unfold chk at h
    split at h
    · rename_i x0 p0 xs pos0
      obtain ⟨h0, h⟩ := b2 h
      obtain ⟨h1, h2⟩ := b2 h
      obtain ⟨h3, h4⟩ := b2 h0
      obtain ⟨g1, g2⟩ := c.gl h4
      have ha := ih.sndA c hio es _ h2
      obtain ⟨fd, q⟩ := c.dom f _ (of_decide_eq_true h3)
      · obtain ⟨a, m1, m2, m3⟩ := c.fns f fd _ q (of_decide_eq_true h3)
        have key : (ev C io (.call f es)) = (fun ρ => do
            let (xs, ρ) ← evA C io es ρ
            let ds ← Rs.of (lookAll ρ xs)
            let r ← C.call f ds
            Rs.of (afterCall ρ fd.io xs r)) := by
          funext ρ
          rw [ev, q]
          rfl
        rw [key]
        refine sE_call (fun ds e hc => c.nio f fd ds e q hc) ?_
        cases xs with
        | nil => exact pe_imp (pe_callR0 m3 c.room m2 g1 m1 c.hx g2) fun σ H Q z => chkA_nil h2 z
        | cons x xs =>
          have hn : noStar x = true := h1
          cases hs : noStars xs with
          | true => exact pe_callR m3 c.room m2 g1 m1 c.hx ha g2 (star_cons hn) (stars_none hs)
          | false => exact StX.pe_callS2 m3 c.room m2 g1 m1 c.hx ha g2 (star_cons hn) (stars_any hs)
    · cases h
  | .bi b es, ex, h, hn => by
    try simp at hn
    unfold chk at h
    split at h
    · obtain ⟨h0, hA⟩ := b2 h
      obtain ⟨h0, h1⟩ := b2 h0
      obtain ⟨h0, h2⟩ := b2 h0
      obtain ⟨k0, h3⟩ := b2 h0
      obtain ⟨g1, g2⟩ := c.gl h2
      have h3 := of_decide_eq_true h3
      subst h3
      exact call_bi c b k0 g1 g2 h1 (ih.sndA c hio es _ hA)
    · cases h
  | .isi a t, ex, h, hn => by
    try simp at hn
    unfold chk at h
    split at h
    · obtain ⟨h0, hA⟩ := b2 h
      obtain ⟨h0, h1⟩ := b2 h0
      obtain ⟨h0, h2⟩ := b2 h0
      obtain ⟨h0, h3⟩ := b2 h0
      obtain ⟨h4, h5⟩ := b2 h0
      have h3 := of_decide_eq_true h3
      have h4 := of_decide_eq_true h4
      subst h3
      subst h4
      obtain ⟨g1, g2⟩ := c.gl h2
      obtain ⟨g3, g4⟩ := c.gl h5
      exact sE_isi g3 (c.bis _ (by decide +kernel)) g1 (c.bis _ (tyN_in t)) (boot_tyN t) (tyN_ne t) g2 (sE_stl (ih.snd c hio a _ hA)) (star_cons h1)
    · cases h
  | .me m o es, ex, h, hn => by
    try simp at hn
    unfold chk at h
    split at h
    · obtain ⟨h0, hA⟩ := b2 h
      obtain ⟨h0, h1⟩ := b2 h0
      obtain ⟨h0, h2⟩ := b2 h0
      obtain ⟨h0, h3⟩ := b2 h0
      obtain ⟨h4, h5⟩ := b2 hA
      have h0 := of_decide_eq_true h0
      subst h0
      cases m
      · exact sE_me (g := method .index) (pe_bm PySem.F.plainAttrs_list PySem.F.slot_list_index PySem.F.type_list_index (mb_index c.hu2) (sE_stl (ih.snd c hio o _ h4)) (ih.sndA c hio es _ h5) (plain_base h3) (few_ok h2) h1 (star_cons h2) rfl) (by intro d ds h; cases d <;> first | exact ⟨_, rfl⟩ | cases h)
      · exact sE_me (g := method .count) (pe_bm PySem.F.plainAttrs_list PySem.F.slot_list_count PySem.F.type_list_count (mb_count c.hu) (sE_stl (ih.snd c hio o _ h4)) (ih.sndA c hio es _ h5) (plain_base h3) (few_ok h2) h1 (star_cons h2) rfl) (by intro d ds h; cases d <;> first | exact ⟨_, rfl⟩ | cases h)
    · cases h
  | .pop i, ex, h, hn => by
    try simp at hn
    unfold chk at h
    split at h
    · obtain ⟨h0, h⟩ := b2 h
      obtain ⟨h0, h1⟩ := b2 h0
      obtain ⟨h0, h2⟩ := b2 h0
      obtain ⟨v1, v2, v3⟩ := c.vis h
      have h0 := of_decide_eq_true h0
      subst h0
      exact sE_pop (by rw [c.hN]; exact of_decide_eq_true h1) v1 v2 v3 h2
    · cases h
  | .rev e, ex, h, hn => by
    try simp at hn
    unfold chk at h
    split at h
    · obtain ⟨h0, hA⟩ := b2 h
      obtain ⟨h0, h1⟩ := b2 h0
      obtain ⟨h0, h2⟩ := b2 h0
      obtain ⟨h0, h3⟩ := b2 h0
      obtain ⟨k0, h4⟩ := b2 h0
      have h3 := of_decide_eq_true h3
      have k0 := of_decide_eq_true k0
      subst h3
      subst k0
      obtain ⟨g1, g2⟩ := c.gl h4
      obtain ⟨g3, g4⟩ := c.gl h2
      rw [rev_ev]
      exact sE_lrev c.calm g1 (c.bis _ (by decide +kernel)) g3 (c.bis _ (by decide +kernel)) (sE_stl (ih.snd c hio e _ hA)) (star_cons h1)
    · cases h
  | .li (.rng1 a), ex, h, hn => by
    try simp at hn
    unfold chk at h
    split at h
    · obtain ⟨h0, hA⟩ := b2 h
      obtain ⟨h0, _⟩ := b2 h0
      obtain ⟨k0, h4⟩ := b2 h0
      have k0 := of_decide_eq_true k0
      subst k0
      obtain ⟨g1, g2⟩ := c.gl h4
      unfold chkI at hA
      split at hA
      · obtain ⟨h0, hA2⟩ := b2 hA
        obtain ⟨h0, h1⟩ := b2 h0
        obtain ⟨h0, h2⟩ := b2 h0
        have h0 := of_decide_eq_true h0
        subst h0
        obtain ⟨g3, g4⟩ := c.gl h2
        rw [li1_ev]
        exact sE_lirg c.calm g1 (c.bis _ (by decide +kernel)) (prg_1 g3 (c.bis _ (by decide +kernel)) (sE_stl (ih.snd c hio a _ hA2)) (star_cons h1)) rfl (rg1_read fun ρ => rfl)
      · cases hA
    · cases h
  | .li (.rng2 a b'), ex, h, hn => by
    try simp at hn
    unfold chk at h
    split at h
    · obtain ⟨h0, hA⟩ := b2 h
      obtain ⟨h0, _⟩ := b2 h0
      obtain ⟨k0, h4⟩ := b2 h0
      have k0 := of_decide_eq_true k0
      subst k0
      obtain ⟨g1, g2⟩ := c.gl h4
      unfold chkI at hA
      split at hA
      · obtain ⟨h0, hA2⟩ := b2 hA
        obtain ⟨hA3, hB⟩ := b2 hA2
        obtain ⟨h0, h1⟩ := b2 h0
        obtain ⟨h0, h2⟩ := b2 h0
        obtain ⟨h0, h3⟩ := b2 h0
        have h0 := of_decide_eq_true h0
        subst h0
        obtain ⟨g3, g4⟩ := c.gl h3
        rw [li2_ev]
        exact sE_lirg c.calm g1 (c.bis _ (by decide +kernel)) (prg_2 g3 (c.bis _ (by decide +kernel)) (sE_stl (ih.snd c hio a _ hA3)) (sE_stl (ih.snd c hio b' _ hB)) (star_cons h2) (star_cons h1) (by rw [star_cons h1]; rfl)) rfl (rg2_read fun ρ => rfl)
      · cases hA
    · cases h
  | .li (.seq _), ex, h, hn => by unfold chk at h; split at h <;> first | (cases h; done) | (rw [show rngB _ = false from rfl] at h; simp at h)
  | .li (.enu _), ex, h, hn => by unfold chk at h; split at h <;> first | (cases h; done) | (rw [show rngB _ = false from rfl] at h; simp at h)
  | .li (.zip _ _), ex, h, hn => by unfold chk at h; split at h <;> first | (cases h; done) | (rw [show rngB _ = false from rfl] at h; simp at h)
  | .li (.enuZip _ _), ex, h, hn => by unfold chk at h; split at h <;> first | (cases h; done) | (rw [show rngB _ = false from rfl] at h; simp at h)
  | .lc elt tg it cd own, ex, h, hn => by
    try simp at hn
    unfold chk at h
    split at h
    · rename_i x t i ifs ia sc' p
      obtain ⟨h0, h⟩ := b2 h
      obtain ⟨h1, h⟩ := b2 h
      obtain ⟨h2, h3⟩ := b2 h
      obtain ⟨h0, k1⟩ := b2 h0
      obtain ⟨h0, k2⟩ := b2 h0
      obtain ⟨h0, k3⟩ := b2 h0
      obtain ⟨h0, k4⟩ := b2 h0
      obtain ⟨h0, k5⟩ := b2 h0
      cases (of_decide_eq_true h0)
      have k3 := of_decide_eq_true k3
      have hI := ih.sndI c hio it i (tupB t) t (by cases t <;> first | (intro z; cases z; done) | exact fun _ => ⟨_, _, _, rfl⟩) h1
      refine pe_imp (pe_lc (own := ownN N own) (g := fun v σ H Q => ∃ z : Addr × HO, tG X.K (B.pin z.1 z.2) (tgS tg) (bindT io tg) v σ H Q)
        (tt := fun σ H Q => ∃ z : Addr × HO, tT X.K (B.pin z.1 z.2) (WE E0 ca (B.pin z.1 z.2)) (evC C io cd) σ H Q) (te := fun σ H Q => ∃ z : Addr × HO, tS X.K (B.pin z.1 z.2) (WE E0 ca (B.pin z.1 z.2)) (fun ρ => stl (ev C io elt ρ)) σ H Q)
        c.calm (by rw [c.hN]; exact c.nd) hI (blkOk_by (by rw [c.hN, c.hsc]; exact k4)) ?_ ?_ ?_ (noset_fold k5)) ?_
      · intro s H Ca cl fp
        exact pg_imp (pg_ex (P := fun _ : Addr × HO => True) fun z _ => sndT io (c.inblk s H sc' Ca cl fp) (B := B.pin z.1 z.2) hio tg t k1) fun v σ H Q ⟨z, q⟩ => ⟨z, trivial, q⟩
      · intro s H Ca cl fp
        exact ih.sndC (c.inblk s H sc' Ca cl fp) hio cd ifs h3
      · intro s H Ca cl fp
        exact pe_imp (pe_ex (P := fun _ : Addr × HO => True) fun z _ => sE_stl (ih.snd (c.inblk s H sc' Ca cl fp) (B := B.pin z.1 z.2) hio elt x h2)) fun σ H Q ⟨z, q⟩ => ⟨z, trivial, q⟩
      · intro σ H Q q
        rw [k3]
        refine tLc_of hio (fun i hi => by simpa using List.all_eq_true.mp k2 i hi) (fun p o v σ H Q q => ⟨⟨p, o⟩, q⟩) (fun p o σ H Q q => ⟨⟨p, o⟩, q⟩) (fun p o σ H Q q => ⟨⟨p, o⟩, q⟩) σ H Q ?_
        rw [show ev C io (.lc elt tg it cd own) = _ from by funext ρ; rw [ev]] at q
        exact q
    · cases h
theorem snw_step {n : Nat} (ih : IHs C T N ca lv io n) {X : Cx} {sc : Scope} {blk : Option Scope} {E : XK} (c : Cc X C T N sc blk E ca lv) {B : Bs} (hio : ∀ i a, B.io = some (i, a) → io = some i) : ∀ (e : EV.E) (ex : Expr), chk N T sc blk e ex = true → sizeOf e < n + 1 → (∃ op xs p, ex = .BoolOp op xs p) → PW X ex (tT X.K B (WE E ca B) (rT fun ρ => stl (ev C io e ρ)))
  | .and a b, ex, h, hn, _ => by
    try simp at hn
    unfold chk at h
    split at h
    · obtain ⟨h1, h2⟩ := b2 h
      exact pw_cong (sW_and (ih.snt c hio a _ h1) (pw_and1 (ih.snt c hio b _ h2))) (rT_and (ra := fun ρ => stl (ev C io a ρ)) (rb := fun ρ => stl (ev C io b ρ)) (settled_stl _) (settled_stl _))
    · obtain ⟨h1, h2⟩ := b2 h
      exact pw_cong (sW_and (ih.snt c hio a _ h1) (ih.snw c hio b _ h2 (by omega) ⟨_, _, _, rfl⟩)) (rT_and (ra := fun ρ => stl (ev C io a ρ)) (rb := fun ρ => stl (ev C io b ρ)) (settled_stl _) (settled_stl _))
    · cases h
  | .or a b, ex, h, hn, _ => by
    try simp at hn
    unfold chk at h
    split at h
    · obtain ⟨h1, h2⟩ := b2 h
      exact pw_cong (sW_or (ih.snt c hio a _ h1) (pw_or1 (ih.snt c hio b _ h2))) (rT_or (ra := fun ρ => stl (ev C io a ρ)) (rb := fun ρ => stl (ev C io b ρ)) (settled_stl _) (settled_stl _))
    · obtain ⟨h1, h2⟩ := b2 h
      exact pw_cong (sW_or (ih.snt c hio a _ h1) (ih.snw c hio b _ h2 (by omega) ⟨_, _, _, rfl⟩)) (rT_or (ra := fun ρ => stl (ev C io a ρ)) (rb := fun ρ => stl (ev C io b ρ)) (settled_stl _) (settled_stl _))
    · cases h
  | .c d, ex, h, hn, ⟨op, xs, p, he⟩ => by subst he; cases d <;> exact Bool.noConfusion (show false = true from h)
  | .neg a, ex, h, hn, ⟨op, xs, p, he⟩ => by subst he; exact Bool.noConfusion (show false = true from h)
  | .v i, ex, h, hn, ⟨op, xs, p, he⟩ => by subst he; exact Bool.noConfusion (show false = true from h)
  | .g k, ex, h, hn, ⟨op, xs, p, he⟩ => by subst he; exact Bool.noConfusion (show false = true from h)
  | .bin o a b, ex, h, hn, ⟨op, xs, p, he⟩ => by subst he; exact Bool.noConfusion (show false = true from h)
  | .not a, ex, h, hn, ⟨op, xs, p, he⟩ => by subst he; exact Bool.noConfusion (show false = true from h)
  | .cmp o a b, ex, h, hn, ⟨op, xs, p, he⟩ => by subst he; exact Bool.noConfusion (show false = true from h)
  | .ch o o' a b d, ex, h, hn, ⟨op, xs, p, he⟩ => by subst he; exact Bool.noConfusion (show false = true from h)
  | .ch3 o o' o'' a b d f, ex, h, hn, ⟨op, xs, p, he⟩ => by subst he; exact Bool.noConfusion (show false = true from h)
  | .isC a d neg, ex, h, hn, ⟨op, xs, p, he⟩ => by subst he; exact Bool.noConfusion (show false = true from h)
  | .ite t a b, ex, h, hn, ⟨op, xs, p, he⟩ => by subst he; exact Bool.noConfusion (show false = true from h)
  | .tup es, ex, h, hn, ⟨op, xs, p, he⟩ => by subst he; exact Bool.noConfusion (show false = true from h)
  | .lst es, ex, h, hn, ⟨op, xs, p, he⟩ => by subst he; exact Bool.noConfusion (show false = true from h)
  | .rep es b, ex, h, hn, ⟨op, xs, p, he⟩ => by subst he; exact Bool.noConfusion (show false = true from h)
  | .ix a b, ex, h, hn, ⟨op, xs, p, he⟩ => by subst he; exact Bool.noConfusion (show false = true from h)
  | .sl a lo hi, ex, h, hn, ⟨op, xs, p, he⟩ => by subst he; exact Bool.noConfusion (show false = true from h)
  | .slSt _ _ _ _, ex, h, hn, ⟨op, xs, p, he⟩ => by subst he; exact Bool.noConfusion (show false = true from h)
  | .call f es, ex, h, hn, ⟨op, xs, p, he⟩ => by subst he; exact Bool.noConfusion (show false = true from h)
  | .bi b es, ex, h, hn, ⟨op, xs, p, he⟩ => by subst he; exact Bool.noConfusion (show false = true from h)
  | .rev e, ex, h, hn, ⟨op, xs, p, he⟩ => by subst he; exact Bool.noConfusion (show false = true from h)
  | .isi a t, ex, h, hn, ⟨op, xs, p, he⟩ => by subst he; exact Bool.noConfusion (show false = true from h)
  | .me m o es, ex, h, hn, ⟨op, xs, p, he⟩ => by subst he; exact Bool.noConfusion (show false = true from h)
  | .pop i, ex, h, hn, ⟨op, xs, p, he⟩ => by subst he; exact Bool.noConfusion (show false = true from h)
  | .li it, ex, h, hn, ⟨op, xs, p, he⟩ => by subst he; exact Bool.noConfusion (show false = true from h)
  | .lc elt tg it cd own, ex, h, hn, ⟨op, xs, p, he⟩ => by subst he; exact Bool.noConfusion (show false = true from h)
theorem snt_step {n : Nat} (ih : IHs C T N ca lv io n) {X : Cx} {sc : Scope} {blk : Option Scope} {E : XK} (c : Cc X C T N sc blk E ca lv) {B : Bs} (hio : ∀ i a, B.io = some (i, a) → io = some i) : ∀ (e : EV.E) (ex : Expr), chk N T sc blk e ex = true → sizeOf e < n + 1 → PT X ex (tT X.K B (WE E ca B) (rT fun ρ => stl (ev C io e ρ)))
  | .not a, ex, h, hn => by
    try simp at hn
    unfold chk at h
    split at h
    · refine pt_cong (sT_not (ih.snt c hio a _ h)) ?_
      exact rT_not (ra := fun ρ => stl (ev C io a ρ))
    · cases h
  | .and a b, ex, h, hn => (snw_step io ih c hio (.and a b) ex h hn (by unfold chk at h; split at h <;> first | (cases h; done) | exact ⟨_, _, _, rfl⟩)).pt
  | .or a b, ex, h, hn => (snw_step io ih c hio (.or a b) ex h hn (by unfold chk at h; split at h <;> first | (cases h; done) | exact ⟨_, _, _, rfl⟩)).pt
  | .cmp o a b, ex, h, hn => by
    try simp at hn
    unfold chk at h
    split at h
    · obtain ⟨h0, h⟩ := b2 h
      obtain ⟨h1, h2⟩ := b2 h
      obtain ⟨h3, h4⟩ := b2 h0
      rw [of_decide_eq_true h3]
      exact pt_cong (sT_cmp c.hu o (sE_stl (ih.snd c hio a _ h1)) (sE_stl (ih.snd c hio b _ h2)) (by simpa using h4)) (rT_cmp (ra := fun ρ => stl (ev C io a ρ)) (rb := fun ρ => stl (ev C io b ρ)) (o := o))
    · cases h
  | .ch o o' a b d, ex, h, hn => by
    try simp at hn
    unfold chk at h
    split at h
    · obtain ⟨h0, h⟩ := b2 h
      obtain ⟨h1, h⟩ := b2 h
      obtain ⟨h2, h3⟩ := b2 h
      obtain ⟨h0, h6⟩ := b2 h0
      obtain ⟨h4, h5⟩ := b2 h0
      rw [of_decide_eq_true h4, of_decide_eq_true h5]
      exact pt_cong (sT_ch c.hu o o' (sE_stl (ih.snd c hio a _ h1)) (sE_stl (ih.snd c hio b _ h2)) (sE_stl (ih.snd c hio d _ h3)) (by simpa using h6)) (rT_ch (ra := fun ρ => stl (ev C io a ρ)) (rb := fun ρ => stl (ev C io b ρ)) (rc := fun ρ => stl (ev C io d ρ)) (o := o) (o' := o'))
    · cases h
  | .ch3 o o' o'' a b d f, ex, h, hn => by
    try simp at hn
    unfold chk at h
    split at h
    · obtain ⟨h0, h⟩ := b2 h
      obtain ⟨h1, h⟩ := b2 h
      obtain ⟨h2, h⟩ := b2 h
      obtain ⟨h3, h4⟩ := b2 h
      obtain ⟨h0, h5⟩ := b2 h0
      obtain ⟨h0, h6⟩ := b2 h0
      obtain ⟨h7, h8⟩ := b2 h0
      rw [of_decide_eq_true h7, of_decide_eq_true h8, of_decide_eq_true h6]
      exact sT_ch3' c.hu (ih.snd c hio a _ h1) (ih.snd c hio b _ h2) (ih.snd c hio d _ h3) (ih.snd c hio f _ h4) (by simpa using h5)
    · cases h
  | .isC a d neg, ex, h, hn => by
    try simp at hn
    unfold chk at h
    split at h
    · obtain ⟨h0, h⟩ := b2 h
      obtain ⟨h1, h2⟩ := b2 h
      rw [of_decide_eq_true h0]
      split at h1
      · exact pt_cong (sT_is neg (sE_stl (ih.snd c hio a _ h2)) pe_non (fun F => .non) (by cases neg <;> rfl)) (rT_is (ra := fun ρ => stl (ev C io a ρ)))
      · rw [of_decide_eq_true h1]
        exact pt_cong (sT_is neg (sE_stl (ih.snd c hio a _ h2)) pe_bl (fun F => .bl _) (by cases neg <;> rfl)) (rT_is (ra := fun ρ => stl (ev C io a ρ)))
      · cases h1
    · cases h
  | .ite t a b, ex, h, hn => by
    try simp at hn
    unfold chk at h
    split at h
    · obtain ⟨h0, h⟩ := b2 h
      obtain ⟨h1, h2⟩ := b2 h
      exact pt_cong (sT_ite (ih.snt c hio t _ h0) (ih.snt c hio a _ h1) (ih.snt c hio b _ h2)) rT_ite
    · cases h
  | .c d, ex, h, hn => sT_plain (snd_step io ih c hio (.c d) ex h hn) (by unfold chk at h; split at h <;> first | (cases h; done) | exact fun _ => rfl)
  | .v i, ex, h, hn => sT_plain (snd_step io ih c hio (.v i) ex h hn) (by unfold chk at h; split at h <;> first | (cases h; done) | exact fun _ => rfl)
  | .g k, ex, h, hn => sT_plain (snd_step io ih c hio (.g k) ex h hn) (by unfold chk at h; split at h <;> first | (cases h; done) | exact fun _ => rfl)
  | .neg a, ex, h, hn => sT_plain (snd_step io ih c hio (.neg a) ex h hn) (by unfold chk at h; split at h <;> first | (cases h; done) | exact fun _ => rfl)
  | .bin o a b, ex, h, hn => sT_plain (snd_step io ih c hio (.bin o a b) ex h hn) (by unfold chk at h; split at h <;> first | (cases h; done) | exact fun _ => rfl)
  | .tup es, ex, h, hn => sT_plain (snd_step io ih c hio (.tup es) ex h hn) (by unfold chk at h; split at h <;> first | (cases h; done) | exact fun _ => rfl)
  | .lst es, ex, h, hn => sT_plain (snd_step io ih c hio (.lst es) ex h hn) (by unfold chk at h; split at h <;> first | (cases h; done) | exact fun _ => rfl)
  | .rep es b, ex, h, hn => sT_plain (snd_step io ih c hio (.rep es b) ex h hn) (by unfold chk at h; split at h <;> first | (cases h; done) | exact fun _ => rfl)
  | .ix a b, ex, h, hn => sT_plain (snd_step io ih c hio (.ix a b) ex h hn) (by unfold chk at h; split at h <;> first | (cases h; done) | exact fun _ => rfl)
  | .sl a lo hi, ex, h, hn => sT_plain (snd_step io ih c hio (.sl a lo hi) ex h hn) (by unfold chk at h; split at h <;> first | (cases h; done) | exact fun _ => rfl)
  | .call f es, ex, h, hn => sT_plain (snd_step io ih c hio (.call f es) ex h hn) (by unfold chk at h; split at h <;> first | (cases h; done) | exact fun _ => rfl)
  | .bi b es, ex, h, hn => sT_plain (snd_step io ih c hio (.bi b es) ex h hn) (by unfold chk at h; split at h <;> first | (cases h; done) | exact fun _ => rfl)
  | .rev e, ex, h, hn => sT_plain (snd_step io ih c hio (.rev e) ex h hn) (by unfold chk at h; split at h <;> first | (cases h; done) | exact fun _ => rfl)
  | .isi a t, ex, h, hn => sT_plain (snd_step io ih c hio (.isi a t) ex h hn) (by unfold chk at h; split at h <;> first | (cases h; done) | exact fun _ => rfl)
  | .me m o es, ex, h, hn => sT_plain (snd_step io ih c hio (.me m o es) ex h hn) (by unfold chk at h; split at h <;> first | (cases h; done) | exact fun _ => rfl)
  | .pop i, ex, h, hn => sT_plain (snd_step io ih c hio (.pop i) ex h hn) (by unfold chk at h; split at h <;> first | (cases h; done) | exact fun _ => rfl)
  | .lc elt tg it cd own, ex, h, hn => sT_plain (snd_step io ih c hio (.lc elt tg it cd own) ex h hn) (by unfold chk at h; split at h <;> first | (cases h; done) | exact fun _ => rfl)
  | .slSt _ _ _ _, ex, h, hn => by unfold chk at h; cases h
  | .li it, ex, h, hn => sT_plain (snd_step io ih c hio (.li it) ex h hn) (by unfold chk at h; split at h <;> first | (cases h; done) | exact fun _ => rfl)
theorem sndC_step {n : Nat} (ih : IHs C T N ca lv io n) {X : Cx} {sc : Scope} {blk : Option Scope} {E : XK} (c : Cc X C T N sc blk E ca lv) {B : Bs} (hio : ∀ i a, B.io = some (i, a) → io = some i) : ∀ (es : Eo) (xs : List Expr), chkC N T sc blk es xs = true → sizeOf es < n + 1 → PTs X xs (fun σ H Q => ∃ z : Addr × HO, tT X.K (B.pin z.1 z.2) (WE E ca (B.pin z.1 z.2)) (evC C io es) σ H Q)
  | .no, xs, h, hn => by
    try simp at hn
    unfold chkC at h
    split at h
    · exact pts_imp pts_nil fun σ H Q ⟨z, ρ, F, R, p⟩ => p F H (Same.refl _) R
    · cases h
  | .yes e, xs, h, hn => by
    try simp at hn
    unfold chkC at h
    split at h
    · refine pts_imp (pts_one (pt_ex (P := fun _ : Addr × HO => True) fun z _ => ih.snt c (B := B.pin z.1 z.2) hio e _ h)) fun σ H Q ⟨z, q⟩ => ⟨z, trivial, ?_⟩
      rw [show evC C io (.yes e) = (rT fun ρ => stl (ev C io e ρ)) from by funext ρ; rw [evC]; rfl] at q
      exact q
    · cases h
theorem sndA_step {n : Nat} (ih : IHs C T N ca lv io n) {X : Cx} {sc : Scope} {blk : Option Scope} {E : XK} (c : Cc X C T N sc blk E ca lv) {B : Bs} (hio : ∀ i a, B.io = some (i, a) → io = some i) : ∀ (es : Es) (xs : List Expr), chkA N T sc blk es xs = true → sizeOf es < n + 1 → PA X xs (tAs X.K B (WE E ca B) (evA C io es))
  | .nil, xs, h, hn => by
    try simp at hn
    unfold chkA at h
    split at h
    · exact sA_nil
    · cases h
  | .cons e es, xs, h, hn => by
    try simp at hn
    unfold chkA at h
    split at h
    · obtain ⟨h0, h⟩ := b2 h
      obtain ⟨h1, h2⟩ := b2 h
      exact sA_cons hio (sE_stl (ih.snd c hio e _ h1)) (ih.sndA c hio es _ h2) (star_cons h0)
    · cases h
  | .bor e es, xs, h, hn => by
    try simp at hn
    unfold chkA at h
    split at h
    · obtain ⟨h0, h⟩ := b2 h
      obtain ⟨h1, h2⟩ := b2 h
      exact sA_bor (sE_stl (ih.snd c hio e _ h1)) (ih.sndA c hio es _ h2) (star_cons h0)
    · cases h
  | .star e es, xs, h, hn => by
    try simp at hn
    unfold chkA at h
    split at h
    · obtain ⟨h1, h2⟩ := b2 h
      exact sA_star hio (sE_stl (ih.snd c hio e _ h1)) (ih.sndA c hio es _ h2)
    · cases h
theorem sndO_step {n : Nat} (ih : IHs C T N ca lv io n) {X : Cx} {sc : Scope} {blk : Option Scope} {E : XK} (c : Cc X C T N sc blk E ca lv) {B : Bs} (hio : ∀ i a, B.io = some (i, a) → io = some i) : ∀ (es : Eo) (xs : Option Expr), chkO N T sc blk es xs = true → sizeOf es < n + 1 → PO X xs (tPO X.K B (WE E ca B) (evO C io es))
  | .no, xs, h, hn => by
    try simp at hn
    unfold chkO at h
    split at h
    · exact sO_no
    · cases h
  | .yes e, xs, h, hn => by
    try simp at hn
    unfold chkO at h
    split at h
    · exact sO_yes (sE_stl (ih.snd c hio e _ h))
    · cases h
theorem sndI_step {n : Nat} (ih : IHs C T N ca lv io n) {X : Cx} {sc : Scope} {blk : Option Scope} {E : XK} (c : Cc X C T N sc blk E ca lv) {B : Bs} (hio : ∀ i a, B.io = some (i, a) → io = some i) : ∀ (it : EV.It) (ex : Expr) (b : Bool) (tg : Expr), (b = true → ∃ es k p, tg = .Tuple es k p) → chkI N T sc blk it ex b = true → sizeOf it < n + 1 → PI X tg ex (tI X.K B (WE E ca B) (evI C io it))
  | .seq e, ex, b, tg, hb, h, hn => by
    try simp at hn
    unfold chkI at h
    exact sI_seq hio (sE_stl (ih.snd c hio e _ h))
  | .rng1 a, ex, b, tg, hb, h, hn => by
    try simp at hn
    unfold chkI at h
    split at h
    · obtain ⟨h0, hA⟩ := b2 h
      obtain ⟨h0, h1⟩ := b2 h0
      obtain ⟨h0, h2⟩ := b2 h0
      have h0 := of_decide_eq_true h0
      subst h0
      obtain ⟨g1, g2⟩ := c.gl h2
      exact sI_rng1 g1 (c.bis _ (by decide +kernel)) (sE_stl (ih.snd c hio a _ hA)) (star_cons h1) (star_cons h1)
    · cases h
  | .rng2 a b', ex, b, tg, hb, h, hn => by
    try simp at hn
    unfold chkI at h
    split at h
    · obtain ⟨h0, hA⟩ := b2 h
      obtain ⟨hA, hB⟩ := b2 hA
      obtain ⟨h0, h1⟩ := b2 h0
      obtain ⟨h0, h2⟩ := b2 h0
      obtain ⟨h0, h3⟩ := b2 h0
      have h0 := of_decide_eq_true h0
      subst h0
      obtain ⟨g1, g2⟩ := c.gl h3
      exact sI_rng2 g1 (c.bis _ (by decide +kernel)) (sE_stl (ih.snd c hio a _ hA)) (sE_stl (ih.snd c hio b' _ hB)) (by rw [star_cons h2, star_cons h1]; rfl) (by rw [star_cons h1]; rfl) (star_cons h2) (star_cons h1)
    · cases h
  | .enu a, ex, b, tg, hb, h, hn => by
    try simp at hn
    unfold chkI at h
    split at h
    · obtain ⟨h0, hA⟩ := b2 h
      obtain ⟨h0, h1⟩ := b2 h0
      obtain ⟨h0, h2⟩ := b2 h0
      obtain ⟨k0, h3⟩ := b2 h0
      have h3 := of_decide_eq_true h3
      subst h3
      obtain ⟨g1, g2⟩ := c.gl h2
      obtain ⟨es, k, p, rfl⟩ := hb k0
      exact sI_enu hio g1 (c.bis _ (by decide +kernel)) (sE_stl (ih.snd c hio a _ hA)) (star_cons h1) (star_cons h1)
    · cases h
  | .zip a b', ex, b, tg, hb, h, hn => by
    try simp at hn
    unfold chkI at h
    split at h
    · obtain ⟨h0, hA⟩ := b2 h
      obtain ⟨hA, hB⟩ := b2 hA
      obtain ⟨h0, h1⟩ := b2 h0
      obtain ⟨h0, h2⟩ := b2 h0
      obtain ⟨h0, h3⟩ := b2 h0
      obtain ⟨k0, h4⟩ := b2 h0
      have h4 := of_decide_eq_true h4
      subst h4
      obtain ⟨g1, g2⟩ := c.gl h3
      obtain ⟨es, k, p, rfl⟩ := hb k0
      exact sI_zip hio g1 (c.bis _ (by decide +kernel)) (sE_stl (ih.snd c hio a _ hA)) (sE_stl (ih.snd c hio b' _ hB)) (star_cons h2) (star_cons h1) (by rw [star_cons h1]; rfl)
    · cases h
  | .enuZip a b', ex, b, tg, hb, h, hn => by
    try simp at hn
    unfold chkI at h
    cases h
theorem ihs_all : ∀ n, IHs C T N ca lv io n
  | 0 => ⟨by intros; exact absurd (by assumption) (Nat.not_lt_zero _), by intros; exact absurd (by assumption) (Nat.not_lt_zero _), by intros; exact absurd (by assumption) (Nat.not_lt_zero _), by intros; exact absurd (by assumption) (Nat.not_lt_zero _), by intros; exact absurd (by assumption) (Nat.not_lt_zero _), by intros; exact absurd (by assumption) (Nat.not_lt_zero _), by intros; exact absurd (by assumption) (Nat.not_lt_zero _)⟩
  | n + 1 => by
    have ih := ihs_all n
    exact ⟨fun c _ hio e ex h hn => snd_step io ih c hio e ex h hn, fun c _ hio e ex h hn => snt_step io ih c hio e ex h hn, fun c _ hio e ex h hn x => snw_step io ih c hio e ex h hn x, fun c _ hio e ex h hn => sndC_step io ih c hio e ex h hn, fun c _ hio e ex h hn => sndA_step io ih c hio e ex h hn, fun c _ hio e ex h hn => sndO_step io ih c hio e ex h hn, fun c _ hio e ex b tg hb h hn => sndI_step io ih c hio e ex b tg hb h hn⟩
theorem snd {X : Cx} {sc : Scope} {blk : Option Scope} {E : XK} (c : Cc X C T N sc blk E ca lv) {B : Bs} (hio : ∀ i a, B.io = some (i, a) → io = some i) : ∀ (e : EV.E) (ex : Expr), chk N T sc blk e ex = true → PE X ex (tE X.K B (WE E ca B) (ev C io e)) := fun e ex h => (ihs_all io (sizeOf e + 1)).snd c hio e ex h (Nat.lt_succ_self _)
theorem snt {X : Cx} {sc : Scope} {blk : Option Scope} {E : XK} (c : Cc X C T N sc blk E ca lv) {B : Bs} (hio : ∀ i a, B.io = some (i, a) → io = some i) : ∀ (e : EV.E) (ex : Expr), chk N T sc blk e ex = true → PT X ex (tT X.K B (WE E ca B) (rT fun ρ => stl (ev C io e ρ))) := fun e ex h => (ihs_all io (sizeOf e + 1)).snt c hio e ex h (Nat.lt_succ_self _)
theorem snw {X : Cx} {sc : Scope} {blk : Option Scope} {E : XK} (c : Cc X C T N sc blk E ca lv) {B : Bs} (hio : ∀ i a, B.io = some (i, a) → io = some i) : ∀ (e : EV.E) (ex : Expr), chk N T sc blk e ex = true → (∃ op xs p, ex = .BoolOp op xs p) → PW X ex (tT X.K B (WE E ca B) (rT fun ρ => stl (ev C io e ρ))) := fun e ex h x => (ihs_all io (sizeOf e + 1)).snw c hio e ex h (Nat.lt_succ_self _) x
theorem sndC {X : Cx} {sc : Scope} {blk : Option Scope} {E : XK} (c : Cc X C T N sc blk E ca lv) {B : Bs} (hio : ∀ i a, B.io = some (i, a) → io = some i) : ∀ (es : Eo) (xs : List Expr), chkC N T sc blk es xs = true → PTs X xs (fun σ H Q => ∃ z : Addr × HO, tT X.K (B.pin z.1 z.2) (WE E ca (B.pin z.1 z.2)) (evC C io es) σ H Q) := fun es xs h => (ihs_all io (sizeOf es + 1)).sndC c hio es xs h (Nat.lt_succ_self _)
theorem sndA {X : Cx} {sc : Scope} {blk : Option Scope} {E : XK} (c : Cc X C T N sc blk E ca lv) {B : Bs} (hio : ∀ i a, B.io = some (i, a) → io = some i) : ∀ (es : Es) (xs : List Expr), chkA N T sc blk es xs = true → PA X xs (tAs X.K B (WE E ca B) (evA C io es)) := fun es xs h => (ihs_all io (sizeOf es + 1)).sndA c hio es xs h (Nat.lt_succ_self _)
theorem sndO {X : Cx} {sc : Scope} {blk : Option Scope} {E : XK} (c : Cc X C T N sc blk E ca lv) {B : Bs} (hio : ∀ i a, B.io = some (i, a) → io = some i) : ∀ (es : Eo) (xs : Option Expr), chkO N T sc blk es xs = true → PO X xs (tPO X.K B (WE E ca B) (evO C io es)) := fun es xs h => (ihs_all io (sizeOf es + 1)).sndO c hio es xs h (Nat.lt_succ_self _)
theorem sndI {X : Cx} {sc : Scope} {blk : Option Scope} {E : XK} (c : Cc X C T N sc blk E ca lv) {B : Bs} (hio : ∀ i a, B.io = some (i, a) → io = some i) : ∀ (it : EV.It) (ex : Expr) (b : Bool) (tg : Expr), (b = true → ∃ es k p, tg = .Tuple es k p) → chkI N T sc blk it ex b = true → PI X tg ex (tI X.K B (WE E ca B) (evI C io it)) := fun it ex b tg hb h => (ihs_all io (sizeOf it + 1)).sndI c hio it ex b tg hb h (Nat.lt_succ_self _)
end
end EV
end

section
/-! EvO0 -/
set_option Elab.async false
set_option linter.all false
set_option maxRecDepth 100000
set_option maxHeartbeats 4000000
namespace EV
open PySem PySem.Spec L2
def swC (sc : Scope) (ts vs : List Expr) : Option (Option (List Str)) :=
  if !(ts.length == 2 || ts.length == 3) || vs.length != ts.length || false then some none else
  if vs.any fun | .Starred .. => true | _ => false then some none else
  let line := (ts.head?.map (·.pos.line)).getD 0
  let names := ts.filterMap fun
    | .Name id pos => if sc.names.lookup id == some .local && pos.line == line then some id else none
    | _ => none
  if names.length != ts.length || names.eraseDups.length != names.length then some none else
  if vs.all (foldedForSure 8) then some none else if vs.all (constantsAlone 8) then none else some (some names)
theorem sw_of {ts vs : List Expr} {env : Env} {r : Option (List Str)} {k k2 : Nat} {p p2 : Pos} (hk : env.scope.kind = .function) (h : swC env.scope ts vs = some r) : swappedStores [.Tuple ts k p] (.Tuple vs k2 p2) env = pure r := by
  have hb : env.blockKind = .function := by unfold Env.blockKind; rw [hk]; rfl
  have hf : (env.blockKind != .function) = false := by rw [hb]; rfl
  unfold swappedStores
  simp only [hf]
  unfold swC at h
  split at h
  · rename_i c
    refine Eq.trans (if_pos c) ?_
    cases h; rfl
  · rename_i c
    refine Eq.trans (if_neg c) ?_
    split at h
    · rename_i c
      refine Eq.trans (if_pos c) ?_
      cases h; rfl
    · rename_i c
      refine Eq.trans (if_neg c) ?_
      dsimp only at h
      split at h
      · rename_i c
        refine Eq.trans (if_pos c) ?_
        cases h; rfl
      · rename_i c
        refine Eq.trans (if_neg c) ?_
        split at h
        · rename_i c
          refine Eq.trans (if_pos c) ?_
          cases h; rfl
        · rename_i c
          refine Eq.trans (if_neg c) ?_
          split at h
          · cases h
          · rename_i c
            refine Eq.trans (if_neg c) ?_
            cases h; rfl
end EV
end

section
/-! EvO -/
set_option Elab.async false
set_option linter.all false
set_option maxRecDepth 100000
set_option maxHeartbeats 4000000
/-! EvO: the theorem for statements. -/
namespace EV
open PySem PySem.Spec L2

def lcB (sc : Scope) (x : Str) (px : Pos) : Expr → Bool
  | .ListComp _ _ s p => decide (sc.names.lookup x = some .local) && (px.line == p.line) && !(s.names.any fun (n, k) => n == x && (k == .local || k == .cell))
  | .SetComp .. => false
  | .DictComp .. => false
  | _ => true
def augB : Bop → Bool
  | .add => true
  | .sub => true
  | _ => false
section
variable (N : List Str) (T : Tab)
mutual
def chkS (sc : Scope) : S → Stmt → Bool
  | .asg (.v i) e, st => (match st with
    | .Assign [.Name x px] v _ => (decide (N[i]? = some x) && locB sc none x && lcB sc x px v) && chk N T sc none e v
    | _ => false)
  | .asg (.t ts) e, st => (match st with
    | .Assign [.Tuple es k p] v _ => ((match v with
      | .Tuple vs _ _ => decide (swC sc es vs = some none)
      | _ => true) && noComp v) && (chkT N sc none (.t ts) (.Tuple es k p) && chk N T sc none e v)
    | _ => false)
  | .par2 i j a b, st => (match st with
    | .Assign [.Tuple [.Name x px, .Name y py] k p] (.Tuple [u, v] _ _) _ => (decide (N[i]? = some x) && decide (N[j]? = some y) && !(i == j) && decide (sc.names.lookup x = some .local) && decide (sc.names.lookup y = some .local) && decide (swC sc [.Name x px, .Name y py] [u, v] = some (some [x, y])) && noStar u && noStar v)
        && (chk N T sc none a u && chk N T sc none b v)
    | _ => false)
  | .par3 i j l a b c, st => (match st with
    | .Assign [.Tuple [.Name x px, .Name y py, .Name z pz] k p] (.Tuple [u, v, w] _ _) _ => (decide (N[i]? = some x) && decide (N[j]? = some y) && decide (N[l]? = some z) && (!(i == j) && !(i == l) && !(j == l)) && (decide (sc.names.lookup x = some .local) && decide (sc.names.lookup y = some .local) && decide (sc.names.lookup z = some .local)) && decide (swC sc [.Name x px, .Name y py, .Name z pz] [u, v, w] = some (some [x, y, z])) && (noStar u && noStar v && noStar w))
        && (chk N T sc none a u && (chk N T sc none b v && chk N T sc none c w))
    | _ => false)
  | .setIx i ix e, st => (match st with
    | .Assign [.Subscript (.Name x _) y _] v _ => (decide (N[i]? = some x) && visB sc x && (noComp v && slicePlain y)) && (chk N T sc none e v && chk N T sc none ix y)
    | _ => false)
  | .aug i o e, st => (match st with
    | .AugAssign (.Name x _) op v _ => (augB o && decide (op = bopOf o) && decide (N[i]? = some x) && locB sc none x) && chk N T sc none e v
    | _ => false)
  | .exp e, st => (match st with
    | .Expr v _ => noComp v && chk N T sc none e v
    | _ => false)
  | .app i e, st => (match st with
    | .Expr (.Call (.Attribute (.Name x _) n ap) [y] [] p) _ => (decide (n = ("append" : Str)) && (ap.endLine == p.line) && noStar y && decide (N[i]? = some x) && visB sc x) && chk N T sc none e y
    | _ => false)
  | .ret e, st => (match st with
    | .Return (some v) _ => chk N T sc none e v
    | _ => false)
  | .retN, st => (match st with
    | .Return none _ => true
    | _ => false)
  | .ite c a b, st => (match st with
    | .If x y z _ => chk N T sc none c x && (chkSs sc a y && chkSs sc b z)
    | _ => false)
  | .for_ tg it b, st => (match st with
    | .For t i y [] _ => (noSet i && chkT N sc none tg t) && (chkI N T sc none it i (tupB t) && chkSs sc b y)
    | _ => false)
  | .whl c b, st => (match st with
    | .While x y [] _ => chk N T sc none c x && chkSs sc b y
    | _ => false)
  | .brk, st => (match st with
    | .Break _ => true
    | _ => false)
  | .rai c, st => (match st with
    | .Raise (some (.Call (.Name x _) [.Constant (.str _) _ _] [] _)) none _ => decide (T.cnm[c]? = some x) && glB sc x
    | _ => false)
def chkSs (sc : Scope) : Ss → List Stmt → Bool
  | .nil, ss => (match ss with
    | [] => true
    | _ => false)
  | .cons s r, ss => (match ss with
    | x :: xs => chkS sc s x && chkSs sc r xs
    | _ => false)
end
end
/-- the surroundings of a def's body -/
structure Cs (X : Cx) (C : Cfg) (T : Tab) (N : List Str) (sc : Scope) (E : XK) (ca : Nat → Addr) (lv : Nat) : Prop where
  c : Cc X C T N sc none E ca lv
  po : PassesOwn (model X.prog X.w) X.A X.env X.xe
  tk : Takes X (fun cls d _ H => E cls d H)
  kind : X.env.scope.kind = .function
  exs : ∀ (k : Nat) (x : Str), T.cnm[k]? = some x → X.mg x = some (.ref (ca k)) ∧ PySem.W.keepIn X.K (.ref (ca k)) = true ∧ Raises X (.ref (ca k)) ∧ ∃ B newId initId bmB, ExcBaseFacts B newId initId bmB ∧ PySem.W.excIn X.K (ca k) bmB newId = true
section
variable {X : Cx} {C : Cfg} {T : Tab} {N : List Str} {sc : Scope} {E : XK} {ca : Nat → Addr} {lv : Nat}
theorem sX_rai {B : Bs} {k j : Nat} {x m : Str} {p p2 p3 p4 : Pos} (s : Cs X C T N sc E ca lv) (h : T.cnm[k]? = some x) (hg : Gl X x) (hd : (x == ("__debug__" : Str)) = false) :
    PS X (.Raise (some (.Call (.Name x p) [.Constant (.str m) j p2] [] p3)) none p4) (tX X.K B (WE E ca B) fun _ => .ex k) := by
  obtain ⟨m1, m2, m3, b, n, i, l, F, q⟩ := s.exs k x h
  exact ps_imp (ps_raise s.c.calm s.tk (pmk_own F q m1 m2 m3 hg hd)) fun D σ H ⟨ρ, F, R, p⟩ => p H R.b2

/-- name = [..], the name a local on the list's line -/
theorem sX_lc {io : Option Nat} {B : Bs} {i : Nat} {x : Str} {px p p2 : Pos} {elt0 : Expr} {gs : List Comprehension} {sc' : Scope} (s : Cs X C T N sc E ca lv) (hio : ∀ i a, B.io = some (i, a) → io = some i) (hi : N[i]? = some x) (hl : sc.names.lookup x = some .local) (hp : (px.line == p.line) = true)
    (hn : (sc'.names.any fun (n, k) => n == x && (k == .local || k == .cell)) = false) (e : EV.E) (h : chk N T sc none e (.ListComp elt0 gs sc' p) = true) :
    PS X (.Assign [.Name x px] (.ListComp elt0 gs sc' p) p2) (tX X.K B (WE E ca B) (exS C io (.asg (.v i) e))) := by
  have c := s.c
  have hsw := sw_true (elt := elt0) (gs := gs) (l := p2.line) (env := X.env) (py := px) (pos := p) s.kind (by rw [c.hsc]; exact hl) hp hn
  cases e with
  | lc elt tg it cd own =>
    rw [show exS C io (.asg (.v i) (.lc elt tg it cd own)) = _ from by funext ρ; rw [exS]]
    unfold chk at h
    split at h
    · rename_i x1 t i1 ifs ia scc pp heq
      cases heq
      obtain ⟨h0, h⟩ := b2 h
      obtain ⟨h1, h⟩ := b2 h
      obtain ⟨h2, h3⟩ := b2 h
      obtain ⟨h0, k1⟩ := b2 h0
      obtain ⟨h0, k2⟩ := b2 h0
      obtain ⟨h0, k3⟩ := b2 h0
      obtain ⟨h0, k4⟩ := b2 h0
      obtain ⟨h0, k5⟩ := b2 h0
      cases (of_decide_eq_true h0)
      have k3 := of_decide_eq_true k3
      have hI := sndI io c hio it i1 (tupB t) t (by cases t <;> first | (intro z; cases z; done) | exact fun _ => ⟨_, _, _, rfl⟩) h1
      refine sX_asg hio (ps_setLc (own := ownN N own) (g := fun v σ H Q => ∃ z : Addr × HO, tG X.K (B.pin z.1 z.2) (tgS tg) (bindT io tg) v σ H Q)
        (tt := fun σ H Q => ∃ z : Addr × HO, tT X.K (B.pin z.1 z.2) (WE E0 ca (B.pin z.1 z.2)) (evC C io cd) σ H Q) (te := fun σ H Q => ∃ z : Addr × HO, tS X.K (B.pin z.1 z.2) (WE E0 ca (B.pin z.1 z.2)) (fun ρ => stl (ev C io elt ρ)) σ H Q)
        c.calm (by rw [c.hN]; exact c.nd) (by rw [c.hN]; exact hi) (by rw [c.hsc]; exact hl) hsw hI (blkOk_by (by rw [c.hN, c.hsc]; exact k4)) ?_ ?_ ?_ (noset_fold k5)) ?_
      · intro s H Ca cl fp
        exact pg_imp (pg_ex (P := fun _ : Addr × HO => True) fun z _ => sndT io (c.inblk s H sc' Ca cl fp) (B := B.pin z.1 z.2) hio tg t k1) fun v σ H Q ⟨z, q⟩ => ⟨z, trivial, q⟩
      · intro s H Ca cl fp
        exact sndC io (c.inblk s H sc' Ca cl fp) hio cd ifs h3
      · intro s H Ca cl fp
        exact pe_imp (pe_ex (P := fun _ : Addr × HO => True) fun z _ => sE_stl (snd io (c.inblk s H sc' Ca cl fp) (B := B.pin z.1 z.2) hio elt elt0 h2)) fun σ H Q ⟨z, q⟩ => ⟨z, trivial, q⟩
      · intro σ H Q q
        rw [k3]
        refine tLc_of hio (fun i hi => by simpa using List.all_eq_true.mp k2 i hi) (fun p o v σ H Q q => ⟨⟨p, o⟩, q⟩) (fun p o σ H Q q => ⟨⟨p, o⟩, q⟩) (fun p o σ H Q q => ⟨⟨p, o⟩, q⟩) σ H Q ?_
        rw [show ev C io (.lc elt tg it cd own) = _ from by funext ρ; rw [ev]] at q
        exact q
    · cases h
  | c d => cases d <;> exact Bool.noConfusion (show false = true from h)
  | _ => exact Bool.noConfusion (show false = true from h)
theorem lc_other {sc : Scope} {x : Str} {px : Pos} {v : Expr} (h : lcB sc x px v = true) : noComp v = true ∨ ∃ a b s p, v = .ListComp a b s p ∧ sc.names.lookup x = some .local ∧ (px.line == p.line) = true ∧ (s.names.any fun (n, k) => n == x && (k == .local || k == .cell)) = false := by
  cases v <;> first
    | exact .inl rfl
    | (cases h; done)
    | (obtain ⟨h, h3⟩ := b2 h
       obtain ⟨h1, h2⟩ := b2 h
       exact .inr ⟨_, _, _, _, rfl, of_decide_eq_true h1, h2, by simpa using h3⟩)
theorem sw_else {t v : Expr} {env : Env} (h : tupB v = false) : swappedStores [t] v env = pure none := by
  cases t <;> cases v <;> first | rfl | cases h
theorem whl_ev {C : Cfg} {io : Option Nat} {c : EV.E} {b : Ss} : exS C io (.whl c b) = fun ρ => whlLoop (rT fun ρ => stl (ev C io c ρ)) (exSs C io b) C.wf ρ := by
  funext ρ
  rw [exS]
  rfl
theorem ite_ex {C : Cfg} {io : Option Nat} {c : EV.E} {a b : Ss} : exS C io (.ite c a b) = fun ρ => (do
    let (t, ρ) ← (rT fun ρ => stl (ev C io c ρ)) ρ
    if t then exSs C io a ρ else exSs C io b ρ) := by
  funext ρ
  rw [exS]
  simp only [rT]
  cases q : stl (ev C io c ρ) with
  | ex c => rfl
  | st => rfl
  | ok p =>
    obtain ⟨x, ρ1⟩ := p
    simp only [bind_ok]
    cases q2 : look ρ1 x with
    | none => rfl
    | some d =>
      simp only [of_some, bind_ok]
      cases q3 : tr d with
      | none => rfl
      | some t => rfl
theorem sX_setIx {B : Bs} {W : Nat → Prop} {io : Option Nat} {i : Nat} {x : Str} {p p2 p3 : Pos} {y v : Expr} {ra rb : Rho → Rs (Opd × Rho)} (hio : ∀ i a, B.io = some (i, a) → io = some i) (hN : X.N[i]? = some x) (hv : Vis X.env.scope x) (hd : (x == ("__debug__" : Str)) = false) (hcd : (x == ("__classdict__" : Str)) = false)
    (ha : PE X v (tS X.K B W ra)) (hb : PE X y (tS X.K B W rb)) (hn : noComp v = true) (hsp : slicePlain y = true) : PS X (.Assign [.Subscript (.Name x p) y p2] v p3) (tX X.K B W fun ρ => do
    let (x, ρ) ← ra ρ
    let (d, ρ) ← frz io ρ x
    let _ ← Rs.of (look ρ (.slot i))
    let (y, ρ) ← rb ρ
    match ρ[i]?, look ρ y with
    | some (.o (.list ds)), some (.int k) => (match L2.ixN ds.length k with
      | some j => .ok (.nx, ρ.set i (.o (.list (ds.set j d))))
      | none => .st)
    | _, _ => .st) := by
  refine ps_imp (ps_asg ha (pg_sub (pe_var hN hv hd hcd) hb set_list (by intro v0; cases y <;> first | rfl | cases hsp)) (by unfold swapsWithSole; exact nocomp_swap hn) rfl rfl) fun D σ H ⟨ρ, F, R, q⟩ => ⟨ρ, F, R, Post.step q fun ⟨x, ρ1⟩ q v1 F1 H1 s1 R1 o1 => ?_⟩
  obtain ⟨d, ρ2, e2, q⟩ := Post.frz q
  obtain ⟨F2, s2, R2, r2⟩ := freezes R1 hio o1 e2
  obtain ⟨d0, e0, q⟩ := Post.of q
  have hw : ∃ w, σ[i]? = some (some w) := by
    simp only [look] at e0
    split at e0
    · rename_i c hc
      obtain ⟨u, e1, _⟩ := R2.f i _ hc
      exact ⟨u, e1⟩
    · rename_i c hc
      obtain ⟨a, e1, _⟩ := R2.o i _ hc
      exact ⟨_, e1⟩
    · cases e0
  obtain ⟨w, hw⟩ := hw
  refine ⟨w, hw, ρ2, F2, R2, Post.step (show Post W (rb ρ2 >>= _) _ from q) fun ⟨y, ρ3⟩ q u F3 H3 s3 R3 o3 => ?_⟩
  have q : Post W (match ρ3[i]?, look ρ3 y with
    | some (.o (.list ds)), some (.int k) => (match L2.ixN ds.length k with
      | some j => Rs.ok (Fl.nx, ρ3.set i (.o (.list (ds.set j d))))
      | none => Rs.st)
    | _, _ => Rs.st) _ := q
  split at q
  · rename_i ds k hds hk
    split at q
    · rename_i j hj
      obtain ⟨a, e1, ow, hf, hb⟩ := R3.o i _ hds
      rw [hw] at e1; cases e1
      cases (view R3 o3 hk).int
      cases ow with
      | @lst xs _ ho hr =>
        refine ⟨a, xs, k, j, rfl, rfl, ho, by rw [hr.len]; exact hj, ?_⟩
        exact q σ F3 _ (R3.write hds hw (.lst upd_same (RpAll.set (r2.mono s3) j hr)))
    · exact q.elim
  · exact q.elim
section
variable (io : Option Nat)
mutual
theorem sndS (s : Cs X C T N sc E ca lv) {B : Bs} (hio : ∀ i a, B.io = some (i, a) → io = some i) : ∀ (x : S) (st : Stmt), chkS N T sc x st = true → PS X st (tX X.K B (WE E ca B) (exS C io x))
  | .asg (.v i) e, st, h => by
    unfold chkS at h
    split at h
    · obtain ⟨h0, h⟩ := b2 h
      obtain ⟨h0, h1⟩ := b2 h0
      obtain ⟨h2, h3⟩ := b2 h0
      rcases lc_other h1 with hn | ⟨a, b, sc', p, rfl, l1, l2, l3⟩
      · obtain ⟨l1, l2⟩ := s.c.loc h3
        exact sX_asg hio (ps_set (by rw [s.c.hN]; exact s.c.nd) (by rw [s.c.hN]; exact of_decide_eq_true h2) l1 (snd io s.c hio e _ h) (nocomp_swap hn) l2) fun σ H Q q => q
      · exact sX_lc s hio (of_decide_eq_true h2) l1 l2 l3 e h
    · cases h
  | .asg (.t ts) e, st, h => by
    unfold chkS at h
    split at h
    · rename_i es k p v p2
      obtain ⟨h0, h⟩ := b2 h
      obtain ⟨h0, h1⟩ := b2 h0
      obtain ⟨h2, h3⟩ := b2 h
      refine sX_asgT hio (sE_stl (snd io s.c hio e _ h3)) (sndT io s.c hio (.t ts) _ h2) (by unfold swapsWithSole; exact nocomp_swap h1) ?_ rfl
      cases v with
      | Tuple vs k2 p2 => exact sw_of s.kind (by rw [s.c.hsc]; exact of_decide_eq_true h0)
      | _ => exact sw_else rfl
    · cases h
  | .par2 i j a b, st, h => by
    unfold chkS at h
    split at h
    · obtain ⟨h0, h⟩ := b2 h
      obtain ⟨h1, h2⟩ := b2 h
      simp only [Bool.and_eq_true, decide_eq_true_eq, Bool.not_eq_true', beq_eq_false_iff_ne] at h0
      obtain ⟨⟨⟨⟨⟨⟨⟨a1, a2⟩, a3⟩, a4⟩, a5⟩, a6⟩, a7⟩, a8⟩ := h0
      rw [show exS C io (.par2 i j a b) = _ from by funext ρ; rw [exS]]
      exact sX_par2 hio (ps_par s.c.calm (by rw [s.c.hN]; exact s.c.nd) (by rw [s.c.hN]; exact a1) (by rw [s.c.hN]; exact a2) a3 (by rw [s.c.hsc]; exact a4) (by rw [s.c.hsc]; exact a5)
        (pa_cons (snd io s.c hio a _ h1) (pa_ex fun B' hB => pa_cons (snd io s.c (fun i a z => hio i a (hB ▸ z)) b _ h2) pa_nil (star_cons a8)) (star_cons a7)) (sw_of s.kind (by rw [s.c.hsc]; exact a6)) rfl)
    · cases h
  | .par3 i j l a b d, st, h => by
    unfold chkS at h
    split at h
    · obtain ⟨h0, h⟩ := b2 h
      obtain ⟨h1, h⟩ := b2 h
      obtain ⟨h2, h3⟩ := b2 h
      simp only [Bool.and_eq_true, decide_eq_true_eq, Bool.not_eq_true', beq_eq_false_iff_ne] at h0
      obtain ⟨⟨⟨⟨⟨⟨a1, a2⟩, a3⟩, ⟨a4, a5⟩, a6⟩, ⟨b1, b2⟩, b3⟩, b4⟩, ⟨b5, b6⟩, b7⟩ := h0
      rw [show exS C io (.par3 i j l a b d) = _ from by funext ρ; rw [exS]]
      exact sX_par3 hio (ps_par3 s.c.calm (by rw [s.c.hN]; exact s.c.nd) (by rw [s.c.hN]; exact a1) (by rw [s.c.hN]; exact a2) (by rw [s.c.hN]; exact a3) a4 a5 a6 (by rw [s.c.hsc]; exact b1) (by rw [s.c.hsc]; exact b2) (by rw [s.c.hsc]; exact b3)
        (pa_cons (snd io s.c hio a _ h1) (pa_ex fun B' hB => pa_cons (snd io s.c (fun i a z => hio i a (hB ▸ z)) b _ h2)
          (pa_ex fun B'' hB' => pa_cons (snd io s.c (fun i a z => hio i a (hB' ▸ z)) d _ h3) pa_nil (star_cons b7)) (star_cons b6)) (star_cons b5)) (sw_of s.kind (by rw [s.c.hsc]; exact b4)) rfl)
    · cases h
  | .setIx i ix e, st, h => by
    unfold chkS at h
    split at h
    · obtain ⟨h0, h⟩ := b2 h
      obtain ⟨h1, h2⟩ := b2 h
      obtain ⟨h0, h3⟩ := b2 h0
      obtain ⟨h4, h5⟩ := b2 h0
      obtain ⟨v1, v2, v3⟩ := s.c.vis h5
      rw [show exS C io (.setIx i ix e) = _ from by funext ρ; rw [exS]]
      exact sX_setIx hio (by rw [s.c.hN]; exact of_decide_eq_true h4) v1 v2 v3 (sE_stl (snd io s.c hio e _ h1)) (sE_stl (snd io s.c hio ix _ h2)) (b2 h3).1 (b2 h3).2
    · cases h
  | .aug i o e, st, h => by
    unfold chkS at h
    split at h
    · obtain ⟨h0, h⟩ := b2 h
      obtain ⟨h0, h1⟩ := b2 h0
      obtain ⟨h0, h2⟩ := b2 h0
      obtain ⟨h3, h4⟩ := b2 h0
      obtain ⟨l1, l2⟩ := s.c.loc h1
      rw [of_decide_eq_true h4]
      rw [show exS C io (.aug i o e) = _ from by funext ρ; rw [exS]]
      refine sX_aug hio (by rw [s.c.hN]; exact s.c.nd) (by rw [s.c.hN]; exact of_decide_eq_true h2) l1 l2 (sE_stl (snd io s.c hio e _ h)) ?_
      cases o <;> first | exact pip_add | exact pip_sub | cases h3
    · cases h
  | .exp e, st, h => by
    unfold chkS at h
    split at h
    · obtain ⟨h0, h⟩ := b2 h
      exact sX_exp (sE_stl (snd io s.c hio e _ h)) (nocomp_swap h0)
    · cases h
  | .app i e, st, h => by
    unfold chkS at h
    split at h
    · obtain ⟨h0, hA⟩ := b2 h
      obtain ⟨h0, h1⟩ := b2 h0
      obtain ⟨h0, h2⟩ := b2 h0
      obtain ⟨h0, h3⟩ := b2 h0
      obtain ⟨h4, h5⟩ := b2 h0
      obtain ⟨v1, v2, v3⟩ := s.c.vis h1
      have h4 := of_decide_eq_true h4
      subst h4
      rw [show exS C io (.app i e) = _ from by funext ρ; rw [exS]]
      exact sX_app hio (by rw [s.c.hN]; exact of_decide_eq_true h2) v1 v2 v3 (sE_stl (snd io s.c hio e _ hA)) h5 (star_cons h3) (few_ok h3)
    · cases h
  | .ret e, st, h => by
    unfold chkS at h
    split at h
    · exact sX_ret (snd io s.c hio e _ h)
    · cases h
  | .retN, st, h => by
    unfold chkS at h
    split at h
    · exact sX_retN
    · cases h
  | .ite c a b, st, h => by
    unfold chkS at h
    split at h
    · obtain ⟨h0, h⟩ := b2 h
      obtain ⟨h1, h2⟩ := b2 h
      rw [ite_ex]
      exact sX_ite (snt io s.c hio c _ h0) (sndSs s hio a _ h1) (sndSs s hio b _ h2)
    · cases h
  | .for_ tg it b, st, h => by
    unfold chkS at h
    split at h
    · rename_i t i y p
      obtain ⟨h0, h⟩ := b2 h
      obtain ⟨h1, h2⟩ := b2 h
      obtain ⟨h3, h4⟩ := b2 h0
      rw [show exS C io (.for_ tg it b) = _ from by funext ρ; rw [exS]]
      exact sX_for (rb := exSs C io b) s.po s.c.calm (sndI io s.c hio it i (tupB t) t (by cases t <;> first | (intro z; cases z; done) | exact fun _ => ⟨_, _, _, rfl⟩) h1)
        (pg_ex (P := fun B' : Bs => B'.io = B.io) fun B' hB => sndT io s.c (fun i a z => hio i a (hB ▸ z)) tg t h4)
        (pss_ex (P := fun B' : Bs => B'.io = B.io) fun B' hB => sndSs s (B := B') (fun i a z => hio i a (hB ▸ z)) b y h2)
        (fun B' hB v σ H Q q => ⟨B', hB, q⟩) (fun B' hB D σ H q => ⟨B', hB, q⟩) (noset_fold h3)
    · cases h
  | .whl c b, st, h => by
    unfold chkS at h
    split at h
    · obtain ⟨h1, h2⟩ := b2 h
      rw [whl_ev]
      exact sX_whl s.po (snt io s.c hio c _ h1) (sndSs s hio b _ h2) (fun σ H Q q => q) (fun D σ H q => q)
    · cases h
  | .brk, st, h => by
    unfold chkS at h
    split at h
    · exact sX_brk
    · cases h
  | .rai k, st, h => by
    unfold chkS at h
    split at h
    · obtain ⟨h1, h2⟩ := b2 h
      obtain ⟨g1, g2⟩ := s.c.gl h2
      exact sX_rai s (of_decide_eq_true h1) g1 g2
    · cases h
theorem sndSs (s : Cs X C T N sc E ca lv) {B : Bs} (hio : ∀ i a, B.io = some (i, a) → io = some i) : ∀ (x : Ss) (ss : List Stmt), chkSs N T sc x ss = true → PSs X ss (tX X.K B (WE E ca B) (exSs C io x))
  | .nil, st, h => by
    unfold chkSs at h
    split at h
    · exact sX_nil
    · cases h
  | .cons x r, st, h => by
    unfold chkSs at h
    split at h
    · obtain ⟨h1, h2⟩ := b2 h
      rw [show exSs C io (.cons x r) = _ from by funext ρ; rw [exSs]]
      exact sX_cons (sndS s hio x _ h1) (sndSs s hio r _ h2)
    · cases h
end
end
end
end EV
end

section
/-! EvP -/
set_option Elab.async false
set_option linter.all false
set_option maxRecDepth 100000
set_option maxHeartbeats 4000000
/-! EvP: the theorem for defs. -/
namespace EV
open PySem PySem.Spec L2
open PyProof.Rows (envOfC)

/-! ### a def's entry -/
theorem slots0_at {io : Option Nat} : ∀ {ds : List D} {k i : Nat}, (slots0 io ds k)[i]? = (ds[i]?).map fun d => if io = some (k + i) then Sl.o d else Sl.f d
  | [], k, i => by simp [slots0]
  | d :: ds, k, 0 => by simp [slots0]
  | d :: ds, k, i + 1 => by
    simp only [slots0, List.getElem?_cons_succ]
    rw [slots0_at, show k + 1 + i = k + (i + 1) by omega]
theorem slots0_len {io : Option Nat} : ∀ {ds : List D} {k : Nat}, (slots0 io ds k).length = ds.length
  | [], k => rfl
  | d :: ds, k => by simp [slots0, slots0_len]
theorem enter_at {fd : FD} {ds : List D} {i : Nat} {d : D} (h : (enter fd ds)[i]? = some (.f d)) : ds[i]? = some d ∧ fd.io ≠ some i := by
  unfold enter at h
  by_cases hl : i < ds.length
  · rw [List.getElem?_append_left (by rw [slots0_len]; exact hl), slots0_at] at h
    cases q : ds[i]? with
    | none => rw [q] at h; cases h
    | some e =>
      rw [q] at h
      simp only [Option.map_some, Nat.zero_add, Option.some.injEq] at h
      split at h
      · cases h
      · rename_i hn
        cases h
        exact ⟨rfl, hn⟩
  · rw [List.getElem?_append_right (by rw [slots0_len]; omega), List.getElem?_replicate] at h
    split at h <;> cases h
theorem enter_at_o {fd : FD} {ds : List D} {i : Nat} {d : D} (h : (enter fd ds)[i]? = some (.o d)) : ds[i]? = some d ∧ fd.io = some i := by
  unfold enter at h
  by_cases hl : i < ds.length
  · rw [List.getElem?_append_left (by rw [slots0_len]; exact hl), slots0_at] at h
    cases q : ds[i]? with
    | none => rw [q] at h; cases h
    | some e =>
      rw [q] at h
      simp only [Option.map_some, Nat.zero_add, Option.some.injEq] at h
      split at h
      · rename_i hn
        cases h
        exact ⟨rfl, hn⟩
      · cases h
  · rw [List.getElem?_append_right (by rw [slots0_len]; omega), List.getElem?_replicate] at h
    split at h <;> cases h
theorem enter_io {fd : FD} {ds : List D} {i : Nat} {d : D} (h : ds[i]? = some d) (e : fd.io = some i) : (enter fd ds)[i]? = some (.o d) := by
  unfold enter
  have hl : i < ds.length := (List.getElem?_eq_some_iff.mp h).1
  rw [List.getElem?_append_left (by rw [slots0_len]; exact hl), slots0_at, h]
  simp [e]
theorem start_at {N : List Str} {vs : List V} {i : Nat} {v : V} (h : vs[i]? = some v) : (L2.start N vs)[i]? = some (some v) := by
  unfold L2.start
  have hl : i < vs.length := (List.getElem?_eq_some_iff.mp h).1
  rw [List.getElem?_append_left (by simpa using hl), List.getElem?_map, h]
  rfl
def ioB (io : Option Nat) (vs : List V) : Option (Nat × Addr) := match io with
  | none => none
  | some k => match vs[k]? with
    | some (.ref a) => some (k, a)
    | _ => none
theorem ioB_some {io : Option Nat} {vs : List V} {i : Nat} {a : Addr} (h : ioB io vs = some (i, a)) : io = some i ∧ vs[i]? = some (.ref a) := by
  unfold ioB at h
  split at h
  · cases h
  · rename_i k
    split at h
    · rename_i b hb
      cases h
      exact ⟨rfl, hb⟩
    · cases h
theorem ioB_of {io : Option Nat} {vs : List V} {i : Nat} {a : Addr} (h : io = some i) (h2 : vs[i]? = some (.ref a)) : ioB io vs = some (i, a) := by
  subst h
  unfold ioB
  simp only [h2]
theorem same_len {vs : List V} {ds : List D} {i : Nat} {d : D} (h : vs.length = ds.length) (e : ds[i]? = some d) : ∃ v, vs[i]? = some v := by
  have hl : i < ds.length := (List.getElem?_eq_some_iff.mp e).1
  exact ⟨_, List.getElem?_eq_getElem (by omega)⟩
theorem rel_enter {K : PySem.W.Frag} {fd : FD} {N : List Str} {F H : Hp} {vs : List V} {ds : List D} (s : Same F H) (a : ArgsOk K F H fd.io vs ds) (hn : fd.ns = N.length) (hl : ds.length ≤ N.length) : Rel K ⟨F, H, ioB fd.io vs⟩ (enter fd ds) (L2.start N vs) F H where
  len := by
    unfold enter L2.start
    simp only [List.length_append, slots0_len, List.length_replicate, List.length_map]
    rw [hn, a.1]
  sub := s
  f := fun i d h => by
    obtain ⟨h1, h2⟩ := enter_at h
    obtain ⟨v, hv⟩ := same_len a.1 h1
    have q := a.2 i v d hv h1
    rw [if_neg h2] at q
    exact ⟨v, start_at hv, q⟩
  o := fun i d h => by
    obtain ⟨h1, h2⟩ := enter_at_o h
    obtain ⟨v, hv⟩ := same_len a.1 h1
    have q := a.2 i v d hv h1
    rw [if_pos h2] at q
    obtain ⟨b, rfl, ow, hf⟩ := q
    exact ⟨b, start_at hv, ow, hf, .inr (ioB_of h2 hv)⟩
  dj := fun i j d e b hij h1 h2 _ _ => by
    have e1 := (enter_at_o h1).2
    have e2 := (enter_at_o h2).2
    rw [e1] at e2
    exact hij (Option.some.inj e2)
  b1 := Same.refl _
  b2 := fun _ _ h _ => h
  b3 := fun _ _ h => h
  bio := fun i b h => by
    obtain ⟨h1, h2⟩ := ioB_some h
    have hl : i < ds.length := by rw [← a.1]; exact (List.getElem?_eq_some_iff.mp h2).1
    have hd : ds[i]? = some ds[i] := List.getElem?_eq_getElem hl
    have q := a.2 i _ _ h2 hd
    rw [if_pos h1] at q
    obtain ⟨c, e, ow, hf⟩ := q
    cases e
    refine ⟨start_at h2, ⟨_, enter_io hd h1⟩, ?_, hf⟩
    show H b ≠ none
    revert ow
    generalize ds[i] = dd
    intro ow
    cases ow with
    | lst h _ => rw [h]; exact fun z => nomatch z
    | dct h _ => rw [h]; exact fun z => nomatch z
/-! ### a def's end -/
theorem leave_ok {K : PySem.W.Frag} {io : Option Nat} {F H F' H' : Hp} {vs : List V} {ρ : Rho} {σ : L2.St} {o : Opd} {r : Ret} {v : V} (R : Rel K ⟨F, H, ioB io vs⟩ ρ σ F' H') (ov : OV K ⟨F, H, ioB io vs⟩ ρ σ F' H' o v) (e : leave io o ρ = .ok r) : CEnd K F H F' H' io vs r v := by
  unfold leave at e
  obtain ⟨⟨own, d, ρ1⟩, e1, ee⟩ := of_ok e
  have hd : ρ1 = ρ ∧ (if own then ∃ p, v = .ref p ∧ Ow K F' H' p d ∧ F' p = none ∧ H p = none else Rp K F' v d) := by
    cases o with
    | own d0 =>
      cases e1
      obtain ⟨a, rfl, ow, f1, f2, _⟩ := ov
      exact ⟨rfl, a, rfl, ow, f1, f2⟩
    | val d0 =>
      cases e1
      exact ⟨rfl, ov⟩
    | slot i =>
      have e1 : (if io = some i then Rs.st else (match ρ[i]? with
        | some (.o d) => .ok (true, d, ρ)
        | some (.f d) => .ok (false, d, ρ)
        | _ => .st) : Rs (Bool × D × Rho)) = .ok (own, d, ρ1) := e1
      by_cases hi : io = some i
      · rw [if_pos hi] at e1; cases e1
      · rw [if_neg hi] at e1
        have ov : σ[i]? = some (some v) := ov
        split at e1
        · rename_i c hc
          cases e1
          obtain ⟨a, e2, ow, f1, f2⟩ := R.o i _ hc
          rw [ov] at e2
          cases e2
          refine ⟨rfl, a, rfl, ow, f1, ?_⟩
          rcases f2 with f2 | f2
          · exact f2
          · exact absurd (ioB_some f2).1 hi
        · rename_i c hc
          cases e1
          obtain ⟨u, e2, rp⟩ := R.f i _ hc
          rw [ov] at e2
          cases e2
          exact ⟨rfl, rp⟩
        · cases e1
  obtain ⟨rfl, hd⟩ := hd
  have e : (match io with
    | none => Rs.ok (⟨own, d, .none⟩ : Ret)
    | some p => match ρ1[p]? with
      | some (.o e) => .ok ⟨own, d, e⟩
      | _ => .st) = .ok r := ee
  have hr : r.own = own ∧ r.d = d ∧ ∀ k, io = some k → ρ1[k]? = some (.o r.io) := by
    cases io with
    | none => cases e; exact ⟨rfl, rfl, fun k z => nomatch z⟩
    | some p =>
      simp only at e
      split at e
      · rename_i c hc
        cases e
        refine ⟨rfl, rfl, fun k z => ?_⟩
        cases z
        exact hc
      · cases e
  obtain ⟨r1, r2, r3⟩ := hr
  refine ⟨R.b1, R.sub, fun a o h hk => R.b2 a o h fun i z => ?_, R.b3, by rw [r1, r2]; exact hd, fun k a h1 h2 => ?_⟩
  · obtain ⟨z1, z2⟩ := ioB_some z
    exact hk i z1 z2
  · obtain ⟨b1, _, _, _⟩ := R.bio k a (ioB_of h1 h2)
    obtain ⟨b, e2, ow, _, _⟩ := R.o k _ (r3 k h1)
    rw [b1] at e2
    cases e2
    exact ow
theorem leave_ex {io : Option Nat} {o : Opd} {ρ : Rho} {c : Nat} (e : leave io o ρ = .ex c) : False := by
  unfold leave at e
  have k : ∀ (z : Rs (Bool × D × Rho)), (∀ c, z ≠ .ex c) → (z >>= fun p => (match io with
    | none => Rs.ok (⟨p.1, p.2.1, .none⟩ : Ret)
    | some q => match p.2.2[q]? with
      | some (.o e) => .ok ⟨p.1, p.2.1, e⟩
      | _ => .st)) = .ex c → False := by
    intro z hz h
    cases z with
    | ex d => exact hz d rfl
    | st => cases h
    | ok p =>
      simp only [bind_ok] at h
      cases io with
      | none => cases h
      | some q =>
        simp only at h
        split at h <;> cases h
  refine k _ ?_ e
  intro c h
  split at h
  · cases h
  · cases h
  · split at h
    · cases h
    · split at h <;> cases h
/-! ### a def's body -/
theorem body_ok {X : Cx} {C : Cfg} {T : Tab} {N : List Str} {sc : Scope} {E : XK} {ca : Nat → Addr} {lv : Nat} (s : Cs X C T N sc E ca lv) {fd : FD} {body : List Stmt} (hc : chkSs N T sc fd.body body = true) (hn : fd.ns = N.length) {vs : List V} {H : Hp} {Q : VK} (hl : vs.length ≤ N.length)
    (h : spF X.K ca (runB C fd) fd.io vs H Q E) : ∃ t, PSs X body t ∧ t { nx := fun _ H' => Q .non H', rt := Q } (L2.start N vs) H := by
  obtain ⟨F, ds, sm, a, h⟩ := h
  have hio : ∀ i b, (⟨F, H, ioB fd.io vs⟩ : Bs).io = some (i, b) → fd.io = some i := fun i b z => (ioB_some z).1
  refine ⟨_, sndSs fd.io s (B := ⟨F, H, ioB fd.io vs⟩) hio fd.body body hc, enter fd ds, F, rel_enter sm a hn (by rw [← a.1]; exact hl), ?_⟩
  unfold runB at h
  cases q : exSs C fd.io fd.body (enter fd ds) with
  | st => rw [q] at h; exact h.elim
  | ex c =>
    rw [q] at h
    show ∀ H', Fra _ H' → _
    cases hi : fd.io with
    | none =>
      rw [hi] at h
      exact fun H' hf => h.2 H' fun a o ha => hf a o ha fun i z => by
        have z : (none : Option (Nat × Addr)) = some (i, a) := z
        cases z
    | some i =>
      rw [hi] at h
      exact h.elim
  | ok z =>
    obtain ⟨fl, ρ'⟩ := z
    rw [q] at h
    cases fl with
    | nx =>
      intro σ F' H' R
      have h : match leave fd.io (.val .none) ρ' with
        | .ok r => ∀ v F' H', CEnd X.K F H F' H' fd.io vs r v → Q v H'
        | .ex c => fd.io = none ∧ ∀ H', (∀ a o, H a = some o → H' a = some o) → E (.ref (ca c)) none H'
        | .st => False := h
      cases w : leave fd.io (.val .none) ρ' with
      | ok r =>
        rw [w] at h
        exact h .non F' H' (leave_ok R (o := .val .none) (v := .non) Rp.non w)
      | ex c => exact (leave_ex w).elim
      | st => rw [w] at h; exact h.elim
    | rt o =>
      intro σ v F' H' R ov
      have h : match leave fd.io o ρ' with
        | .ok r => ∀ v F' H', CEnd X.K F H F' H' fd.io vs r v → Q v H'
        | .ex c => fd.io = none ∧ ∀ H', (∀ a o, H a = some o → H' a = some o) → E (.ref (ca c)) none H'
        | .st => False := h
      cases w : leave fd.io o ρ' with
      | ok r =>
        rw [w] at h
        exact h v F' H' (leave_ok R ov w)
      | ex c => exact (leave_ex w).elim
      | st => rw [w] at h; exact h.elim
    | bk => exact h.elim
    | ct => exact h.elim

def kindB : ScopeKind → Bool
  | .function => true
  | _ => false
def chkDef (N P : List Str) (T : Tab) (fd : FD) (body : List Stmt) (sc : Scope) : Bool :=
  (kindB sc.kind && !sc.isCoroutine && !sc.isGenerator && decide N.Nodup && decide (N.take P.length = P)) && (P.all (fun x => decide (sc.names.lookup x = some .local) || decide (sc.names.lookup x = some .cell)) && sc.names.all fun y => !decide (y.2 = .free)) &&
    (decide (fd.ns = N.length) && decide (fd.np = P.length) && decide (P.length ≤ N.length) && (!fd.star || fd.io.isNone)) && chkSs N T sc fd.body body
structure DefIs (N P : List Str) (T : Tab) (fd : FD) (body : List Stmt) (sc : Scope) : Prop where
  S : FnScope N P sc
  ns : fd.ns = N.length
  np : fd.np = P.length
  le : P.length ≤ N.length
  st : fd.star = true → fd.io = none
  chk : chkSs N T sc fd.body body = true
theorem defIs_of {N P : List Str} {T : Tab} {fd : FD} {body : List Stmt} {sc : Scope} (h : chkDef N P T fd body sc = true) : DefIs N P T fd body sc := by
  unfold chkDef at h
  obtain ⟨h, h1⟩ := b2 h
  obtain ⟨h, h2⟩ := b2 h
  obtain ⟨h3, h4⟩ := b2 h
  simp only [Bool.and_eq_true, decide_eq_true_eq, Bool.not_eq_true', List.all_eq_true, Bool.or_eq_true, decide_eq_false_iff_not] at h2 h3 h4
  obtain ⟨⟨⟨⟨a1, a2⟩, a3⟩, a4⟩, a5⟩ := h3
  obtain ⟨⟨⟨c1, c2⟩, c3⟩, c4⟩ := h2
  refine ⟨⟨?_, a2, a3, a4, a5, h4.1, fun y hy => h4.2 y hy⟩, c1, c2, c3, fun z => ?_, h1⟩
  · unfold kindB at a1
    split at a1
    · assumption
    · cases a1
  · rcases c4 with c4 | c4
    · rw [z] at c4; cases c4
    · simpa using c4
/-- how a def binds its arguments -/
def BindIs (fd : FD) (nm qual : Str) (params : Arguments) (body : List Stmt) (sc : Scope) (P : List Str) : Prop :=
  if fd.star then ∃ ps pv, P = ps ++ [pv] ∧ ∀ (kV doc pm : Value) (an : Option Addr) (cdv ct : Value) (us rest : List Value), us.length = ps.length →
    bindArgs (PySem.W.fnOf nm qual params body sc .none kV doc pm an cdv ct) ⟨us ++ rest, []⟩ = (newTuple rest >>= fun t => pure (ps.zip us ++ [(pv, t)]))
  else ∀ (kV doc pm : Value) (an : Option Addr) (cdv ct : Value) (us : List Value), us.length = P.length → bindArgs (PySem.W.fnOf nm qual params body sc .none kV doc pm an cdv ct) ⟨us, []⟩ = pure (P.zip us)
def DefOk (K : PySem.W.Frag) (T : Tab) (fd : FD) (f : Addr) : Prop := ∃ (nm qual : Str) (params : Arguments) (body : List Stmt) (sc : Scope) (N P : List Str) (fdat : FuncData), FunD K nm qual params body sc [] [] f fdat ∧ chkDef N P T fd body sc = true ∧ BindIs fd nm qual params body sc P
/-- what is known of the module -/
structure GW (K : PySem.W.Frag) (mg : Str → Option Value) (ga : Str → Addr) (ca : Nat → Addr) (defs : List FD) (globs : List D) (T : Tab) : Prop where
  dom : ∀ (f : Nat) (x : Str), T.fnm[f]? = some x → ∃ fd, defs[f]? = some fd
  adr : ∀ (f : Nat) (x : Str), T.fnm[f]? = some x → mg x = some (.ref (ga x))
  dfs : ∀ (f : Nat) (fd : FD) (x : Str), defs[f]? = some fd → T.fnm[f]? = some x → DefOk K T fd (ga x)
  gls : ∀ (k : Nat) (d : D) (x : Str), globs[k]? = some d → T.gnm[k]? = some x → ∃ u v, mg x = some u ∧ RelV v u ∧ ∀ F, Rp K F v d
  bis : ∀ x ∈ biNames, mg x = none
  exs : ∀ (k : Nat) (x : Str), T.cnm[k]? = some x → mg x = some (.ref (ca k)) ∧ PySem.W.keepIn K (.ref (ca k)) = true ∧ PySem.W.subIn K (.ref (ca k)) (.type "BaseException") = some true ∧ PySem.W.typeIn K (.ref (ca k)) = some (.type "type") ∧
    ∃ B newId initId bmB, ExcBaseFacts B newId initId bmB ∧ PySem.W.excIn K (ca k) bmB newId = true
theorem runB_ex {C : Cfg} {fd : FD} {ps : List D} {c : Nat} (e : runB C fd ps = .ex c) : fd.io = none := by
  unfold runB at e
  split at e
  · exact (leave_ex e).elim
  · exact (leave_ex e).elim
  · cases e
  · split at e
    · cases e
    · rename_i h
      simpa using h
  · cases e
theorem callF_ex {defs : List FD} {globs : List D} {wf : Nat} : ∀ {n f : Nat} {fd : FD} {ds : List D} {c : Nat}, defs[f]? = some fd → callF defs globs wf n f ds = .ex c → fd.io = none
  | 0, _, _, _, _, _, e => by cases e
  | n + 1, f, fd, ds, c, h, e => by
    rw [callF, h] at e
    simp only at e
    unfold runDef at e
    cases q : params fd ds with
    | none => rw [q] at e; cases e
    | some ps =>
      rw [q] at e
      exact runB_ex e
section
variable {P : Program} {w : World} {K : PySem.W.Frag} {mg : Str → Option Value} {base : Heap} {ga : Str → Addr} {ca : Nat → Addr} {defs : List FD} {globs : List D} {T : Tab} {wf : Nat}
/-- every def of the module, at level n -/
def AllR (P : Program) (w : World) (K : PySem.W.Frag) (mg : Str → Option Value) (base : Heap) (ga : Str → Addr) (ca : Nat → Addr) (defs : List FD) (globs : List D) (T : Tab) (wf n : Nat) : Prop :=
  ∀ (f : Nat) (fd : FD) (x : Str), defs[f]? = some fd → T.fnm[f]? = some x → FnR P w K mg base (L2.CX P w) n (ga x) (spF K ca (callF defs globs wf n f) fd.io)
theorem cs_of (G : GW K mg ga ca defs globs T) {n : Nat} (IH : AllR P w K mg base ga ca defs globs T wf n) {N Ps : List Str} {qual : Str} {sc : Scope} (S : FnScope N Ps sc) {f : Addr} {cdv : Value} {A : Around} {outer : List Env} {s : Shared} {H : Hp} {E : XK}
    (hr : Room n (A.deeper (envOfC qual sc s.heap.objs.size f cdv))) : Cs (cxOf (L2.CX P w) P w K mg base N qual sc f cdv A outer s H E) ⟨defs, globs, wf, callF defs globs wf n⟩ T N sc E ca n where
  c :=
    { hN := rfl
      hsc := rfl
      nd := S.nd
      calm := rfl
      room := hr
      fnok := fun _ _ => rfl
      dom := G.dom
      fns := fun f fd x h1 h2 => by
        obtain ⟨_, _, _, _, _, _, _, fdat, F, _⟩ := G.dfs f fd x h1 h2
        exact ⟨ga x, G.adr f x h2, F.kp, IH f fd x h1 h2⟩
      nio := fun f fd ds c h e => callF_ex h e
      gls := G.gls
      bis := G.bis
      hx := passes_call (takes_of rfl rfl rfl rfl) (fun _ _ _ _ h => h) }
  po := passes_of rfl
  tk := takes_of rfl rfl rfl rfl
  kind := S.kind
  exs := fun k x h => by
    obtain ⟨h1, h2, h3, h4, h5⟩ := G.exs k x h
    exact ⟨h1, h2, raises_own h3 h4, h5⟩
theorem spF_len {call : List D → Rs Ret} {io : Option Nat} {vs : List V} {H : Hp} {Q : VK} {E : XK} {m : Nat} (hc : ∀ ds, ds.length ≠ m → call ds = .st) (h : spF K ca call io vs H Q E) : vs.length = m := by
  obtain ⟨F, ds, _, a, h⟩ := h
  rw [a.1]
  by_cases q : ds.length = m
  · exact q
  · rw [hc ds q] at h; exact h.elim
theorem rpAll_of {F : Hp} : ∀ {vs : List V} {ds : List D}, vs.length = ds.length → (∀ (j : Nat) (v : V) (d : D), vs[j]? = some v → ds[j]? = some d → Rp K F v d) → RpAll K F vs ds
  | [], [], _, _ => .nil
  | v :: vs, d :: ds, hl, h => .cons (h 0 v d rfl rfl) (rpAll_of (by simpa using hl) fun j v d h1 h2 => h (j + 1) v d h1 h2)
  | [], _ :: _, hl, _ => by cases hl
  | _ :: _, [], hl, _ => by cases hl
theorem fn_step (G : GW K mg ga ca defs globs T) {n : Nat} (IH : AllR P w K mg base ga ca defs globs T wf n) : AllR P w K mg base ga ca defs globs T wf (n + 1) := by
  intro f fd x h1 h2
  obtain ⟨nm, qual, prm, body, sc, N, Ps, fdat, F, hc, hb⟩ := G.dfs f fd x h1 h2
  have Z := defIs_of hc
  have eC : ∀ ds, callF defs globs wf (n + 1) f ds = runDef ⟨defs, globs, wf, callF defs globs wf n⟩ fd ds := fun ds => by rw [callF, h1]
  unfold BindIs at hb
  cases hs : fd.star with
  | false =>
    rw [hs] at hb
    simp only [Bool.false_eq_true, if_false] at hb
    have eR : ∀ ds, ds.length = fd.np → runDef ⟨defs, globs, wf, callF defs globs wf n⟩ fd ds = runB ⟨defs, globs, wf, callF defs globs wf n⟩ fd ds := fun ds h => by
      unfold runDef params
      rw [hs]
      simp [h]
    have eN : ∀ ds, ds.length ≠ fd.np → callF defs globs wf (n + 1) f ds = .st := fun ds h => by
      rw [eC]
      unfold runDef params
      rw [hs]
      simp [h]
    have hl : ∀ vs H Q E, spF K ca (callF defs globs wf (n + 1) f) fd.io vs H Q E → vs.length = Ps.length := fun vs H Q E h => by
      rw [← Z.np]; exact spF_len eN h
    have ok : FnOk P w K mg base (L2.CX P w) (n + 1) (ga x) fdat Ps (spF K ca (callF defs globs wf (n + 1) f) fd.io) := by
      refine F.ok Z.S hl fun cdv A outer s H vs Q E hr h => ?_
      have hv := hl vs H Q E h
      have h' : spF K ca (runB ⟨defs, globs, wf, callF defs globs wf n⟩ fd) fd.io vs H Q E := by
        obtain ⟨F, ds, sm, a, h⟩ := h
        rw [eC, eR ds (by rw [← a.1, hv, Z.np])] at h
        exact ⟨F, ds, sm, a, h⟩
      exact body_ok (cs_of G IH Z.S hr) Z.chk Z.ns (by rw [hv]; exact Z.le) h'
    have r := ok.raw (F.bindsN hb) (dvs := []) .nil
    exact r.imp fun vs H Q E h => by rw [List.append_nil]; exact h
  | true =>
    rw [hs] at hb
    simp only [if_true] at hb
    obtain ⟨ps, pv, rfl, hb⟩ := hb
    obtain ⟨oc, od, dV, kV, doc, pm, an, cdv, ct, osl, rfl, lk, hcd, hD, hK⟩ := F.ex
    have hio := Z.st hs
    rcases hD with ⟨_, rfl⟩ | ⟨z, _⟩
    case inr => exact absurd rfl z
    have hnp : fd.np = ps.length + 1 := by rw [Z.np]; simp
    have r := StX.fn_star (CX := L2.CX P w) (k := n) (P := P) (w := w) (mg := mg) (base := base) (sp := fun vs H Q E => vs.length = ps.length + 1 ∧ spF K ca (runB ⟨defs, globs, wf, callF defs globs wf n⟩ fd) none vs H Q E) lk hcd Z.S StX.cxUp (hb kV doc pm an cdv ct) (fun A outer s H vs Q E hr h => by
      have hv : vs.length ≤ N.length := by rw [h.1]; have := Z.le; simpa using this
      exact body_ok (cs_of G IH Z.S hr) Z.chk Z.ns hv (by rw [hio]; exact h.2))
    refine r.imp fun vs H Q E h => ?_
    obtain ⟨F, ds, sm, a, h⟩ := h
    rw [eC] at h
    unfold runDef params at h
    rw [hs, hnp] at h
    simp only [if_true] at h
    by_cases hcnd : ps.length + 1 ≤ ds.length + 1 ∧ 0 < ps.length + 1 ∧ ds.length ≤ 1000
    case neg => rw [if_neg hcnd] at h; exact h.elim
    rw [if_pos hcnd] at h
    simp only [of_some, bind_ok, Nat.add_sub_cancel] at h
    refine ⟨vs.take ps.length, vs.drop ps.length, (List.take_append_drop _ _).symm, by rw [List.length_take, a.1]; omega, ?_, fun p hp => ?_⟩
    · rw [List.length_drop, a.1, PySem.sizeLine_eq]; omega
    have fp : F p = none := by
      cases q : F p with
      | none => rfl
      | some o => rw [sm p o q] at hp; cases hp
    have all : ∀ (k : Nat) (v : V) (d : D), vs[k]? = some v → ds[k]? = some d → Rp K F v d := fun k v d hv hd => by
      have q := a.2 k v d hv hd
      rw [hio] at q
      simpa using q
    have s2 : Same F (upd F p (.tup (vs.drop ps.length))) := same_new fp
    refine ⟨by rw [List.length_append, List.length_take, a.1]; simp; omega, upd F p (.tup (vs.drop ps.length)), ds.take ps.length ++ [.tuple (ds.drop ps.length)], ?_, ⟨by simp [a.1], fun k v d hv hd => ?_⟩, ?_⟩
    · intro b o hb
      by_cases e : b = p
      · subst e
        rw [upd_same] at hb ⊢
        exact hb
      · rw [upd_ne e] at hb ⊢
        exact sm b o hb
    · rw [if_neg (fun z => nomatch z)]
      by_cases hk : k < ps.length
      · rw [List.getElem?_append_left (by rw [List.length_take, a.1]; omega), List.getElem?_take_of_lt hk] at hv
        rw [List.getElem?_append_left (by rw [List.length_take]; omega), List.getElem?_take_of_lt hk] at hd
        exact (all k v d hv hd).mono s2
      · have l1 : (vs.take ps.length).length = ps.length := by rw [List.length_take, a.1]; omega
        have l2 : (ds.take ps.length).length = ps.length := by rw [List.length_take]; omega
        rw [List.getElem?_append_right (by omega), l1] at hv
        rw [List.getElem?_append_right (by omega), l2] at hd
        have hk0 : k - ps.length = 0 := by
          by_cases z : k - ps.length = 0
          · exact z
          · obtain ⟨m, hm⟩ : ∃ m, k - ps.length = m + 1 := ⟨k - ps.length - 1, by omega⟩
            rw [hm] at hv
            cases hv
        rw [hk0] at hv hd
        cases hv
        cases hd
        refine .tup (.inl (.inl upd_same)) (rpAll_of (by simp [a.1]) fun j v d hv hd => ?_)
        rw [List.getElem?_drop] at hv hd
        exact (all _ v d hv hd).mono s2
    · split at h
      · rename_i r hr
        intro v F' H' c
        refine h v F' H' ⟨s2.trans c.sF, c.sub, fun b o hb _ => c.keep b o ?_ (fun k z => nomatch z), fun b h1 h2 => c.free b ?_ ?_, ?_, fun k b z => ?_⟩
        · rw [upd_ne (fun e => by subst e; rw [hp] at hb; cases hb)]; exact hb
        · rw [upd_ne (fun e => by subst e; exact h1 hp)]; exact h1
        · rw [upd_ne (fun e => by subst e; exact h1 hp)]; exact h2
        · have q := c.res
          split
          · rename_i ho
            rw [if_pos ho] at q
            obtain ⟨b, e1, e2, e3, e4⟩ := q
            refine ⟨b, e1, e2, e3, ?_⟩
            by_cases e : b = p
            · subst e; exact hp
            · rw [upd_ne e] at e4; exact e4
          · rename_i ho
            rw [if_neg ho] at q
            exact q
        · rw [hio] at z; cases z
      · rename_i c hc
        refine ⟨rfl, fun H' hH => h.2 H' fun b o hb => hH b o ?_⟩
        rw [upd_ne (fun e => by subst e; rw [hp] at hb; cases hb)]; exact hb
      · exact h.elim
theorem all_R (G : GW K mg ga ca defs globs T) : ∀ n, AllR P w K mg base ga ca defs globs T wf n
  | 0 => fun f fd x h1 h2 A outer s H us vs Q E hr e0 r h => by
    obtain ⟨F, ds, _, _, h⟩ := h
    exact h.elim
  | n + 1 => fn_step G (all_R G n)
end
end EV
end

section
/-! EvQ -/
set_option Elab.async false
set_option linter.all false
set_option maxRecDepth 100000
set_option maxHeartbeats 4000000
/-! EvQ: from the head's facts to the module's defs; the end. -/
namespace EV
open PySem PySem.Spec L2

abbrev TB := List (FD × He.DefD × List Str × List Str)
def tabOf (tb : TB) (gi : List (Str × Int)) (cnm : List Str) : Tab := ⟨tb.map fun q => q.2.1.at_.1, gi.map (·.1), cnm⟩
def faOf (tb : TB) (gi : List (Str × Int)) (cnm : List Str) : List He.Fa :=
  tb.map (fun q => He.Fa.glo q.2.1.at_.1) ++ (biNames.map (fun x => He.Fa.free x) ++ (gi.map (fun q => He.Fa.int q.1 q.2) ++ (cnm.map He.Fa.exc ++ cnm.map He.Fa.glo)))
def chkOne (T : Tab) (q : FD × He.DefD × List Str × List Str) : Bool := (chkDef q.2.2.1 q.2.2.2 T q.1 q.2.1.body q.2.1.scope && q.2.1.dfl.isEmpty) && (q.2.1.kwd.isEmpty && q.2.1.at_.2.isNone)
def BindAll : TB → Prop
  | [] => True
  | q :: r => BindIs q.1 q.2.1.name q.2.1.qual q.2.1.params q.2.1.body q.2.1.scope q.2.2.2 ∧ BindAll r
theorem BindAll.at : ∀ {tb : TB} {f : Nat} {q : FD × He.DefD × List Str × List Str}, BindAll tb → tb[f]? = some q → BindIs q.1 q.2.1.name q.2.1.qual q.2.1.params q.2.1.body q.2.1.scope q.2.2.2
  | [], _, _, _, h => by cases h
  | p :: r, 0, q, b, h => by cases h; exact b.1
  | p :: r, f + 1, q, b, h => BindAll.at (tb := r) (f := f) b.2 h
section
variable {K : PySem.W.Frag} {h : Heap} {mg : Str → Option Value} {tb : TB} {gi : List (Str × Int)} {cnm : List Str}
theorem fact_in {fa : List He.Fa} {fn : List He.DefD} (c : He.SaysD fa fn K) {f : He.Fa} (hm : f ∈ fa) : f.ok K = true := by
  obtain ⟨i, hi, e⟩ := List.mem_iff_getElem.mp hm
  exact c.fact i (f := f) (by rw [List.getElem?_eq_getElem hi, e])
theorem gw_of (X : K.In h) (G : h.Ns mainGlobals mg) (c : He.SaysD (faOf tb gi cnm) (tb.map (·.2.1)) K) (hc : tb.all (chkOne (tabOf tb gi cnm)) = true) (hb : BindAll tb) :
    GW K mg (He.ga K) (fun k => He.ga K (cnm.getD k Str.empty)) (tb.map (·.1)) (gi.map fun q => PyData.int q.2) (tabOf tb gi cnm) where
  dom := fun f x e => by
    have e : (tb.map fun q => q.2.1.at_.1)[f]? = some x := e
    rw [List.getElem?_map] at e
    rw [List.getElem?_map]
    cases q : tb[f]? with
    | none => rw [q] at e; cases e
    | some z => exact ⟨z.1, rfl⟩
  adr := fun f x e => by
    have e : (tb.map fun q => q.2.1.at_.1)[f]? = some x := e
    obtain ⟨z, hz, rfl⟩ := List.mem_map.mp (List.mem_of_getElem? e)
    exact He.glo_ok X G (fact_in c (List.mem_append_left _ (List.mem_map.mpr ⟨z, hz, rfl⟩)))
  dfs := fun f fd x e1 e2 => by
    have e2 : (tb.map fun q => q.2.1.at_.1)[f]? = some x := e2
    rw [List.getElem?_map] at e1 e2
    cases q : tb[f]? with
    | none => rw [q] at e1; cases e1
    | some z =>
      rw [q] at e1 e2
      cases e1
      cases e2
      have k := List.all_eq_true.mp hc z (List.mem_of_getElem? q)
      unfold chkOne at k
      obtain ⟨k1, k2⟩ := b2 k
      obtain ⟨k1, k3⟩ := b2 k1
      obtain ⟨k4, k5⟩ := b2 k2
      obtain ⟨fdat, F⟩ := c.def_ f (d := z.2.1) (by rw [List.getElem?_map, q]; rfl)
      have d1 : z.2.1.dvs K = [] := by
        unfold He.DefD.dvs
        rw [List.isEmpty_iff.mp k3]; rfl
      have d2 : z.2.1.kws K = [] := by
        unfold He.DefD.kws
        rw [List.isEmpty_iff.mp k4]; rfl
      rw [d1, d2] at F
      have d3 : He.fAd K z.2.1.at_ = He.ga K z.2.1.at_.1 := by
        have k5 : z.2.1.at_.2 = none := by simpa using k5
        unfold He.fAd
        rw [k5]
      rw [d3] at F
      exact ⟨_, _, _, _, _, z.2.2.1, z.2.2.2, fdat, F, k1, hb.at q⟩
  gls := fun k d x e1 e2 => by
    have e2 : (gi.map (·.1))[k]? = some x := e2
    rw [List.getElem?_map] at e1 e2
    cases q : gi[k]? with
    | none => rw [q] at e1; cases e1
    | some z =>
      rw [q] at e1 e2
      cases e1
      cases e2
      obtain ⟨t, ht⟩ := He.int_ok X G (fact_in c (List.mem_append_right _ (List.mem_append_right _ (List.mem_append_left _ (List.mem_map.mpr ⟨z, List.mem_of_getElem? q, rfl⟩)))))
      exact ⟨_, .int z.2, ht, ⟨_, rfl⟩, fun F => .int _⟩
  bis := fun x hx => He.free_ok X G (fact_in c (List.mem_append_right _ (List.mem_append_left _ (List.mem_map.mpr ⟨x, hx, rfl⟩))))
  exs := fun k x e => by
    have e : cnm[k]? = some x := e
    have hm := List.mem_of_getElem? e
    have eg : cnm.getD k Str.empty = x := by rw [List.getD_eq_getElem?_getD, e]; rfl
    simp only [eg]
    obtain ⟨h1, h2, h3, h4⟩ := He.exc_ok (fact_in c (List.mem_append_right _ (List.mem_append_right _ (List.mem_append_right _ (List.mem_append_left _ (List.mem_map.mpr ⟨x, hm, rfl⟩))))))
    refine ⟨He.glo_ok X G (fact_in c (List.mem_append_right _ (List.mem_append_right _ (List.mem_append_right _ (List.mem_append_right _ (List.mem_map.mpr ⟨x, hm, rfl⟩)))))), h2, h3, h4, _, _, _, _, PySem.F.excBase_ValueError, h1⟩
end
section
variable {P : Program} {w : World} {K : PySem.W.Frag} {mg : Str → Option Value} {base : Heap} {ga : Str → Addr} {ca : Nat → Addr} {defs : List FD} {globs : List D} {T : Tab} {wf : Nat}
/-- a def without a star, with its record -/
theorem law_ok (G : GW K mg ga ca defs globs T) (n : Nat) {f : Nat} {fd : FD} {nm qual : Str} {prm : Arguments} {body : List Stmt} {sc : Scope} {N Ps : List Str} {fdat : FuncData} {a : Addr} (h1 : defs[f]? = some fd)
    (F : FunD K nm qual prm body sc [] [] a fdat) (hc : chkDef N Ps T fd body sc = true) (hs : fd.star = false) : FnOk P w K mg base (L2.CX P w) (n + 1) a fdat Ps (spF K ca (callF defs globs wf (n + 1) f) fd.io) := by
  have Z := defIs_of hc
  have IH := all_R (P := P) (w := w) (base := base) (wf := wf) G n
  have eC : ∀ ds, callF defs globs wf (n + 1) f ds = runDef ⟨defs, globs, wf, callF defs globs wf n⟩ fd ds := fun ds => by rw [callF, h1]
  have eR : ∀ ds, ds.length = fd.np → runDef ⟨defs, globs, wf, callF defs globs wf n⟩ fd ds = runB ⟨defs, globs, wf, callF defs globs wf n⟩ fd ds := fun ds h => by
    unfold runDef params
    rw [hs]
    simp [h]
  have eN : ∀ ds, ds.length ≠ fd.np → callF defs globs wf (n + 1) f ds = .st := fun ds h => by
    rw [eC]
    unfold runDef params
    rw [hs]
    simp [h]
  have hl : ∀ vs H Q E, spF K ca (callF defs globs wf (n + 1) f) fd.io vs H Q E → vs.length = Ps.length := fun vs H Q E h => by
    rw [← Z.np]; exact spF_len eN h
  refine F.ok Z.S hl fun cdv A outer s H vs Q E hr h => ?_
  have hv := hl vs H Q E h
  have h' : spF K ca (runB ⟨defs, globs, wf, callF defs globs wf n⟩ fd) fd.io vs H Q E := by
    obtain ⟨F, ds, sm, a, h⟩ := h
    rw [eC, eR ds (by rw [← a.1, hv, Z.np])] at h
    exact ⟨F, ds, sm, a, h⟩
  exact body_ok (cs_of G IH Z.S hr) Z.chk Z.ns (by rw [hv]; exact Z.le) h'
end

/-- nothing is let out: the same promise with no exception -/
theorem quiet {P : Program} {w : World} {K : PySem.W.Frag} {mg : Str → Option Value} {base : Heap} {k : Nat} {f : Addr} {fd : FuncData} {ps : List Str} {sp : Sp} (F : FnOk P w K mg base (L2.CX P w) k f fd ps sp) :
    FnOk P w K mg base L2.CX0 k f fd ps (fun vs H Q _ => sp vs H Q fun _ _ _ => False) where
  len := fun vs H Q _ h => F.len vs H Q _ h
  run := fun A outer s H args us vs Q _ hr he hb hv hs => codeAny_mono (F.run A outer s H args us vs Q _ hr he hb hv hs) fun r s' hq => by
    cases r with
    | error e =>
      obtain ⟨_, _, _, _, _, _, _, _, _, _, _, _, z⟩ := hq
      exact z.elim
    | ok fl => cases fl <;> exact hq
theorem ints_rp {K : PySem.W.Frag} {F : Hp} : ∀ ns : List Int, RpAll K F (ns.map V.int) (ns.map PyData.int)
  | [] => .nil
  | n :: ns => .cons (.int n) (ints_rp ns)
theorem sp_end {K : PySem.W.Frag} {ca : Nat → Addr} {call : List D → Rs Ret} {ns : List Int} {H : Hp} {a : Addr} {E : XK} {r : Ret} (h : call [.list (ns.map .int)] = .ok r) (hd : r.d = .bool true) (hs : SqL K H a (ns.map V.int)) :
    spF K ca call none [.ref a] H (fun v _ => v = .bl true) E := by
  refine ⟨H, [.list (ns.map .int)], Same.refl _, ⟨rfl, fun k v d hv hd => ?_⟩, ?_⟩
  · rw [if_neg fun z => nomatch z]
    cases k with
    | zero => cases hv; cases hd; exact .lst hs (ints_rp ns)
    | succ k => cases hv
  · rw [h]
    intro v F' H' c
    have q := c.res
    split at q
    · obtain ⟨p, _, ow, _⟩ := q
      rw [hd] at ow
      cases ow
    · rw [hd] at q
      cases q
      rfl
end EV
end

section
/-! End03 -/
set_option Elab.async false
set_option linter.all false
set_option maxRecDepth 100000
set_option maxHeartbeats 4000000
namespace EvT
open PySem PySem.Spec L2 EV
abbrev prg : Program := PySem.Challenge.pw_fireward_k03_whole_fronts_far_off
def dd (i : Nat) (x : Str) : He.DefD := match prg.main.body.getD i (.Pass ⟨0, 0, 0, 0⟩) with
  | .FunctionDef nm a b c d e g h j k => ⟨(x, none), nm, nm, defArgs (.FunctionDef nm a b c d e g h j k), defBody (.FunctionDef nm a b c d e g h j k), defScope (.FunctionDef nm a b c d e g h j k), [], []⟩
  | _ => ⟨(x, none), x, x, defArgs (.Pass ⟨0, 0, 0, 0⟩), [], defScope (.Pass ⟨0, 0, 0, 0⟩), [], []⟩

/-- is_integer(value 0) -/
def f_is_integer : FD := ⟨1, false, none, 1, (.cons (.ret (.and (.isi (.v 0) .int) (.not (.isi (.v 0) .bool))))
  .nil)⟩
def n_is_integer : List Str := ["value"]
/-- is_within(value 0, low 1, high 2) -/
def f_is_within : FD := ⟨3, false, none, 3, (.cons (.ret (.and (.call 0 (.cons (.v 0) .nil)) (.ch .le .le (.v 1) (.v 0) (.v 2))))
  .nil)⟩
def n_is_within : List Str := ["value", "low", "high"]
/-- check(is_right 0) -/
def f_check : FD := ⟨1, false, none, 1, (.cons (.ite (.not (.v 0)) (.cons (.rai 1)
  .nil) .nil)
  .nil)⟩
def n_check : List Str := ["is_right"]
/-- shared(one 0, other 1) -/
def f_shared : FD := ⟨2, false, none, 2, (.cons (.par2 0 1 (.bi .abs (.bor (.v 0) .nil)) (.bi .abs (.bor (.v 1) .nil)))
  (.cons (.whl (.cmp .gt (.v 1) (.c (.int 0))) (.cons (.par2 0 1 (.v 1) (.bin .mod (.v 0) (.v 1)))
  .nil))
  (.cons (.ret (.v 0))
  .nil)))⟩
def n_shared : List Str := ["one", "other"]
/-- ratio(number 0, divisor 1, least 2) -/
def f_ratio : FD := ⟨2, false, none, 3, (.cons (.asg (.v 2) (.call 3 (.cons (.v 0) (.cons (.v 1) .nil))))
  (.cons (.ret (.tup (.cons (.bin .fdiv (.v 0) (.v 2)) (.cons (.bin .fdiv (.v 1) (.v 2)) .nil))))
  .nil))⟩
def n_ratio : List Str := ["number", "divisor", "least"]
/-- is_reach(value 0) -/
def f_is_reach : FD := ⟨1, false, none, 1, (.cons (.ret (.call 1 (.cons (.v 0) (.cons (.neg (.g 0)) (.cons (.g 0) .nil)))))
  .nil)⟩
def n_is_reach : List Str := ["value"]
/-- is_bearing(value 0, one 1) -/
def f_is_bearing : FD := ⟨1, false, none, 2, (.cons (.ite (.or (.not (.isi (.v 0) .tuple)) (.or (.cmp .ne (.bi .len (.bor (.v 0) .nil)) (.c (.int 2))) (.not (.bi .all (.bor (.lc (.call 5 (.cons (.v 1) .nil)) (.v 1) (.seq (.v 0)) .no [1]) .nil))))) (.cons (.ret (.c (.bool false)))
  .nil) .nil)
  (.cons (.ret (.cmp .eq (.call 3 (.cons (.ix (.v 0) (.c (.int 0))) (.cons (.ix (.v 0) (.c (.int 1))) .nil))) (.c (.int 1))))
  .nil))⟩
def n_is_bearing : List Str := ["value", "one"]
/-- is_place_fronts(value 0, one 1) -/
def f_is_place_fronts : FD := ⟨1, false, none, 2, (.cons (.ite (.or (.not (.isi (.v 0) .tuple)) (.cmp .ne (.bi .len (.bor (.v 0) .nil)) (.c (.int 2)))) (.cons (.ret (.c (.bool false)))
  .nil) .nil)
  (.cons (.ret (.bi .all (.bor (.lc (.and (.call 0 (.cons (.v 1) .nil)) (.ch .le .le (.c (.int 0)) (.v 1) (.g 1))) (.v 1) (.seq (.v 0)) .no [1]) .nil)))
  .nil))⟩
def n_is_place_fronts : List Str := ["value", "one"]
/-- is_ratio_fronts(value 0) -/
def f_is_ratio_fronts : FD := ⟨1, false, none, 1, (.cons (.ite (.or (.not (.isi (.v 0) .tuple)) (.or (.cmp .ne (.bi .len (.bor (.v 0) .nil)) (.c (.int 2))) (.or (.not (.call 0 (.cons (.ix (.v 0) (.c (.int 0))) .nil))) (.not (.call 0 (.cons (.ix (.v 0) (.c (.int 1))) .nil)))))) (.cons (.ret (.c (.bool false)))
  .nil) .nil)
  (.cons (.ret (.and (.cmp .gt (.ix (.v 0) (.c (.int 1))) (.c (.int 0))) (.cmp .eq (.call 3 (.cons (.ix (.v 0) (.c (.int 0))) (.cons (.ix (.v 0) (.c (.int 1))) .nil))) (.c (.int 1)))))
  .nil))⟩
def n_is_ratio_fronts : List Str := ["value"]
/-- is_front(value 0) -/
def f_is_front : FD := ⟨1, false, none, 1, (.cons (.ite (.or (.not (.isi (.v 0) .tuple)) (.or (.cmp .ne (.bi .len (.bor (.v 0) .nil)) (.c (.int 3))) (.or (.not (.call 7 (.cons (.ix (.v 0) (.c (.int 0))) .nil))) (.not (.call 6 (.cons (.ix (.v 0) (.c (.int 1))) .nil)))))) (.cons (.ret (.c (.bool false)))
  .nil) .nil)
  (.cons (.ret (.and (.call 8 (.cons (.ix (.v 0) (.c (.int 2))) .nil)) (.cmp .gt (.ix (.ix (.v 0) (.c (.int 2))) (.c (.int 0))) (.c (.int 0)))))
  .nil))⟩
def n_is_front : List Str := ["value"]
/-- check_front(front 0) -/
def f_check_front : FD := ⟨1, false, none, 1, (.cons (.exp (.call 2 (.cons (.call 9 (.cons (.v 0) .nil)) .nil)))
  .nil)⟩
def n_check_front : List Str := ["front"]
/-- check_places(places 0, place 1) -/
def f_check_places : FD := ⟨1, false, none, 2, (.cons (.exp (.call 2 (.cons (.and (.isi (.v 0) .list) (.and (.ch .le .le (.c (.int 1)) (.bi .len (.bor (.v 0) .nil)) (.g 2)) (.bi .all (.bor (.lc (.call 7 (.cons (.v 1) .nil)) (.v 1) (.seq (.v 0)) .no [1]) .nil)))) .nil)))
  .nil)⟩
def n_check_places : List Str := ["places", "place"]
/-- along(bearing 0, place 1) -/
def f_along : FD := ⟨2, false, none, 2, (.cons (.ret (.bin .add (.bin .mul (.ix (.v 0) (.c (.int 0))) (.ix (.v 1) (.c (.int 0)))) (.bin .mul (.ix (.v 0) (.c (.int 1))) (.ix (.v 1) (.c (.int 1))))))
  .nil)⟩
def n_along : List Str := ["bearing", "place"]
/-- speed_of(front 0, _ 1, bearing 2, n 3, d 4) -/
def f_speed_of : FD := ⟨1, false, none, 5, (.cons (.asg (.t (.cons (.v 1) (.cons (.v 2) (.cons (.t (.cons (.v 3) (.cons (.v 4) .nil))) .nil)))) (.v 0))
  (.cons (.ret (.tup (.cons (.bin .mul (.call 12 (.cons (.v 2) (.cons (.v 2) .nil))) (.v 3)) (.cons (.v 4) .nil))))
  .nil))⟩
def n_speed_of : List Str := ["front", "_", "bearing", "n", "d"]
/-- over(one 0, other 1, number 2, divisor 3) -/
def f_over : FD := ⟨2, false, none, 4, (.cons (.par2 2 3 (.bin .mul (.ix (.v 0) (.c (.int 0))) (.ix (.v 1) (.c (.int 1)))) (.bin .mul (.ix (.v 0) (.c (.int 1))) (.ix (.v 1) (.c (.int 0)))))
  (.cons (.ret (.ite (.cmp .gt (.v 3) (.c (.int 0))) (.call 4 (.cons (.v 2) (.cons (.v 3) .nil))) (.call 4 (.cons (.neg (.v 2)) (.cons (.neg (.v 3)) .nil)))))
  .nil))⟩
def n_over : List Str := ["one", "other", "number", "divisor"]
/-- reached(front 0, place 1, far 2) -/
def f_reached : FD := ⟨2, false, none, 3, (.cons (.asg (.v 2) (.bin .sub (.call 12 (.cons (.ix (.v 0) (.c (.int 1))) (.cons (.v 1) .nil))) (.call 12 (.cons (.ix (.v 0) (.c (.int 1))) (.cons (.ix (.v 0) (.c (.int 0))) .nil)))))
  (.cons (.ret (.call 14 (.cons (.tup (.cons (.v 2) (.cons (.c (.int 1)) .nil))) (.cons (.call 13 (.cons (.v 0) .nil)) .nil))))
  .nil))⟩
def n_reached : List Str := ["front", "place", "far"]
/-- is_less(one 0, other 1) -/
def f_is_less : FD := ⟨2, false, none, 2, (.cons (.ret (.cmp .lt (.bin .mul (.ix (.v 0) (.c (.int 0))) (.ix (.v 1) (.c (.int 1)))) (.bin .mul (.ix (.v 1) (.c (.int 0))) (.ix (.v 0) (.c (.int 1))))))
  .nil)⟩
def n_is_less : List Str := ["one", "other"]
/-- reaches_at(front 0, place 1) -/
def f_reaches_at : FD := ⟨2, false, none, 2, (.cons (.exp (.call 10 (.cons (.v 0) .nil)))
  (.cons (.exp (.call 2 (.cons (.call 7 (.cons (.v 1) .nil)) .nil)))
  (.cons (.ret (.call 15 (.cons (.v 0) (.cons (.v 1) .nil))))
  .nil)))⟩
def n_reaches_at : List Str := ["front", "place"]
/-- least_of(ratios 0, best 1, at 2, one 3) -/
def f_least_of : FD := ⟨1, false, none, 4, (.cons (.asg (.v 1) (.c (.int 0)))
  (.cons (.for_ (.t (.cons (.v 2) (.cons (.v 3) .nil))) (.enu (.v 0)) (.cons (.ite (.call 16 (.cons (.v 3) (.cons (.ix (.v 0) (.v 1)) .nil))) (.cons (.asg (.v 1) (.v 2))
  .nil) .nil)
  .nil))
  (.cons (.ret (.v 1))
  .nil)))⟩
def n_least_of : List Str := ["ratios", "best", "at", "one"]
/-- first_reached(front 0, places 1, place 2) -/
def f_first_reached : FD := ⟨2, false, none, 3, (.cons (.exp (.call 10 (.cons (.v 0) .nil)))
  (.cons (.exp (.call 11 (.cons (.v 1) .nil)))
  (.cons (.ret (.call 18 (.cons (.lc (.call 15 (.cons (.v 0) (.cons (.v 2) .nil))) (.v 2) (.seq (.v 1)) .no [2]) .nil)))
  .nil)))⟩
def n_first_reached : List Str := ["front", "places", "place"]
/-- passed_by(front 0, places 1, n 2, d 3, at 4, place 5) -/
def f_passed_by : FD := ⟨4, false, none, 6, (.cons (.exp (.call 10 (.cons (.v 0) .nil)))
  (.cons (.exp (.call 11 (.cons (.v 1) .nil)))
  (.cons (.exp (.call 2 (.cons (.call 8 (.cons (.tup (.cons (.v 2) (.cons (.v 3) .nil))) .nil)) .nil)))
  (.cons (.ret (.lc (.v 4) (.t (.cons (.v 4) (.cons (.v 5) .nil))) (.enu (.v 1)) (.yes (.not (.call 16 (.cons (.tup (.cons (.v 2) (.cons (.v 3) .nil))) (.cons (.call 15 (.cons (.v 0) (.cons (.v 5) .nil))) .nil))))) [4, 5]))
  .nil))))⟩
def n_passed_by : List Str := ["front", "places", "n", "d", "at", "place"]
/-- check_fronts(one 0, other 1) -/
def f_check_fronts : FD := ⟨2, false, none, 2, (.cons (.exp (.call 10 (.cons (.v 0) .nil)))
  (.cons (.exp (.call 10 (.cons (.v 1) .nil)))
  .nil))⟩
def n_check_fronts : List Str := ["one", "other"]
/-- across(one 0, other 1) -/
def f_across : FD := ⟨2, false, none, 2, (.cons (.ret (.bin .sub (.bin .mul (.ix (.v 0) (.c (.int 0))) (.ix (.v 1) (.c (.int 1)))) (.bin .mul (.ix (.v 0) (.c (.int 1))) (.ix (.v 1) (.c (.int 0))))))
  .nil)⟩
def n_across : List Str := ["one", "other"]
/-- line_at(front 0, n 1, d 2, number 3, divisor 4) -/
def f_line_at : FD := ⟨3, false, none, 5, (.cons (.asg (.t (.cons (.v 3) (.cons (.v 4) .nil))) (.call 13 (.cons (.v 0) .nil)))
  (.cons (.ret (.tup (.cons (.bin .add (.bin .mul (.bin .mul (.call 12 (.cons (.ix (.v 0) (.c (.int 1))) (.cons (.ix (.v 0) (.c (.int 0))) .nil))) (.v 4)) (.v 2)) (.bin .mul (.v 3) (.v 1))) (.cons (.bin .mul (.v 4) (.v 2)) .nil))))
  .nil))⟩
def n_line_at : List Str := ["front", "n", "d", "number", "divisor"]
/-- meet_point(one 0, other 1, n 2, d 3, a 4, b 5, e 6, f 7, whole 8, p 9, q 10, r 11, s 12, x 13, y 14) -/
def f_meet_point : FD := ⟨4, false, none, 15, (.cons (.exp (.call 21 (.cons (.v 0) (.cons (.v 1) .nil))))
  (.cons (.exp (.call 2 (.cons (.call 8 (.cons (.tup (.cons (.v 2) (.cons (.v 3) .nil))) .nil)) .nil)))
  (.cons (.asg (.t (.cons (.t (.cons (.v 4) (.cons (.v 5) .nil))) (.cons (.t (.cons (.v 6) (.cons (.v 7) .nil))) .nil))) (.tup (.cons (.ix (.v 0) (.c (.int 1))) (.cons (.ix (.v 1) (.c (.int 1))) .nil))))
  (.cons (.asg (.v 8) (.call 22 (.cons (.ix (.v 0) (.c (.int 1))) (.cons (.ix (.v 1) (.c (.int 1))) .nil))))
  (.cons (.ite (.cmp .eq (.v 8) (.c (.int 0))) (.cons (.ret (.c .none))
  .nil) .nil)
  (.cons (.asg (.t (.cons (.t (.cons (.v 9) (.cons (.v 10) .nil))) (.cons (.t (.cons (.v 11) (.cons (.v 12) .nil))) .nil))) (.tup (.cons (.call 23 (.cons (.v 0) (.cons (.v 2) (.cons (.v 3) .nil)))) (.cons (.call 23 (.cons (.v 1) (.cons (.v 2) (.cons (.v 3) .nil)))) .nil))))
  (.cons (.par2 13 14 (.tup (.cons (.bin .sub (.bin .mul (.bin .mul (.v 9) (.v 12)) (.v 7)) (.bin .mul (.bin .mul (.v 11) (.v 10)) (.v 5))) (.cons (.bin .mul (.v 10) (.v 12)) .nil))) (.tup (.cons (.bin .sub (.bin .mul (.bin .mul (.v 11) (.v 10)) (.v 4)) (.bin .mul (.bin .mul (.v 9) (.v 12)) (.v 6))) (.cons (.bin .mul (.v 10) (.v 12)) .nil))))
  (.cons (.ret (.tup (.cons (.call 14 (.cons (.v 13) (.cons (.tup (.cons (.v 8) (.cons (.c (.int 1)) .nil))) .nil))) (.cons (.call 14 (.cons (.v 14) (.cons (.tup (.cons (.v 8) (.cons (.c (.int 1)) .nil))) .nil))) .nil))))
  .nil))))))))⟩
def n_meet_point : List Str := ["one", "other", "n", "d", "a", "b", "e", "f", "whole", "p", "q", "r", "s", "x", "y"]
/-- is_between(one 0, other 1, place 2, n 3, d 4) -/
def f_is_between : FD := ⟨5, false, none, 5, (.cons (.exp (.call 21 (.cons (.v 0) (.cons (.v 1) .nil))))
  (.cons (.exp (.call 2 (.cons (.and (.call 7 (.cons (.v 2) .nil)) (.call 8 (.cons (.tup (.cons (.v 3) (.cons (.v 4) .nil))) .nil))) .nil)))
  (.cons (.ret (.cmp .ne (.call 16 (.cons (.tup (.cons (.v 3) (.cons (.v 4) .nil))) (.cons (.call 15 (.cons (.v 0) (.cons (.v 2) .nil))) .nil))) (.call 16 (.cons (.tup (.cons (.v 3) (.cons (.v 4) .nil))) (.cons (.call 15 (.cons (.v 1) (.cons (.v 2) .nil))) .nil)))))
  .nil)))⟩
def n_is_between : List Str := ["one", "other", "place", "n", "d"]
/-- is_reading(value 0) -/
def f_is_reading : FD := ⟨1, false, none, 1, (.cons (.ret (.and (.isi (.v 0) .tuple) (.and (.cmp .eq (.bi .len (.bor (.v 0) .nil)) (.c (.int 2))) (.and (.call 7 (.cons (.ix (.v 0) (.c (.int 0))) .nil)) (.call 8 (.cons (.ix (.v 0) (.c (.int 1))) .nil))))))
  .nil)⟩
def n_is_reading : List Str := ["value"]
/-- does_fit(front 0, readings 1, one 2, place 3, minute 4) -/
def f_does_fit : FD := ⟨2, false, none, 5, (.cons (.exp (.call 10 (.cons (.v 0) .nil)))
  (.cons (.exp (.call 2 (.cons (.and (.isi (.v 1) .list) (.and (.cmp .le (.bi .len (.bor (.v 1) .nil)) (.g 2)) (.bi .all (.bor (.lc (.call 26 (.cons (.v 2) .nil)) (.v 2) (.seq (.v 1)) .no [2]) .nil)))) .nil)))
  (.cons (.ret (.bi .all (.bor (.lc (.cmp .eq (.call 15 (.cons (.v 0) (.cons (.v 3) .nil))) (.v 4)) (.t (.cons (.v 3) (.cons (.v 4) .nil))) (.seq (.v 1)) .no [3, 4]) .nil)))
  .nil)))⟩
def n_does_fit : List Str := ["front", "readings", "one", "place", "minute"]
/-- fitted_speed(place 0, bearing 1, reading 2, far 3, n 4, d 5) -/
def f_fitted_speed : FD := ⟨3, false, none, 6, (.cons (.exp (.call 2 (.cons (.and (.call 7 (.cons (.v 0) .nil)) (.and (.call 6 (.cons (.v 1) .nil)) (.call 26 (.cons (.v 2) .nil)))) .nil)))
  (.cons (.asg (.v 3) (.bin .sub (.call 12 (.cons (.v 1) (.cons (.ix (.v 2) (.c (.int 0))) .nil))) (.call 12 (.cons (.v 1) (.cons (.v 0) .nil)))))
  (.cons (.asg (.t (.cons (.v 4) (.cons (.v 5) .nil))) (.ix (.v 2) (.c (.int 1))))
  (.cons (.ite (.cmp .le (.bin .mul (.v 3) (.v 4)) (.c (.int 0))) (.cons (.ret (.c .none))
  .nil) .nil)
  (.cons (.ret (.call 14 (.cons (.tup (.cons (.v 3) (.cons (.call 12 (.cons (.v 1) (.cons (.v 1) .nil))) .nil))) (.cons (.tup (.cons (.v 4) (.cons (.v 5) .nil))) .nil))))
  .nil)))))⟩
def n_fitted_speed : List Str := ["place", "bearing", "reading", "far", "n", "d"]
/-- order_of_reaching(front 0, places 1, left 2, found 3, place 4, _ 5, at 6, far 7) -/
def f_order_of_reaching : FD := ⟨2, false, none, 8, (.cons (.exp (.call 10 (.cons (.v 0) .nil)))
  (.cons (.exp (.call 11 (.cons (.v 1) .nil)))
  (.cons (.par2 2 3 (.lc (.call 12 (.cons (.ix (.v 0) (.c (.int 1))) (.cons (.v 4) .nil))) (.v 4) (.seq (.v 1)) .no [4]) (.lst .nil))
  (.cons (.for_ (.t (.cons (.v 5) (.cons (.v 6) .nil))) (.seq (.bi .sorted (.bor (.lc (.tup (.cons (.v 7) (.cons (.v 6) .nil))) (.t (.cons (.v 6) (.cons (.v 7) .nil))) (.enu (.v 2)) .no [6, 7]) .nil))) (.cons (.app 3 (.v 6))
  .nil))
  (.cons (.ret (.v 3))
  .nil)))))⟩
def n_order_of_reaching : List Str := ["front", "places", "left", "found", "place", "_", "at", "far"]
/-- longest_between(one 0, other 1, places 2, times 3, place 4, a 5, b 6, e 7, f 8, at 9) -/
def f_longest_between : FD := ⟨3, false, none, 10, (.cons (.exp (.call 21 (.cons (.v 0) (.cons (.v 1) .nil))))
  (.cons (.exp (.call 11 (.cons (.v 2) .nil)))
  (.cons (.asg (.v 3) (.lst .nil))
  (.cons (.for_ (.v 4) (.seq (.v 2)) (.cons (.asg (.t (.cons (.t (.cons (.v 5) (.cons (.v 6) .nil))) (.cons (.t (.cons (.v 7) (.cons (.v 8) .nil))) .nil))) (.tup (.cons (.call 15 (.cons (.v 0) (.cons (.v 4) .nil))) (.cons (.call 15 (.cons (.v 1) (.cons (.v 4) .nil))) .nil))))
  (.cons (.app 3 (.call 4 (.cons (.neg (.bi .abs (.bor (.bin .sub (.bin .mul (.v 5) (.v 8)) (.bin .mul (.v 7) (.v 6))) .nil))) (.cons (.bin .mul (.v 6) (.v 8)) .nil))))
  .nil)))
  (.cons (.asg (.v 9) (.call 18 (.bor (.v 3) .nil)))
  (.cons (.ret (.tup (.cons (.tup (.cons (.neg (.ix (.ix (.v 3) (.v 9)) (.c (.int 0)))) (.cons (.ix (.ix (.v 3) (.v 9)) (.c (.int 1))) .nil))) (.cons (.v 9) .nil))))
  .nil))))))⟩
def n_longest_between : List Str := ["one", "other", "places", "times", "place", "a", "b", "e", "f", "at"]
/-- moved_front(front 0, n 1, d 2, x 3, y 4, a 5, b 6, more 7, less 8, first 9, m 10, e 11) -/
def f_moved_front : FD := ⟨3, false, none, 12, (.cons (.exp (.call 10 (.cons (.v 0) .nil)))
  (.cons (.exp (.call 2 (.cons (.call 8 (.cons (.tup (.cons (.v 1) (.cons (.v 2) .nil))) .nil)) .nil)))
  (.cons (.asg (.t (.cons (.t (.cons (.v 3) (.cons (.v 4) .nil))) (.cons (.t (.cons (.v 5) (.cons (.v 6) .nil))) (.cons (.t (.cons (.v 7) (.cons (.v 8) .nil))) .nil)))) (.v 0))
  (.cons (.asg (.v 9) (.tup (.cons (.call 4 (.cons (.bin .add (.bin .mul (.bin .mul (.v 3) (.v 8)) (.v 2)) (.bin .mul (.bin .mul (.v 5) (.v 7)) (.v 1))) (.cons (.bin .mul (.v 8) (.v 2)) .nil))) (.cons (.call 4 (.cons (.bin .add (.bin .mul (.bin .mul (.v 4) (.v 8)) (.v 2)) (.bin .mul (.bin .mul (.v 6) (.v 7)) (.v 1))) (.cons (.bin .mul (.v 8) (.v 2)) .nil))) .nil))))
  (.cons (.asg (.t (.cons (.t (.cons (.v 1) (.cons (.v 2) .nil))) (.cons (.t (.cons (.v 10) (.cons (.v 11) .nil))) .nil))) (.v 9))
  (.cons (.ret (.tup (.cons (.v 9) (.cons (.tup (.cons (.call 4 (.cons (.bin .sub (.v 1) (.bin .mul (.v 6) (.v 2))) (.cons (.v 2) .nil))) (.cons (.call 4 (.cons (.bin .add (.v 10) (.bin .mul (.v 5) (.v 11))) (.cons (.v 11) .nil))) .nil))) .nil))))
  .nil))))))⟩
def n_moved_front : List Str := ["front", "n", "d", "x", "y", "a", "b", "more", "less", "first", "m", "e"]
/-- same_line(one 0, other 1, same 2, far 3, p 4, q 5, r 6, s 7, nearer 8) -/
def f_same_line : FD := ⟨2, false, none, 9, (.cons (.exp (.call 21 (.cons (.v 0) (.cons (.v 1) .nil))))
  (.cons (.ite (.cmp .ne (.call 22 (.cons (.ix (.v 0) (.c (.int 1))) (.cons (.ix (.v 1) (.c (.int 1))) .nil))) (.c (.int 0))) (.cons (.ret (.c .none))
  .nil) .nil)
  (.cons (.asg (.v 2) (.ite (.cmp .eq (.ix (.v 0) (.c (.int 1))) (.ix (.v 1) (.c (.int 1)))) (.c (.int 1)) (.neg (.c (.int 1)))))
  (.cons (.asg (.v 3) (.bin .sub (.call 12 (.cons (.ix (.v 0) (.c (.int 1))) (.cons (.ix (.v 1) (.c (.int 0))) .nil))) (.call 12 (.cons (.ix (.v 0) (.c (.int 1))) (.cons (.ix (.v 0) (.c (.int 0))) .nil)))))
  (.cons (.asg (.t (.cons (.t (.cons (.v 4) (.cons (.v 5) .nil))) (.cons (.t (.cons (.v 6) (.cons (.v 7) .nil))) .nil))) (.tup (.cons (.call 13 (.cons (.v 0) .nil)) (.cons (.call 13 (.cons (.v 1) .nil)) .nil))))
  (.cons (.asg (.v 8) (.tup (.cons (.bin .sub (.bin .mul (.v 4) (.v 7)) (.bin .mul (.bin .mul (.v 2) (.v 6)) (.v 5))) (.cons (.bin .mul (.v 5) (.v 7)) .nil))))
  (.cons (.ite (.cmp .eq (.ix (.v 8) (.c (.int 0))) (.c (.int 0))) (.cons (.ret (.ite (.cmp .eq (.v 3) (.c (.int 0))) (.tup (.cons (.c (.int 0)) (.cons (.c (.int 1)) .nil))) (.c .none)))
  .nil) .nil)
  (.cons (.ret (.call 14 (.cons (.tup (.cons (.v 3) (.cons (.c (.int 1)) .nil))) (.cons (.v 8) .nil))))
  .nil))))))))⟩
def n_same_line : List Str := ["one", "other", "same", "far", "p", "q", "r", "s", "nearer"]
/-- is_place_checkwoods(value 0, one 1) -/
def f_is_place_checkwoods : FD := ⟨1, false, none, 2, (.cons (.ret (.and (.isi (.v 0) .tuple) (.and (.cmp .eq (.bi .len (.bor (.v 0) .nil)) (.c (.int 2))) (.bi .all (.bor (.lc (.call 1 (.cons (.v 1) (.cons (.c (.int 0)) (.cons (.c (.int 1000)) .nil)))) (.v 1) (.seq (.v 0)) .no [1]) .nil)))))
  .nil)⟩
def n_is_place_checkwoods : List Str := ["value", "one"]
/-- is_ratio_checkwoods(value 0, one 1) -/
def f_is_ratio_checkwoods : FD := ⟨1, false, none, 2, (.cons (.ite (.or (.not (.isi (.v 0) .tuple)) (.or (.cmp .ne (.bi .len (.bor (.v 0) .nil)) (.c (.int 2))) (.or (.not (.bi .all (.bor (.lc (.call 0 (.cons (.v 1) .nil)) (.v 1) (.seq (.v 0)) .no [1]) .nil))) (.cmp .lt (.ix (.v 0) (.c (.int 1))) (.c (.int 1)))))) (.cons (.ret (.c (.bool false)))
  .nil) .nil)
  (.cons (.ret (.cmp .eq (.call 4 (.cons (.ix (.v 0) (.c (.int 0))) (.cons (.ix (.v 0) (.c (.int 1))) .nil))) (.v 0)))
  .nil))⟩
def n_is_ratio_checkwoods : List Str := ["value", "one"]
/-- takes_reach(front 0, place 1, n 2, d 3, start 4, bearing 5, speed 6, one 7, far 8, long 9) -/
def f_takes_reach : FD := ⟨4, false, none, 10, (.cons (.ite (.or (.not (.isi (.v 0) .tuple)) (.or (.cmp .ne (.bi .len (.bor (.v 0) .nil)) (.c (.int 3))) (.or (.not (.call 33 (.cons (.ix (.v 0) (.c (.int 0))) .nil))) (.not (.call 33 (.cons (.v 1) .nil)))))) (.cons (.ret (.c (.bool false)))
  .nil) .nil)
  (.cons (.asg (.t (.cons (.v 4) (.cons (.v 5) (.cons (.v 6) .nil)))) (.v 0))
  (.cons (.ite (.or (.not (.isi (.v 5) .tuple)) (.cmp .ne (.bi .len (.bor (.v 5) .nil)) (.c (.int 2)))) (.cons (.ret (.c (.bool false)))
  .nil) .nil)
  (.cons (.ite (.not (.bi .all (.bor (.lc (.call 1 (.cons (.v 7) (.cons (.neg (.bin .pow (.c (.int 10)) (.c (.int 9)))) (.cons (.bin .pow (.c (.int 10)) (.c (.int 9))) .nil)))) (.v 7) (.seq (.v 5)) .no [7]) .nil))) (.cons (.ret (.c (.bool false)))
  .nil) .nil)
  (.cons (.ite (.or (.cmp .ne (.call 3 (.cons (.bi .abs (.bor (.ix (.v 5) (.c (.int 0))) .nil)) (.cons (.bi .abs (.bor (.ix (.v 5) (.c (.int 1))) .nil)) .nil))) (.c (.int 1))) (.or (.not (.call 34 (.cons (.v 6) .nil))) (.cmp .lt (.ix (.v 6) (.c (.int 0))) (.c (.int 1))))) (.cons (.ret (.c (.bool false)))
  .nil) .nil)
  (.cons (.asg (.v 8) (.bin .add (.bin .mul (.bin .sub (.ix (.v 1) (.c (.int 0))) (.ix (.v 4) (.c (.int 0)))) (.ix (.v 5) (.c (.int 0)))) (.bin .mul (.bin .sub (.ix (.v 1) (.c (.int 1))) (.ix (.v 4) (.c (.int 1)))) (.ix (.v 5) (.c (.int 1))))))
  (.cons (.asg (.v 9) (.bin .add (.bin .mul (.ix (.v 5) (.c (.int 0))) (.ix (.v 5) (.c (.int 0)))) (.bin .mul (.ix (.v 5) (.c (.int 1))) (.ix (.v 5) (.c (.int 1))))))
  (.cons (.ret (.cmp .eq (.tup (.cons (.v 2) (.cons (.v 3) .nil))) (.call 4 (.cons (.bin .mul (.v 8) (.ix (.v 6) (.c (.int 1)))) (.cons (.bin .mul (.v 9) (.ix (.v 6) (.c (.int 0)))) .nil)))))
  .nil))))))))⟩
def n_takes_reach : List Str := ["front", "place", "n", "d", "start", "bearing", "speed", "one", "far", "long"]
/-- _law_draws(script 0, draws 1, seed 2, cell 3, number 4, k 5) -/
def f__law_draws : FD := ⟨1, false, none, 6, (.cons (.asg (.v 1) (.lst .nil))
  (.cons (.asg (.v 2) (.c (.int 11)))
  (.cons (.for_ (.v 3) (.seq (.v 0)) (.cons (.asg (.v 4) (.bi .abs (.bor (.bi .int (.bor (.v 3) .nil)) .nil)))
  (.cons (.asg (.v 2) (.bin .mod (.bi .int (.bor (.bin .add (.bin .add (.bin .mul (.v 2) (.c (.int 48271))) (.v 4)) (.c (.int 1))) .nil)) (.c (.int 2147483647))))
  (.cons (.ite (.cmp .lt (.v 4) (.bin .pow (.c (.int 10)) (.c (.int 18)))) (.cons (.app 1 (.bin .mod (.bi .int (.bor (.v 4) .nil)) (.c (.int 997))))
  (.cons (.app 1 (.bin .mod (.bi .int (.bor (.v 2) .nil)) (.c (.int 65521))))
  (.cons (.asg (.v 4) (.c (.int 0)))
  .nil))) .nil)
  (.cons (.for_ (.v 5) (.rng1 (.c (.int 60))) (.cons (.ite (.cmp .gt (.v 4) (.c (.int 0))) (.cons (.app 1 (.bin .mod (.bi .int (.bor (.v 4) .nil)) (.c (.int 997))))
  (.cons (.asg (.v 4) (.bin .fdiv (.v 4) (.c (.int 997))))
  .nil)) .nil)
  .nil))
  .nil)))))
  (.cons (.for_ (.v 5) (.rng1 (.c (.int 1600))) (.cons (.asg (.v 2) (.bin .mod (.bi .int (.bor (.bin .add (.bin .mul (.v 2) (.c (.int 48271))) (.c (.int 69621))) .nil)) (.c (.int 2147483647))))
  (.cons (.app 1 (.bin .fdiv (.v 2) (.c (.int 5))))
  .nil)))
  (.cons (.ret (.rev (.v 1)))
  .nil)))))⟩
def n__law_draws : List Str := ["script", "draws", "seed", "cell", "number", "k"]
/-- _law_take(draws 0, bound 1) -/
def f__law_take : FD := ⟨2, false, some 0, 2, (.cons (.ite (.cmp .eq (.bi .len (.bor (.v 0) .nil)) (.c (.int 0))) (.cons (.ret (.c (.int 0)))
  .nil) .nil)
  (.cons (.ret (.bin .mod (.bi .int (.bor (.pop 0) .nil)) (.v 1)))
  .nil))⟩
def n__law_take : List Str := ["draws", "bound"]
/-- _law_pick(draws 0, some 1) -/
def f__law_pick : FD := ⟨2, false, some 0, 2, (.cons (.ret (.ix (.v 1) (.call 37 (.bor (.v 0) (.cons (.bi .len (.bor (.v 1) .nil)) .nil)))))
  .nil)⟩
def n__law_pick : List Str := ["draws", "some"]
/-- _law_same(actual 0, due 1, k 2, key 3) -/
def f__law_same : FD := ⟨2, false, none, 4, (.cons (.ite (.isC (.v 1) .none false) (.cons (.ret (.isC (.v 0) .none false))
  .nil) .nil)
  (.cons (.ite (.or (.isi (.v 1) .tuple) (.isi (.v 1) .list)) (.cons (.ite (.or (.cmp .ne (.isi (.v 1) .tuple) (.isi (.v 0) .tuple)) (.cmp .ne (.isi (.v 1) .list) (.isi (.v 0) .list))) (.cons (.ret (.c (.bool false)))
  .nil) .nil)
  (.cons (.ite (.cmp .ne (.bi .len (.bor (.v 0) .nil)) (.bi .len (.bor (.v 1) .nil))) (.cons (.ret (.c (.bool false)))
  .nil) .nil)
  (.cons (.for_ (.v 2) (.rng1 (.bi .len (.bor (.v 1) .nil))) (.cons (.ite (.not (.call 39 (.cons (.ix (.v 0) (.v 2)) (.cons (.ix (.v 1) (.v 2)) .nil)))) (.cons (.ret (.c (.bool false)))
  .nil) .nil)
  .nil))
  (.cons (.ret (.c (.bool true)))
  .nil)))) .nil)
  (.cons (.ite (.isi (.v 1) .dict) (.cons (.ite (.or (.not (.isi (.v 0) .dict)) (.cmp .ne (.bi .len (.bor (.v 0) .nil)) (.bi .len (.bor (.v 1) .nil)))) (.cons (.ret (.c (.bool false)))
  .nil) .nil)
  (.cons (.ret (.cmp .eq (.lc (.v 3) (.v 3) (.seq (.v 1)) (.yes (.or (.cmp .nin (.v 3) (.v 0)) (.not (.call 39 (.cons (.ix (.v 0) (.v 3)) (.cons (.ix (.v 1) (.v 3)) .nil)))))) [3]) (.lst .nil)))
  .nil)) .nil)
  (.cons (.ite (.cmp .ne (.isi (.v 1) .bool) (.isi (.v 0) .bool)) (.cons (.ret (.c (.bool false)))
  .nil) .nil)
  (.cons (.ite (.or (.cmp .ne (.isi (.v 1) .int) (.isi (.v 0) .int)) (.cmp .ne (.isi (.v 1) .str) (.isi (.v 0) .str))) (.cons (.ret (.c (.bool false)))
  .nil) .nil)
  (.cons (.ret (.cmp .eq (.v 0) (.v 1)))
  .nil))))))⟩
def n__law_same : List Str := ["actual", "due", "k", "key"]
/-- _law_ratio(a 0, b 1, x 2, y 3, turn 4) -/
def f__law_ratio : FD := ⟨2, false, none, 5, (.cons (.par2 2 3 (.bi .abs (.bor (.v 0) .nil)) (.bi .abs (.bor (.v 1) .nil)))
  (.cons (.for_ (.v 4) (.rng1 (.c (.int 4000))) (.cons (.ite (.cmp .eq (.v 3) (.c (.int 0))) (.cons .brk
  .nil) .nil)
  (.cons (.par2 2 3 (.v 3) (.bin .mod (.bi .int (.bor (.v 2) .nil)) (.v 3)))
  .nil)))
  (.cons (.ret (.tup (.cons (.bin .fdiv (.v 0) (.v 2)) (.cons (.bin .fdiv (.v 1) (.v 2)) .nil))))
  .nil)))⟩
def n__law_ratio : List Str := ["a", "b", "x", "y", "turn"]
/-- _law_plus(one 0, other 1) -/
def f__law_plus : FD := ⟨2, false, none, 2, (.cons (.ret (.call 40 (.cons (.bin .add (.bin .mul (.ix (.v 0) (.c (.int 0))) (.ix (.v 1) (.c (.int 1)))) (.bin .mul (.ix (.v 1) (.c (.int 0))) (.ix (.v 0) (.c (.int 1))))) (.cons (.bin .mul (.ix (.v 0) (.c (.int 1))) (.ix (.v 1) (.c (.int 1)))) .nil))))
  .nil)⟩
def n__law_plus : List Str := ["one", "other"]
/-- _law_is_at_most(one 0, other 1) -/
def f__law_is_at_most : FD := ⟨2, false, none, 2, (.cons (.ret (.cmp .le (.bin .mul (.ix (.v 0) (.c (.int 0))) (.ix (.v 1) (.c (.int 1)))) (.bin .mul (.ix (.v 1) (.c (.int 0))) (.ix (.v 0) (.c (.int 1))))))
  .nil)⟩
def n__law_is_at_most : List Str := ["one", "other"]
/-- _law_bearing(draws 0, most 1, a 2, b 3, x 4, y 5, turn 6) -/
def f__law_bearing : FD := ⟨2, false, some 0, 7, (.cons (.par2 2 3 (.bin .sub (.call 37 (.bor (.v 0) (.cons (.bin .add (.bin .mul (.c (.int 2)) (.v 1)) (.c (.int 1))) .nil))) (.v 1)) (.bin .sub (.call 37 (.bor (.v 0) (.cons (.bin .add (.bin .mul (.c (.int 2)) (.v 1)) (.c (.int 1))) .nil))) (.v 1)))
  (.cons (.ite (.and (.cmp .eq (.v 2) (.c (.int 0))) (.cmp .eq (.v 3) (.c (.int 0)))) (.cons (.asg (.v 2) (.c (.int 1)))
  .nil) .nil)
  (.cons (.par2 4 5 (.bi .abs (.bor (.v 2) .nil)) (.bi .abs (.bor (.v 3) .nil)))
  (.cons (.for_ (.v 6) (.rng1 (.c (.int 99))) (.cons (.ite (.cmp .gt (.v 5) (.c (.int 0))) (.cons (.par2 4 5 (.v 5) (.bin .mod (.bi .int (.bor (.v 4) .nil)) (.v 5)))
  .nil) .nil)
  .nil))
  (.cons (.ret (.tup (.cons (.bin .fdiv (.v 2) (.v 4)) (.cons (.bin .fdiv (.v 3) (.v 4)) .nil))))
  .nil)))))⟩
def n__law_bearing : List Str := ["draws", "most", "a", "b", "x", "y", "turn"]
/-- _law_front(draws 0, far 1) -/
def f__law_front : FD := ⟨2, false, some 0, 2, (.cons (.ret (.tup (.cons (.tup (.cons (.call 37 (.bor (.v 0) (.cons (.v 1) .nil))) (.cons (.call 37 (.bor (.v 0) (.cons (.v 1) .nil))) .nil))) (.cons (.call 43 (.bor (.v 0) (.cons (.call 38 (.bor (.v 0) (.cons (.lst (.cons (.c (.int 1)) (.cons (.c (.int 4)) (.cons (.c (.int 30)) .nil)))) .nil))) .nil))) (.cons (.call 40 (.cons (.bin .add (.c (.int 1)) (.call 37 (.bor (.v 0) (.cons (.c (.int 9)) .nil)))) (.cons (.bin .add (.c (.int 1)) (.call 37 (.bor (.v 0) (.cons (.c (.int 9)) .nil)))) .nil))) .nil)))))
  .nil)⟩
def n__law_front : List Str := ["draws", "far"]
/-- _law_reach(front 0, place 1, x 2, y 3, far 4) -/
def f__law_reach : FD := ⟨2, false, none, 5, (.cons (.asg (.t (.cons (.v 2) (.cons (.v 3) .nil))) (.ix (.v 0) (.c (.int 1))))
  (.cons (.asg (.v 4) (.bin .add (.bin .mul (.v 2) (.bin .sub (.ix (.v 1) (.c (.int 0))) (.ix (.ix (.v 0) (.c (.int 0))) (.c (.int 0))))) (.bin .mul (.v 3) (.bin .sub (.ix (.v 1) (.c (.int 1))) (.ix (.ix (.v 0) (.c (.int 0))) (.c (.int 1)))))))
  (.cons (.ret (.call 40 (.cons (.bin .mul (.v 4) (.ix (.ix (.v 0) (.c (.int 2))) (.c (.int 1)))) (.cons (.bin .mul (.bin .add (.bin .mul (.v 2) (.v 2)) (.bin .mul (.v 3) (.v 3))) (.ix (.ix (.v 0) (.c (.int 2))) (.c (.int 0)))) .nil))))
  .nil)))⟩
def n__law_reach : List Str := ["front", "place", "x", "y", "far"]
/-- _law_is_on(front 0, point 1, minute 2, x 3, y 4, first 5, second 6, far 7) -/
def f__law_is_on : FD := ⟨3, false, none, 8, (.cons (.asg (.t (.cons (.v 3) (.cons (.v 4) .nil))) (.ix (.v 0) (.c (.int 1))))
  (.cons (.par2 5 6 (.call 40 (.cons (.bin .mul (.v 3) (.ix (.ix (.v 1) (.c (.int 0))) (.c (.int 0)))) (.cons (.ix (.ix (.v 1) (.c (.int 0))) (.c (.int 1))) .nil))) (.call 40 (.cons (.bin .mul (.v 4) (.ix (.ix (.v 1) (.c (.int 1))) (.c (.int 0)))) (.cons (.ix (.ix (.v 1) (.c (.int 1))) (.c (.int 1))) .nil))))
  (.cons (.asg (.v 7) (.call 41 (.cons (.call 41 (.cons (.v 5) (.cons (.v 6) .nil))) (.cons (.tup (.cons (.bin .sub (.bin .sub (.c (.int 0)) (.bin .mul (.v 3) (.ix (.ix (.v 0) (.c (.int 0))) (.c (.int 0))))) (.bin .mul (.v 4) (.ix (.ix (.v 0) (.c (.int 0))) (.c (.int 1))))) (.cons (.c (.int 1)) .nil))) .nil))))
  (.cons (.ret (.cmp .eq (.v 7) (.call 40 (.cons (.bin .mul (.bin .mul (.bin .add (.bin .mul (.v 3) (.v 3)) (.bin .mul (.v 4) (.v 4))) (.ix (.ix (.v 0) (.c (.int 2))) (.c (.int 0)))) (.ix (.v 2) (.c (.int 0)))) (.cons (.bin .mul (.ix (.ix (.v 0) (.c (.int 2))) (.c (.int 1))) (.ix (.v 2) (.c (.int 1)))) .nil)))))
  .nil))))⟩
def n__law_is_on : List Str := ["front", "point", "minute", "x", "y", "first", "second", "far"]
/-- _law_minute(draws 0) -/
def f__law_minute : FD := ⟨1, false, some 0, 1, (.cons (.ret (.call 40 (.cons (.bin .sub (.call 37 (.bor (.v 0) (.cons (.c (.int 40)) .nil))) (.c (.int 12))) (.cons (.bin .add (.c (.int 1)) (.call 37 (.bor (.v 0) (.cons (.c (.int 6)) .nil)))) .nil))))
  .nil)⟩
def n__law_minute : List Str := ["draws"]
/-- _law_are_places_due(draws 0, one 1, other 2, places 3, rows 4, late 5, place 6, order 7, first 8, k 9, minute 10, gone 11, gap 12, at 13, n 14, d 15) -/
def f__law_are_places_due : FD := ⟨4, false, some 0, 16, (.cons (.asg (.t (.cons (.v 4) (.cons (.v 5) .nil))) (.tup (.cons (.lc (.call 45 (.cons (.v 1) (.cons (.v 6) .nil))) (.v 6) (.seq (.v 3)) .no [6]) (.cons (.lc (.call 45 (.cons (.v 2) (.cons (.v 6) .nil))) (.v 6) (.seq (.v 3)) .no [6]) .nil))))
  (.cons (.par2 7 8 (.call 29 (.cons (.v 1) (.cons (.v 3) .nil))) (.call 19 (.cons (.v 1) (.cons (.v 3) .nil))))
  (.cons (.ite (.or (.cmp .ne (.bi .sorted (.bor (.v 7) .nil)) (.li (.rng1 (.bi .len (.bor (.v 3) .nil))))) (.cmp .ne (.v 8) (.ix (.v 7) (.c (.int 0))))) (.cons (.ret (.c (.bool false)))
  .nil) .nil)
  (.cons (.for_ (.v 9) (.rng1 (.bin .sub (.bi .len (.bor (.v 7) .nil)) (.c (.int 1)))) (.cons (.ite (.or (.not (.call 42 (.cons (.ix (.v 4) (.ix (.v 7) (.v 9))) (.cons (.ix (.v 4) (.ix (.v 7) (.bin .add (.v 9) (.c (.int 1))))) .nil)))) (.and (.cmp .eq (.ix (.v 4) (.ix (.v 7) (.v 9))) (.ix (.v 4) (.ix (.v 7) (.bin .add (.v 9) (.c (.int 1)))))) (.cmp .gt (.ix (.v 7) (.v 9)) (.ix (.v 7) (.bin .add (.v 9) (.c (.int 1))))))) (.cons (.ret (.c (.bool false)))
  .nil) .nil)
  .nil))
  (.cons (.for_ (.v 10) (.seq (.lst (.cons (.call 47 (.bor (.v 0) .nil)) (.cons (.call 38 (.bor (.v 0) (.cons (.v 4) .nil))) (.cons (.tup (.cons (.c (.int 0)) (.cons (.c (.int 1)) .nil))) .nil))))) (.cons (.asg (.v 11) (.call 20 (.cons (.v 1) (.cons (.v 3) (.cons (.ix (.v 10) (.c (.int 0))) (.cons (.ix (.v 10) (.c (.int 1))) .nil))))))
  (.cons (.ite (.or (.cmp .ne (.v 11) (.lc (.v 9) (.v 9) (.rng1 (.bi .len (.bor (.v 3) .nil))) (.yes (.call 42 (.cons (.ix (.v 4) (.v 9)) (.cons (.v 10) .nil)))) [9])) (.cmp .ne (.sl (.v 7) .no (.yes (.bi .len (.bor (.v 11) .nil)))) (.lc (.v 9) (.v 9) (.seq (.v 7)) (.yes (.cmp .inn (.v 9) (.v 11))) [9]))) (.cons (.ret (.c (.bool false)))
  .nil) .nil)
  (.cons (.for_ (.v 9) (.rng1 (.bi .len (.bor (.v 3) .nil))) (.cons (.ite (.cmp .ne (.call 25 (.cons (.v 1) (.cons (.v 2) (.cons (.ix (.v 3) (.v 9)) (.cons (.ix (.v 10) (.c (.int 0))) (.cons (.ix (.v 10) (.c (.int 1))) .nil)))))) (.cmp .ne (.cmp .inn (.v 9) (.v 11)) (.call 42 (.cons (.ix (.v 5) (.v 9)) (.cons (.v 10) .nil))))) (.cons (.ret (.c (.bool false)))
  .nil) .nil)
  .nil))
  .nil))))
  (.cons (.asg (.t (.cons (.v 12) (.cons (.v 13) .nil))) (.call 30 (.cons (.v 1) (.cons (.v 2) (.cons (.v 3) .nil)))))
  (.cons (.asg (.t (.cons (.v 14) (.cons (.v 15) .nil))) (.call 41 (.cons (.ix (.v 4) (.v 13)) (.cons (.tup (.cons (.bin .sub (.c (.int 0)) (.ix (.ix (.v 5) (.v 13)) (.c (.int 0)))) (.cons (.ix (.ix (.v 5) (.v 13)) (.c (.int 1))) .nil))) .nil))))
  (.cons (.ite (.cmp .ne (.tup (.cons (.bi .abs (.bor (.v 14) .nil)) (.cons (.v 15) .nil))) (.v 12)) (.cons (.ret (.c (.bool false)))
  .nil) .nil)
  (.cons (.for_ (.v 9) (.rng1 (.bi .len (.bor (.v 3) .nil))) (.cons (.asg (.t (.cons (.v 14) (.cons (.v 15) .nil))) (.call 41 (.cons (.ix (.v 4) (.v 9)) (.cons (.tup (.cons (.bin .sub (.c (.int 0)) (.ix (.ix (.v 5) (.v 9)) (.c (.int 0)))) (.cons (.ix (.ix (.v 5) (.v 9)) (.c (.int 1))) .nil))) .nil))))
  (.cons (.ite (.or (.not (.call 42 (.cons (.tup (.cons (.bi .abs (.bor (.v 14) .nil)) (.cons (.v 15) .nil))) (.cons (.v 12) .nil)))) (.and (.cmp .lt (.v 9) (.v 13)) (.cmp .eq (.tup (.cons (.bi .abs (.bor (.v 14) .nil)) (.cons (.v 15) .nil))) (.v 12)))) (.cons (.ret (.c (.bool false)))
  .nil) .nil)
  .nil)))
  (.cons (.ret (.call 27 (.cons (.v 1) (.cons (.lc (.tup (.cons (.ix (.v 3) (.v 9)) (.cons (.ix (.v 4) (.v 9)) .nil))) (.v 9) (.rng1 (.bi .len (.bor (.v 3) .nil))) .no [9]) .nil))))
  .nil))))))))))⟩
def n__law_are_places_due : List Str := ["draws", "one", "other", "places", "rows", "late", "place", "order", "first", "k", "minute", "gone", "gap", "at", "n", "d"]
/-- law(script 0, draws 1, one 2, other 3, places 4, k 5, x 6, y 7, place 8, minute 9, beside 10, ahead 11, speed 12, turn 13, here 14, side 15, point 16, back 17, when 18, there 19) -/
def f_law : FD := ⟨1, false, none, 20, (.cons (.asg (.v 1) (.call 36 (.cons (.v 0) .nil)))
  (.cons (.par2 2 3 (.call 44 (.bor (.v 1) (.cons (.c (.int 1001)) .nil))) (.call 44 (.bor (.v 1) (.cons (.c (.int 1001)) .nil))))
  (.cons (.asg (.v 3) (.call 38 (.bor (.v 1) (.cons (.lst (.cons (.v 3) (.cons (.v 3) (.cons (.tup (.cons (.ix (.v 3) (.c (.int 0))) (.cons (.ix (.v 2) (.c (.int 1))) (.cons (.ix (.v 3) (.c (.int 2))) .nil)))) (.cons (.tup (.cons (.ix (.v 3) (.c (.int 0))) (.cons (.tup (.cons (.bin .sub (.c (.int 0)) (.ix (.ix (.v 2) (.c (.int 1))) (.c (.int 0)))) (.cons (.bin .sub (.c (.int 0)) (.ix (.ix (.v 2) (.c (.int 1))) (.c (.int 1)))) .nil))) (.cons (.ix (.v 3) (.c (.int 2))) .nil)))) .nil))))) .nil))))
  (.cons (.asg (.v 4) (.lc (.tup (.cons (.call 37 (.bor (.v 1) (.cons (.c (.int 1001)) .nil))) (.cons (.call 37 (.bor (.v 1) (.cons (.c (.int 1001)) .nil))) .nil))) (.v 5) (.rng1 (.bin .add (.c (.int 1)) (.call 37 (.bor (.v 1) (.cons (.c (.int 60)) .nil))))) .no [5]))
  (.cons (.ite (.or (.not (.call 39 (.cons (.lst (.cons (.call 9 (.cons (.v 2) .nil)) (.cons (.call 9 (.cons (.v 3) .nil)) .nil))) (.cons (.lst (.cons (.c (.bool true)) (.cons (.c (.bool true)) .nil))) .nil)))) (.not (.call 48 (.bor (.v 1) (.cons (.v 2) (.cons (.v 3) (.cons (.v 4) .nil))))))) (.cons (.ret (.c (.bool false)))
  .nil) .nil)
  (.cons (.asg (.t (.cons (.v 6) (.cons (.v 7) .nil))) (.ix (.v 2) (.c (.int 1))))
  (.cons (.for_ (.v 8) (.seq (.sl (.v 4) .no (.yes (.c (.int 8))))) (.cons (.asg (.v 9) (.call 17 (.cons (.v 2) (.cons (.v 8) .nil))))
  (.cons (.ite (.or (.cmp .ne (.v 9) (.call 45 (.cons (.v 2) (.cons (.v 8) .nil)))) (.or (.not (.call 46 (.cons (.v 2) (.cons (.tup (.cons (.tup (.cons (.ix (.v 8) (.c (.int 0))) (.cons (.c (.int 1)) .nil))) (.cons (.tup (.cons (.ix (.v 8) (.c (.int 1))) (.cons (.c (.int 1)) .nil))) .nil))) (.cons (.v 9) .nil))))) (.isC (.call 35 (.cons (.v 2) (.cons (.v 8) (.cons (.ix (.v 9) (.c (.int 0))) (.cons (.ix (.v 9) (.c (.int 1))) .nil))))) (.bool true) true))) (.cons (.ret (.c (.bool false)))
  .nil) .nil)
  (.cons (.asg (.v 10) (.tup (.cons (.bin .sub (.ix (.v 8) (.c (.int 0))) (.v 7)) (.cons (.bin .add (.ix (.v 8) (.c (.int 1))) (.v 6)) .nil))))
  (.cons (.ite (.and (.cmp .le (.c (.int 0)) (.bi .min (.bor (.v 10) .nil))) (.and (.cmp .le (.bi .max (.bor (.v 10) .nil)) (.c (.int 1000))) (.cmp .ne (.call 17 (.cons (.v 2) (.cons (.v 10) .nil))) (.v 9)))) (.cons (.ret (.c (.bool false)))
  .nil) .nil)
  (.cons (.asg (.v 11) (.tup (.cons (.bin .add (.ix (.v 8) (.c (.int 0))) (.v 6)) (.cons (.bin .add (.ix (.v 8) (.c (.int 1))) (.v 7)) .nil))))
  (.cons (.ite (.and (.cmp .le (.c (.int 0)) (.bi .min (.bor (.v 11) .nil))) (.and (.cmp .le (.bi .max (.bor (.v 11) .nil)) (.c (.int 1000))) (.cmp .ne (.call 17 (.cons (.v 2) (.cons (.v 11) .nil))) (.call 41 (.cons (.v 9) (.cons (.tup (.cons (.ix (.ix (.v 2) (.c (.int 2))) (.c (.int 1))) (.cons (.ix (.ix (.v 2) (.c (.int 2))) (.c (.int 0))) .nil))) .nil)))))) (.cons (.ret (.c (.bool false)))
  .nil) .nil)
  (.cons (.ite (.and (.cmp .ne (.ix (.v 9) (.c (.int 0))) (.c (.int 0))) (.cmp .ne (.call 28 (.cons (.ix (.v 2) (.c (.int 0))) (.cons (.ix (.v 2) (.c (.int 1))) (.cons (.tup (.cons (.v 8) (.cons (.v 9) .nil))) .nil)))) (.ix (.v 2) (.c (.int 2))))) (.cons (.ret (.c (.bool false)))
  .nil) .nil)
  (.cons (.asg (.v 12) (.call 28 (.cons (.ix (.v 2) (.c (.int 0))) (.cons (.ix (.v 2) (.c (.int 1))) (.cons (.tup (.cons (.v 8) (.cons (.tup (.cons (.c (.int 7)) (.cons (.c (.int 2)) .nil))) .nil))) .nil)))))
  (.cons (.ite (.or (.cmp .ne (.isC (.v 12) .none false) (.cmp .le (.ix (.v 9) (.c (.int 0))) (.c (.int 0)))) (.and (.isC (.v 12) .none true) (.not (.call 27 (.cons (.tup (.cons (.ix (.v 2) (.c (.int 0))) (.cons (.ix (.v 2) (.c (.int 1))) (.cons (.v 12) .nil)))) (.cons (.lst (.cons (.tup (.cons (.v 8) (.cons (.tup (.cons (.c (.int 7)) (.cons (.c (.int 2)) .nil))) .nil))) .nil)) .nil)))))) (.cons (.ret (.c (.bool false)))
  .nil) .nil)
  .nil))))))))))
  (.cons (.for_ (.v 13) (.rng1 (.c (.int 6))) (.cons (.asg (.v 9) (.call 47 (.bor (.v 1) .nil)))
  (.cons (.asg (.t (.cons (.v 14) (.cons (.v 15) .nil))) (.call 31 (.cons (.v 2) (.cons (.ix (.v 9) (.c (.int 0))) (.cons (.ix (.v 9) (.c (.int 1))) .nil)))))
  (.cons (.ite (.or (.not (.call 46 (.cons (.v 2) (.cons (.v 14) (.cons (.v 9) .nil))))) (.or (.not (.call 46 (.cons (.v 2) (.cons (.v 15) (.cons (.v 9) .nil))))) (.cmp .ne (.v 15) (.tup (.cons (.call 41 (.cons (.ix (.v 14) (.c (.int 0))) (.cons (.tup (.cons (.bin .sub (.c (.int 0)) (.v 7)) (.cons (.c (.int 1)) .nil))) .nil))) (.cons (.call 41 (.cons (.ix (.v 14) (.c (.int 1))) (.cons (.tup (.cons (.v 6) (.cons (.c (.int 1)) .nil))) .nil))) .nil)))))) (.cons (.ret (.c (.bool false)))
  .nil) .nil)
  (.cons (.par2 16 17 (.call 24 (.cons (.v 2) (.cons (.v 3) (.cons (.ix (.v 9) (.c (.int 0))) (.cons (.ix (.v 9) (.c (.int 1))) .nil))))) (.call 24 (.cons (.v 3) (.cons (.v 2) (.cons (.ix (.v 9) (.c (.int 0))) (.cons (.ix (.v 9) (.c (.int 1))) .nil))))))
  (.cons (.ite (.or (.cmp .ne (.v 16) (.v 17)) (.or (.cmp .ne (.isC (.v 16) .none false) (.cmp .eq (.bin .mul (.v 6) (.ix (.ix (.v 3) (.c (.int 1))) (.c (.int 1)))) (.bin .mul (.v 7) (.ix (.ix (.v 3) (.c (.int 1))) (.c (.int 0)))))) (.and (.isC (.v 16) .none true) (.not (.and (.call 46 (.cons (.v 2) (.cons (.v 16) (.cons (.v 9) .nil)))) (.call 46 (.cons (.v 3) (.cons (.v 16) (.cons (.v 9) .nil))))))))) (.cons (.ret (.c (.bool false)))
  .nil) .nil)
  .nil))))))
  (.cons (.asg (.v 18) (.call 32 (.cons (.v 2) (.cons (.v 3) .nil))))
  (.cons (.ite (.or (.cmp .ne (.v 18) (.call 32 (.cons (.v 3) (.cons (.v 2) .nil)))) (.and (.isC (.v 18) .none true) (.cmp .ne (.bin .mul (.v 6) (.ix (.ix (.v 3) (.c (.int 1))) (.c (.int 1)))) (.bin .mul (.v 7) (.ix (.ix (.v 3) (.c (.int 1))) (.c (.int 0))))))) (.cons (.ret (.c (.bool false)))
  .nil) .nil)
  (.cons (.ite (.isC (.v 18) .none true) (.cons (.asg (.t (.cons (.v 14) (.cons (.v 19) .nil))) (.call 31 (.cons (.v 2) (.cons (.ix (.v 18) (.c (.int 0))) (.cons (.ix (.v 18) (.c (.int 1))) .nil)))))
  (.cons (.ret (.and (.call 46 (.cons (.v 3) (.cons (.v 14) (.cons (.v 18) .nil)))) (.call 46 (.cons (.v 3) (.cons (.v 19) (.cons (.v 18) .nil))))))
  .nil)) .nil)
  (.cons (.ret (.or (.cmp .ne (.bin .mul (.v 6) (.ix (.ix (.v 3) (.c (.int 1))) (.c (.int 1)))) (.bin .mul (.v 7) (.ix (.ix (.v 3) (.c (.int 1))) (.c (.int 0))))) (.and (.cmp .eq (.ix (.v 3) (.c (.int 1))) (.ix (.v 2) (.c (.int 1)))) (.cmp .eq (.ix (.v 2) (.c (.int 2))) (.ix (.v 3) (.c (.int 2)))))))
  .nil))))))))))))⟩
def n_law : List Str := ["script", "draws", "one", "other", "places", "k", "x", "y", "place", "minute", "beside", "ahead", "speed", "turn", "here", "side", "point", "back", "when", "there"]
def tb0 : TB := [(f_is_integer, dd 3 "is_integer", n_is_integer, ["value"]), (f_is_within, dd 4 "is_within", n_is_within, ["value", "low", "high"]), (f_check, dd 5 "check", n_check, ["is_right"]), (f_shared, dd 6 "shared", n_shared, ["one", "other"]), (f_ratio, dd 7 "ratio", n_ratio, ["number", "divisor"]), (f_is_reach, dd 10 "is_reach", n_is_reach, ["value"]), (f_is_bearing, dd 11 "is_bearing", n_is_bearing, ["value"]), (f_is_place_fronts, dd 15 "is_place_fronts", n_is_place_fronts, ["value"])]
def tb1 : TB := [(f_is_ratio_fronts, dd 17 "is_ratio_fronts", n_is_ratio_fronts, ["value"]), (f_is_front, dd 19 "is_front", n_is_front, ["value"]), (f_check_front, dd 20 "check_front", n_check_front, ["front"]), (f_check_places, dd 21 "check_places", n_check_places, ["places"]), (f_along, dd 22 "along", n_along, ["bearing", "place"]), (f_speed_of, dd 23 "speed_of", n_speed_of, ["front"]), (f_over, dd 24 "over", n_over, ["one", "other"]), (f_reached, dd 25 "reached", n_reached, ["front", "place"])]
def tb2 : TB := [(f_is_less, dd 26 "is_less", n_is_less, ["one", "other"]), (f_reaches_at, dd 27 "reaches_at", n_reaches_at, ["front", "place"]), (f_least_of, dd 28 "least_of", n_least_of, ["ratios"]), (f_first_reached, dd 29 "first_reached", n_first_reached, ["front", "places"]), (f_passed_by, dd 30 "passed_by", n_passed_by, ["front", "places", "n", "d"]), (f_check_fronts, dd 31 "check_fronts", n_check_fronts, ["one", "other"]), (f_across, dd 32 "across", n_across, ["one", "other"]), (f_line_at, dd 33 "line_at", n_line_at, ["front", "n", "d"])]
def tb3 : TB := [(f_meet_point, dd 34 "meet_point", n_meet_point, ["one", "other", "n", "d"]), (f_is_between, dd 35 "is_between", n_is_between, ["one", "other", "place", "n", "d"]), (f_is_reading, dd 36 "is_reading", n_is_reading, ["value"]), (f_does_fit, dd 37 "does_fit", n_does_fit, ["front", "readings"]), (f_fitted_speed, dd 38 "fitted_speed", n_fitted_speed, ["place", "bearing", "reading"]), (f_order_of_reaching, dd 39 "order_of_reaching", n_order_of_reaching, ["front", "places"]), (f_longest_between, dd 40 "longest_between", n_longest_between, ["one", "other", "places"]), (f_moved_front, dd 41 "moved_front", n_moved_front, ["front", "n", "d"])]
def tb4 : TB := [(f_same_line, dd 42 "same_line", n_same_line, ["one", "other"]), (f_is_place_checkwoods, dd 44 "is_place_checkwoods", n_is_place_checkwoods, ["value"]), (f_is_ratio_checkwoods, dd 46 "is_ratio_checkwoods", n_is_ratio_checkwoods, ["value"]), (f_takes_reach, dd 48 "takes_reach", n_takes_reach, ["front", "place", "n", "d"]), (f__law_draws, dd 50 "_law_draws", n__law_draws, ["script"]), (f__law_take, dd 51 "_law_take", n__law_take, ["draws", "bound"]), (f__law_pick, dd 52 "_law_pick", n__law_pick, ["draws", "some"]), (f__law_same, dd 53 "_law_same", n__law_same, ["actual", "due"])]
def tb5 : TB := [(f__law_ratio, dd 54 "_law_ratio", n__law_ratio, ["a", "b"]), (f__law_plus, dd 55 "_law_plus", n__law_plus, ["one", "other"]), (f__law_is_at_most, dd 56 "_law_is_at_most", n__law_is_at_most, ["one", "other"]), (f__law_bearing, dd 57 "_law_bearing", n__law_bearing, ["draws", "most"]), (f__law_front, dd 58 "_law_front", n__law_front, ["draws", "far"]), (f__law_reach, dd 59 "_law_reach", n__law_reach, ["front", "place"]), (f__law_is_on, dd 60 "_law_is_on", n__law_is_on, ["front", "point", "minute"]), (f__law_minute, dd 61 "_law_minute", n__law_minute, ["draws"])]
def tb6 : TB := [(f__law_are_places_due, dd 62 "_law_are_places_due", n__law_are_places_due, ["draws", "one", "other", "places"]), (f_law, dd 63 "law", n_law, ["script"])]
def tb : TB := tb0 ++ tb1 ++ tb2 ++ tb3 ++ tb4 ++ tb5 ++ tb6
def gi : List (Str × Int) := [("GREATEST", (1000000000)), ("FARTHEST", (1000)), ("MOST_PLACES", (60))]
def cnm : List Str := ["FireError", "NotRight"]
abbrev T : Tab := tabOf tb gi cnm
theorem checked : tb.all (chkOne T) = true := by decide +kernel
theorem b_is_integer : BindIs f_is_integer (dd 3 "is_integer").name (dd 3 "is_integer").qual (dd 3 "is_integer").params (dd 3 "is_integer").body (dd 3 "is_integer").scope ["value"] :=
  show ∀ (_ _ _ : Value) (_ : Option Addr) (_ _ : Value) (us : List Value), us.length = 1 → _ from fun _ _ _ _ _ _ us hl => match us, hl with | [_], _ => rfl
theorem b_is_within : BindIs f_is_within (dd 4 "is_within").name (dd 4 "is_within").qual (dd 4 "is_within").params (dd 4 "is_within").body (dd 4 "is_within").scope ["value", "low", "high"] :=
  show ∀ (_ _ _ : Value) (_ : Option Addr) (_ _ : Value) (us : List Value), us.length = 3 → _ from fun _ _ _ _ _ _ us hl => match us, hl with | [_, _, _], _ => rfl
theorem b_check : BindIs f_check (dd 5 "check").name (dd 5 "check").qual (dd 5 "check").params (dd 5 "check").body (dd 5 "check").scope ["is_right"] :=
  show ∀ (_ _ _ : Value) (_ : Option Addr) (_ _ : Value) (us : List Value), us.length = 1 → _ from fun _ _ _ _ _ _ us hl => match us, hl with | [_], _ => rfl
theorem b_shared : BindIs f_shared (dd 6 "shared").name (dd 6 "shared").qual (dd 6 "shared").params (dd 6 "shared").body (dd 6 "shared").scope ["one", "other"] :=
  show ∀ (_ _ _ : Value) (_ : Option Addr) (_ _ : Value) (us : List Value), us.length = 2 → _ from fun _ _ _ _ _ _ us hl => match us, hl with | [_, _], _ => rfl
theorem b_ratio : BindIs f_ratio (dd 7 "ratio").name (dd 7 "ratio").qual (dd 7 "ratio").params (dd 7 "ratio").body (dd 7 "ratio").scope ["number", "divisor"] :=
  show ∀ (_ _ _ : Value) (_ : Option Addr) (_ _ : Value) (us : List Value), us.length = 2 → _ from fun _ _ _ _ _ _ us hl => match us, hl with | [_, _], _ => rfl
theorem b_is_reach : BindIs f_is_reach (dd 10 "is_reach").name (dd 10 "is_reach").qual (dd 10 "is_reach").params (dd 10 "is_reach").body (dd 10 "is_reach").scope ["value"] :=
  show ∀ (_ _ _ : Value) (_ : Option Addr) (_ _ : Value) (us : List Value), us.length = 1 → _ from fun _ _ _ _ _ _ us hl => match us, hl with | [_], _ => rfl
theorem b_is_bearing : BindIs f_is_bearing (dd 11 "is_bearing").name (dd 11 "is_bearing").qual (dd 11 "is_bearing").params (dd 11 "is_bearing").body (dd 11 "is_bearing").scope ["value"] :=
  show ∀ (_ _ _ : Value) (_ : Option Addr) (_ _ : Value) (us : List Value), us.length = 1 → _ from fun _ _ _ _ _ _ us hl => match us, hl with | [_], _ => rfl
theorem b_is_place_fronts : BindIs f_is_place_fronts (dd 15 "is_place_fronts").name (dd 15 "is_place_fronts").qual (dd 15 "is_place_fronts").params (dd 15 "is_place_fronts").body (dd 15 "is_place_fronts").scope ["value"] :=
  show ∀ (_ _ _ : Value) (_ : Option Addr) (_ _ : Value) (us : List Value), us.length = 1 → _ from fun _ _ _ _ _ _ us hl => match us, hl with | [_], _ => rfl
theorem b_is_ratio_fronts : BindIs f_is_ratio_fronts (dd 17 "is_ratio_fronts").name (dd 17 "is_ratio_fronts").qual (dd 17 "is_ratio_fronts").params (dd 17 "is_ratio_fronts").body (dd 17 "is_ratio_fronts").scope ["value"] :=
  show ∀ (_ _ _ : Value) (_ : Option Addr) (_ _ : Value) (us : List Value), us.length = 1 → _ from fun _ _ _ _ _ _ us hl => match us, hl with | [_], _ => rfl
theorem b_is_front : BindIs f_is_front (dd 19 "is_front").name (dd 19 "is_front").qual (dd 19 "is_front").params (dd 19 "is_front").body (dd 19 "is_front").scope ["value"] :=
  show ∀ (_ _ _ : Value) (_ : Option Addr) (_ _ : Value) (us : List Value), us.length = 1 → _ from fun _ _ _ _ _ _ us hl => match us, hl with | [_], _ => rfl
theorem b_check_front : BindIs f_check_front (dd 20 "check_front").name (dd 20 "check_front").qual (dd 20 "check_front").params (dd 20 "check_front").body (dd 20 "check_front").scope ["front"] :=
  show ∀ (_ _ _ : Value) (_ : Option Addr) (_ _ : Value) (us : List Value), us.length = 1 → _ from fun _ _ _ _ _ _ us hl => match us, hl with | [_], _ => rfl
theorem b_check_places : BindIs f_check_places (dd 21 "check_places").name (dd 21 "check_places").qual (dd 21 "check_places").params (dd 21 "check_places").body (dd 21 "check_places").scope ["places"] :=
  show ∀ (_ _ _ : Value) (_ : Option Addr) (_ _ : Value) (us : List Value), us.length = 1 → _ from fun _ _ _ _ _ _ us hl => match us, hl with | [_], _ => rfl
theorem b_along : BindIs f_along (dd 22 "along").name (dd 22 "along").qual (dd 22 "along").params (dd 22 "along").body (dd 22 "along").scope ["bearing", "place"] :=
  show ∀ (_ _ _ : Value) (_ : Option Addr) (_ _ : Value) (us : List Value), us.length = 2 → _ from fun _ _ _ _ _ _ us hl => match us, hl with | [_, _], _ => rfl
theorem b_speed_of : BindIs f_speed_of (dd 23 "speed_of").name (dd 23 "speed_of").qual (dd 23 "speed_of").params (dd 23 "speed_of").body (dd 23 "speed_of").scope ["front"] :=
  show ∀ (_ _ _ : Value) (_ : Option Addr) (_ _ : Value) (us : List Value), us.length = 1 → _ from fun _ _ _ _ _ _ us hl => match us, hl with | [_], _ => rfl
theorem b_over : BindIs f_over (dd 24 "over").name (dd 24 "over").qual (dd 24 "over").params (dd 24 "over").body (dd 24 "over").scope ["one", "other"] :=
  show ∀ (_ _ _ : Value) (_ : Option Addr) (_ _ : Value) (us : List Value), us.length = 2 → _ from fun _ _ _ _ _ _ us hl => match us, hl with | [_, _], _ => rfl
theorem b_reached : BindIs f_reached (dd 25 "reached").name (dd 25 "reached").qual (dd 25 "reached").params (dd 25 "reached").body (dd 25 "reached").scope ["front", "place"] :=
  show ∀ (_ _ _ : Value) (_ : Option Addr) (_ _ : Value) (us : List Value), us.length = 2 → _ from fun _ _ _ _ _ _ us hl => match us, hl with | [_, _], _ => rfl
theorem b_is_less : BindIs f_is_less (dd 26 "is_less").name (dd 26 "is_less").qual (dd 26 "is_less").params (dd 26 "is_less").body (dd 26 "is_less").scope ["one", "other"] :=
  show ∀ (_ _ _ : Value) (_ : Option Addr) (_ _ : Value) (us : List Value), us.length = 2 → _ from fun _ _ _ _ _ _ us hl => match us, hl with | [_, _], _ => rfl
theorem b_reaches_at : BindIs f_reaches_at (dd 27 "reaches_at").name (dd 27 "reaches_at").qual (dd 27 "reaches_at").params (dd 27 "reaches_at").body (dd 27 "reaches_at").scope ["front", "place"] :=
  show ∀ (_ _ _ : Value) (_ : Option Addr) (_ _ : Value) (us : List Value), us.length = 2 → _ from fun _ _ _ _ _ _ us hl => match us, hl with | [_, _], _ => rfl
theorem b_least_of : BindIs f_least_of (dd 28 "least_of").name (dd 28 "least_of").qual (dd 28 "least_of").params (dd 28 "least_of").body (dd 28 "least_of").scope ["ratios"] :=
  show ∀ (_ _ _ : Value) (_ : Option Addr) (_ _ : Value) (us : List Value), us.length = 1 → _ from fun _ _ _ _ _ _ us hl => match us, hl with | [_], _ => rfl
theorem b_first_reached : BindIs f_first_reached (dd 29 "first_reached").name (dd 29 "first_reached").qual (dd 29 "first_reached").params (dd 29 "first_reached").body (dd 29 "first_reached").scope ["front", "places"] :=
  show ∀ (_ _ _ : Value) (_ : Option Addr) (_ _ : Value) (us : List Value), us.length = 2 → _ from fun _ _ _ _ _ _ us hl => match us, hl with | [_, _], _ => rfl
theorem b_passed_by : BindIs f_passed_by (dd 30 "passed_by").name (dd 30 "passed_by").qual (dd 30 "passed_by").params (dd 30 "passed_by").body (dd 30 "passed_by").scope ["front", "places", "n", "d"] :=
  show ∀ (_ _ _ : Value) (_ : Option Addr) (_ _ : Value) (us : List Value), us.length = 4 → _ from fun _ _ _ _ _ _ us hl => match us, hl with | [_, _, _, _], _ => rfl
theorem b_check_fronts : BindIs f_check_fronts (dd 31 "check_fronts").name (dd 31 "check_fronts").qual (dd 31 "check_fronts").params (dd 31 "check_fronts").body (dd 31 "check_fronts").scope ["one", "other"] :=
  show ∀ (_ _ _ : Value) (_ : Option Addr) (_ _ : Value) (us : List Value), us.length = 2 → _ from fun _ _ _ _ _ _ us hl => match us, hl with | [_, _], _ => rfl
theorem b_across : BindIs f_across (dd 32 "across").name (dd 32 "across").qual (dd 32 "across").params (dd 32 "across").body (dd 32 "across").scope ["one", "other"] :=
  show ∀ (_ _ _ : Value) (_ : Option Addr) (_ _ : Value) (us : List Value), us.length = 2 → _ from fun _ _ _ _ _ _ us hl => match us, hl with | [_, _], _ => rfl
theorem b_line_at : BindIs f_line_at (dd 33 "line_at").name (dd 33 "line_at").qual (dd 33 "line_at").params (dd 33 "line_at").body (dd 33 "line_at").scope ["front", "n", "d"] :=
  show ∀ (_ _ _ : Value) (_ : Option Addr) (_ _ : Value) (us : List Value), us.length = 3 → _ from fun _ _ _ _ _ _ us hl => match us, hl with | [_, _, _], _ => rfl
theorem b_meet_point : BindIs f_meet_point (dd 34 "meet_point").name (dd 34 "meet_point").qual (dd 34 "meet_point").params (dd 34 "meet_point").body (dd 34 "meet_point").scope ["one", "other", "n", "d"] :=
  show ∀ (_ _ _ : Value) (_ : Option Addr) (_ _ : Value) (us : List Value), us.length = 4 → _ from fun _ _ _ _ _ _ us hl => match us, hl with | [_, _, _, _], _ => rfl
theorem b_is_between : BindIs f_is_between (dd 35 "is_between").name (dd 35 "is_between").qual (dd 35 "is_between").params (dd 35 "is_between").body (dd 35 "is_between").scope ["one", "other", "place", "n", "d"] :=
  show ∀ (_ _ _ : Value) (_ : Option Addr) (_ _ : Value) (us : List Value), us.length = 5 → _ from fun _ _ _ _ _ _ us hl => match us, hl with | [_, _, _, _, _], _ => rfl
theorem b_is_reading : BindIs f_is_reading (dd 36 "is_reading").name (dd 36 "is_reading").qual (dd 36 "is_reading").params (dd 36 "is_reading").body (dd 36 "is_reading").scope ["value"] :=
  show ∀ (_ _ _ : Value) (_ : Option Addr) (_ _ : Value) (us : List Value), us.length = 1 → _ from fun _ _ _ _ _ _ us hl => match us, hl with | [_], _ => rfl
theorem b_does_fit : BindIs f_does_fit (dd 37 "does_fit").name (dd 37 "does_fit").qual (dd 37 "does_fit").params (dd 37 "does_fit").body (dd 37 "does_fit").scope ["front", "readings"] :=
  show ∀ (_ _ _ : Value) (_ : Option Addr) (_ _ : Value) (us : List Value), us.length = 2 → _ from fun _ _ _ _ _ _ us hl => match us, hl with | [_, _], _ => rfl
theorem b_fitted_speed : BindIs f_fitted_speed (dd 38 "fitted_speed").name (dd 38 "fitted_speed").qual (dd 38 "fitted_speed").params (dd 38 "fitted_speed").body (dd 38 "fitted_speed").scope ["place", "bearing", "reading"] :=
  show ∀ (_ _ _ : Value) (_ : Option Addr) (_ _ : Value) (us : List Value), us.length = 3 → _ from fun _ _ _ _ _ _ us hl => match us, hl with | [_, _, _], _ => rfl
theorem b_order_of_reaching : BindIs f_order_of_reaching (dd 39 "order_of_reaching").name (dd 39 "order_of_reaching").qual (dd 39 "order_of_reaching").params (dd 39 "order_of_reaching").body (dd 39 "order_of_reaching").scope ["front", "places"] :=
  show ∀ (_ _ _ : Value) (_ : Option Addr) (_ _ : Value) (us : List Value), us.length = 2 → _ from fun _ _ _ _ _ _ us hl => match us, hl with | [_, _], _ => rfl
theorem b_longest_between : BindIs f_longest_between (dd 40 "longest_between").name (dd 40 "longest_between").qual (dd 40 "longest_between").params (dd 40 "longest_between").body (dd 40 "longest_between").scope ["one", "other", "places"] :=
  show ∀ (_ _ _ : Value) (_ : Option Addr) (_ _ : Value) (us : List Value), us.length = 3 → _ from fun _ _ _ _ _ _ us hl => match us, hl with | [_, _, _], _ => rfl
theorem b_moved_front : BindIs f_moved_front (dd 41 "moved_front").name (dd 41 "moved_front").qual (dd 41 "moved_front").params (dd 41 "moved_front").body (dd 41 "moved_front").scope ["front", "n", "d"] :=
  show ∀ (_ _ _ : Value) (_ : Option Addr) (_ _ : Value) (us : List Value), us.length = 3 → _ from fun _ _ _ _ _ _ us hl => match us, hl with | [_, _, _], _ => rfl
theorem b_same_line : BindIs f_same_line (dd 42 "same_line").name (dd 42 "same_line").qual (dd 42 "same_line").params (dd 42 "same_line").body (dd 42 "same_line").scope ["one", "other"] :=
  show ∀ (_ _ _ : Value) (_ : Option Addr) (_ _ : Value) (us : List Value), us.length = 2 → _ from fun _ _ _ _ _ _ us hl => match us, hl with | [_, _], _ => rfl
theorem b_is_place_checkwoods : BindIs f_is_place_checkwoods (dd 44 "is_place_checkwoods").name (dd 44 "is_place_checkwoods").qual (dd 44 "is_place_checkwoods").params (dd 44 "is_place_checkwoods").body (dd 44 "is_place_checkwoods").scope ["value"] :=
  show ∀ (_ _ _ : Value) (_ : Option Addr) (_ _ : Value) (us : List Value), us.length = 1 → _ from fun _ _ _ _ _ _ us hl => match us, hl with | [_], _ => rfl
theorem b_is_ratio_checkwoods : BindIs f_is_ratio_checkwoods (dd 46 "is_ratio_checkwoods").name (dd 46 "is_ratio_checkwoods").qual (dd 46 "is_ratio_checkwoods").params (dd 46 "is_ratio_checkwoods").body (dd 46 "is_ratio_checkwoods").scope ["value"] :=
  show ∀ (_ _ _ : Value) (_ : Option Addr) (_ _ : Value) (us : List Value), us.length = 1 → _ from fun _ _ _ _ _ _ us hl => match us, hl with | [_], _ => rfl
theorem b_takes_reach : BindIs f_takes_reach (dd 48 "takes_reach").name (dd 48 "takes_reach").qual (dd 48 "takes_reach").params (dd 48 "takes_reach").body (dd 48 "takes_reach").scope ["front", "place", "n", "d"] :=
  show ∀ (_ _ _ : Value) (_ : Option Addr) (_ _ : Value) (us : List Value), us.length = 4 → _ from fun _ _ _ _ _ _ us hl => match us, hl with | [_, _, _, _], _ => rfl
theorem b__law_draws : BindIs f__law_draws (dd 50 "_law_draws").name (dd 50 "_law_draws").qual (dd 50 "_law_draws").params (dd 50 "_law_draws").body (dd 50 "_law_draws").scope ["script"] :=
  show ∀ (_ _ _ : Value) (_ : Option Addr) (_ _ : Value) (us : List Value), us.length = 1 → _ from fun _ _ _ _ _ _ us hl => match us, hl with | [_], _ => rfl
theorem b__law_take : BindIs f__law_take (dd 51 "_law_take").name (dd 51 "_law_take").qual (dd 51 "_law_take").params (dd 51 "_law_take").body (dd 51 "_law_take").scope ["draws", "bound"] :=
  show ∀ (_ _ _ : Value) (_ : Option Addr) (_ _ : Value) (us : List Value), us.length = 2 → _ from fun _ _ _ _ _ _ us hl => match us, hl with | [_, _], _ => rfl
theorem b__law_pick : BindIs f__law_pick (dd 52 "_law_pick").name (dd 52 "_law_pick").qual (dd 52 "_law_pick").params (dd 52 "_law_pick").body (dd 52 "_law_pick").scope ["draws", "some"] :=
  show ∀ (_ _ _ : Value) (_ : Option Addr) (_ _ : Value) (us : List Value), us.length = 2 → _ from fun _ _ _ _ _ _ us hl => match us, hl with | [_, _], _ => rfl
theorem b__law_same : BindIs f__law_same (dd 53 "_law_same").name (dd 53 "_law_same").qual (dd 53 "_law_same").params (dd 53 "_law_same").body (dd 53 "_law_same").scope ["actual", "due"] :=
  show ∀ (_ _ _ : Value) (_ : Option Addr) (_ _ : Value) (us : List Value), us.length = 2 → _ from fun _ _ _ _ _ _ us hl => match us, hl with | [_, _], _ => rfl
theorem b__law_ratio : BindIs f__law_ratio (dd 54 "_law_ratio").name (dd 54 "_law_ratio").qual (dd 54 "_law_ratio").params (dd 54 "_law_ratio").body (dd 54 "_law_ratio").scope ["a", "b"] :=
  show ∀ (_ _ _ : Value) (_ : Option Addr) (_ _ : Value) (us : List Value), us.length = 2 → _ from fun _ _ _ _ _ _ us hl => match us, hl with | [_, _], _ => rfl
theorem b__law_plus : BindIs f__law_plus (dd 55 "_law_plus").name (dd 55 "_law_plus").qual (dd 55 "_law_plus").params (dd 55 "_law_plus").body (dd 55 "_law_plus").scope ["one", "other"] :=
  show ∀ (_ _ _ : Value) (_ : Option Addr) (_ _ : Value) (us : List Value), us.length = 2 → _ from fun _ _ _ _ _ _ us hl => match us, hl with | [_, _], _ => rfl
theorem b__law_is_at_most : BindIs f__law_is_at_most (dd 56 "_law_is_at_most").name (dd 56 "_law_is_at_most").qual (dd 56 "_law_is_at_most").params (dd 56 "_law_is_at_most").body (dd 56 "_law_is_at_most").scope ["one", "other"] :=
  show ∀ (_ _ _ : Value) (_ : Option Addr) (_ _ : Value) (us : List Value), us.length = 2 → _ from fun _ _ _ _ _ _ us hl => match us, hl with | [_, _], _ => rfl
theorem b__law_bearing : BindIs f__law_bearing (dd 57 "_law_bearing").name (dd 57 "_law_bearing").qual (dd 57 "_law_bearing").params (dd 57 "_law_bearing").body (dd 57 "_law_bearing").scope ["draws", "most"] :=
  show ∀ (_ _ _ : Value) (_ : Option Addr) (_ _ : Value) (us : List Value), us.length = 2 → _ from fun _ _ _ _ _ _ us hl => match us, hl with | [_, _], _ => rfl
theorem b__law_front : BindIs f__law_front (dd 58 "_law_front").name (dd 58 "_law_front").qual (dd 58 "_law_front").params (dd 58 "_law_front").body (dd 58 "_law_front").scope ["draws", "far"] :=
  show ∀ (_ _ _ : Value) (_ : Option Addr) (_ _ : Value) (us : List Value), us.length = 2 → _ from fun _ _ _ _ _ _ us hl => match us, hl with | [_, _], _ => rfl
theorem b__law_reach : BindIs f__law_reach (dd 59 "_law_reach").name (dd 59 "_law_reach").qual (dd 59 "_law_reach").params (dd 59 "_law_reach").body (dd 59 "_law_reach").scope ["front", "place"] :=
  show ∀ (_ _ _ : Value) (_ : Option Addr) (_ _ : Value) (us : List Value), us.length = 2 → _ from fun _ _ _ _ _ _ us hl => match us, hl with | [_, _], _ => rfl
theorem b__law_is_on : BindIs f__law_is_on (dd 60 "_law_is_on").name (dd 60 "_law_is_on").qual (dd 60 "_law_is_on").params (dd 60 "_law_is_on").body (dd 60 "_law_is_on").scope ["front", "point", "minute"] :=
  show ∀ (_ _ _ : Value) (_ : Option Addr) (_ _ : Value) (us : List Value), us.length = 3 → _ from fun _ _ _ _ _ _ us hl => match us, hl with | [_, _, _], _ => rfl
theorem b__law_minute : BindIs f__law_minute (dd 61 "_law_minute").name (dd 61 "_law_minute").qual (dd 61 "_law_minute").params (dd 61 "_law_minute").body (dd 61 "_law_minute").scope ["draws"] :=
  show ∀ (_ _ _ : Value) (_ : Option Addr) (_ _ : Value) (us : List Value), us.length = 1 → _ from fun _ _ _ _ _ _ us hl => match us, hl with | [_], _ => rfl
theorem b__law_are_places_due : BindIs f__law_are_places_due (dd 62 "_law_are_places_due").name (dd 62 "_law_are_places_due").qual (dd 62 "_law_are_places_due").params (dd 62 "_law_are_places_due").body (dd 62 "_law_are_places_due").scope ["draws", "one", "other", "places"] :=
  show ∀ (_ _ _ : Value) (_ : Option Addr) (_ _ : Value) (us : List Value), us.length = 4 → _ from fun _ _ _ _ _ _ us hl => match us, hl with | [_, _, _, _], _ => rfl
theorem b_law : BindIs f_law (dd 63 "law").name (dd 63 "law").qual (dd 63 "law").params (dd 63 "law").body (dd 63 "law").scope ["script"] :=
  show ∀ (_ _ _ : Value) (_ : Option Addr) (_ _ : Value) (us : List Value), us.length = 1 → _ from fun _ _ _ _ _ _ us hl => match us, hl with | [_], _ => rfl
theorem binds : BindAll tb := ⟨b_is_integer, b_is_within, b_check, b_shared, b_ratio, b_is_reach, b_is_bearing, b_is_place_fronts, b_is_ratio_fronts, b_is_front, b_check_front, b_check_places, b_along, b_speed_of, b_over, b_reached, b_is_less, b_reaches_at, b_least_of, b_first_reached, b_passed_by, b_check_fronts, b_across, b_line_at, b_meet_point, b_is_between, b_is_reading, b_does_fit, b_fitted_speed, b_order_of_reaching, b_longest_between, b_moved_front, b_same_line, b_is_place_checkwoods, b_is_ratio_checkwoods, b_takes_reach, b__law_draws, b__law_take, b__law_pick, b__law_same, b__law_ratio, b__law_plus, b__law_is_at_most, b__law_bearing, b__law_front, b__law_reach, b__law_is_on, b__law_minute, b__law_are_places_due, b_law, trivial⟩
abbrev fa : List He.Fa := faOf tb gi cnm
abbrev fn : List He.DefD := tb.map (·.2.1)
abbrev R : PySem.W.OpenRow := PySem.W.OpenLaw.row PySem.Challenge.rw_fireward_k03_whole_fronts_far_off
abbrev hk : PySem.W.Hook := He.hookD 4 fa fn
def ob (s : PySem.W.SharedT) : He.AlD := He.obsDG 4 fa fn (HandSHeadRun.getT s)
theorem ob_eq (s : PySem.W.SharedT) : ob s = hk.obs s.abs := He.obsDG_eq (HandSHeadRun.getT_eq s)
def names : List Str := (["FireError", "NotRight", "is_integer", "is_within", "check", "shared", "ratio", "GREATEST", "is_reach", "is_bearing", "FARTHEST", "MOST_PLACES"] : List Str) ++ (["is_place", "is_place_fronts", "is_ratio", "is_ratio_fronts", "is_front", "check_front", "check_places", "along", "speed_of", "over", "reached", "is_less"] : List Str) ++ (["reaches_at", "least_of", "first_reached", "passed_by", "check_fronts", "across", "line_at", "meet_point", "is_between", "is_reading", "does_fit", "fitted_speed"] : List Str) ++ (["order_of_reaching", "longest_between", "moved_front", "same_line", "is_place_checkwoods", "is_ratio_checkwoods", "takes_reach", "_law_draws", "_law_take", "_law_pick", "_law_same", "_law_ratio"] : List Str) ++ (["_law_plus", "_law_is_at_most", "_law_bearing", "_law_front", "_law_reach", "_law_is_on", "_law_minute", "_law_are_places_due"] : List Str)
theorem run (w : World) : HandSHeadRun.RunEq R (PySem.W.view R.prog [63]) hk ob 3000 names w := by
  intro os
  kernel_rfl
theorem facts {P : Program} {w : World} {K : PySem.W.Frag} {h : Heap} {mg : Str → Option Value} {f : Addr} (X : K.In h) (G : h.Ns mainGlobals mg) (hfa : mg ("law" : Str) = some (.ref f)) (c : He.SaysD fa fn K) (n wf : Nat) :
    ∃ fd : FuncData, (∀ (s : Shared) (v : Value), BindsTo s fd ⟨[v], []⟩ [("script", v)]) ∧ ∀ base : Heap, K.In base → base.Ns mainGlobals mg →
      FnOk P w K mg base (L2.CX P w) (n + 1) f fd ["script"] (spF K (fun k => He.ga K (cnm.getD k Str.empty)) (callF (tb.map (·.1)) (gi.map fun q => PyData.int q.2) wf (n + 1) 49) none) := by
  have GWh := gw_of X G c checked binds
  obtain ⟨fd, F⟩ := c.def_ 49 (d := dd 63 "law") rfl
  have e := hfa.symm.trans (He.glo_ok X G (fact_in c (f := .glo "law") (List.mem_append_left _ (List.mem_map.mpr ⟨(f_law, dd 63 "law", n_law, ["script"]), List.mem_of_getElem? (i := 49) rfl, rfl⟩))))
  cases e
  have b := FunD.bindsA (ps := ["script"]) F fun _ _ _ _ _ _ us hl => match us, hl with | [_], _ => rfl
  have hc := List.all_eq_true.mp checked (f_law, dd 63 "law", n_law, ["script"]) (List.mem_of_getElem? (i := 49) rfl)
  refine ⟨fd, fun s v => b s [v] rfl, fun base _ _ => law_ok (fd := f_law) (N := n_law) GWh n rfl F (b2 (b2 hc).1).1 rfl⟩
end EvT
open PySem PySem.W PySem.Calls PyProof.Rows
theorem end_of (wf : Nat) (math : ∀ ns : List Int, ns.length ≤ 63 → ∃ r, EV.callF (EvT.tb.map (·.1)) (EvT.gi.map fun q => PyData.int q.2) wf 61 49 [.list (ns.map .int)] = .ok r ∧ r.d = .bool true) : PySem.Challenge.rw_fireward_k03_whole_fronts_far_off.Holds := by
  w_on; o_law
  refine HandSHeadRun.head_any (r := OpenLaw.row PySem.Challenge.rw_fireward_k03_whole_fronts_far_off) (q := view (OpenLaw.row PySem.Challenge.rw_fireward_k03_whole_fronts_far_off).prog [63]) (H := EvT.hk) (ob := EvT.ob) (M := 3000) (loose := EvT.names) (d := HandSHeadRun.topDef (OpenLaw.row PySem.Challenge.rw_fireward_k03_whole_fronts_far_off).prog 63) (kwd := []) EvT.ob_eq
    (by kernel_rfl) (fun s => by kernel_rfl) EvT.run (by kernel_rfl) (by kernel_rfl) (by kernel_rfl) (by rfl) (by first | assumption | decide +kernel) (by decide +kernel) ⟨rfl, rfl, rfl, rfl, rfl, by decide +kernel⟩ ?hw ?hc
  case hw => w_witness2
  case hc =>
    refine L2.walk_ofE (l := PySem.Challenge.rw_fireward_k03_whole_fronts_far_off) (n := 63) (k := 61) (x := "script") (CX := L2.CX0) rfl (by decide) (by kernel_rfl) ⟨rfl, by decide, by decide⟩ ?F (fun _ _ _ _ z => z)
    intro w mg fa h Y G hmg0
    obtain ⟨K, KX, c⟩ := Y
    have hmg : mg ("law" : PySem.Str) = some (.ref fa) := by
      have e : (HandSHeadRun.topDef (OpenLaw.row PySem.Challenge.rw_fireward_k03_whole_fronts_far_off).prog 63).name = ("law" : PySem.Str) := by kernel_rfl
      rw [← e]
      exact hmg0
    obtain ⟨fd, hb, hF⟩ := EvT.facts (P := (PySem.Challenge.rw_fireward_k03_whole_fronts_far_off).prog) (w := w) KX G hmg c 60 wf
    exact ⟨K, fd, _, KX, hb, fun H a ns hl _ hS => (let ⟨r, h1, h2⟩ := math ns hl; EV.sp_end h1 h2 hS), fun base h1 h2 => EV.quiet (hF base h1 h2)⟩
end

section
/-! EvS -/
set_option linter.all false
set_option maxRecDepth 100000
/-! EvS: the evaluator's equations for plain proofs; loops stay closed. -/
namespace EV
open PySem
def tstF (C : Cfg) (io : Option Nat) (c : E) (ρ : Rho) : Rs (Bool × Rho) := do
  let (x, ρ) ← stl (ev C io c ρ)
  let d ← Rs.of (look ρ x)
  let t ← Rs.of (tr d)
  .ok (t, ρ)
def bdyF (C : Cfg) (io : Option Nat) (b : Ss) (ρ : Rho) : Rs (Fl × Rho) := exSs C io b ρ
def forF (C : Cfg) (io : Option Nat) (tg : Tg) (b : Ss) (d : D) (ρ : Rho) : Rs (Fl × Rho) := do
  let ρ ← Rs.of (bindT io tg d ρ)
  exSs C io b ρ
def itmF (C : Cfg) (io : Option Nat) (elt : E) (tg : Tg) (cd : Eo) (own : List Nat) (d : D) (ρ2 : Rho) : Rs (Option D × Rho) := do
  let ρ2 ← Rs.of (bindT io tg d ρ2)
  let (t, ρ2) ← evC C io cd ρ2
  if t then do
    let (x, ρ2) ← stl (ev C io elt ρ2)
    let (dx, ρ2) ← frz io ρ2 x
    .ok (some dx, hide ρ2 own)
  else .ok (none, hide ρ2 own)
@[simp] theorem x_for (C : Cfg) (io : Option Nat) (tg : Tg) (it : It) (b : Ss) (ρ : Rho) : exS C io (.for_ tg it b) ρ = (evI C io it ρ >>= fun p => forLoop (forF C io tg b) p.1 p.2) := by
  rw [exS]; rfl
@[simp] theorem x_whl (C : Cfg) (io : Option Nat) (c : E) (b : Ss) (ρ : Rho) : exS C io (.whl c b) ρ = whlLoop (tstF C io c) (bdyF C io b) C.wf ρ := by
  rw [exS]; rfl
@[simp] theorem v_lc (C : Cfg) (io : Option Nat) (elt : E) (tg : Tg) (it : It) (cd : Eo) (own : List Nat) (ρ : Rho) : ev C io (.lc elt tg it cd own) ρ = (evI C io it ρ >>= fun p =>
    if own.all (plainAt p.2) && !(own.any fun i => io == some i) && decide (p.1.length ≤ sizeLine) then (noex (lcLoop (itmF C io elt tg cd own) p.1 (hide p.2 own)) >>= fun q => .ok (.own (.list q.1), unhide q.2 p.2 own)) else .st) := by
  rw [ev]; rfl
@[simp] theorem le_int (a b : Int) : leD (.int a) (.int b) = some (decide (a ≤ b)) := rfl
@[simp] theorem lt_int (a b : Int) : ltD (.int a) (.int b) = some (decide (a < b)) := rfl
@[simp] theorem gt_int (a b : Int) : gtD (.int a) (.int b) = some (decide (b < a)) := rfl
@[simp] theorem ge_int (a b : Int) : geD (.int a) (.int b) = some (decide (b ≤ a)) := rfl
@[simp] theorem bo_add (a b : Int) : binop .add (.int a) (.int b) = some (.val (.int (a + b))) := rfl
@[simp] theorem bo_sub (a b : Int) : binop .sub (.int a) (.int b) = some (.val (.int (a - b))) := rfl
theorem bo_mod {a b : Int} (h : 0 < b) : binop .mod (.int a) (.int b) = some (.val (.int (a % b))) := if_pos h
theorem bo_mul {a b : Int} (h : mulOk a b = true) : binop .mul (.int a) (.int b) = some (.val (.int (a * b))) := if_pos h
theorem bo_div {a b : Int} (h : 0 < b) (h2 : b.natAbs < 2 ^ 4000) : binop .fdiv (.int a) (.int b) = some (.val (.int (a / b))) := by
  have e : binop .fdiv (.int a) (.int b) = if (decide (0 < b) && decide (b.natAbs < 2 ^ 4000)) = true then some (.val (.int (a / b))) else none := rfl
  rw [e, if_pos]
  rw [Bool.and_eq_true, decide_eq_true_eq, decide_eq_true_eq]
  exact ⟨h, h2⟩
theorem b_abs (a : Int) : bAbs [.int a] = some (.val (.int (a.natAbs : Int))) := by
  have h : (if a < 0 then -a else a) = (a.natAbs : Int) := by split <;> omega
  rw [← h]
  rfl
@[simp] theorem cm_lt (a b : Int) : cmpop .lt (.int a) (.int b) = some (decide (a < b)) := rfl
@[simp] theorem cm_le (a b : Int) : cmpop .le (.int a) (.int b) = some (decide (a ≤ b)) := rfl
@[simp] theorem cm_gt (a b : Int) : cmpop .gt (.int a) (.int b) = some (decide (b < a)) := rfl
@[simp] theorem cm_ge (a b : Int) : cmpop .ge (.int a) (.int b) = some (decide (b ≤ a)) := rfl
@[simp] theorem cm_eq (a b : Int) : cmpop .eq (.int a) (.int b) = some (decide (a = b)) := by
  simp [cmpop, okD, dp, PyData.eqv]
  rfl
@[simp] theorem cm_ne (a b : Int) : cmpop .ne (.int a) (.int b) = some (!decide (a = b)) := by
  simp [cmpop, okD, dp, PyData.eqv]
  rfl
theorem atI_nat {α : Type} {xs : List α} {i : Nat} (h : i < xs.length) : L2.atI xs (i : Int) = xs[i]? := by
  unfold L2.atI L2.ixN
  rw [if_pos (by omega), if_pos (by omega)]
  rfl
theorem atI_neg {α : Type} {xs : List α} {i : Nat} (h : 0 < i) (h2 : i ≤ xs.length) : L2.atI xs (-(i : Int)) = xs[xs.length - i]? := by
  unfold L2.atI L2.ixN
  rw [if_neg (by omega), if_pos (by omega)]
  show xs[(-(i : Int) + xs.length).toNat]? = _
  congr 1
  omega
@[simp] theorem at_0 {α : Type} (x : α) (r : List α) : L2.atI (x :: r) 0 = some x := atI_nat (i := 0) (by simp)
@[simp] theorem at_1 {α : Type} (x y : α) (r : List α) : L2.atI (x :: y :: r) 1 = some y := atI_nat (i := 1) (by simp)
@[simp] theorem at_2 {α : Type} (x y z : α) (r : List α) : L2.atI (x :: y :: z :: r) 2 = some z := atI_nat (i := 2) (by simp)
@[simp] theorem at_3 {α : Type} (x y z t : α) (r : List α) : L2.atI (x :: y :: z :: t :: r) 3 = some t := atI_nat (i := 3) (by simp)
/-- a loop whose turns go on: P by the number of turns -/
theorem for_inv {f : D → Rho → Rs (Fl × Rho)} (P : Nat → Rho → Prop) (M : Nat) : ∀ (ds : List D) (k : Nat) (ρ : Rho), k + ds.length ≤ M → (∀ i d ρ, i < M → P i ρ → d ∈ ds → ∃ ρ', f d ρ = .ok (.nx, ρ') ∧ P (i + 1) ρ') → P k ρ → ∃ ρ', forLoop f ds ρ = .ok (.nx, ρ') ∧ P (k + ds.length) ρ'
  | [], k, ρ, _, _, p => ⟨ρ, rfl, p⟩
  | d :: ds, k, ρ, hm, h, p => by
    rw [List.length_cons] at hm
    obtain ⟨ρ1, e1, p1⟩ := h k d ρ (by omega) p List.mem_cons_self
    obtain ⟨ρ2, e2, p2⟩ := for_inv P M ds (k + 1) ρ1 (by omega) (fun i d ρ hi q hd => h i d ρ hi q (List.mem_cons_of_mem _ hd)) p1
    refine ⟨ρ2, ?_, ?_⟩
    · rw [forLoop, e1]
      exact e2
    · rw [List.length_cons, show k + (ds.length + 1) = k + 1 + ds.length by omega]
      exact p2
end EV
end

section
/-! P03 -/
set_option linter.all false
set_option maxRecDepth 100000
namespace K3
open PySem EV
/-- is_integer(value 0) -/
def f_is_integer : FD := ⟨1, false, none, 1, (.cons (.ret (.and (.isi (.v 0) .int) (.not (.isi (.v 0) .bool)))) .nil)⟩
@[simp] theorem io_is_integer : f_is_integer.io = none := rfl
/-- is_within(value 0, low 1, high 2) -/
def f_is_within : FD := ⟨3, false, none, 3, (.cons (.ret (.and (.call 0 (.cons (.v 0) .nil)) (.ch .le .le (.v 1) (.v 0) (.v 2)))) .nil)⟩
@[simp] theorem io_is_within : f_is_within.io = none := rfl
/-- check(is_right 0) -/
def f_check : FD := ⟨1, false, none, 1, (.cons (.ite (.not (.v 0)) (.cons (.rai 1) .nil) .nil) .nil)⟩
@[simp] theorem io_check : f_check.io = none := rfl
/-- shared(one 0, other 1) -/
def b0_shared : Ss := (.cons (.par2 0 1 (.v 1) (.bin .mod (.v 0) (.v 1))) .nil)
def wb0_shared : E := (.cmp .gt (.v 1) (.c (.int 0)))
def f_shared : FD := ⟨2, false, none, 2, (.cons (.par2 0 1 (.bi .abs (.bor (.v 0) .nil)) (.bi .abs (.bor (.v 1) .nil))) (.cons (.whl wb0_shared b0_shared) (.cons (.ret (.v 0)) .nil)))⟩
@[simp] theorem io_shared : f_shared.io = none := rfl
/-- ratio(number 0, divisor 1, least 2) -/
def f_ratio : FD := ⟨2, false, none, 3, (.cons (.asg (.v 2) (.call 3 (.cons (.v 0) (.cons (.v 1) .nil)))) (.cons (.ret (.tup (.cons (.bin .fdiv (.v 0) (.v 2)) (.cons (.bin .fdiv (.v 1) (.v 2)) .nil)))) .nil))⟩
@[simp] theorem io_ratio : f_ratio.io = none := rfl
/-- is_reach(value 0) -/
def f_is_reach : FD := ⟨1, false, none, 1, (.cons (.ret (.call 1 (.cons (.v 0) (.cons (.neg (.g 0)) (.cons (.g 0) .nil))))) .nil)⟩
@[simp] theorem io_is_reach : f_is_reach.io = none := rfl
/-- is_bearing(value 0, one 1) -/
def e0_is_bearing : E := (.call 5 (.cons (.v 1) .nil))
def f_is_bearing : FD := ⟨1, false, none, 2, (.cons (.ite (.or (.not (.isi (.v 0) .tuple)) (.or (.cmp .ne (.bi .len (.bor (.v 0) .nil)) (.c (.int 2))) (.not (.bi .all (.bor (.lc e0_is_bearing (.v 1) (.seq (.v 0)) .no [1]) .nil))))) (.cons (.ret (.c (.bool false))) .nil) .nil) (.cons (.ret (.cmp .eq (.call 3 (.cons (.ix (.v 0) (.c (.int 0))) (.cons (.ix (.v 0) (.c (.int 1))) .nil))) (.c (.int 1)))) .nil))⟩
@[simp] theorem io_is_bearing : f_is_bearing.io = none := rfl
/-- is_place_fronts(value 0, one 1) -/
def e0_is_place_fronts : E := (.and (.call 0 (.cons (.v 1) .nil)) (.ch .le .le (.c (.int 0)) (.v 1) (.g 1)))
def f_is_place_fronts : FD := ⟨1, false, none, 2, (.cons (.ite (.or (.not (.isi (.v 0) .tuple)) (.cmp .ne (.bi .len (.bor (.v 0) .nil)) (.c (.int 2)))) (.cons (.ret (.c (.bool false))) .nil) .nil) (.cons (.ret (.bi .all (.bor (.lc e0_is_place_fronts (.v 1) (.seq (.v 0)) .no [1]) .nil))) .nil))⟩
@[simp] theorem io_is_place_fronts : f_is_place_fronts.io = none := rfl
/-- is_ratio_fronts(value 0) -/
def f_is_ratio_fronts : FD := ⟨1, false, none, 1, (.cons (.ite (.or (.not (.isi (.v 0) .tuple)) (.or (.cmp .ne (.bi .len (.bor (.v 0) .nil)) (.c (.int 2))) (.or (.not (.call 0 (.cons (.ix (.v 0) (.c (.int 0))) .nil))) (.not (.call 0 (.cons (.ix (.v 0) (.c (.int 1))) .nil)))))) (.cons (.ret (.c (.bool false))) .nil) .nil) (.cons (.ret (.and (.cmp .gt (.ix (.v 0) (.c (.int 1))) (.c (.int 0))) (.cmp .eq (.call 3 (.cons (.ix (.v 0) (.c (.int 0))) (.cons (.ix (.v 0) (.c (.int 1))) .nil))) (.c (.int 1))))) .nil))⟩
@[simp] theorem io_is_ratio_fronts : f_is_ratio_fronts.io = none := rfl
/-- is_front(value 0) -/
def f_is_front : FD := ⟨1, false, none, 1, (.cons (.ite (.or (.not (.isi (.v 0) .tuple)) (.or (.cmp .ne (.bi .len (.bor (.v 0) .nil)) (.c (.int 3))) (.or (.not (.call 7 (.cons (.ix (.v 0) (.c (.int 0))) .nil))) (.not (.call 6 (.cons (.ix (.v 0) (.c (.int 1))) .nil)))))) (.cons (.ret (.c (.bool false))) .nil) .nil) (.cons (.ret (.and (.call 8 (.cons (.ix (.v 0) (.c (.int 2))) .nil)) (.cmp .gt (.ix (.ix (.v 0) (.c (.int 2))) (.c (.int 0))) (.c (.int 0))))) .nil))⟩
@[simp] theorem io_is_front : f_is_front.io = none := rfl
/-- check_front(front 0) -/
def f_check_front : FD := ⟨1, false, none, 1, (.cons (.exp (.call 2 (.cons (.call 9 (.cons (.v 0) .nil)) .nil))) .nil)⟩
@[simp] theorem io_check_front : f_check_front.io = none := rfl
/-- check_places(places 0, place 1) -/
def e0_check_places : E := (.call 7 (.cons (.v 1) .nil))
def f_check_places : FD := ⟨1, false, none, 2, (.cons (.exp (.call 2 (.cons (.and (.isi (.v 0) .list) (.and (.ch .le .le (.c (.int 1)) (.bi .len (.bor (.v 0) .nil)) (.g 2)) (.bi .all (.bor (.lc e0_check_places (.v 1) (.seq (.v 0)) .no [1]) .nil)))) .nil))) .nil)⟩
@[simp] theorem io_check_places : f_check_places.io = none := rfl
/-- along(bearing 0, place 1) -/
def f_along : FD := ⟨2, false, none, 2, (.cons (.ret (.bin .add (.bin .mul (.ix (.v 0) (.c (.int 0))) (.ix (.v 1) (.c (.int 0)))) (.bin .mul (.ix (.v 0) (.c (.int 1))) (.ix (.v 1) (.c (.int 1)))))) .nil)⟩
@[simp] theorem io_along : f_along.io = none := rfl
/-- speed_of(front 0, _ 1, bearing 2, n 3, d 4) -/
def f_speed_of : FD := ⟨1, false, none, 5, (.cons (.asg (.t (.cons (.v 1) (.cons (.v 2) (.cons (.t (.cons (.v 3) (.cons (.v 4) .nil))) .nil)))) (.v 0)) (.cons (.ret (.tup (.cons (.bin .mul (.call 12 (.cons (.v 2) (.cons (.v 2) .nil))) (.v 3)) (.cons (.v 4) .nil)))) .nil))⟩
@[simp] theorem io_speed_of : f_speed_of.io = none := rfl
/-- over(one 0, other 1, number 2, divisor 3) -/
def f_over : FD := ⟨2, false, none, 4, (.cons (.par2 2 3 (.bin .mul (.ix (.v 0) (.c (.int 0))) (.ix (.v 1) (.c (.int 1)))) (.bin .mul (.ix (.v 0) (.c (.int 1))) (.ix (.v 1) (.c (.int 0))))) (.cons (.ret (.ite (.cmp .gt (.v 3) (.c (.int 0))) (.call 4 (.cons (.v 2) (.cons (.v 3) .nil))) (.call 4 (.cons (.neg (.v 2)) (.cons (.neg (.v 3)) .nil))))) .nil))⟩
@[simp] theorem io_over : f_over.io = none := rfl
/-- reached(front 0, place 1, far 2) -/
def f_reached : FD := ⟨2, false, none, 3, (.cons (.asg (.v 2) (.bin .sub (.call 12 (.cons (.ix (.v 0) (.c (.int 1))) (.cons (.v 1) .nil))) (.call 12 (.cons (.ix (.v 0) (.c (.int 1))) (.cons (.ix (.v 0) (.c (.int 0))) .nil))))) (.cons (.ret (.call 14 (.cons (.tup (.cons (.v 2) (.cons (.c (.int 1)) .nil))) (.cons (.call 13 (.cons (.v 0) .nil)) .nil)))) .nil))⟩
@[simp] theorem io_reached : f_reached.io = none := rfl
/-- is_less(one 0, other 1) -/
def f_is_less : FD := ⟨2, false, none, 2, (.cons (.ret (.cmp .lt (.bin .mul (.ix (.v 0) (.c (.int 0))) (.ix (.v 1) (.c (.int 1)))) (.bin .mul (.ix (.v 1) (.c (.int 0))) (.ix (.v 0) (.c (.int 1)))))) .nil)⟩
@[simp] theorem io_is_less : f_is_less.io = none := rfl
/-- reaches_at(front 0, place 1) -/
def f_reaches_at : FD := ⟨2, false, none, 2, (.cons (.exp (.call 10 (.cons (.v 0) .nil))) (.cons (.exp (.call 2 (.cons (.call 7 (.cons (.v 1) .nil)) .nil))) (.cons (.ret (.call 15 (.cons (.v 0) (.cons (.v 1) .nil)))) .nil)))⟩
@[simp] theorem io_reaches_at : f_reaches_at.io = none := rfl
/-- least_of(ratios 0, best 1, at 2, one 3) -/
def b0_least_of : Ss := (.cons (.ite (.call 16 (.cons (.v 3) (.cons (.ix (.v 0) (.v 1)) .nil))) (.cons (.asg (.v 1) (.v 2)) .nil) .nil) .nil)
def f_least_of : FD := ⟨1, false, none, 4, (.cons (.asg (.v 1) (.c (.int 0))) (.cons (.for_ (.t (.cons (.v 2) (.cons (.v 3) .nil))) (.enu (.v 0)) b0_least_of) (.cons (.ret (.v 1)) .nil)))⟩
@[simp] theorem io_least_of : f_least_of.io = none := rfl
/-- first_reached(front 0, places 1, place 2) -/
def e0_first_reached : E := (.call 15 (.cons (.v 0) (.cons (.v 2) .nil)))
def f_first_reached : FD := ⟨2, false, none, 3, (.cons (.exp (.call 10 (.cons (.v 0) .nil))) (.cons (.exp (.call 11 (.cons (.v 1) .nil))) (.cons (.ret (.call 18 (.cons (.lc e0_first_reached (.v 2) (.seq (.v 1)) .no [2]) .nil))) .nil)))⟩
@[simp] theorem io_first_reached : f_first_reached.io = none := rfl
/-- passed_by(front 0, places 1, n 2, d 3, at 4, place 5) -/
def e0_passed_by : E := (.v 4)
def ce0_passed_by : Eo := (.yes (.not (.call 16 (.cons (.tup (.cons (.v 2) (.cons (.v 3) .nil))) (.cons (.call 15 (.cons (.v 0) (.cons (.v 5) .nil))) .nil)))))
def f_passed_by : FD := ⟨4, false, none, 6, (.cons (.exp (.call 10 (.cons (.v 0) .nil))) (.cons (.exp (.call 11 (.cons (.v 1) .nil))) (.cons (.exp (.call 2 (.cons (.call 8 (.cons (.tup (.cons (.v 2) (.cons (.v 3) .nil))) .nil)) .nil))) (.cons (.ret (.lc e0_passed_by (.t (.cons (.v 4) (.cons (.v 5) .nil))) (.enu (.v 1)) ce0_passed_by [4, 5])) .nil))))⟩
@[simp] theorem io_passed_by : f_passed_by.io = none := rfl
/-- check_fronts(one 0, other 1) -/
def f_check_fronts : FD := ⟨2, false, none, 2, (.cons (.exp (.call 10 (.cons (.v 0) .nil))) (.cons (.exp (.call 10 (.cons (.v 1) .nil))) .nil))⟩
@[simp] theorem io_check_fronts : f_check_fronts.io = none := rfl
/-- across(one 0, other 1) -/
def f_across : FD := ⟨2, false, none, 2, (.cons (.ret (.bin .sub (.bin .mul (.ix (.v 0) (.c (.int 0))) (.ix (.v 1) (.c (.int 1)))) (.bin .mul (.ix (.v 0) (.c (.int 1))) (.ix (.v 1) (.c (.int 0)))))) .nil)⟩
@[simp] theorem io_across : f_across.io = none := rfl
/-- line_at(front 0, n 1, d 2, number 3, divisor 4) -/
def f_line_at : FD := ⟨3, false, none, 5, (.cons (.asg (.t (.cons (.v 3) (.cons (.v 4) .nil))) (.call 13 (.cons (.v 0) .nil))) (.cons (.ret (.tup (.cons (.bin .add (.bin .mul (.bin .mul (.call 12 (.cons (.ix (.v 0) (.c (.int 1))) (.cons (.ix (.v 0) (.c (.int 0))) .nil))) (.v 4)) (.v 2)) (.bin .mul (.v 3) (.v 1))) (.cons (.bin .mul (.v 4) (.v 2)) .nil)))) .nil))⟩
@[simp] theorem io_line_at : f_line_at.io = none := rfl
/-- meet_point(one 0, other 1, n 2, d 3, a 4, b 5, e 6, f 7, whole 8, p 9, q 10, r 11, s 12, x 13, y 14) -/
def f_meet_point : FD := ⟨4, false, none, 15, (.cons (.exp (.call 21 (.cons (.v 0) (.cons (.v 1) .nil)))) (.cons (.exp (.call 2 (.cons (.call 8 (.cons (.tup (.cons (.v 2) (.cons (.v 3) .nil))) .nil)) .nil))) (.cons (.asg (.t (.cons (.t (.cons (.v 4) (.cons (.v 5) .nil))) (.cons (.t (.cons (.v 6) (.cons (.v 7) .nil))) .nil))) (.tup (.cons (.ix (.v 0) (.c (.int 1))) (.cons (.ix (.v 1) (.c (.int 1))) .nil)))) (.cons (.asg (.v 8) (.call 22 (.cons (.ix (.v 0) (.c (.int 1))) (.cons (.ix (.v 1) (.c (.int 1))) .nil)))) (.cons (.ite (.cmp .eq (.v 8) (.c (.int 0))) (.cons (.ret (.c .none)) .nil) .nil) (.cons (.asg (.t (.cons (.t (.cons (.v 9) (.cons (.v 10) .nil))) (.cons (.t (.cons (.v 11) (.cons (.v 12) .nil))) .nil))) (.tup (.cons (.call 23 (.cons (.v 0) (.cons (.v 2) (.cons (.v 3) .nil)))) (.cons (.call 23 (.cons (.v 1) (.cons (.v 2) (.cons (.v 3) .nil)))) .nil)))) (.cons (.par2 13 14 (.tup (.cons (.bin .sub (.bin .mul (.bin .mul (.v 9) (.v 12)) (.v 7)) (.bin .mul (.bin .mul (.v 11) (.v 10)) (.v 5))) (.cons (.bin .mul (.v 10) (.v 12)) .nil))) (.tup (.cons (.bin .sub (.bin .mul (.bin .mul (.v 11) (.v 10)) (.v 4)) (.bin .mul (.bin .mul (.v 9) (.v 12)) (.v 6))) (.cons (.bin .mul (.v 10) (.v 12)) .nil)))) (.cons (.ret (.tup (.cons (.call 14 (.cons (.v 13) (.cons (.tup (.cons (.v 8) (.cons (.c (.int 1)) .nil))) .nil))) (.cons (.call 14 (.cons (.v 14) (.cons (.tup (.cons (.v 8) (.cons (.c (.int 1)) .nil))) .nil))) .nil)))) .nil))))))))⟩
@[simp] theorem io_meet_point : f_meet_point.io = none := rfl
/-- is_between(one 0, other 1, place 2, n 3, d 4) -/
def f_is_between : FD := ⟨5, false, none, 5, (.cons (.exp (.call 21 (.cons (.v 0) (.cons (.v 1) .nil)))) (.cons (.exp (.call 2 (.cons (.and (.call 7 (.cons (.v 2) .nil)) (.call 8 (.cons (.tup (.cons (.v 3) (.cons (.v 4) .nil))) .nil))) .nil))) (.cons (.ret (.cmp .ne (.call 16 (.cons (.tup (.cons (.v 3) (.cons (.v 4) .nil))) (.cons (.call 15 (.cons (.v 0) (.cons (.v 2) .nil))) .nil))) (.call 16 (.cons (.tup (.cons (.v 3) (.cons (.v 4) .nil))) (.cons (.call 15 (.cons (.v 1) (.cons (.v 2) .nil))) .nil))))) .nil)))⟩
@[simp] theorem io_is_between : f_is_between.io = none := rfl
/-- is_reading(value 0) -/
def f_is_reading : FD := ⟨1, false, none, 1, (.cons (.ret (.and (.isi (.v 0) .tuple) (.and (.cmp .eq (.bi .len (.bor (.v 0) .nil)) (.c (.int 2))) (.and (.call 7 (.cons (.ix (.v 0) (.c (.int 0))) .nil)) (.call 8 (.cons (.ix (.v 0) (.c (.int 1))) .nil)))))) .nil)⟩
@[simp] theorem io_is_reading : f_is_reading.io = none := rfl
/-- does_fit(front 0, readings 1, one 2, place 3, minute 4) -/
def e0_does_fit : E := (.call 26 (.cons (.v 2) .nil))
def e1_does_fit : E := (.cmp .eq (.call 15 (.cons (.v 0) (.cons (.v 3) .nil))) (.v 4))
def f_does_fit : FD := ⟨2, false, none, 5, (.cons (.exp (.call 10 (.cons (.v 0) .nil))) (.cons (.exp (.call 2 (.cons (.and (.isi (.v 1) .list) (.and (.cmp .le (.bi .len (.bor (.v 1) .nil)) (.g 2)) (.bi .all (.bor (.lc e0_does_fit (.v 2) (.seq (.v 1)) .no [2]) .nil)))) .nil))) (.cons (.ret (.bi .all (.bor (.lc e1_does_fit (.t (.cons (.v 3) (.cons (.v 4) .nil))) (.seq (.v 1)) .no [3, 4]) .nil))) .nil)))⟩
@[simp] theorem io_does_fit : f_does_fit.io = none := rfl
/-- fitted_speed(place 0, bearing 1, reading 2, far 3, n 4, d 5) -/
def f_fitted_speed : FD := ⟨3, false, none, 6, (.cons (.exp (.call 2 (.cons (.and (.call 7 (.cons (.v 0) .nil)) (.and (.call 6 (.cons (.v 1) .nil)) (.call 26 (.cons (.v 2) .nil)))) .nil))) (.cons (.asg (.v 3) (.bin .sub (.call 12 (.cons (.v 1) (.cons (.ix (.v 2) (.c (.int 0))) .nil))) (.call 12 (.cons (.v 1) (.cons (.v 0) .nil))))) (.cons (.asg (.t (.cons (.v 4) (.cons (.v 5) .nil))) (.ix (.v 2) (.c (.int 1)))) (.cons (.ite (.cmp .le (.bin .mul (.v 3) (.v 4)) (.c (.int 0))) (.cons (.ret (.c .none)) .nil) .nil) (.cons (.ret (.call 14 (.cons (.tup (.cons (.v 3) (.cons (.call 12 (.cons (.v 1) (.cons (.v 1) .nil))) .nil))) (.cons (.tup (.cons (.v 4) (.cons (.v 5) .nil))) .nil)))) .nil)))))⟩
@[simp] theorem io_fitted_speed : f_fitted_speed.io = none := rfl
/-- order_of_reaching(front 0, places 1, left 2, found 3, place 4, _ 5, at 6, far 7) -/
def e0_order_of_reaching : E := (.call 12 (.cons (.ix (.v 0) (.c (.int 1))) (.cons (.v 4) .nil)))
def e1_order_of_reaching : E := (.tup (.cons (.v 7) (.cons (.v 6) .nil)))
def b2_order_of_reaching : Ss := (.cons (.app 3 (.v 6)) .nil)
def f_order_of_reaching : FD := ⟨2, false, none, 8, (.cons (.exp (.call 10 (.cons (.v 0) .nil))) (.cons (.exp (.call 11 (.cons (.v 1) .nil))) (.cons (.par2 2 3 (.lc e0_order_of_reaching (.v 4) (.seq (.v 1)) .no [4]) (.lst .nil)) (.cons (.for_ (.t (.cons (.v 5) (.cons (.v 6) .nil))) (.seq (.bi .sorted (.bor (.lc e1_order_of_reaching (.t (.cons (.v 6) (.cons (.v 7) .nil))) (.enu (.v 2)) .no [6, 7]) .nil))) b2_order_of_reaching) (.cons (.ret (.v 3)) .nil)))))⟩
@[simp] theorem io_order_of_reaching : f_order_of_reaching.io = none := rfl
/-- longest_between(one 0, other 1, places 2, times 3, place 4, a 5, b 6, e 7, f 8, at 9) -/
def b0_longest_between : Ss := (.cons (.asg (.t (.cons (.t (.cons (.v 5) (.cons (.v 6) .nil))) (.cons (.t (.cons (.v 7) (.cons (.v 8) .nil))) .nil))) (.tup (.cons (.call 15 (.cons (.v 0) (.cons (.v 4) .nil))) (.cons (.call 15 (.cons (.v 1) (.cons (.v 4) .nil))) .nil)))) (.cons (.app 3 (.call 4 (.cons (.neg (.bi .abs (.bor (.bin .sub (.bin .mul (.v 5) (.v 8)) (.bin .mul (.v 7) (.v 6))) .nil))) (.cons (.bin .mul (.v 6) (.v 8)) .nil)))) .nil))
def f_longest_between : FD := ⟨3, false, none, 10, (.cons (.exp (.call 21 (.cons (.v 0) (.cons (.v 1) .nil)))) (.cons (.exp (.call 11 (.cons (.v 2) .nil))) (.cons (.asg (.v 3) (.lst .nil)) (.cons (.for_ (.v 4) (.seq (.v 2)) b0_longest_between) (.cons (.asg (.v 9) (.call 18 (.bor (.v 3) .nil))) (.cons (.ret (.tup (.cons (.tup (.cons (.neg (.ix (.ix (.v 3) (.v 9)) (.c (.int 0)))) (.cons (.ix (.ix (.v 3) (.v 9)) (.c (.int 1))) .nil))) (.cons (.v 9) .nil)))) .nil))))))⟩
@[simp] theorem io_longest_between : f_longest_between.io = none := rfl
/-- moved_front(front 0, n 1, d 2, x 3, y 4, a 5, b 6, more 7, less 8, first 9, m 10, e 11) -/
def f_moved_front : FD := ⟨3, false, none, 12, (.cons (.exp (.call 10 (.cons (.v 0) .nil))) (.cons (.exp (.call 2 (.cons (.call 8 (.cons (.tup (.cons (.v 1) (.cons (.v 2) .nil))) .nil)) .nil))) (.cons (.asg (.t (.cons (.t (.cons (.v 3) (.cons (.v 4) .nil))) (.cons (.t (.cons (.v 5) (.cons (.v 6) .nil))) (.cons (.t (.cons (.v 7) (.cons (.v 8) .nil))) .nil)))) (.v 0)) (.cons (.asg (.v 9) (.tup (.cons (.call 4 (.cons (.bin .add (.bin .mul (.bin .mul (.v 3) (.v 8)) (.v 2)) (.bin .mul (.bin .mul (.v 5) (.v 7)) (.v 1))) (.cons (.bin .mul (.v 8) (.v 2)) .nil))) (.cons (.call 4 (.cons (.bin .add (.bin .mul (.bin .mul (.v 4) (.v 8)) (.v 2)) (.bin .mul (.bin .mul (.v 6) (.v 7)) (.v 1))) (.cons (.bin .mul (.v 8) (.v 2)) .nil))) .nil)))) (.cons (.asg (.t (.cons (.t (.cons (.v 1) (.cons (.v 2) .nil))) (.cons (.t (.cons (.v 10) (.cons (.v 11) .nil))) .nil))) (.v 9)) (.cons (.ret (.tup (.cons (.v 9) (.cons (.tup (.cons (.call 4 (.cons (.bin .sub (.v 1) (.bin .mul (.v 6) (.v 2))) (.cons (.v 2) .nil))) (.cons (.call 4 (.cons (.bin .add (.v 10) (.bin .mul (.v 5) (.v 11))) (.cons (.v 11) .nil))) .nil))) .nil)))) .nil))))))⟩
@[simp] theorem io_moved_front : f_moved_front.io = none := rfl
/-- same_line(one 0, other 1, same 2, far 3, p 4, q 5, r 6, s 7, nearer 8) -/
def f_same_line : FD := ⟨2, false, none, 9, (.cons (.exp (.call 21 (.cons (.v 0) (.cons (.v 1) .nil)))) (.cons (.ite (.cmp .ne (.call 22 (.cons (.ix (.v 0) (.c (.int 1))) (.cons (.ix (.v 1) (.c (.int 1))) .nil))) (.c (.int 0))) (.cons (.ret (.c .none)) .nil) .nil) (.cons (.asg (.v 2) (.ite (.cmp .eq (.ix (.v 0) (.c (.int 1))) (.ix (.v 1) (.c (.int 1)))) (.c (.int 1)) (.neg (.c (.int 1))))) (.cons (.asg (.v 3) (.bin .sub (.call 12 (.cons (.ix (.v 0) (.c (.int 1))) (.cons (.ix (.v 1) (.c (.int 0))) .nil))) (.call 12 (.cons (.ix (.v 0) (.c (.int 1))) (.cons (.ix (.v 0) (.c (.int 0))) .nil))))) (.cons (.asg (.t (.cons (.t (.cons (.v 4) (.cons (.v 5) .nil))) (.cons (.t (.cons (.v 6) (.cons (.v 7) .nil))) .nil))) (.tup (.cons (.call 13 (.cons (.v 0) .nil)) (.cons (.call 13 (.cons (.v 1) .nil)) .nil)))) (.cons (.asg (.v 8) (.tup (.cons (.bin .sub (.bin .mul (.v 4) (.v 7)) (.bin .mul (.bin .mul (.v 2) (.v 6)) (.v 5))) (.cons (.bin .mul (.v 5) (.v 7)) .nil)))) (.cons (.ite (.cmp .eq (.ix (.v 8) (.c (.int 0))) (.c (.int 0))) (.cons (.ret (.ite (.cmp .eq (.v 3) (.c (.int 0))) (.tup (.cons (.c (.int 0)) (.cons (.c (.int 1)) .nil))) (.c .none))) .nil) .nil) (.cons (.ret (.call 14 (.cons (.tup (.cons (.v 3) (.cons (.c (.int 1)) .nil))) (.cons (.v 8) .nil)))) .nil))))))))⟩
@[simp] theorem io_same_line : f_same_line.io = none := rfl
/-- is_place_checkwoods(value 0, one 1) -/
def e0_is_place_checkwoods : E := (.call 1 (.cons (.v 1) (.cons (.c (.int 0)) (.cons (.c (.int 1000)) .nil))))
def f_is_place_checkwoods : FD := ⟨1, false, none, 2, (.cons (.ret (.and (.isi (.v 0) .tuple) (.and (.cmp .eq (.bi .len (.bor (.v 0) .nil)) (.c (.int 2))) (.bi .all (.bor (.lc e0_is_place_checkwoods (.v 1) (.seq (.v 0)) .no [1]) .nil))))) .nil)⟩
@[simp] theorem io_is_place_checkwoods : f_is_place_checkwoods.io = none := rfl
/-- is_ratio_checkwoods(value 0, one 1) -/
def e0_is_ratio_checkwoods : E := (.call 0 (.cons (.v 1) .nil))
def f_is_ratio_checkwoods : FD := ⟨1, false, none, 2, (.cons (.ite (.or (.not (.isi (.v 0) .tuple)) (.or (.cmp .ne (.bi .len (.bor (.v 0) .nil)) (.c (.int 2))) (.or (.not (.bi .all (.bor (.lc e0_is_ratio_checkwoods (.v 1) (.seq (.v 0)) .no [1]) .nil))) (.cmp .lt (.ix (.v 0) (.c (.int 1))) (.c (.int 1)))))) (.cons (.ret (.c (.bool false))) .nil) .nil) (.cons (.ret (.cmp .eq (.call 4 (.cons (.ix (.v 0) (.c (.int 0))) (.cons (.ix (.v 0) (.c (.int 1))) .nil))) (.v 0))) .nil))⟩
@[simp] theorem io_is_ratio_checkwoods : f_is_ratio_checkwoods.io = none := rfl
/-- takes_reach(front 0, place 1, n 2, d 3, start 4, bearing 5, speed 6, one 7, far 8, long 9) -/
def e0_takes_reach : E := (.call 1 (.cons (.v 7) (.cons (.neg (.bin .pow (.c (.int 10)) (.c (.int 9)))) (.cons (.bin .pow (.c (.int 10)) (.c (.int 9))) .nil))))
def f_takes_reach : FD := ⟨4, false, none, 10, (.cons (.ite (.or (.not (.isi (.v 0) .tuple)) (.or (.cmp .ne (.bi .len (.bor (.v 0) .nil)) (.c (.int 3))) (.or (.not (.call 33 (.cons (.ix (.v 0) (.c (.int 0))) .nil))) (.not (.call 33 (.cons (.v 1) .nil)))))) (.cons (.ret (.c (.bool false))) .nil) .nil) (.cons (.asg (.t (.cons (.v 4) (.cons (.v 5) (.cons (.v 6) .nil)))) (.v 0)) (.cons (.ite (.or (.not (.isi (.v 5) .tuple)) (.cmp .ne (.bi .len (.bor (.v 5) .nil)) (.c (.int 2)))) (.cons (.ret (.c (.bool false))) .nil) .nil) (.cons (.ite (.not (.bi .all (.bor (.lc e0_takes_reach (.v 7) (.seq (.v 5)) .no [7]) .nil))) (.cons (.ret (.c (.bool false))) .nil) .nil) (.cons (.ite (.or (.cmp .ne (.call 3 (.cons (.bi .abs (.bor (.ix (.v 5) (.c (.int 0))) .nil)) (.cons (.bi .abs (.bor (.ix (.v 5) (.c (.int 1))) .nil)) .nil))) (.c (.int 1))) (.or (.not (.call 34 (.cons (.v 6) .nil))) (.cmp .lt (.ix (.v 6) (.c (.int 0))) (.c (.int 1))))) (.cons (.ret (.c (.bool false))) .nil) .nil) (.cons (.asg (.v 8) (.bin .add (.bin .mul (.bin .sub (.ix (.v 1) (.c (.int 0))) (.ix (.v 4) (.c (.int 0)))) (.ix (.v 5) (.c (.int 0)))) (.bin .mul (.bin .sub (.ix (.v 1) (.c (.int 1))) (.ix (.v 4) (.c (.int 1)))) (.ix (.v 5) (.c (.int 1)))))) (.cons (.asg (.v 9) (.bin .add (.bin .mul (.ix (.v 5) (.c (.int 0))) (.ix (.v 5) (.c (.int 0)))) (.bin .mul (.ix (.v 5) (.c (.int 1))) (.ix (.v 5) (.c (.int 1)))))) (.cons (.ret (.cmp .eq (.tup (.cons (.v 2) (.cons (.v 3) .nil))) (.call 4 (.cons (.bin .mul (.v 8) (.ix (.v 6) (.c (.int 1)))) (.cons (.bin .mul (.v 9) (.ix (.v 6) (.c (.int 0)))) .nil))))) .nil))))))))⟩
@[simp] theorem io_takes_reach : f_takes_reach.io = none := rfl
/-- _law_draws(script 0, draws 1, seed 2, cell 3, number 4, k 5) -/
def b0__law_draws : Ss := (.cons (.ite (.cmp .gt (.v 4) (.c (.int 0))) (.cons (.app 1 (.bin .mod (.bi .int (.bor (.v 4) .nil)) (.c (.int 997)))) (.cons (.asg (.v 4) (.bin .fdiv (.v 4) (.c (.int 997)))) .nil)) .nil) .nil)
def b1__law_draws : Ss := (.cons (.asg (.v 4) (.bi .abs (.bor (.bi .int (.bor (.v 3) .nil)) .nil))) (.cons (.asg (.v 2) (.bin .mod (.bi .int (.bor (.bin .add (.bin .add (.bin .mul (.v 2) (.c (.int 48271))) (.v 4)) (.c (.int 1))) .nil)) (.c (.int 2147483647)))) (.cons (.ite (.cmp .lt (.v 4) (.bin .pow (.c (.int 10)) (.c (.int 18)))) (.cons (.app 1 (.bin .mod (.bi .int (.bor (.v 4) .nil)) (.c (.int 997)))) (.cons (.app 1 (.bin .mod (.bi .int (.bor (.v 2) .nil)) (.c (.int 65521)))) (.cons (.asg (.v 4) (.c (.int 0))) .nil))) .nil) (.cons (.for_ (.v 5) (.rng1 (.c (.int 60))) b0__law_draws) .nil))))
def b2__law_draws : Ss := (.cons (.asg (.v 2) (.bin .mod (.bi .int (.bor (.bin .add (.bin .mul (.v 2) (.c (.int 48271))) (.c (.int 69621))) .nil)) (.c (.int 2147483647)))) (.cons (.app 1 (.bin .fdiv (.v 2) (.c (.int 5)))) .nil))
def f__law_draws : FD := ⟨1, false, none, 6, (.cons (.asg (.v 1) (.lst .nil)) (.cons (.asg (.v 2) (.c (.int 11))) (.cons (.for_ (.v 3) (.seq (.v 0)) b1__law_draws) (.cons (.for_ (.v 5) (.rng1 (.c (.int 1600))) b2__law_draws) (.cons (.ret (.rev (.v 1))) .nil)))))⟩
@[simp] theorem io__law_draws : f__law_draws.io = none := rfl
/-- _law_take(draws 0, bound 1) -/
def f__law_take : FD := ⟨2, false, some 0, 2, (.cons (.ite (.cmp .eq (.bi .len (.bor (.v 0) .nil)) (.c (.int 0))) (.cons (.ret (.c (.int 0))) .nil) .nil) (.cons (.ret (.bin .mod (.bi .int (.bor (.pop 0) .nil)) (.v 1))) .nil))⟩
@[simp] theorem io__law_take : f__law_take.io = some 0 := rfl
/-- _law_pick(draws 0, some 1) -/
def f__law_pick : FD := ⟨2, false, some 0, 2, (.cons (.ret (.ix (.v 1) (.call 37 (.bor (.v 0) (.cons (.bi .len (.bor (.v 1) .nil)) .nil))))) .nil)⟩
@[simp] theorem io__law_pick : f__law_pick.io = some 0 := rfl
/-- _law_same(actual 0, due 1, k 2, key 3) -/
def b0__law_same : Ss := (.cons (.ite (.not (.call 39 (.cons (.ix (.v 0) (.v 2)) (.cons (.ix (.v 1) (.v 2)) .nil)))) (.cons (.ret (.c (.bool false))) .nil) .nil) .nil)
def e1__law_same : E := (.v 3)
def ce1__law_same : Eo := (.yes (.or (.cmp .nin (.v 3) (.v 0)) (.not (.call 39 (.cons (.ix (.v 0) (.v 3)) (.cons (.ix (.v 1) (.v 3)) .nil))))))
def f__law_same : FD := ⟨2, false, none, 4, (.cons (.ite (.isC (.v 1) .none false) (.cons (.ret (.isC (.v 0) .none false)) .nil) .nil) (.cons (.ite (.or (.isi (.v 1) .tuple) (.isi (.v 1) .list)) (.cons (.ite (.or (.cmp .ne (.isi (.v 1) .tuple) (.isi (.v 0) .tuple)) (.cmp .ne (.isi (.v 1) .list) (.isi (.v 0) .list))) (.cons (.ret (.c (.bool false))) .nil) .nil) (.cons (.ite (.cmp .ne (.bi .len (.bor (.v 0) .nil)) (.bi .len (.bor (.v 1) .nil))) (.cons (.ret (.c (.bool false))) .nil) .nil) (.cons (.for_ (.v 2) (.rng1 (.bi .len (.bor (.v 1) .nil))) b0__law_same) (.cons (.ret (.c (.bool true))) .nil)))) .nil) (.cons (.ite (.isi (.v 1) .dict) (.cons (.ite (.or (.not (.isi (.v 0) .dict)) (.cmp .ne (.bi .len (.bor (.v 0) .nil)) (.bi .len (.bor (.v 1) .nil)))) (.cons (.ret (.c (.bool false))) .nil) .nil) (.cons (.ret (.cmp .eq (.lc e1__law_same (.v 3) (.seq (.v 1)) ce1__law_same [3]) (.lst .nil))) .nil)) .nil) (.cons (.ite (.cmp .ne (.isi (.v 1) .bool) (.isi (.v 0) .bool)) (.cons (.ret (.c (.bool false))) .nil) .nil) (.cons (.ite (.or (.cmp .ne (.isi (.v 1) .int) (.isi (.v 0) .int)) (.cmp .ne (.isi (.v 1) .str) (.isi (.v 0) .str))) (.cons (.ret (.c (.bool false))) .nil) .nil) (.cons (.ret (.cmp .eq (.v 0) (.v 1))) .nil))))))⟩
@[simp] theorem io__law_same : f__law_same.io = none := rfl
/-- _law_ratio(a 0, b 1, x 2, y 3, turn 4) -/
def b0__law_ratio : Ss := (.cons (.ite (.cmp .eq (.v 3) (.c (.int 0))) (.cons .brk .nil) .nil) (.cons (.par2 2 3 (.v 3) (.bin .mod (.bi .int (.bor (.v 2) .nil)) (.v 3))) .nil))
def f__law_ratio : FD := ⟨2, false, none, 5, (.cons (.par2 2 3 (.bi .abs (.bor (.v 0) .nil)) (.bi .abs (.bor (.v 1) .nil))) (.cons (.for_ (.v 4) (.rng1 (.c (.int 4000))) b0__law_ratio) (.cons (.ret (.tup (.cons (.bin .fdiv (.v 0) (.v 2)) (.cons (.bin .fdiv (.v 1) (.v 2)) .nil)))) .nil)))⟩
@[simp] theorem io__law_ratio : f__law_ratio.io = none := rfl
/-- _law_plus(one 0, other 1) -/
def f__law_plus : FD := ⟨2, false, none, 2, (.cons (.ret (.call 40 (.cons (.bin .add (.bin .mul (.ix (.v 0) (.c (.int 0))) (.ix (.v 1) (.c (.int 1)))) (.bin .mul (.ix (.v 1) (.c (.int 0))) (.ix (.v 0) (.c (.int 1))))) (.cons (.bin .mul (.ix (.v 0) (.c (.int 1))) (.ix (.v 1) (.c (.int 1)))) .nil)))) .nil)⟩
@[simp] theorem io__law_plus : f__law_plus.io = none := rfl
/-- _law_is_at_most(one 0, other 1) -/
def f__law_is_at_most : FD := ⟨2, false, none, 2, (.cons (.ret (.cmp .le (.bin .mul (.ix (.v 0) (.c (.int 0))) (.ix (.v 1) (.c (.int 1)))) (.bin .mul (.ix (.v 1) (.c (.int 0))) (.ix (.v 0) (.c (.int 1)))))) .nil)⟩
@[simp] theorem io__law_is_at_most : f__law_is_at_most.io = none := rfl
/-- _law_bearing(draws 0, most 1, a 2, b 3, x 4, y 5, turn 6) -/
def b0__law_bearing : Ss := (.cons (.ite (.cmp .gt (.v 5) (.c (.int 0))) (.cons (.par2 4 5 (.v 5) (.bin .mod (.bi .int (.bor (.v 4) .nil)) (.v 5))) .nil) .nil) .nil)
def f__law_bearing : FD := ⟨2, false, some 0, 7, (.cons (.par2 2 3 (.bin .sub (.call 37 (.bor (.v 0) (.cons (.bin .add (.bin .mul (.c (.int 2)) (.v 1)) (.c (.int 1))) .nil))) (.v 1)) (.bin .sub (.call 37 (.bor (.v 0) (.cons (.bin .add (.bin .mul (.c (.int 2)) (.v 1)) (.c (.int 1))) .nil))) (.v 1))) (.cons (.ite (.and (.cmp .eq (.v 2) (.c (.int 0))) (.cmp .eq (.v 3) (.c (.int 0)))) (.cons (.asg (.v 2) (.c (.int 1))) .nil) .nil) (.cons (.par2 4 5 (.bi .abs (.bor (.v 2) .nil)) (.bi .abs (.bor (.v 3) .nil))) (.cons (.for_ (.v 6) (.rng1 (.c (.int 99))) b0__law_bearing) (.cons (.ret (.tup (.cons (.bin .fdiv (.v 2) (.v 4)) (.cons (.bin .fdiv (.v 3) (.v 4)) .nil)))) .nil)))))⟩
@[simp] theorem io__law_bearing : f__law_bearing.io = some 0 := rfl
/-- _law_front(draws 0, far 1) -/
def f__law_front : FD := ⟨2, false, some 0, 2, (.cons (.ret (.tup (.cons (.tup (.cons (.call 37 (.bor (.v 0) (.cons (.v 1) .nil))) (.cons (.call 37 (.bor (.v 0) (.cons (.v 1) .nil))) .nil))) (.cons (.call 43 (.bor (.v 0) (.cons (.call 38 (.bor (.v 0) (.cons (.lst (.cons (.c (.int 1)) (.cons (.c (.int 4)) (.cons (.c (.int 30)) .nil)))) .nil))) .nil))) (.cons (.call 40 (.cons (.bin .add (.c (.int 1)) (.call 37 (.bor (.v 0) (.cons (.c (.int 9)) .nil)))) (.cons (.bin .add (.c (.int 1)) (.call 37 (.bor (.v 0) (.cons (.c (.int 9)) .nil)))) .nil))) .nil))))) .nil)⟩
@[simp] theorem io__law_front : f__law_front.io = some 0 := rfl
/-- _law_reach(front 0, place 1, x 2, y 3, far 4) -/
def f__law_reach : FD := ⟨2, false, none, 5, (.cons (.asg (.t (.cons (.v 2) (.cons (.v 3) .nil))) (.ix (.v 0) (.c (.int 1)))) (.cons (.asg (.v 4) (.bin .add (.bin .mul (.v 2) (.bin .sub (.ix (.v 1) (.c (.int 0))) (.ix (.ix (.v 0) (.c (.int 0))) (.c (.int 0))))) (.bin .mul (.v 3) (.bin .sub (.ix (.v 1) (.c (.int 1))) (.ix (.ix (.v 0) (.c (.int 0))) (.c (.int 1))))))) (.cons (.ret (.call 40 (.cons (.bin .mul (.v 4) (.ix (.ix (.v 0) (.c (.int 2))) (.c (.int 1)))) (.cons (.bin .mul (.bin .add (.bin .mul (.v 2) (.v 2)) (.bin .mul (.v 3) (.v 3))) (.ix (.ix (.v 0) (.c (.int 2))) (.c (.int 0)))) .nil)))) .nil)))⟩
@[simp] theorem io__law_reach : f__law_reach.io = none := rfl
/-- _law_is_on(front 0, point 1, minute 2, x 3, y 4, first 5, second 6, far 7) -/
def f__law_is_on : FD := ⟨3, false, none, 8, (.cons (.asg (.t (.cons (.v 3) (.cons (.v 4) .nil))) (.ix (.v 0) (.c (.int 1)))) (.cons (.par2 5 6 (.call 40 (.cons (.bin .mul (.v 3) (.ix (.ix (.v 1) (.c (.int 0))) (.c (.int 0)))) (.cons (.ix (.ix (.v 1) (.c (.int 0))) (.c (.int 1))) .nil))) (.call 40 (.cons (.bin .mul (.v 4) (.ix (.ix (.v 1) (.c (.int 1))) (.c (.int 0)))) (.cons (.ix (.ix (.v 1) (.c (.int 1))) (.c (.int 1))) .nil)))) (.cons (.asg (.v 7) (.call 41 (.cons (.call 41 (.cons (.v 5) (.cons (.v 6) .nil))) (.cons (.tup (.cons (.bin .sub (.bin .sub (.c (.int 0)) (.bin .mul (.v 3) (.ix (.ix (.v 0) (.c (.int 0))) (.c (.int 0))))) (.bin .mul (.v 4) (.ix (.ix (.v 0) (.c (.int 0))) (.c (.int 1))))) (.cons (.c (.int 1)) .nil))) .nil)))) (.cons (.ret (.cmp .eq (.v 7) (.call 40 (.cons (.bin .mul (.bin .mul (.bin .add (.bin .mul (.v 3) (.v 3)) (.bin .mul (.v 4) (.v 4))) (.ix (.ix (.v 0) (.c (.int 2))) (.c (.int 0)))) (.ix (.v 2) (.c (.int 0)))) (.cons (.bin .mul (.ix (.ix (.v 0) (.c (.int 2))) (.c (.int 1))) (.ix (.v 2) (.c (.int 1)))) .nil))))) .nil))))⟩
@[simp] theorem io__law_is_on : f__law_is_on.io = none := rfl
/-- _law_minute(draws 0) -/
def f__law_minute : FD := ⟨1, false, some 0, 1, (.cons (.ret (.call 40 (.cons (.bin .sub (.call 37 (.bor (.v 0) (.cons (.c (.int 40)) .nil))) (.c (.int 12))) (.cons (.bin .add (.c (.int 1)) (.call 37 (.bor (.v 0) (.cons (.c (.int 6)) .nil)))) .nil)))) .nil)⟩
@[simp] theorem io__law_minute : f__law_minute.io = some 0 := rfl
/-- _law_are_places_due(draws 0, one 1, other 2, places 3, rows 4, late 5, place 6, order 7, first 8, k 9, minute 10, gone 11, gap 12, at 13, n 14, d 15) -/
def e0__law_are_places_due : E := (.call 45 (.cons (.v 1) (.cons (.v 6) .nil)))
def e1__law_are_places_due : E := (.call 45 (.cons (.v 2) (.cons (.v 6) .nil)))
def b2__law_are_places_due : Ss := (.cons (.ite (.or (.not (.call 42 (.cons (.ix (.v 4) (.ix (.v 7) (.v 9))) (.cons (.ix (.v 4) (.ix (.v 7) (.bin .add (.v 9) (.c (.int 1))))) .nil)))) (.and (.cmp .eq (.ix (.v 4) (.ix (.v 7) (.v 9))) (.ix (.v 4) (.ix (.v 7) (.bin .add (.v 9) (.c (.int 1)))))) (.cmp .gt (.ix (.v 7) (.v 9)) (.ix (.v 7) (.bin .add (.v 9) (.c (.int 1))))))) (.cons (.ret (.c (.bool false))) .nil) .nil) .nil)
def e3__law_are_places_due : E := (.v 9)
def ce3__law_are_places_due : Eo := (.yes (.call 42 (.cons (.ix (.v 4) (.v 9)) (.cons (.v 10) .nil))))
def e4__law_are_places_due : E := (.v 9)
def ce4__law_are_places_due : Eo := (.yes (.cmp .inn (.v 9) (.v 11)))
def b5__law_are_places_due : Ss := (.cons (.ite (.cmp .ne (.call 25 (.cons (.v 1) (.cons (.v 2) (.cons (.ix (.v 3) (.v 9)) (.cons (.ix (.v 10) (.c (.int 0))) (.cons (.ix (.v 10) (.c (.int 1))) .nil)))))) (.cmp .ne (.cmp .inn (.v 9) (.v 11)) (.call 42 (.cons (.ix (.v 5) (.v 9)) (.cons (.v 10) .nil))))) (.cons (.ret (.c (.bool false))) .nil) .nil) .nil)
def b6__law_are_places_due : Ss := (.cons (.asg (.v 11) (.call 20 (.cons (.v 1) (.cons (.v 3) (.cons (.ix (.v 10) (.c (.int 0))) (.cons (.ix (.v 10) (.c (.int 1))) .nil)))))) (.cons (.ite (.or (.cmp .ne (.v 11) (.lc e3__law_are_places_due (.v 9) (.rng1 (.bi .len (.bor (.v 3) .nil))) ce3__law_are_places_due [9])) (.cmp .ne (.sl (.v 7) .no (.yes (.bi .len (.bor (.v 11) .nil)))) (.lc e4__law_are_places_due (.v 9) (.seq (.v 7)) ce4__law_are_places_due [9]))) (.cons (.ret (.c (.bool false))) .nil) .nil) (.cons (.for_ (.v 9) (.rng1 (.bi .len (.bor (.v 3) .nil))) b5__law_are_places_due) .nil)))
def b7__law_are_places_due : Ss := (.cons (.asg (.t (.cons (.v 14) (.cons (.v 15) .nil))) (.call 41 (.cons (.ix (.v 4) (.v 9)) (.cons (.tup (.cons (.bin .sub (.c (.int 0)) (.ix (.ix (.v 5) (.v 9)) (.c (.int 0)))) (.cons (.ix (.ix (.v 5) (.v 9)) (.c (.int 1))) .nil))) .nil)))) (.cons (.ite (.or (.not (.call 42 (.cons (.tup (.cons (.bi .abs (.bor (.v 14) .nil)) (.cons (.v 15) .nil))) (.cons (.v 12) .nil)))) (.and (.cmp .lt (.v 9) (.v 13)) (.cmp .eq (.tup (.cons (.bi .abs (.bor (.v 14) .nil)) (.cons (.v 15) .nil))) (.v 12)))) (.cons (.ret (.c (.bool false))) .nil) .nil) .nil))
def e8__law_are_places_due : E := (.tup (.cons (.ix (.v 3) (.v 9)) (.cons (.ix (.v 4) (.v 9)) .nil)))
def f__law_are_places_due : FD := ⟨4, false, some 0, 16, (.cons (.asg (.t (.cons (.v 4) (.cons (.v 5) .nil))) (.tup (.cons (.lc e0__law_are_places_due (.v 6) (.seq (.v 3)) .no [6]) (.cons (.lc e1__law_are_places_due (.v 6) (.seq (.v 3)) .no [6]) .nil)))) (.cons (.par2 7 8 (.call 29 (.cons (.v 1) (.cons (.v 3) .nil))) (.call 19 (.cons (.v 1) (.cons (.v 3) .nil)))) (.cons (.ite (.or (.cmp .ne (.bi .sorted (.bor (.v 7) .nil)) (.li (.rng1 (.bi .len (.bor (.v 3) .nil))))) (.cmp .ne (.v 8) (.ix (.v 7) (.c (.int 0))))) (.cons (.ret (.c (.bool false))) .nil) .nil) (.cons (.for_ (.v 9) (.rng1 (.bin .sub (.bi .len (.bor (.v 7) .nil)) (.c (.int 1)))) b2__law_are_places_due) (.cons (.for_ (.v 10) (.seq (.lst (.cons (.call 47 (.bor (.v 0) .nil)) (.cons (.call 38 (.bor (.v 0) (.cons (.v 4) .nil))) (.cons (.tup (.cons (.c (.int 0)) (.cons (.c (.int 1)) .nil))) .nil))))) b6__law_are_places_due) (.cons (.asg (.t (.cons (.v 12) (.cons (.v 13) .nil))) (.call 30 (.cons (.v 1) (.cons (.v 2) (.cons (.v 3) .nil))))) (.cons (.asg (.t (.cons (.v 14) (.cons (.v 15) .nil))) (.call 41 (.cons (.ix (.v 4) (.v 13)) (.cons (.tup (.cons (.bin .sub (.c (.int 0)) (.ix (.ix (.v 5) (.v 13)) (.c (.int 0)))) (.cons (.ix (.ix (.v 5) (.v 13)) (.c (.int 1))) .nil))) .nil)))) (.cons (.ite (.cmp .ne (.tup (.cons (.bi .abs (.bor (.v 14) .nil)) (.cons (.v 15) .nil))) (.v 12)) (.cons (.ret (.c (.bool false))) .nil) .nil) (.cons (.for_ (.v 9) (.rng1 (.bi .len (.bor (.v 3) .nil))) b7__law_are_places_due) (.cons (.ret (.call 27 (.cons (.v 1) (.cons (.lc e8__law_are_places_due (.v 9) (.rng1 (.bi .len (.bor (.v 3) .nil))) .no [9]) .nil)))) .nil))))))))))⟩
@[simp] theorem io__law_are_places_due : f__law_are_places_due.io = some 0 := rfl
/-- law(script 0, draws 1, one 2, other 3, places 4, k 5, x 6, y 7, place 8, minute 9, beside 10, ahead 11, speed 12, turn 13, here 14, side 15, point 16, back 17, when 18, there 19) -/
def e0_law : E := (.tup (.cons (.call 37 (.bor (.v 1) (.cons (.c (.int 1001)) .nil))) (.cons (.call 37 (.bor (.v 1) (.cons (.c (.int 1001)) .nil))) .nil)))
def s0_b1_law : S := (.asg (.v 9) (.call 17 (.cons (.v 2) (.cons (.v 8) .nil))))
def s1_b1_law : S := (.ite (.or (.cmp .ne (.v 9) (.call 45 (.cons (.v 2) (.cons (.v 8) .nil)))) (.or (.not (.call 46 (.cons (.v 2) (.cons (.tup (.cons (.tup (.cons (.ix (.v 8) (.c (.int 0))) (.cons (.c (.int 1)) .nil))) (.cons (.tup (.cons (.ix (.v 8) (.c (.int 1))) (.cons (.c (.int 1)) .nil))) .nil))) (.cons (.v 9) .nil))))) (.isC (.call 35 (.cons (.v 2) (.cons (.v 8) (.cons (.ix (.v 9) (.c (.int 0))) (.cons (.ix (.v 9) (.c (.int 1))) .nil))))) (.bool true) true))) (.cons (.ret (.c (.bool false))) .nil) .nil)
def s2_b1_law : S := (.asg (.v 10) (.tup (.cons (.bin .sub (.ix (.v 8) (.c (.int 0))) (.v 7)) (.cons (.bin .add (.ix (.v 8) (.c (.int 1))) (.v 6)) .nil))))
def s3_b1_law : S := (.ite (.and (.cmp .le (.c (.int 0)) (.bi .min (.bor (.v 10) .nil))) (.and (.cmp .le (.bi .max (.bor (.v 10) .nil)) (.c (.int 1000))) (.cmp .ne (.call 17 (.cons (.v 2) (.cons (.v 10) .nil))) (.v 9)))) (.cons (.ret (.c (.bool false))) .nil) .nil)
def s4_b1_law : S := (.asg (.v 11) (.tup (.cons (.bin .add (.ix (.v 8) (.c (.int 0))) (.v 6)) (.cons (.bin .add (.ix (.v 8) (.c (.int 1))) (.v 7)) .nil))))
def s5_b1_law : S := (.ite (.and (.cmp .le (.c (.int 0)) (.bi .min (.bor (.v 11) .nil))) (.and (.cmp .le (.bi .max (.bor (.v 11) .nil)) (.c (.int 1000))) (.cmp .ne (.call 17 (.cons (.v 2) (.cons (.v 11) .nil))) (.call 41 (.cons (.v 9) (.cons (.tup (.cons (.ix (.ix (.v 2) (.c (.int 2))) (.c (.int 1))) (.cons (.ix (.ix (.v 2) (.c (.int 2))) (.c (.int 0))) .nil))) .nil)))))) (.cons (.ret (.c (.bool false))) .nil) .nil)
def s6_b1_law : S := (.ite (.and (.cmp .ne (.ix (.v 9) (.c (.int 0))) (.c (.int 0))) (.cmp .ne (.call 28 (.cons (.ix (.v 2) (.c (.int 0))) (.cons (.ix (.v 2) (.c (.int 1))) (.cons (.tup (.cons (.v 8) (.cons (.v 9) .nil))) .nil)))) (.ix (.v 2) (.c (.int 2))))) (.cons (.ret (.c (.bool false))) .nil) .nil)
def s7_b1_law : S := (.asg (.v 12) (.call 28 (.cons (.ix (.v 2) (.c (.int 0))) (.cons (.ix (.v 2) (.c (.int 1))) (.cons (.tup (.cons (.v 8) (.cons (.tup (.cons (.c (.int 7)) (.cons (.c (.int 2)) .nil))) .nil))) .nil)))))
def s8_b1_law : S := (.ite (.or (.cmp .ne (.isC (.v 12) .none false) (.cmp .le (.ix (.v 9) (.c (.int 0))) (.c (.int 0)))) (.and (.isC (.v 12) .none true) (.not (.call 27 (.cons (.tup (.cons (.ix (.v 2) (.c (.int 0))) (.cons (.ix (.v 2) (.c (.int 1))) (.cons (.v 12) .nil)))) (.cons (.lst (.cons (.tup (.cons (.v 8) (.cons (.tup (.cons (.c (.int 7)) (.cons (.c (.int 2)) .nil))) .nil))) .nil)) .nil)))))) (.cons (.ret (.c (.bool false))) .nil) .nil)
def b1_law : Ss := (.cons s0_b1_law (.cons s1_b1_law (.cons s2_b1_law (.cons s3_b1_law (.cons s4_b1_law (.cons s5_b1_law (.cons s6_b1_law (.cons s7_b1_law (.cons s8_b1_law .nil)))))))))
def s0_b2_law : S := (.asg (.v 9) (.call 47 (.bor (.v 1) .nil)))
def s1_b2_law : S := (.asg (.t (.cons (.v 14) (.cons (.v 15) .nil))) (.call 31 (.cons (.v 2) (.cons (.ix (.v 9) (.c (.int 0))) (.cons (.ix (.v 9) (.c (.int 1))) .nil)))))
def s2_b2_law : S := (.ite (.or (.not (.call 46 (.cons (.v 2) (.cons (.v 14) (.cons (.v 9) .nil))))) (.or (.not (.call 46 (.cons (.v 2) (.cons (.v 15) (.cons (.v 9) .nil))))) (.cmp .ne (.v 15) (.tup (.cons (.call 41 (.cons (.ix (.v 14) (.c (.int 0))) (.cons (.tup (.cons (.bin .sub (.c (.int 0)) (.v 7)) (.cons (.c (.int 1)) .nil))) .nil))) (.cons (.call 41 (.cons (.ix (.v 14) (.c (.int 1))) (.cons (.tup (.cons (.v 6) (.cons (.c (.int 1)) .nil))) .nil))) .nil)))))) (.cons (.ret (.c (.bool false))) .nil) .nil)
def s3_b2_law : S := (.par2 16 17 (.call 24 (.cons (.v 2) (.cons (.v 3) (.cons (.ix (.v 9) (.c (.int 0))) (.cons (.ix (.v 9) (.c (.int 1))) .nil))))) (.call 24 (.cons (.v 3) (.cons (.v 2) (.cons (.ix (.v 9) (.c (.int 0))) (.cons (.ix (.v 9) (.c (.int 1))) .nil))))))
def s4_b2_law : S := (.ite (.or (.cmp .ne (.v 16) (.v 17)) (.or (.cmp .ne (.isC (.v 16) .none false) (.cmp .eq (.bin .mul (.v 6) (.ix (.ix (.v 3) (.c (.int 1))) (.c (.int 1)))) (.bin .mul (.v 7) (.ix (.ix (.v 3) (.c (.int 1))) (.c (.int 0)))))) (.and (.isC (.v 16) .none true) (.not (.and (.call 46 (.cons (.v 2) (.cons (.v 16) (.cons (.v 9) .nil)))) (.call 46 (.cons (.v 3) (.cons (.v 16) (.cons (.v 9) .nil))))))))) (.cons (.ret (.c (.bool false))) .nil) .nil)
def b2_law : Ss := (.cons s0_b2_law (.cons s1_b2_law (.cons s2_b2_law (.cons s3_b2_law (.cons s4_b2_law .nil)))))
def s0_law : S := (.asg (.v 1) (.call 36 (.cons (.v 0) .nil)))
def s1_law : S := (.par2 2 3 (.call 44 (.bor (.v 1) (.cons (.c (.int 1001)) .nil))) (.call 44 (.bor (.v 1) (.cons (.c (.int 1001)) .nil))))
def s2_law : S := (.asg (.v 3) (.call 38 (.bor (.v 1) (.cons (.lst (.cons (.v 3) (.cons (.v 3) (.cons (.tup (.cons (.ix (.v 3) (.c (.int 0))) (.cons (.ix (.v 2) (.c (.int 1))) (.cons (.ix (.v 3) (.c (.int 2))) .nil)))) (.cons (.tup (.cons (.ix (.v 3) (.c (.int 0))) (.cons (.tup (.cons (.bin .sub (.c (.int 0)) (.ix (.ix (.v 2) (.c (.int 1))) (.c (.int 0)))) (.cons (.bin .sub (.c (.int 0)) (.ix (.ix (.v 2) (.c (.int 1))) (.c (.int 1)))) .nil))) (.cons (.ix (.v 3) (.c (.int 2))) .nil)))) .nil))))) .nil))))
def s3_law : S := (.asg (.v 4) (.lc e0_law (.v 5) (.rng1 (.bin .add (.c (.int 1)) (.call 37 (.bor (.v 1) (.cons (.c (.int 60)) .nil))))) .no [5]))
def s4_law : S := (.ite (.or (.not (.call 39 (.cons (.lst (.cons (.call 9 (.cons (.v 2) .nil)) (.cons (.call 9 (.cons (.v 3) .nil)) .nil))) (.cons (.lst (.cons (.c (.bool true)) (.cons (.c (.bool true)) .nil))) .nil)))) (.not (.call 48 (.bor (.v 1) (.cons (.v 2) (.cons (.v 3) (.cons (.v 4) .nil))))))) (.cons (.ret (.c (.bool false))) .nil) .nil)
def s5_law : S := (.asg (.t (.cons (.v 6) (.cons (.v 7) .nil))) (.ix (.v 2) (.c (.int 1))))
def s6_law : S := (.for_ (.v 8) (.seq (.sl (.v 4) .no (.yes (.c (.int 8))))) b1_law)
def s7_law : S := (.for_ (.v 13) (.rng1 (.c (.int 6))) b2_law)
def s8_law : S := (.asg (.v 18) (.call 32 (.cons (.v 2) (.cons (.v 3) .nil))))
def s9_law : S := (.ite (.or (.cmp .ne (.v 18) (.call 32 (.cons (.v 3) (.cons (.v 2) .nil)))) (.and (.isC (.v 18) .none true) (.cmp .ne (.bin .mul (.v 6) (.ix (.ix (.v 3) (.c (.int 1))) (.c (.int 1)))) (.bin .mul (.v 7) (.ix (.ix (.v 3) (.c (.int 1))) (.c (.int 0))))))) (.cons (.ret (.c (.bool false))) .nil) .nil)
def s10_law : S := (.ite (.isC (.v 18) .none true) (.cons (.asg (.t (.cons (.v 14) (.cons (.v 19) .nil))) (.call 31 (.cons (.v 2) (.cons (.ix (.v 18) (.c (.int 0))) (.cons (.ix (.v 18) (.c (.int 1))) .nil))))) (.cons (.ret (.and (.call 46 (.cons (.v 3) (.cons (.v 14) (.cons (.v 18) .nil)))) (.call 46 (.cons (.v 3) (.cons (.v 19) (.cons (.v 18) .nil)))))) .nil)) .nil)
def s11_law : S := (.ret (.or (.cmp .ne (.bin .mul (.v 6) (.ix (.ix (.v 3) (.c (.int 1))) (.c (.int 1)))) (.bin .mul (.v 7) (.ix (.ix (.v 3) (.c (.int 1))) (.c (.int 0))))) (.and (.cmp .eq (.ix (.v 3) (.c (.int 1))) (.ix (.v 2) (.c (.int 1)))) (.cmp .eq (.ix (.v 2) (.c (.int 2))) (.ix (.v 3) (.c (.int 2)))))))
def f_law : FD := ⟨1, false, none, 20, (.cons s0_law (.cons s1_law (.cons s2_law (.cons s3_law (.cons s4_law (.cons s5_law (.cons s6_law (.cons s7_law (.cons s8_law (.cons s9_law (.cons s10_law (.cons s11_law .nil))))))))))))⟩
@[simp] theorem io_law : f_law.io = none := rfl
def defs : List FD := [f_is_integer, f_is_within, f_check, f_shared, f_ratio, f_is_reach, f_is_bearing, f_is_place_fronts, f_is_ratio_fronts, f_is_front, f_check_front, f_check_places, f_along, f_speed_of, f_over, f_reached, f_is_less, f_reaches_at, f_least_of, f_first_reached, f_passed_by, f_check_fronts, f_across, f_line_at, f_meet_point, f_is_between, f_is_reading, f_does_fit, f_fitted_speed, f_order_of_reaching, f_longest_between, f_moved_front, f_same_line, f_is_place_checkwoods, f_is_ratio_checkwoods, f_takes_reach, f__law_draws, f__law_take, f__law_pick, f__law_same, f__law_ratio, f__law_plus, f__law_is_at_most, f__law_bearing, f__law_front, f__law_reach, f__law_is_on, f__law_minute, f__law_are_places_due, f_law]
def gi : List (Str × Int) := [("GREATEST", (1000000000)), ("FARTHEST", (1000)), ("MOST_PLACES", (60))]
def globs : List D := gi.map fun q => PyData.int q.2
abbrev i_is_integer : Nat := 0
@[simp] theorem d_is_integer : defs[0]? = some f_is_integer := rfl
abbrev i_is_within : Nat := 1
@[simp] theorem d_is_within : defs[1]? = some f_is_within := rfl
abbrev i_check : Nat := 2
@[simp] theorem d_check : defs[2]? = some f_check := rfl
abbrev i_shared : Nat := 3
@[simp] theorem d_shared : defs[3]? = some f_shared := rfl
abbrev i_ratio : Nat := 4
@[simp] theorem d_ratio : defs[4]? = some f_ratio := rfl
abbrev i_is_reach : Nat := 5
@[simp] theorem d_is_reach : defs[5]? = some f_is_reach := rfl
abbrev i_is_bearing : Nat := 6
@[simp] theorem d_is_bearing : defs[6]? = some f_is_bearing := rfl
abbrev i_is_place_fronts : Nat := 7
@[simp] theorem d_is_place_fronts : defs[7]? = some f_is_place_fronts := rfl
abbrev i_is_ratio_fronts : Nat := 8
@[simp] theorem d_is_ratio_fronts : defs[8]? = some f_is_ratio_fronts := rfl
abbrev i_is_front : Nat := 9
@[simp] theorem d_is_front : defs[9]? = some f_is_front := rfl
abbrev i_check_front : Nat := 10
@[simp] theorem d_check_front : defs[10]? = some f_check_front := rfl
abbrev i_check_places : Nat := 11
@[simp] theorem d_check_places : defs[11]? = some f_check_places := rfl
abbrev i_along : Nat := 12
@[simp] theorem d_along : defs[12]? = some f_along := rfl
abbrev i_speed_of : Nat := 13
@[simp] theorem d_speed_of : defs[13]? = some f_speed_of := rfl
abbrev i_over : Nat := 14
@[simp] theorem d_over : defs[14]? = some f_over := rfl
abbrev i_reached : Nat := 15
@[simp] theorem d_reached : defs[15]? = some f_reached := rfl
abbrev i_is_less : Nat := 16
@[simp] theorem d_is_less : defs[16]? = some f_is_less := rfl
abbrev i_reaches_at : Nat := 17
@[simp] theorem d_reaches_at : defs[17]? = some f_reaches_at := rfl
abbrev i_least_of : Nat := 18
@[simp] theorem d_least_of : defs[18]? = some f_least_of := rfl
abbrev i_first_reached : Nat := 19
@[simp] theorem d_first_reached : defs[19]? = some f_first_reached := rfl
abbrev i_passed_by : Nat := 20
@[simp] theorem d_passed_by : defs[20]? = some f_passed_by := rfl
abbrev i_check_fronts : Nat := 21
@[simp] theorem d_check_fronts : defs[21]? = some f_check_fronts := rfl
abbrev i_across : Nat := 22
@[simp] theorem d_across : defs[22]? = some f_across := rfl
abbrev i_line_at : Nat := 23
@[simp] theorem d_line_at : defs[23]? = some f_line_at := rfl
abbrev i_meet_point : Nat := 24
@[simp] theorem d_meet_point : defs[24]? = some f_meet_point := rfl
abbrev i_is_between : Nat := 25
@[simp] theorem d_is_between : defs[25]? = some f_is_between := rfl
abbrev i_is_reading : Nat := 26
@[simp] theorem d_is_reading : defs[26]? = some f_is_reading := rfl
abbrev i_does_fit : Nat := 27
@[simp] theorem d_does_fit : defs[27]? = some f_does_fit := rfl
abbrev i_fitted_speed : Nat := 28
@[simp] theorem d_fitted_speed : defs[28]? = some f_fitted_speed := rfl
abbrev i_order_of_reaching : Nat := 29
@[simp] theorem d_order_of_reaching : defs[29]? = some f_order_of_reaching := rfl
abbrev i_longest_between : Nat := 30
@[simp] theorem d_longest_between : defs[30]? = some f_longest_between := rfl
abbrev i_moved_front : Nat := 31
@[simp] theorem d_moved_front : defs[31]? = some f_moved_front := rfl
abbrev i_same_line : Nat := 32
@[simp] theorem d_same_line : defs[32]? = some f_same_line := rfl
abbrev i_is_place_checkwoods : Nat := 33
@[simp] theorem d_is_place_checkwoods : defs[33]? = some f_is_place_checkwoods := rfl
abbrev i_is_ratio_checkwoods : Nat := 34
@[simp] theorem d_is_ratio_checkwoods : defs[34]? = some f_is_ratio_checkwoods := rfl
abbrev i_takes_reach : Nat := 35
@[simp] theorem d_takes_reach : defs[35]? = some f_takes_reach := rfl
abbrev i__law_draws : Nat := 36
@[simp] theorem d__law_draws : defs[36]? = some f__law_draws := rfl
abbrev i__law_take : Nat := 37
@[simp] theorem d__law_take : defs[37]? = some f__law_take := rfl
abbrev i__law_pick : Nat := 38
@[simp] theorem d__law_pick : defs[38]? = some f__law_pick := rfl
abbrev i__law_same : Nat := 39
@[simp] theorem d__law_same : defs[39]? = some f__law_same := rfl
abbrev i__law_ratio : Nat := 40
@[simp] theorem d__law_ratio : defs[40]? = some f__law_ratio := rfl
abbrev i__law_plus : Nat := 41
@[simp] theorem d__law_plus : defs[41]? = some f__law_plus := rfl
abbrev i__law_is_at_most : Nat := 42
@[simp] theorem d__law_is_at_most : defs[42]? = some f__law_is_at_most := rfl
abbrev i__law_bearing : Nat := 43
@[simp] theorem d__law_bearing : defs[43]? = some f__law_bearing := rfl
abbrev i__law_front : Nat := 44
@[simp] theorem d__law_front : defs[44]? = some f__law_front := rfl
abbrev i__law_reach : Nat := 45
@[simp] theorem d__law_reach : defs[45]? = some f__law_reach := rfl
abbrev i__law_is_on : Nat := 46
@[simp] theorem d__law_is_on : defs[46]? = some f__law_is_on := rfl
abbrev i__law_minute : Nat := 47
@[simp] theorem d__law_minute : defs[47]? = some f__law_minute := rfl
abbrev i__law_are_places_due : Nat := 48
@[simp] theorem d__law_are_places_due : defs[48]? = some f__law_are_places_due := rfl
abbrev i_law : Nat := 49
@[simp] theorem d_law : defs[49]? = some f_law := rfl
@[simp] theorem g_0 : globs[0]? = some (.int (1000000000)) := rfl
@[simp] theorem g_1 : globs[1]? = some (.int (1000)) := rfl
@[simp] theorem g_2 : globs[2]? = some (.int (60)) := rfl
end K3
end

section
/-! Q3 -/
set_option linter.all false
set_option maxRecDepth 100000
/-! Q3: ratios and fronts, plain. -/
namespace K3
theorem num_div (a b : Int) (h : 0 < b) : ((a : Rat) / (b : Rat)).num = a / (Int.gcd a b) := by
  rw [← Rat.divInt_eq_div, Rat.num_divInt, Int.sign_eq_one_of_pos h, Int.one_mul, Int.gcd_comm]
theorem den_div (a b : Int) (h : 0 < b) : (((a : Rat) / (b : Rat)).den : Int) = b / (Int.gcd a b) := by
  rw [← Rat.divInt_eq_div, Rat.den_divInt, if_neg (by omega), Int.gcd_comm]
  rw [Int.natCast_ediv]
  congr 1
  omega
theorem den_ne (r : Rat) : ((r.den : Int) : Rat) ≠ 0 := by
  have := r.den_pos
  intro h
  rw [Rat.intCast_eq_zero_iff] at h
  omega
theorem nd (r : Rat) : (r.num : Rat) = r * ((r.den : Int) : Rat) := by
  have h := Rat.num_divInt_den r
  rw [Rat.divInt_eq_div] at h
  have := den_ne r
  grind
theorem ndi (r : Rat) : (r.num : Rat) / ((r.den : Int) : Rat) = r := by
  have h := Rat.num_divInt_den r
  rw [Rat.divInt_eq_div] at h
  exact h
theorem gcd_nd (r : Rat) : Int.gcd r.num r.den = 1 := r.reduced
theorem num_pos {r : Rat} : 0 < r.num ↔ 0 < r := by
  have := @Rat.num_nonneg r
  have h2 := @Rat.num_eq_zero r
  constructor
  · intro h
    have : 0 ≤ r := by rw [← Rat.num_nonneg]; omega
    have h3 : r ≠ 0 := by intro h; rw [← h2] at h; omega
    grind
  · intro h
    have : 0 ≤ r := by grind
    have h3 : r ≠ 0 := by grind
    have h4 : r.num ≠ 0 := by rw [Ne, h2]; exact h3
    rw [← Rat.num_nonneg] at this
    omega
/-! sizes -/
def lt2 (k : Nat) (a : Int) : Prop := a.natAbs < 2 ^ k
theorem lt2_mono {j k : Nat} {a : Int} (h : lt2 j a) (hk : j ≤ k) : lt2 k a := Nat.lt_of_lt_of_le h (Nat.pow_le_pow_right (by decide) hk)
theorem lt2_mul {j k : Nat} {a b : Int} (h : lt2 j a) (h2 : lt2 k b) : lt2 (j + k) (a * b) := by
  unfold lt2 at *
  rw [Int.natAbs_mul, Nat.pow_add]
  exact Nat.mul_lt_mul'' h h2
theorem pow_max (j k : Nat) : 2 ^ j + 2 ^ k ≤ 2 ^ (max j k + 1) := by
  have h1 : 2 ^ j ≤ 2 ^ max j k := Nat.pow_le_pow_right (by decide) (Nat.le_max_left _ _)
  have h2 : 2 ^ k ≤ 2 ^ max j k := Nat.pow_le_pow_right (by decide) (Nat.le_max_right _ _)
  rw [Nat.pow_succ]
  omega
theorem lt2_add {j k : Nat} {a b : Int} (h : lt2 j a) (h2 : lt2 k b) : lt2 (max j k + 1) (a + b) := by
  unfold lt2 at *
  have := Int.natAbs_add_le a b
  have := pow_max j k
  omega
theorem lt2_neg {j : Nat} {a : Int} (h : lt2 j a) : lt2 j (-a) := by unfold lt2 at *; rw [Int.natAbs_neg]; exact h
theorem lt2_sub {j k : Nat} {a b : Int} (h : lt2 j a) (h2 : lt2 k b) : lt2 (max j k + 1) (a - b) := by
  rw [Int.sub_eq_add_neg]
  exact lt2_add h (lt2_neg h2)
theorem lt2_dvd {j : Nat} {a b : Int} (h : lt2 j a) (hb : b ∣ a) (h0 : a ≠ 0) : lt2 j b := by
  unfold lt2 at *
  have := Nat.le_of_dvd (by omega) (Int.natAbs_dvd_natAbs.mpr hb)
  omega
theorem lt2_abs {j : Nat} {a : Int} (h : lt2 j a) : lt2 j (a.natAbs : Int) := by unfold lt2 at *; omega
theorem lt2_ediv {j : Nat} {a b : Int} (h : lt2 j a) (hb : 0 ≤ b) : lt2 j (a / b) := by
  unfold lt2 at *
  have := Int.natAbs_ediv_le_natAbs a b
  omega
def Bd (k : Nat) (r : Rat) : Prop := lt2 k r.num ∧ lt2 k r.den
theorem bd_mono {j k : Nat} {r : Rat} (h : Bd j r) (hk : j ≤ k) : Bd k r := ⟨lt2_mono h.1 hk, lt2_mono h.2 hk⟩
theorem bd_div {k : Nat} {a b : Int} (h : 0 < b) (ha : lt2 k a) (hb : lt2 k b) : Bd k ((a : Rat) / (b : Rat)) := by
  constructor
  · rw [num_div a b h]; exact lt2_ediv ha (by omega)
  · rw [den_div a b h]; exact lt2_ediv hb (by omega)
/-! fronts -/
structure Fr where
  px : Int
  py : Int
  bx : Int
  by' : Int
  s : Rat
def okP (p : Int × Int) : Prop := (0 ≤ p.1 ∧ p.1 ≤ 1000) ∧ (0 ≤ p.2 ∧ p.2 ≤ 1000)
structure Fr.ok (f : Fr) : Prop where
  p : okP (f.px, f.py)
  bx : f.bx.natAbs ≤ 1000000000
  by' : f.by'.natAbs ≤ 1000000000
  g : Int.gcd f.bx f.by' = 1
  s : 0 < f.s
  sb : Bd 30 f.s
/-- how far along the bearing -/
def Fr.F (f : Fr) (p : Int × Int) : Int := f.bx * p.1 + f.by' * p.2 - (f.bx * f.px + f.by' * f.py)
def Fr.N (f : Fr) : Int := f.bx * f.bx + f.by' * f.by'
def Fr.rt (f : Fr) (p : Int × Int) : Rat := (f.F p : Rat) / ((f.N : Rat) * f.s)
theorem sq_nonneg (a : Int) : 0 ≤ a * a := by
  rcases Int.le_total 0 a with h | h
  · exact Int.mul_nonneg h h
  · exact Int.mul_nonneg_of_nonpos_of_nonpos h h
theorem Fr.ok.N_pos {f : Fr} (h : f.ok) : 0 < f.N := by
  have h1 := sq_nonneg f.bx
  have h2 := sq_nonneg f.by'
  have : f.N ≠ 0 := by
    intro h0
    unfold Fr.N at h0
    have a1 : f.bx * f.bx = 0 := by omega
    have a2 : f.by' * f.by' = 0 := by omega
    have a3 : f.bx = 0 := by rcases Int.mul_eq_zero.mp a1 with h | h <;> exact h
    have a4 : f.by' = 0 := by rcases Int.mul_eq_zero.mp a2 with h | h <;> exact h
    have := h.g
    rw [a3, a4] at this
    simp at this
  unfold Fr.N at *
  omega
theorem Fr.ok.Nq {f : Fr} (h : f.ok) : (0 : Rat) < (f.N : Rat) := Rat.intCast_pos.mpr h.N_pos
theorem Fr.ok.Ns {f : Fr} (h : f.ok) : (0 : Rat) < (f.N : Rat) * f.s := Rat.mul_pos h.Nq h.s
theorem Fr.ok.num {f : Fr} (h : f.ok) : 0 < f.s.num := num_pos.mpr h.s
theorem Fr.ok.Nn {f : Fr} (h : f.ok) : 0 < f.N * f.s.num := Int.mul_pos h.N_pos h.num
theorem rt_eq {f : Fr} (h : f.ok) (p : Int × Int) : ((f.F p * f.s.den : Int) : Rat) / ((f.N * f.s.num : Int) : Rat) = f.rt p := by
  unfold Fr.rt
  have h1 := h.Ns
  have h2 := den_ne f.s
  have h3 := nd f.s
  have h4 := h.Nq
  have h5 := h.s
  push_cast at *
  grind
theorem rt_le {f : Fr} (h : f.ok) (p p' : Int × Int) : f.rt p ≤ f.rt p' ↔ f.F p ≤ f.F p' := by
  unfold Fr.rt
  have h1 := h.Ns
  generalize (f.N : Rat) * f.s = c at *
  rw [← Rat.intCast_le_intCast, Rat.div_def, Rat.div_def]
  have : 0 < c⁻¹ := Rat.inv_pos.mpr h1
  constructor
  · intro h; exact Rat.le_of_mul_le_mul_right h this
  · intro h; exact Rat.mul_le_mul_of_nonneg_right h (by grind)
theorem lt2_30 {a : Int} (h : a.natAbs ≤ 1000000000) : lt2 30 a := by
  unfold lt2
  have : (2 : Nat) ^ 30 = 1073741824 := by decide
  omega
theorem okP_x {p : Int × Int} (h : okP p) : lt2 30 p.1 ∧ lt2 30 p.2 := by
  obtain ⟨⟨h1, h2⟩, h3, h4⟩ := h
  exact ⟨lt2_30 (by omega), lt2_30 (by omega)⟩
theorem bd_F {f : Fr} (h : f.ok) {p : Int × Int} (hp : okP p) : lt2 62 (f.F p) := by
  have h1 := lt2_30 h.bx
  have h2 := lt2_30 h.by'
  obtain ⟨h3, h4⟩ := okP_x hp
  obtain ⟨h5, h6⟩ := okP_x h.p
  exact lt2_mono (lt2_sub (lt2_add (lt2_mul h1 h3) (lt2_mul h2 h4)) (lt2_add (lt2_mul h1 h5) (lt2_mul h2 h6))) (by decide)
theorem bd_N {f : Fr} (h : f.ok) : lt2 61 f.N := by
  have h1 := lt2_30 h.bx
  have h2 := lt2_30 h.by'
  exact lt2_mono (lt2_add (lt2_mul h1 h1) (lt2_mul h2 h2)) (by decide)
theorem bd_rt {f : Fr} (h : f.ok) {p : Int × Int} (hp : okP p) : Bd 100 (f.rt p) := by
  rw [← rt_eq h p]
  exact bd_div h.Nn (lt2_mono (lt2_mul (bd_F h hp) h.sb.2) (by decide)) (lt2_mono (lt2_mul (bd_N h) h.sb.1) (by decide))
/-- how far a line lies -/
def Fr.L (f : Fr) (t : Rat) : Rat := ((f.bx * f.px + f.by' * f.py : Int) : Rat) + (f.N : Rat) * f.s * t
def Fr.on (f : Fr) (X Y t : Rat) : Prop := (f.bx : Rat) * X + (f.by' : Rat) * Y = f.L t
def hx (f : Fr) (t : Rat) : Rat := (f.px : Rat) + (f.bx : Rat) * f.s * t
def hy (f : Fr) (t : Rat) : Rat := (f.py : Rat) + (f.by' : Rat) * f.s * t
theorem on_here (f : Fr) (t : Rat) : f.on (hx f t) (hy f t) t := by
  unfold Fr.on hx hy Fr.L Fr.N
  push_cast
  grind
theorem on_side (f : Fr) (t : Rat) : f.on (hx f t - f.by') (hy f t + f.bx) t := by
  unfold Fr.on hx hy Fr.L Fr.N
  push_cast
  grind
def wh (f g : Fr) : Int := f.bx * g.by' - f.by' * g.bx
def mx (f g : Fr) (t : Rat) : Rat := (f.L t * g.by' - g.L t * f.by') / (wh f g : Rat)
def my (f g : Fr) (t : Rat) : Rat := (g.L t * f.bx - f.L t * g.bx) / (wh f g : Rat)
theorem on_meet (f g : Fr) (t : Rat) (h : wh f g ≠ 0) : f.on (mx f g t) (my f g t) t ∧ g.on (mx f g t) (my f g t) t := by
  have h' : (wh f g : Rat) ≠ 0 := by rw [Ne, Rat.intCast_eq_zero_iff]; exact h
  unfold Fr.on mx my
  unfold wh at *
  push_cast at *
  generalize f.L t = a at *
  generalize g.L t = b at *
  constructor <;> grind
theorem meet_comm (f g : Fr) (t : Rat) (h : wh f g ≠ 0) : mx g f t = mx f g t ∧ my g f t = my f g t := by
  have h' : (wh f g : Rat) ≠ 0 := by rw [Ne, Rat.intCast_eq_zero_iff]; exact h
  unfold mx my
  unfold wh at *
  push_cast at *
  generalize f.L t = a at *
  generalize g.L t = b at *
  constructor <;> grind
end K3
end

section
/-! Q3b -/
set_option linter.all false
set_option maxRecDepth 100000
namespace K3
theorem Int.dvd_of_dvd_mul_right_of_gcd_one' {a b c : Int} (h : a ∣ b * c) (h1 : Int.gcd a b = 1) : a ∣ c := by
  have h2 : a.natAbs ∣ b.natAbs * c.natAbs := by rw [← Int.natAbs_mul]; exact Int.natAbs_dvd_natAbs.mpr h
  exact Int.natAbs_dvd_natAbs.mp (Nat.Coprime.dvd_of_dvd_mul_left h1 h2)
theorem par {a b c d : Int} (h1 : Int.gcd a b = 1) (h2 : Int.gcd c d = 1) (h : a * d = b * c) : (c = a ∧ d = b) ∨ (c = -a ∧ d = -b) := by
  have hu : ∃ u, c = a * u ∧ d = b * u := by
    by_cases h0 : a = 0
    · subst h0
      have hb : b = 1 ∨ b = -1 := by
        rw [Int.gcd_zero_left] at h1; omega
      refine ⟨b * d, ?_, ?_⟩ <;> rcases hb with rfl | rfl <;> omega
    · have hd : a ∣ b * c := ⟨d, h.symm⟩
      obtain ⟨u, rfl⟩ : a ∣ c := Int.dvd_of_dvd_mul_right_of_gcd_one' hd h1
      refine ⟨u, rfl, ?_⟩
      have : a * d = a * (b * u) := by rw [h]; grind
      exact Int.eq_of_mul_eq_mul_left h0 this
  obtain ⟨u, rfl, rfl⟩ := hu
  rw [Int.gcd_mul_right, h1] at h2
  have : u = 1 ∨ u = -1 := by omega
  rcases this with rfl | rfl
  · left; constructor <;> omega
  · right; constructor <;> omega
def same (f g : Fr) : Int := if f.bx = g.bx ∧ f.by' = g.by' then 1 else -1
def nr (f g : Fr) : Rat := (f.N : Rat) * f.s - same f g * ((g.N : Rat) * g.s)
def sl (f g : Fr) : Option Rat := if wh f g = 0 then (if nr f g = 0 then (if f.F (g.px, g.py) = 0 then some 0 else none) else some ((f.F (g.px, g.py) : Rat) / nr f g)) else none
theorem wh_same {f g : Fr} (hf : f.ok) (hg : g.ok) (h : wh f g = 0) : g.bx = same f g * f.bx ∧ g.by' = same f g * f.by' ∧ (same f g = 1 ∨ same f g = -1) := by
  unfold same
  have h' : f.bx * g.by' = f.by' * g.bx := by unfold wh at h; omega
  rcases par hf.g hg.g h' with ⟨h1, h2⟩ | ⟨h1, h2⟩
  · rw [if_pos ⟨h1.symm, h2.symm⟩]; omega
  · split
    · rename_i h3; omega
    · omega
theorem wh_comm (f g : Fr) : wh g f = - wh f g := by unfold wh; grind
theorem same_comm (f g : Fr) : same g f = same f g := by
  unfold same
  by_cases h : f.bx = g.bx ∧ f.by' = g.by'
  · rw [if_pos h, if_pos ⟨h.1.symm, h.2.symm⟩]
  · rw [if_neg h, if_neg (fun h' => h ⟨h'.1.symm, h'.2.symm⟩)]
theorem NN {f g : Fr} (hf : f.ok) (hg : g.ok) (h : wh f g = 0) : g.N = f.N := by
  obtain ⟨h1, h2, h3⟩ := wh_same hf hg h
  unfold Fr.N
  rw [h1, h2]
  rcases h3 with h3 | h3 <;> rw [h3] <;> grind
theorem FF {f g : Fr} (hf : f.ok) (hg : g.ok) (h : wh f g = 0) : g.F (f.px, f.py) = - same f g * f.F (g.px, g.py) := by
  obtain ⟨h1, h2, h3⟩ := wh_same hf hg h
  unfold Fr.F
  rw [h1, h2]
  grind
theorem nr_comm {f g : Fr} (hf : f.ok) (hg : g.ok) (h : wh f g = 0) : nr g f = - (same f g : Rat) * nr f g := by
  obtain ⟨h1, h2, h3⟩ := wh_same hf hg h
  unfold nr
  rw [same_comm, NN hf hg h]
  rcases h3 with h3 | h3 <;> rw [h3] <;> push_cast <;> grind
theorem sl_comm {f g : Fr} (hf : f.ok) (hg : g.ok) : sl g f = sl f g := by
  unfold sl
  have e : (wh g f = 0) = (wh f g = 0) := by rw [wh_comm]; exact propext ⟨by omega, by omega⟩
  simp only [e]
  by_cases h : wh f g = 0
  · obtain ⟨h1, h2, h3⟩ := wh_same hf hg h
    rw [if_pos h, if_pos h, nr_comm hf hg h, FF hf hg h]
    rcases h3 with h3 | h3 <;> rw [h3]
    · have e1 : (-((1 : Int) : Rat) * nr f g = 0) = (nr f g = 0) := by push_cast; exact propext ⟨by grind, by grind⟩
      have e2 : (-1 * f.F (g.px, g.py) = 0) = (f.F (g.px, g.py) = 0) := propext ⟨by omega, by omega⟩
      simp only [e1, e2]
      by_cases h4 : nr f g = 0
      · simp [h4]
      · simp only [h4, if_false]
        congr 1
        push_cast
        grind
    · have e1 : (-((-1 : Int) : Rat) * nr f g = 0) = (nr f g = 0) := by push_cast; exact propext ⟨by grind, by grind⟩
      have e2 : (- -1 * f.F (g.px, g.py) = 0) = (f.F (g.px, g.py) = 0) := propext ⟨by omega, by omega⟩
      simp only [e1, e2]
      by_cases h4 : nr f g = 0
      · simp [h4]
      · simp only [h4, if_false]
        congr 1
        push_cast
        grind
  · rw [if_neg h, if_neg h]
theorem sl_wh {f g : Fr} {w : Rat} (h : sl f g = some w) : wh f g = 0 := by
  unfold sl at h
  split at h
  · assumption
  · cases h
theorem sl_eq {f g : Fr} {w : Rat} (h : sl f g = some w) : w * nr f g = (f.F (g.px, g.py) : Rat) := by
  unfold sl at h
  split at h
  · split at h
    · split at h
      · cases h
        rename_i h1 h2 h3
        rw [h2, h3]
        simp
      · cases h
    · cases h
      grind
  · cases h
theorem sl_on {f g : Fr} (hf : f.ok) (hg : g.ok) {w : Rat} (h : sl f g = some w) : g.on (hx f w) (hy f w) w ∧ g.on (hx f w - f.by') (hy f w + f.bx) w := by
  have h0 := sl_wh h
  obtain ⟨h1, h2, h3⟩ := wh_same hf hg h0
  have h4 := sl_eq h
  unfold nr Fr.F at h4
  unfold Fr.on hx hy Fr.L
  rw [NN hf hg h0] at *
  rw [h1, h2]
  rcases h3 with h3 | h3 <;> rw [h3] at h4 ⊢ <;> unfold Fr.N at * <;> push_cast at * <;> constructor <;> grind
theorem sl_none {f g : Fr} (hf : f.ok) (hg : g.ok) (h0 : wh f g = 0) (h : sl f g = none) : (g.bx = f.bx ∧ g.by' = f.by') ∧ f.s = g.s := by
  obtain ⟨h1, h2, h3⟩ := wh_same hf hg h0
  unfold sl at h
  rw [if_pos h0] at h
  have h5 : nr f g = 0 := by
    split at h
    · assumption
    · cases h
  have h6 := hf.Nq
  have h7 := hf.s
  have h8 := hg.s
  have h9 := hf.Ns
  have h10 := hg.Ns
  unfold nr at h5
  rw [NN hf hg h0] at h5 h10
  rcases h3 with h3 | h3
  · rw [h3] at h1 h2 h5
    refine ⟨by omega, ?_⟩
    push_cast at h5
    have : (f.N : Rat) * (f.s - g.s) = 0 := by grind
    rcases Rat.mul_eq_zero.mp this with h | h <;> grind
  · rw [h3] at h5
    push_cast at h5
    grind
/-! orders -/
theorem take_filter {α : Type} {R : α → α → Prop} {p : α → Bool} (hp : ∀ a b, R a b → p b = true → p a = true) : ∀ {l : List α}, l.Pairwise R → l.filter p = l.take (l.filter p).length
  | [], _ => rfl
  | a :: l, h => by
    rw [List.pairwise_cons] at h
    by_cases ha : p a = true
    · rw [List.filter_cons_of_pos ha, List.length_cons, List.take_succ_cons, ← take_filter hp h.2]
    · rw [List.filter_cons_of_neg ha]
      have : l.filter p = [] := by
        rw [List.filter_eq_nil_iff]
        intro b hb hpb
        exact ha (hp a b (h.1 b hb) hpb)
      rw [this]
      rfl
end K3
end

section
/-! Q3c -/
set_option linter.all false
set_option maxRecDepth 100000
namespace K3
def le2 (a b : Int × Int) : Bool := decide (a.1 < b.1 ∨ (a.1 = b.1 ∧ a.2 ≤ b.2))
def leI (a b : Int) : Bool := decide (a ≤ b)
def ordL (K : Nat → Int) (n : Nat) : List (Int × Int) := ((List.range n).map fun k => (K k, (k : Int))).mergeSort le2
def order (K : Nat → Int) (n : Nat) : List Nat := (ordL K n).map (·.2.toNat)
theorem ordL_mem {K : Nat → Int} {n : Nat} {x : Int × Int} (h : x ∈ ordL K n) : ∃ k, k < n ∧ x = (K k, (k : Int)) := by
  unfold ordL at h
  rw [List.mem_mergeSort, List.mem_map] at h
  obtain ⟨k, hk, rfl⟩ := h
  exact ⟨k, List.mem_range.mp hk, rfl⟩
theorem order_perm (K : Nat → Int) (n : Nat) : (order K n).Perm (List.range n) := by
  have h := (List.mergeSort_perm ((List.range n).map fun k => (K k, (k : Int))) le2).map (·.2.toNat)
  rw [List.map_map] at h
  have e : ((fun x : Int × Int => x.2.toNat) ∘ fun k => (K k, (k : Int))) = id := by funext k; simp
  rw [e, List.map_id] at h
  exact h
theorem ordL_snd (K : Nat → Int) (n : Nat) : (ordL K n).map (·.2) = (order K n).map (fun (k : Nat) => (k : Int)) := by
  unfold order
  rw [List.map_map]
  apply List.map_congr_left
  intro x hx
  obtain ⟨k, hk, rfl⟩ := ordL_mem hx
  simp
def Rk (K : Nat → Int) (i j : Nat) : Prop := K i < K j ∨ (K i = K j ∧ i < j)
theorem order_pw (K : Nat → Int) (n : Nat) : (order K n).Pairwise (Rk K) := by
  have h1 : (ordL K n).Pairwise (fun a b => le2 a b = true) := List.pairwise_mergeSort (by
    intro a b c h1 h2
    unfold le2 at *
    rw [decide_eq_true_eq] at *
    omega) (by
    intro a b
    unfold le2
    rw [Bool.or_eq_true, decide_eq_true_eq, decide_eq_true_eq]
    omega) _
  have h2 : (order K n).Pairwise (· ≠ ·) := (order_perm K n).nodup_iff.mpr List.nodup_range
  unfold order at h2 ⊢
  rw [List.pairwise_map] at h2 ⊢
  have h3 := h1.and h2
  apply h3.imp_of_mem
  intro a b ha hb ⟨hab, hn⟩
  obtain ⟨i, hi, rfl⟩ := ordL_mem ha
  obtain ⟨j, hj, rfl⟩ := ordL_mem hb
  unfold le2 at hab
  rw [decide_eq_true_eq] at hab
  unfold Rk
  simp at *
  omega
theorem order_sorted (K : Nat → Int) (n : Nat) : ((order K n).map (fun (k : Nat) => (k : Int))).mergeSort leI = (List.range n).map (fun (k : Nat) => (k : Int)) := by
  have e : ∀ l : List Nat, (l.map (fun (k : Nat) => (k : Int))).mergeSort leI = (l.mergeSort (fun a b => decide (a ≤ b))).map (fun (k : Nat) => (k : Int)) := by
    intro l
    rw [List.map_mergeSort (s := leI)]
    intro a _ b _
    simp [leI]
  rw [e]
  congr 1
  have h1 := ((order_perm K n).symm.trans (List.mergeSort_perm (order K n) (fun a b => decide (a ≤ b))).symm).symm
  refine h1.eq_of_pairwise (le := fun a b => a ≤ b) ?_ ?_ ?_
  · intro a b _ _ h2 h3; omega
  · have := List.pairwise_mergeSort (le := fun (a b : Nat) => decide (a ≤ b)) (by intro a b c; simp; omega) (by intro a b; simp; omega) (order K n)
    exact this.imp (by intro a b h; simpa using h)
  · exact List.pairwise_lt_range.imp (by intro a b h; omega)
theorem order_len (K : Nat → Int) (n : Nat) : (order K n).length = n := by rw [(order_perm K n).length_eq, List.length_range]
theorem order_mem {K : Nat → Int} {n i : Nat} (h : i ∈ order K n) : i < n := by
  rw [(order_perm K n).mem_iff] at h
  exact List.mem_range.mp h
theorem order_get {K : Nat → Int} {n k : Nat} (h : k < n) : ∃ i, (order K n)[k]? = some i ∧ i < n := by
  have : k < (order K n).length := by rw [order_len]; exact h
  exact ⟨_, List.getElem?_eq_getElem this, order_mem (List.getElem_mem this)⟩
theorem order_next {K : Nat → Int} {n k i j : Nat} (h1 : (order K n)[k]? = some i) (h2 : (order K n)[k + 1]? = some j) : Rk K i j := by
  have h := order_pw K n
  rw [List.pairwise_iff_getElem] at h
  obtain ⟨a1, rfl⟩ := List.getElem?_eq_some_iff.mp h1
  obtain ⟨a2, rfl⟩ := List.getElem?_eq_some_iff.mp h2
  exact h k (k + 1) a1 a2 (by omega)
theorem order_head {K : Nat → Int} {n b : Nat} (hb : b < n) (h : ∀ k, k < n → K b ≤ K k ∧ (k < b → K b < K k)) : (order K n)[0]? = some b := by
  have hp := order_pw K n
  have hm : b ∈ order K n := by rw [(order_perm K n).mem_iff]; exact List.mem_range.mpr hb
  cases e : order K n with
  | nil => rw [e] at hm; cases hm
  | cons a l =>
    rw [e] at hp hm
    rcases List.mem_cons.mp hm with rfl | h1
    · rfl
    · rw [List.pairwise_cons] at hp
      have h2 := hp.1 b h1
      have ha : a < n := order_mem (K := K) (by rw [e]; exact List.mem_cons_self)
      have h3 := h a ha
      unfold Rk at h2
      omega
/-- those passed come first -/
theorem order_take {K : Nat → Int} {n : Nat} {p : Nat → Bool} (hp : ∀ i j, K i ≤ K j → p j = true → p i = true) : (order K n).take ((List.range n).filter p).length = (order K n).filter p := by
  have h1 := take_filter (R := Rk K) (p := p) (by
    intro a b h h2
    apply hp a b _ h2
    unfold Rk at h
    omega) (order_pw K n)
  have h2 : ((order K n).filter p).length = ((List.range n).filter p).length := ((order_perm K n).filter p).length_eq
  rw [← h2, ← h1]
end K3
end

section
/-! MA -/
set_option linter.all false
set_option maxRecDepth 100000
set_option maxHeartbeats 1000000
namespace K3
open PySem EV
abbrev val (d : D) : Rs Ret := .ok ⟨false, d, .none⟩
abbrev cc (wf n : Nat) : Cfg := ⟨defs, globs, wf, callF defs globs wf n⟩
theorem call_def {wf n f : Nat} {fd : FD} {ds : List D} (h : defs[f]? = some fd) : callF defs globs wf (n + 1) f ds = runDef (cc wf n) fd ds := by rw [callF, h]
abbrev q (r : Rat) : D := .tuple [.int r.num, .int r.den]
abbrev encP (p : Int × Int) : D := .tuple [.int p.1, .int p.2]
abbrev encF (f : Fr) : D := .tuple [.tuple [.int f.px, .int f.py], .tuple [.int f.bx, .int f.by'], q f.s]
abbrev encI (l : List Int) : D := .list (l.map .int)
theorem eqv_int (a b : Int) : PyData.eqv (.int a) (.int b) = decide (a = b) := by
  rw [PyData.eqv]
  rfl
theorem eqv_tuple (a b : List D) : PyData.eqv (.tuple a) (.tuple b) = PyData.eqvAll a b := by rw [PyData.eqv]
theorem eqv_list (a b : List D) : PyData.eqv (.list a) (.list b) = PyData.eqvAll a b := by rw [PyData.eqv]
theorem eqv_cons (a b : D) (x y : List D) : PyData.eqvAll (a :: x) (b :: y) = (PyData.eqv a b && PyData.eqvAll x y) := by rw [PyData.eqvAll]
theorem eqv_nil : PyData.eqvAll [] [] = true := by rw [PyData.eqvAll]
theorem eqv_encI : ∀ l m : List Int, PyData.eqvAll (l.map .int) (m.map .int) = decide (l = m)
  | [], [] => eqv_nil
  | a :: l, [] => by simp [EV.ixD, EV.valsOf, EV.ev.eq_1, EV.ev.eq_2, EV.ev.eq_3, EV.ev.eq_4, EV.ev.eq_5, EV.ev.eq_6, EV.ev.eq_7, EV.ev.eq_8, EV.ev.eq_9, EV.ev.eq_10, EV.ev.eq_11, EV.ev.eq_12, EV.ev.eq_13, EV.ev.eq_14, EV.ev.eq_15, EV.ev.eq_16, EV.ev.eq_17, EV.ev.eq_18, EV.ev.eq_19, EV.ev.eq_20, EV.ev.eq_21, EV.ev.eq_22, EV.ev.eq_23, EV.ev.eq_24, EV.ev.eq_25, EV.ev.eq_26, EV.runDef, EV.params, EV.runB, EV.enter, EV.slots0, EV.exS.eq_1, EV.exS.eq_2, EV.exS.eq_3, EV.exS.eq_4, EV.exS.eq_5, EV.exS.eq_6, EV.exS.eq_7, EV.exS.eq_8, EV.exS.eq_9, EV.exS.eq_10, EV.exS.eq_11, EV.exS.eq_14, EV.exS.eq_15, EV.exSs, EV.look, EV.stl, EV.isi, EV.tr, EV.leave, EV.frz, EV.lookAll, EV.afterCall, EV.lent, EV.takeO, EV.store, EV.builtin, EV.b_abs, EV.evA, EV.evO, EV.evC, EV.evI, PyData.eqvAll]
  | [], b :: m => by simp [EV.ixD, EV.valsOf, EV.ev.eq_1, EV.ev.eq_2, EV.ev.eq_3, EV.ev.eq_4, EV.ev.eq_5, EV.ev.eq_6, EV.ev.eq_7, EV.ev.eq_8, EV.ev.eq_9, EV.ev.eq_10, EV.ev.eq_11, EV.ev.eq_12, EV.ev.eq_13, EV.ev.eq_14, EV.ev.eq_15, EV.ev.eq_16, EV.ev.eq_17, EV.ev.eq_18, EV.ev.eq_19, EV.ev.eq_20, EV.ev.eq_21, EV.ev.eq_22, EV.ev.eq_23, EV.ev.eq_24, EV.ev.eq_25, EV.ev.eq_26, EV.runDef, EV.params, EV.runB, EV.enter, EV.slots0, EV.exS.eq_1, EV.exS.eq_2, EV.exS.eq_3, EV.exS.eq_4, EV.exS.eq_5, EV.exS.eq_6, EV.exS.eq_7, EV.exS.eq_8, EV.exS.eq_9, EV.exS.eq_10, EV.exS.eq_11, EV.exS.eq_14, EV.exS.eq_15, EV.exSs, EV.look, EV.stl, EV.isi, EV.tr, EV.leave, EV.frz, EV.lookAll, EV.afterCall, EV.lent, EV.takeO, EV.store, EV.builtin, EV.b_abs, EV.evA, EV.evO, EV.evC, EV.evI, PyData.eqvAll]
  | a :: l, b :: m => by simp [EV.ixD, EV.valsOf, EV.ev.eq_1, EV.ev.eq_2, EV.ev.eq_3, EV.ev.eq_4, EV.ev.eq_5, EV.ev.eq_6, EV.ev.eq_7, EV.ev.eq_8, EV.ev.eq_9, EV.ev.eq_10, EV.ev.eq_11, EV.ev.eq_12, EV.ev.eq_13, EV.ev.eq_14, EV.ev.eq_15, EV.ev.eq_16, EV.ev.eq_17, EV.ev.eq_18, EV.ev.eq_19, EV.ev.eq_20, EV.ev.eq_21, EV.ev.eq_22, EV.ev.eq_23, EV.ev.eq_24, EV.ev.eq_25, EV.ev.eq_26, EV.runDef, EV.params, EV.runB, EV.enter, EV.slots0, EV.exS.eq_1, EV.exS.eq_2, EV.exS.eq_3, EV.exS.eq_4, EV.exS.eq_5, EV.exS.eq_6, EV.exS.eq_7, EV.exS.eq_8, EV.exS.eq_9, EV.exS.eq_10, EV.exS.eq_11, EV.exS.eq_14, EV.exS.eq_15, EV.exSs, EV.look, EV.stl, EV.isi, EV.tr, EV.leave, EV.frz, EV.lookAll, EV.afterCall, EV.lent, EV.takeO, EV.store, EV.builtin, EV.b_abs, EV.evA, EV.evO, EV.evC, EV.evI, eqv_cons, eqv_int, eqv_encI l m]
theorem ok_encI (l : List Int) : okD (encI l) = true := by
  simp [EV.ixD, EV.valsOf, EV.ev.eq_1, EV.ev.eq_2, EV.ev.eq_3, EV.ev.eq_4, EV.ev.eq_5, EV.ev.eq_6, EV.ev.eq_7, EV.ev.eq_8, EV.ev.eq_9, EV.ev.eq_10, EV.ev.eq_11, EV.ev.eq_12, EV.ev.eq_13, EV.ev.eq_14, EV.ev.eq_15, EV.ev.eq_16, EV.ev.eq_17, EV.ev.eq_18, EV.ev.eq_19, EV.ev.eq_20, EV.ev.eq_21, EV.ev.eq_22, EV.ev.eq_23, EV.ev.eq_24, EV.ev.eq_25, EV.ev.eq_26, EV.runDef, EV.params, EV.runB, EV.enter, EV.slots0, EV.exS.eq_1, EV.exS.eq_2, EV.exS.eq_3, EV.exS.eq_4, EV.exS.eq_5, EV.exS.eq_6, EV.exS.eq_7, EV.exS.eq_8, EV.exS.eq_9, EV.exS.eq_10, EV.exS.eq_11, EV.exS.eq_14, EV.exS.eq_15, EV.exSs, EV.look, EV.stl, EV.isi, EV.tr, EV.leave, EV.frz, EV.lookAll, EV.afterCall, EV.lent, EV.takeO, EV.store, EV.builtin, EV.b_abs, EV.evA, EV.evO, EV.evC, EV.evI, okD, dp]
theorem cm_eq_encI (l m : List Int) : cmpop .eq (encI l) (encI m) = some (decide (l = m)) := by
  have e : cmpop .eq (encI l) (encI m) = if (okD (encI l) && okD (encI m)) = true then some (PyData.eqv (encI l) (encI m)) else none := rfl
  rw [e, ok_encI, ok_encI, eqv_list, eqv_encI]
  rfl
theorem cm_ne_encI (l m : List Int) : cmpop .ne (encI l) (encI m) = some (!decide (l = m)) := by
  have e : cmpop .ne (encI l) (encI m) = if (okD (encI l) && okD (encI m)) = true then some (!PyData.eqv (encI l) (encI m)) else none := rfl
  rw [e, ok_encI, ok_encI, eqv_list, eqv_encI]
  rfl
theorem q_eq (a b : Rat) : (decide (a.num = b.num) && decide ((a.den : Int) = b.den)) = decide (a = b) := by
  have h : (a = b) ↔ (a.num = b.num ∧ (a.den : Int) = b.den) := by
    constructor
    · rintro rfl; exact ⟨rfl, rfl⟩
    · rintro ⟨h1, h2⟩; exact Rat.ext h1 (by omega)
  rw [← Bool.decide_and]
  exact decide_eq_decide.mpr h.symm
@[simp] theorem cm_eq_q (a b : Rat) : cmpop .eq (q a) (q b) = some (decide (a = b)) := by
  have e : cmpop .eq (q a) (q b) = some (PyData.eqv (q a) (q b)) := rfl
  rw [e, eqv_tuple, eqv_cons, eqv_cons, eqv_nil, eqv_int, eqv_int, Bool.and_true, q_eq]
@[simp] theorem cm_ne_q (a b : Rat) : cmpop .ne (q a) (q b) = some (!decide (a = b)) := by
  have e : cmpop .ne (q a) (q b) = some (!PyData.eqv (q a) (q b)) := rfl
  rw [e, eqv_tuple, eqv_cons, eqv_cons, eqv_nil, eqv_int, eqv_int, Bool.and_true, q_eq]
@[simp] theorem cm_eq_p (a b c d : Int) : cmpop .eq (.tuple [.int a, .int b]) (.tuple [.int c, .int d]) = some (decide (a = c) && decide (b = d)) := by
  have e : cmpop .eq (.tuple [.int a, .int b]) (.tuple [.int c, .int d]) = some (PyData.eqv (.tuple [.int a, .int b]) (.tuple [.int c, .int d])) := rfl
  rw [e, eqv_tuple, eqv_cons, eqv_cons, eqv_nil, eqv_int, eqv_int, Bool.and_true]
@[simp] theorem cm_eq_b (a b : Bool) : cmpop .eq (.bool a) (.bool b) = some (decide (a = b)) := by
  have e : cmpop .eq (.bool a) (.bool b) = some (PyData.eqv (.bool a) (.bool b)) := rfl
  rw [e, PyData.eqv]
  rfl
@[simp] theorem cm_ne_b (a b : Bool) : cmpop .ne (.bool a) (.bool b) = some (!decide (a = b)) := by
  have e : cmpop .ne (.bool a) (.bool b) = some (!PyData.eqv (.bool a) (.bool b)) := rfl
  rw [e, PyData.eqv]
  rfl
@[simp] theorem bT_v (io : Option Nat) (i : Nat) (d : D) (ρ : Rho) : bindT io (.v i) d ρ = if io = some i then none else if i < ρ.length then some (ρ.set i (.f d)) else none := by rw [bindT]
@[simp] theorem bT_t (io : Option Nat) (ts : Tgs) (ds : List D) (ρ : Rho) : bindT io (.t ts) (.tuple ds) ρ = bindTs io ts ds ρ := by rw [bindT]
@[simp] theorem bT_nil (io : Option Nat) (ρ : Rho) : bindTs io .nil [] ρ = some ρ := by rw [bindTs]
@[simp] theorem bT_cons (io : Option Nat) (t : Tg) (ts : Tgs) (d : D) (ds : List D) (ρ : Rho) : bindTs io (.cons t ts) (d :: ds) ρ = (bindT io t d ρ).bind fun ρ1 => bindTs io ts ds ρ1 := by rw [bindTs]
/-! comprehensions -/
theorem lc_some {f : D → Rho → Rs (Option D × Rho)} {g : D → D} {ρ : Rho} : ∀ {ds : List D}, (∀ d ∈ ds, f d ρ = .ok (some (g d), ρ)) → lcLoop f ds ρ = .ok (ds.map g, ρ)
  | [], _ => rfl
  | d :: ds, h => by
    rw [lcLoop, h d List.mem_cons_self]
    simp [EV.ixD, EV.valsOf, EV.ev.eq_1, EV.ev.eq_2, EV.ev.eq_3, EV.ev.eq_4, EV.ev.eq_5, EV.ev.eq_6, EV.ev.eq_7, EV.ev.eq_8, EV.ev.eq_9, EV.ev.eq_10, EV.ev.eq_11, EV.ev.eq_12, EV.ev.eq_13, EV.ev.eq_14, EV.ev.eq_15, EV.ev.eq_16, EV.ev.eq_17, EV.ev.eq_18, EV.ev.eq_19, EV.ev.eq_20, EV.ev.eq_21, EV.ev.eq_22, EV.ev.eq_23, EV.ev.eq_24, EV.ev.eq_25, EV.ev.eq_26, EV.runDef, EV.params, EV.runB, EV.enter, EV.slots0, EV.exS.eq_1, EV.exS.eq_2, EV.exS.eq_3, EV.exS.eq_4, EV.exS.eq_5, EV.exS.eq_6, EV.exS.eq_7, EV.exS.eq_8, EV.exS.eq_9, EV.exS.eq_10, EV.exS.eq_11, EV.exS.eq_14, EV.exS.eq_15, EV.exSs, EV.look, EV.stl, EV.isi, EV.tr, EV.leave, EV.frz, EV.lookAll, EV.afterCall, EV.lent, EV.takeO, EV.store, EV.builtin, EV.b_abs, EV.evA, EV.evO, EV.evC, EV.evI, lc_some (ds := ds) (fun x hx => h x (List.mem_cons_of_mem _ hx))]
theorem lc_opt {f : D → Rho → Rs (Option D × Rho)} {g : D → Option D} {ρ : Rho} : ∀ {ds : List D}, (∀ d ∈ ds, f d ρ = .ok (g d, ρ)) → lcLoop f ds ρ = .ok (ds.filterMap g, ρ)
  | [], _ => rfl
  | d :: ds, h => by
    rw [lcLoop, h d List.mem_cons_self]
    cases hg : g d <;> simp [EV.ixD, EV.valsOf, EV.ev.eq_1, EV.ev.eq_2, EV.ev.eq_3, EV.ev.eq_4, EV.ev.eq_5, EV.ev.eq_6, EV.ev.eq_7, EV.ev.eq_8, EV.ev.eq_9, EV.ev.eq_10, EV.ev.eq_11, EV.ev.eq_12, EV.ev.eq_13, EV.ev.eq_14, EV.ev.eq_15, EV.ev.eq_16, EV.ev.eq_17, EV.ev.eq_18, EV.ev.eq_19, EV.ev.eq_20, EV.ev.eq_21, EV.ev.eq_22, EV.ev.eq_23, EV.ev.eq_24, EV.ev.eq_25, EV.ev.eq_26, EV.runDef, EV.params, EV.runB, EV.enter, EV.slots0, EV.exS.eq_1, EV.exS.eq_2, EV.exS.eq_3, EV.exS.eq_4, EV.exS.eq_5, EV.exS.eq_6, EV.exS.eq_7, EV.exS.eq_8, EV.exS.eq_9, EV.exS.eq_10, EV.exS.eq_11, EV.exS.eq_14, EV.exS.eq_15, EV.exSs, EV.look, EV.stl, EV.isi, EV.tr, EV.leave, EV.frz, EV.lookAll, EV.afterCall, EV.lent, EV.takeO, EV.store, EV.builtin, EV.b_abs, EV.evA, EV.evO, EV.evC, EV.evI, lc_opt (ds := ds) (fun x hx => h x (List.mem_cons_of_mem _ hx)), hg]
theorem lc_map {α : Type} {f : D → Rho → Rs (Option D × Rho)} {e : α → D} {g : α → D} {ρ : Rho} {l : List α} (h : ∀ a ∈ l, f (e a) ρ = .ok (some (g a), ρ)) : lcLoop f (l.map e) ρ = .ok (l.map g, ρ) := by
  induction l with
  | nil => rfl
  | cons a l ih =>
    rw [List.map_cons, lcLoop, h a List.mem_cons_self]
    simp [EV.ixD, EV.valsOf, EV.ev.eq_1, EV.ev.eq_2, EV.ev.eq_3, EV.ev.eq_4, EV.ev.eq_5, EV.ev.eq_6, EV.ev.eq_7, EV.ev.eq_8, EV.ev.eq_9, EV.ev.eq_10, EV.ev.eq_11, EV.ev.eq_12, EV.ev.eq_13, EV.ev.eq_14, EV.ev.eq_15, EV.ev.eq_16, EV.ev.eq_17, EV.ev.eq_18, EV.ev.eq_19, EV.ev.eq_20, EV.ev.eq_21, EV.ev.eq_22, EV.ev.eq_23, EV.ev.eq_24, EV.ev.eq_25, EV.ev.eq_26, EV.runDef, EV.params, EV.runB, EV.enter, EV.slots0, EV.exS.eq_1, EV.exS.eq_2, EV.exS.eq_3, EV.exS.eq_4, EV.exS.eq_5, EV.exS.eq_6, EV.exS.eq_7, EV.exS.eq_8, EV.exS.eq_9, EV.exS.eq_10, EV.exS.eq_11, EV.exS.eq_14, EV.exS.eq_15, EV.exSs, EV.look, EV.stl, EV.isi, EV.tr, EV.leave, EV.frz, EV.lookAll, EV.afterCall, EV.lent, EV.takeO, EV.store, EV.builtin, EV.b_abs, EV.evA, EV.evO, EV.evC, EV.evI, ih (fun x hx => h x (List.mem_cons_of_mem _ hx))]
theorem lc_fil {α : Type} {f : D → Rho → Rs (Option D × Rho)} {e : α → D} {g : α → D} {p : α → Bool} {ρ : Rho} {l : List α} (h : ∀ a ∈ l, f (e a) ρ = .ok (if p a then some (g a) else none, ρ)) : lcLoop f (l.map e) ρ = .ok ((l.filter p).map g, ρ) := by
  induction l with
  | nil => rfl
  | cons a l ih =>
    rw [List.map_cons, lcLoop, h a List.mem_cons_self]
    cases hp : p a <;> simp [EV.ixD, EV.valsOf, EV.ev.eq_1, EV.ev.eq_2, EV.ev.eq_3, EV.ev.eq_4, EV.ev.eq_5, EV.ev.eq_6, EV.ev.eq_7, EV.ev.eq_8, EV.ev.eq_9, EV.ev.eq_10, EV.ev.eq_11, EV.ev.eq_12, EV.ev.eq_13, EV.ev.eq_14, EV.ev.eq_15, EV.ev.eq_16, EV.ev.eq_17, EV.ev.eq_18, EV.ev.eq_19, EV.ev.eq_20, EV.ev.eq_21, EV.ev.eq_22, EV.ev.eq_23, EV.ev.eq_24, EV.ev.eq_25, EV.ev.eq_26, EV.runDef, EV.params, EV.runB, EV.enter, EV.slots0, EV.exS.eq_1, EV.exS.eq_2, EV.exS.eq_3, EV.exS.eq_4, EV.exS.eq_5, EV.exS.eq_6, EV.exS.eq_7, EV.exS.eq_8, EV.exS.eq_9, EV.exS.eq_10, EV.exS.eq_11, EV.exS.eq_14, EV.exS.eq_15, EV.exSs, EV.look, EV.stl, EV.isi, EV.tr, EV.leave, EV.frz, EV.lookAll, EV.afterCall, EV.lent, EV.takeO, EV.store, EV.builtin, EV.b_abs, EV.evA, EV.evO, EV.evC, EV.evI, ih (fun x hx => h x (List.mem_cons_of_mem _ hx)), hp]
theorem lc_inv {f : D → Rho → Rs (Option D × Rho)} (P : Rho → Prop) (Q : D → Prop) : ∀ {ds : List D} {ρ : Rho}, (∀ d ρ, P ρ → ∃ x ρ', f d ρ = .ok (some x, ρ') ∧ Q x ∧ P ρ') → P ρ → ∃ xs ρ', lcLoop f ds ρ = .ok (xs, ρ') ∧ xs.length = ds.length ∧ (∀ x ∈ xs, Q x) ∧ P ρ'
  | [], ρ, _, p => ⟨[], ρ, rfl, rfl, by simp, p⟩
  | d :: ds, ρ, h, p => by
    obtain ⟨x, ρ1, e1, q1, p1⟩ := h d ρ p
    obtain ⟨xs, ρ2, e2, l2, q2, p2⟩ := lc_inv P Q (ds := ds) h p1
    refine ⟨x :: xs, ρ2, ?_, by simp [EV.ixD, EV.valsOf, EV.ev.eq_1, EV.ev.eq_2, EV.ev.eq_3, EV.ev.eq_4, EV.ev.eq_5, EV.ev.eq_6, EV.ev.eq_7, EV.ev.eq_8, EV.ev.eq_9, EV.ev.eq_10, EV.ev.eq_11, EV.ev.eq_12, EV.ev.eq_13, EV.ev.eq_14, EV.ev.eq_15, EV.ev.eq_16, EV.ev.eq_17, EV.ev.eq_18, EV.ev.eq_19, EV.ev.eq_20, EV.ev.eq_21, EV.ev.eq_22, EV.ev.eq_23, EV.ev.eq_24, EV.ev.eq_25, EV.ev.eq_26, EV.runDef, EV.params, EV.runB, EV.enter, EV.slots0, EV.exS.eq_1, EV.exS.eq_2, EV.exS.eq_3, EV.exS.eq_4, EV.exS.eq_5, EV.exS.eq_6, EV.exS.eq_7, EV.exS.eq_8, EV.exS.eq_9, EV.exS.eq_10, EV.exS.eq_11, EV.exS.eq_14, EV.exS.eq_15, EV.exSs, EV.look, EV.stl, EV.isi, EV.tr, EV.leave, EV.frz, EV.lookAll, EV.afterCall, EV.lent, EV.takeO, EV.store, EV.builtin, EV.b_abs, EV.evA, EV.evO, EV.evC, EV.evI, l2], ?_, p2⟩
    · rw [lcLoop, e1]
      simp [EV.ixD, EV.valsOf, EV.ev.eq_1, EV.ev.eq_2, EV.ev.eq_3, EV.ev.eq_4, EV.ev.eq_5, EV.ev.eq_6, EV.ev.eq_7, EV.ev.eq_8, EV.ev.eq_9, EV.ev.eq_10, EV.ev.eq_11, EV.ev.eq_12, EV.ev.eq_13, EV.ev.eq_14, EV.ev.eq_15, EV.ev.eq_16, EV.ev.eq_17, EV.ev.eq_18, EV.ev.eq_19, EV.ev.eq_20, EV.ev.eq_21, EV.ev.eq_22, EV.ev.eq_23, EV.ev.eq_24, EV.ev.eq_25, EV.ev.eq_26, EV.runDef, EV.params, EV.runB, EV.enter, EV.slots0, EV.exS.eq_1, EV.exS.eq_2, EV.exS.eq_3, EV.exS.eq_4, EV.exS.eq_5, EV.exS.eq_6, EV.exS.eq_7, EV.exS.eq_8, EV.exS.eq_9, EV.exS.eq_10, EV.exS.eq_11, EV.exS.eq_14, EV.exS.eq_15, EV.exSs, EV.look, EV.stl, EV.isi, EV.tr, EV.leave, EV.frz, EV.lookAll, EV.afterCall, EV.lent, EV.takeO, EV.store, EV.builtin, EV.b_abs, EV.evA, EV.evO, EV.evC, EV.evI, e2]
    · intro y hy
      rcases List.mem_cons.mp hy with rfl | hy
      · exact q1
      · exact q2 y hy
/-! sizes for products -/
theorem mul_lt2 {j k : Nat} {a b : Int} (h : lt2 j a) (h2 : lt2 k b) (hj : j ≤ 4000) (hk : k ≤ 4000) : mulOk a b = true := by
  have h3 := lt2_mono h hj
  have h4 := lt2_mono h2 hk
  unfold lt2 at h3 h4
  unfold mulOk
  rw [decide_eq_true h3, decide_eq_true h4]
  simp
theorem bm {j k : Nat} {a b : Int} (h : lt2 j a) (h2 : lt2 k b) (hj : j ≤ 4000) (hk : k ≤ 4000) : binop .mul (.int a) (.int b) = some (.val (.int (a * b))) := bo_mul (mul_lt2 h h2 hj hk)
end K3
end

section
/-! MB -/
set_option linter.all false
set_option maxRecDepth 100000
namespace K3
open PySem EV
/-- a loop whose turns go on, the turn's own item in sight -/
theorem for_ix {f : D → Rho → Rs (Fl × Rho)} (P : Nat → Rho → Prop) : ∀ (ds : List D) (k : Nat) (ρ : Rho), (∀ i d ρ, ds[i]? = some d → P (k + i) ρ → ∃ ρ', f d ρ = .ok (.nx, ρ') ∧ P (k + i + 1) ρ') → P k ρ → ∃ ρ', forLoop f ds ρ = .ok (.nx, ρ') ∧ P (k + ds.length) ρ'
  | [], k, ρ, _, p => ⟨ρ, rfl, p⟩
  | d :: ds, k, ρ, h, p => by
    obtain ⟨ρ1, e1, p1⟩ := h 0 d ρ rfl p
    obtain ⟨ρ2, e2, p2⟩ := for_ix P ds (k + 1) ρ1 (fun i d ρ hd q => by
      have h1 := h (i + 1) d ρ (by rw [List.getElem?_cons_succ]; exact hd) (by rw [show k + (i + 1) = k + 1 + i by omega]; exact q)
      rw [show k + (i + 1) = k + 1 + i by omega] at h1
      exact h1) p1
    refine ⟨ρ2, ?_, ?_⟩
    · rw [forLoop, e1]
      exact e2
    · rw [List.length_cons, show k + (ds.length + 1) = k + 1 + ds.length by omega]
      exact p2
theorem for_go {f : D → Rho → Rs (Fl × Rho)} (P : Nat → Rho → Prop) {ds : List D} {ρ : Rho} (h : ∀ i d ρ, ds[i]? = some d → P i ρ → ∃ ρ', f d ρ = .ok (.nx, ρ') ∧ P (i + 1) ρ') (p : P 0 ρ) : ∃ ρ', forLoop f ds ρ = .ok (.nx, ρ') ∧ P ds.length ρ' := by
  obtain ⟨ρ', e, p'⟩ := for_ix P ds 0 ρ (fun i d ρ hd q => by
    rw [Nat.zero_add] at q ⊢
    exact h i d ρ hd q) p
  rw [Nat.zero_add] at p'
  exact ⟨ρ', e, p'⟩
/-- a for loop ends in one state, whatever the turns do to the names in between -/
theorem enum_len (ds : List D) : (enumL ds).length = ds.length := by simp [EV.ixD, EV.valsOf, EV.ev.eq_1, EV.ev.eq_2, EV.ev.eq_3, EV.ev.eq_4, EV.ev.eq_5, EV.ev.eq_6, EV.ev.eq_7, EV.ev.eq_8, EV.ev.eq_9, EV.ev.eq_10, EV.ev.eq_11, EV.ev.eq_12, EV.ev.eq_13, EV.ev.eq_14, EV.ev.eq_15, EV.ev.eq_16, EV.ev.eq_17, EV.ev.eq_18, EV.ev.eq_19, EV.ev.eq_20, EV.ev.eq_21, EV.ev.eq_22, EV.ev.eq_23, EV.ev.eq_24, EV.ev.eq_25, EV.ev.eq_26, EV.runDef, EV.params, EV.runB, EV.enter, EV.slots0, EV.exS.eq_1, EV.exS.eq_2, EV.exS.eq_3, EV.exS.eq_4, EV.exS.eq_5, EV.exS.eq_6, EV.exS.eq_7, EV.exS.eq_8, EV.exS.eq_9, EV.exS.eq_10, EV.exS.eq_11, EV.exS.eq_14, EV.exS.eq_15, EV.exSs, EV.look, EV.stl, EV.isi, EV.tr, EV.leave, EV.frz, EV.lookAll, EV.afterCall, EV.lent, EV.takeO, EV.store, EV.builtin, EV.b_abs, EV.evA, EV.evO, EV.evC, EV.evI, enumL]
theorem enum_get {ds : List D} {i : Nat} {d : D} (h : (enumL ds)[i]? = some d) : ∃ x, ds[i]? = some x ∧ d = .tuple [.int (i : Int), x] := by
  unfold enumL at h
  rw [List.getElem?_zipWith] at h
  by_cases hi : i < ds.length
  · rw [List.getElem?_eq_getElem (by simpa using hi), List.getElem?_eq_getElem hi] at h
    simp at h
    exact ⟨_, List.getElem?_eq_getElem hi, h.symm⟩
  · rw [List.getElem?_eq_none (l := ds) (by omega)] at h
    cases h2 : (List.range ds.length)[i]? <;> rw [h2] at h <;> cases h
theorem map_range {α β : Type} (l : List α) (d : α) (g : α → β) : l.map g = (List.range l.length).map fun k => g (l.getD k d) := by
  apply List.ext_getElem?
  intro i
  rw [List.getElem?_map, List.getElem?_map]
  by_cases h : i < l.length
  · rw [List.getElem?_eq_getElem h, List.getElem?_range h]
    simp [EV.ixD, EV.valsOf, EV.ev.eq_1, EV.ev.eq_2, EV.ev.eq_3, EV.ev.eq_4, EV.ev.eq_5, EV.ev.eq_6, EV.ev.eq_7, EV.ev.eq_8, EV.ev.eq_9, EV.ev.eq_10, EV.ev.eq_11, EV.ev.eq_12, EV.ev.eq_13, EV.ev.eq_14, EV.ev.eq_15, EV.ev.eq_16, EV.ev.eq_17, EV.ev.eq_18, EV.ev.eq_19, EV.ev.eq_20, EV.ev.eq_21, EV.ev.eq_22, EV.ev.eq_23, EV.ev.eq_24, EV.ev.eq_25, EV.ev.eq_26, EV.runDef, EV.params, EV.runB, EV.enter, EV.slots0, EV.exS.eq_1, EV.exS.eq_2, EV.exS.eq_3, EV.exS.eq_4, EV.exS.eq_5, EV.exS.eq_6, EV.exS.eq_7, EV.exS.eq_8, EV.exS.eq_9, EV.exS.eq_10, EV.exS.eq_11, EV.exS.eq_14, EV.exS.eq_15, EV.exSs, EV.look, EV.stl, EV.isi, EV.tr, EV.leave, EV.frz, EV.lookAll, EV.afterCall, EV.lent, EV.takeO, EV.store, EV.builtin, EV.b_abs, EV.evA, EV.evO, EV.evC, EV.evI, List.getD, h]
  · rw [List.getElem?_eq_none (by omega), List.getElem?_eq_none (by simp; omega)]
    rfl
theorem enum_range {α : Type} (l : List α) (d : α) (g : α → D) : enumL (l.map g) = (List.range l.length).map fun (k : Nat) => PyData.tuple [.int (k : Int), g (l.getD k d)] := by
  apply List.ext_getElem?
  intro i
  unfold enumL
  rw [List.getElem?_zipWith, List.getElem?_map, List.getElem?_map, List.length_map]
  by_cases h : i < l.length
  · rw [List.getElem?_eq_getElem h, List.getElem?_range h]
    simp [EV.ixD, EV.valsOf, EV.ev.eq_1, EV.ev.eq_2, EV.ev.eq_3, EV.ev.eq_4, EV.ev.eq_5, EV.ev.eq_6, EV.ev.eq_7, EV.ev.eq_8, EV.ev.eq_9, EV.ev.eq_10, EV.ev.eq_11, EV.ev.eq_12, EV.ev.eq_13, EV.ev.eq_14, EV.ev.eq_15, EV.ev.eq_16, EV.ev.eq_17, EV.ev.eq_18, EV.ev.eq_19, EV.ev.eq_20, EV.ev.eq_21, EV.ev.eq_22, EV.ev.eq_23, EV.ev.eq_24, EV.ev.eq_25, EV.ev.eq_26, EV.runDef, EV.params, EV.runB, EV.enter, EV.slots0, EV.exS.eq_1, EV.exS.eq_2, EV.exS.eq_3, EV.exS.eq_4, EV.exS.eq_5, EV.exS.eq_6, EV.exS.eq_7, EV.exS.eq_8, EV.exS.eq_9, EV.exS.eq_10, EV.exS.eq_11, EV.exS.eq_14, EV.exS.eq_15, EV.exSs, EV.look, EV.stl, EV.isi, EV.tr, EV.leave, EV.frz, EV.lookAll, EV.afterCall, EV.lent, EV.takeO, EV.store, EV.builtin, EV.b_abs, EV.evA, EV.evO, EV.evC, EV.evI, List.getD, h]
  · rw [List.getElem?_eq_none (l := l) (by omega), List.getElem?_eq_none (l := List.range _) (by simp; omega)]
    rfl
theorem get_map {α : Type} (l : List α) (d : α) (g : α → D) {k : Nat} (h : k < l.length) : L2.atI (l.map g) (k : Int) = some (g (l.getD k d)) := by
  rw [atI_nat (by simpa using h), List.getElem?_map, List.getElem?_eq_getElem h]
  simp [EV.ixD, EV.valsOf, EV.ev.eq_1, EV.ev.eq_2, EV.ev.eq_3, EV.ev.eq_4, EV.ev.eq_5, EV.ev.eq_6, EV.ev.eq_7, EV.ev.eq_8, EV.ev.eq_9, EV.ev.eq_10, EV.ev.eq_11, EV.ev.eq_12, EV.ev.eq_13, EV.ev.eq_14, EV.ev.eq_15, EV.ev.eq_16, EV.ev.eq_17, EV.ev.eq_18, EV.ev.eq_19, EV.ev.eq_20, EV.ev.eq_21, EV.ev.eq_22, EV.ev.eq_23, EV.ev.eq_24, EV.ev.eq_25, EV.ev.eq_26, EV.runDef, EV.params, EV.runB, EV.enter, EV.slots0, EV.exS.eq_1, EV.exS.eq_2, EV.exS.eq_3, EV.exS.eq_4, EV.exS.eq_5, EV.exS.eq_6, EV.exS.eq_7, EV.exS.eq_8, EV.exS.eq_9, EV.exS.eq_10, EV.exS.eq_11, EV.exS.eq_14, EV.exS.eq_15, EV.exSs, EV.look, EV.stl, EV.isi, EV.tr, EV.leave, EV.frz, EV.lookAll, EV.afterCall, EV.lent, EV.takeO, EV.store, EV.builtin, EV.b_abs, EV.evA, EV.evO, EV.evC, EV.evI, List.getD, h]
theorem get_rng {g : Nat → D} {n k : Nat} (h : k < n) : L2.atI ((List.range n).map g) (k : Int) = some (g k) := by
  rw [atI_nat (by simpa using h), List.getElem?_map, List.getElem?_range h]
  rfl
theorem rng_map (n : Nat) : rngL 0 n = (List.range n).map fun (k : Nat) => PyData.int (k : Int) := by
  unfold rngL
  apply List.map_congr_left
  intro k _
  simp
end K3
end

section
/-! M1 -/
set_option linter.all false
set_option maxRecDepth 100000
set_option maxHeartbeats 1000000
set_option exponentiation.threshold 5000
namespace K3
open PySem EV
theorem is_integer_int (wf n : Nat) (i : Int) : callF defs globs wf (n + 1) 0 [.int i] = val (.bool true) := by
  rw [call_def d_is_integer]
  simp [EV.ixD, EV.valsOf, EV.ev.eq_1, EV.ev.eq_2, EV.ev.eq_3, EV.ev.eq_4, EV.ev.eq_5, EV.ev.eq_6, EV.ev.eq_7, EV.ev.eq_8, EV.ev.eq_9, EV.ev.eq_10, EV.ev.eq_11, EV.ev.eq_12, EV.ev.eq_13, EV.ev.eq_14, EV.ev.eq_15, EV.ev.eq_16, EV.ev.eq_17, EV.ev.eq_18, EV.ev.eq_19, EV.ev.eq_20, EV.ev.eq_21, EV.ev.eq_22, EV.ev.eq_23, EV.ev.eq_24, EV.ev.eq_25, EV.ev.eq_26, EV.runDef, EV.params, EV.runB, EV.enter, EV.slots0, EV.exS.eq_1, EV.exS.eq_2, EV.exS.eq_3, EV.exS.eq_4, EV.exS.eq_5, EV.exS.eq_6, EV.exS.eq_7, EV.exS.eq_8, EV.exS.eq_9, EV.exS.eq_10, EV.exS.eq_11, EV.exS.eq_14, EV.exS.eq_15, EV.exSs, EV.look, EV.stl, EV.isi, EV.tr, EV.leave, EV.frz, EV.lookAll, EV.afterCall, EV.lent, EV.takeO, EV.store, EV.builtin, EV.b_abs, EV.evA, EV.evO, EV.evC, EV.evI, f_is_integer]
theorem is_within_int (wf n : Nat) (i a b : Int) : callF defs globs wf (n + 2) 1 [.int i, .int a, .int b] = val (.bool (decide (a ≤ i) && decide (i ≤ b))) := by
  rw [call_def d_is_within]
  by_cases h1 : a ≤ i <;> simp [EV.ixD, EV.valsOf, EV.ev.eq_1, EV.ev.eq_2, EV.ev.eq_3, EV.ev.eq_4, EV.ev.eq_5, EV.ev.eq_6, EV.ev.eq_7, EV.ev.eq_8, EV.ev.eq_9, EV.ev.eq_10, EV.ev.eq_11, EV.ev.eq_12, EV.ev.eq_13, EV.ev.eq_14, EV.ev.eq_15, EV.ev.eq_16, EV.ev.eq_17, EV.ev.eq_18, EV.ev.eq_19, EV.ev.eq_20, EV.ev.eq_21, EV.ev.eq_22, EV.ev.eq_23, EV.ev.eq_24, EV.ev.eq_25, EV.ev.eq_26, EV.runDef, EV.params, EV.runB, EV.enter, EV.slots0, EV.exS.eq_1, EV.exS.eq_2, EV.exS.eq_3, EV.exS.eq_4, EV.exS.eq_5, EV.exS.eq_6, EV.exS.eq_7, EV.exS.eq_8, EV.exS.eq_9, EV.exS.eq_10, EV.exS.eq_11, EV.exS.eq_14, EV.exS.eq_15, EV.exSs, EV.look, EV.stl, EV.isi, EV.tr, EV.leave, EV.frz, EV.lookAll, EV.afterCall, EV.lent, EV.takeO, EV.store, EV.builtin, EV.b_abs, EV.evA, EV.evO, EV.evC, EV.evI, f_is_within, is_integer_int, h1]
theorem check_true (wf n : Nat) : callF defs globs wf (n + 1) 2 [.bool true] = val .none := by
  rw [call_def d_check]
  simp [EV.ixD, EV.valsOf, EV.ev.eq_1, EV.ev.eq_2, EV.ev.eq_3, EV.ev.eq_4, EV.ev.eq_5, EV.ev.eq_6, EV.ev.eq_7, EV.ev.eq_8, EV.ev.eq_9, EV.ev.eq_10, EV.ev.eq_11, EV.ev.eq_12, EV.ev.eq_13, EV.ev.eq_14, EV.ev.eq_15, EV.ev.eq_16, EV.ev.eq_17, EV.ev.eq_18, EV.ev.eq_19, EV.ev.eq_20, EV.ev.eq_21, EV.ev.eq_22, EV.ev.eq_23, EV.ev.eq_24, EV.ev.eq_25, EV.ev.eq_26, EV.runDef, EV.params, EV.runB, EV.enter, EV.slots0, EV.exS.eq_1, EV.exS.eq_2, EV.exS.eq_3, EV.exS.eq_4, EV.exS.eq_5, EV.exS.eq_6, EV.exS.eq_7, EV.exS.eq_8, EV.exS.eq_9, EV.exS.eq_10, EV.exS.eq_11, EV.exS.eq_14, EV.exS.eq_15, EV.exSs, EV.look, EV.stl, EV.isi, EV.tr, EV.leave, EV.frz, EV.lookAll, EV.afterCall, EV.lent, EV.takeO, EV.store, EV.builtin, EV.b_abs, EV.evA, EV.evO, EV.evC, EV.evI, f_check]
theorem gcd_step {x y : Int} (hx : 0 ≤ x) (hy : 0 < y) : Int.gcd y (x % y) = Int.gcd x y := by
  obtain ⟨a, rfl⟩ := Int.eq_ofNat_of_zero_le hx
  obtain ⟨b, rfl⟩ := Int.eq_ofNat_of_zero_le (Int.le_of_lt hy)
  rw [← Int.natCast_emod]
  show Nat.gcd b (a % b) = Nat.gcd a b
  rw [Nat.gcd_comm, ← Nat.gcd_rec, Nat.gcd_comm]
theorem sh_loop (C : Cfg) : ∀ (m : Nat) (x y : Int), 0 ≤ x → 0 ≤ y → y < m → whlLoop (tstF C none wb0_shared) (bdyF C none b0_shared) m [.f (.int x), .f (.int y)] = .ok (.nx, [.f (.int (Int.gcd x y)), .f (.int 0)]) := by
  intro m
  induction m with
  | zero => intro x y h1 h2 h3; omega
  | succ m ih =>
    intro x y h1 h2 h3
    rw [whlLoop]
    by_cases hy : 0 < y
    · have hm := Int.emod_lt_of_pos x hy
      have hn := Int.emod_nonneg x (by omega : y ≠ 0)
      have := ih y (x % y) h2 hn (by omega)
      simp [EV.ixD, EV.valsOf, EV.ev.eq_1, EV.ev.eq_2, EV.ev.eq_3, EV.ev.eq_4, EV.ev.eq_5, EV.ev.eq_6, EV.ev.eq_7, EV.ev.eq_8, EV.ev.eq_9, EV.ev.eq_10, EV.ev.eq_11, EV.ev.eq_12, EV.ev.eq_13, EV.ev.eq_14, EV.ev.eq_15, EV.ev.eq_16, EV.ev.eq_17, EV.ev.eq_18, EV.ev.eq_19, EV.ev.eq_20, EV.ev.eq_21, EV.ev.eq_22, EV.ev.eq_23, EV.ev.eq_24, EV.ev.eq_25, EV.ev.eq_26, EV.runDef, EV.params, EV.runB, EV.enter, EV.slots0, EV.exS.eq_1, EV.exS.eq_2, EV.exS.eq_3, EV.exS.eq_4, EV.exS.eq_5, EV.exS.eq_6, EV.exS.eq_7, EV.exS.eq_8, EV.exS.eq_9, EV.exS.eq_10, EV.exS.eq_11, EV.exS.eq_14, EV.exS.eq_15, EV.exSs, EV.look, EV.stl, EV.isi, EV.tr, EV.leave, EV.frz, EV.lookAll, EV.afterCall, EV.lent, EV.takeO, EV.store, EV.builtin, EV.b_abs, EV.evA, EV.evO, EV.evC, EV.evI, tstF, bdyF, wb0_shared, b0_shared, hy, bo_mod hy] at this ⊢
      rw [this]
      rw [gcd_step h1 hy]
    · have : y = 0 := by omega
      subst this
      simp [EV.ixD, EV.valsOf, EV.ev.eq_1, EV.ev.eq_2, EV.ev.eq_3, EV.ev.eq_4, EV.ev.eq_5, EV.ev.eq_6, EV.ev.eq_7, EV.ev.eq_8, EV.ev.eq_9, EV.ev.eq_10, EV.ev.eq_11, EV.ev.eq_12, EV.ev.eq_13, EV.ev.eq_14, EV.ev.eq_15, EV.ev.eq_16, EV.ev.eq_17, EV.ev.eq_18, EV.ev.eq_19, EV.ev.eq_20, EV.ev.eq_21, EV.ev.eq_22, EV.ev.eq_23, EV.ev.eq_24, EV.ev.eq_25, EV.ev.eq_26, EV.runDef, EV.params, EV.runB, EV.enter, EV.slots0, EV.exS.eq_1, EV.exS.eq_2, EV.exS.eq_3, EV.exS.eq_4, EV.exS.eq_5, EV.exS.eq_6, EV.exS.eq_7, EV.exS.eq_8, EV.exS.eq_9, EV.exS.eq_10, EV.exS.eq_11, EV.exS.eq_14, EV.exS.eq_15, EV.exSs, EV.look, EV.stl, EV.isi, EV.tr, EV.leave, EV.frz, EV.lookAll, EV.afterCall, EV.lent, EV.takeO, EV.store, EV.builtin, EV.b_abs, EV.evA, EV.evO, EV.evC, EV.evI, tstF, wb0_shared]
      omega
theorem shared_ok {wf : Nat} (n : Nat) {x y : Int} (h : y.natAbs < wf) : callF defs globs wf (n + 1) 3 [.int x, .int y] = val (.int (Int.gcd x y)) := by
  rw [call_def d_shared]
  have hl := sh_loop (cc wf n) wf x.natAbs y.natAbs (by omega) (by omega) (by omega)
  simp [EV.ixD, EV.valsOf, EV.ev.eq_1, EV.ev.eq_2, EV.ev.eq_3, EV.ev.eq_4, EV.ev.eq_5, EV.ev.eq_6, EV.ev.eq_7, EV.ev.eq_8, EV.ev.eq_9, EV.ev.eq_10, EV.ev.eq_11, EV.ev.eq_12, EV.ev.eq_13, EV.ev.eq_14, EV.ev.eq_15, EV.ev.eq_16, EV.ev.eq_17, EV.ev.eq_18, EV.ev.eq_19, EV.ev.eq_20, EV.ev.eq_21, EV.ev.eq_22, EV.ev.eq_23, EV.ev.eq_24, EV.ev.eq_25, EV.ev.eq_26, EV.runDef, EV.params, EV.runB, EV.enter, EV.slots0, EV.exS.eq_1, EV.exS.eq_2, EV.exS.eq_3, EV.exS.eq_4, EV.exS.eq_5, EV.exS.eq_6, EV.exS.eq_7, EV.exS.eq_8, EV.exS.eq_9, EV.exS.eq_10, EV.exS.eq_11, EV.exS.eq_14, EV.exS.eq_15, EV.exSs, EV.look, EV.stl, EV.isi, EV.tr, EV.leave, EV.frz, EV.lookAll, EV.afterCall, EV.lent, EV.takeO, EV.store, EV.builtin, EV.b_abs, EV.evA, EV.evO, EV.evC, EV.evI, f_shared, hl]
  rfl
theorem lt_wf {wf k : Nat} {y : Int} (hw : 2 ^ 400 ≤ wf) (h : lt2 k y) (hk : k ≤ 400) : y.natAbs < wf := by
  have := lt2_mono h hk
  unfold lt2 at this
  omega
theorem ratio_ok {wf k : Nat} (n : Nat) {x y : Int} (hw : 2 ^ 400 ≤ wf) (h0 : 0 < y) (h : lt2 k y) (hk : k ≤ 400) : callF defs globs wf (n + 2) 4 [.int x, .int y] = val (q ((x : Rat) / (y : Rat))) := by
  rw [call_def d_ratio]
  have hs := shared_ok (wf := wf) n (x := x) (lt_wf hw h hk)
  have hg : 0 < Int.gcd x y := Int.gcd_pos_of_ne_zero_right _ (by omega)
  have h1 : Int.gcd x y < 2 ^ 4000 := by
    have h2 := lt2_mono h (show k ≤ 4000 by omega)
    unfold lt2 at h2
    have h3 : Int.gcd x y ≤ y.natAbs := Nat.le_of_dvd (by omega) (Int.gcd_dvd_natAbs_right x y)
    omega
  unfold q
  rw [num_div x y h0, den_div x y h0]
  generalize Int.gcd x y = g at *
  simp [EV.ixD, EV.valsOf, EV.ev.eq_1, EV.ev.eq_2, EV.ev.eq_3, EV.ev.eq_4, EV.ev.eq_5, EV.ev.eq_6, EV.ev.eq_7, EV.ev.eq_8, EV.ev.eq_9, EV.ev.eq_10, EV.ev.eq_11, EV.ev.eq_12, EV.ev.eq_13, EV.ev.eq_14, EV.ev.eq_15, EV.ev.eq_16, EV.ev.eq_17, EV.ev.eq_18, EV.ev.eq_19, EV.ev.eq_20, EV.ev.eq_21, EV.ev.eq_22, EV.ev.eq_23, EV.ev.eq_24, EV.ev.eq_25, EV.ev.eq_26, EV.runDef, EV.params, EV.runB, EV.enter, EV.slots0, EV.exS.eq_1, EV.exS.eq_2, EV.exS.eq_3, EV.exS.eq_4, EV.exS.eq_5, EV.exS.eq_6, EV.exS.eq_7, EV.exS.eq_8, EV.exS.eq_9, EV.exS.eq_10, EV.exS.eq_11, EV.exS.eq_14, EV.exS.eq_15, EV.exSs, EV.look, EV.stl, EV.isi, EV.tr, EV.leave, EV.frz, EV.lookAll, EV.afterCall, EV.lent, EV.takeO, EV.store, EV.builtin, EV.b_abs, EV.evA, EV.evO, EV.evC, EV.evI, f_ratio, hs, bo_div (a := x) (show (0 : Int) < g by omega) (by simpa using h1), bo_div (a := y) (show (0 : Int) < g by omega) (by simpa using h1)]
theorem is_reach_int (wf n : Nat) (i : Int) : callF defs globs wf (n + 3) 5 [.int i] = val (.bool (decide (-1000000000 ≤ i) && decide (i ≤ 1000000000))) := by
  rw [call_def d_is_reach]
  simp [EV.ixD, EV.valsOf, EV.ev.eq_1, EV.ev.eq_2, EV.ev.eq_3, EV.ev.eq_4, EV.ev.eq_5, EV.ev.eq_6, EV.ev.eq_7, EV.ev.eq_8, EV.ev.eq_9, EV.ev.eq_10, EV.ev.eq_11, EV.ev.eq_12, EV.ev.eq_13, EV.ev.eq_14, EV.ev.eq_15, EV.ev.eq_16, EV.ev.eq_17, EV.ev.eq_18, EV.ev.eq_19, EV.ev.eq_20, EV.ev.eq_21, EV.ev.eq_22, EV.ev.eq_23, EV.ev.eq_24, EV.ev.eq_25, EV.ev.eq_26, EV.runDef, EV.params, EV.runB, EV.enter, EV.slots0, EV.exS.eq_1, EV.exS.eq_2, EV.exS.eq_3, EV.exS.eq_4, EV.exS.eq_5, EV.exS.eq_6, EV.exS.eq_7, EV.exS.eq_8, EV.exS.eq_9, EV.exS.eq_10, EV.exS.eq_11, EV.exS.eq_14, EV.exS.eq_15, EV.exSs, EV.look, EV.stl, EV.isi, EV.tr, EV.leave, EV.frz, EV.lookAll, EV.afterCall, EV.lent, EV.takeO, EV.store, EV.builtin, EV.b_abs, EV.evA, EV.evO, EV.evC, EV.evI, f_is_reach, is_within_int]
theorem all_true {α : Type} (l : List α) : bAll [.list (l.map fun _ => .bool true)] = some (.val (.bool true)) := by
  have : boolsD (l.map fun _ => PyData.bool true) = some (l.map fun _ => true) := by
    induction l with
    | nil => rfl
    | cons a l ih => rw [List.map_cons, boolsD, ih]; rfl
  have e : ∀ xs, bAll [.list xs] = (boolsD xs).map fun l => .val (.bool (l.all id)) := fun _ => rfl
  rw [e, this]
  simp
theorem is_bearing_ok {wf : Nat} (n : Nat) {a b : Int} (hw : 2 ^ 400 ≤ wf) (ha : a.natAbs ≤ 1000000000) (hb : b.natAbs ≤ 1000000000) (hg : Int.gcd a b = 1) : callF defs globs wf (n + 4) 6 [.tuple [.int a, .int b]] = val (.bool true) := by
  rw [call_def d_is_bearing]
  have h1 : decide (-1000000000 ≤ a) = true := decide_eq_true (by omega)
  have h2 : decide (a ≤ 1000000000) = true := decide_eq_true (by omega)
  have h3 : decide (-1000000000 ≤ b) = true := decide_eq_true (by omega)
  have h4 : decide (b ≤ 1000000000) = true := decide_eq_true (by omega)
  have hs := shared_ok (wf := wf) (n + 2) (x := a) (lt_wf hw (lt2_30 hb) (by decide))
  rw [hg] at hs
  have hl : lcLoop (itmF (cc wf (n + 3)) none e0_is_bearing (.v 1) .no [1]) [.int a, .int b] [.f (.tuple [.int a, .int b]), .u] = .ok ([.bool true, .bool true], [.f (.tuple [.int a, .int b]), .u]) := by
    have e1 := is_reach_int wf n a
    have e2 := is_reach_int wf n b
    rw [h1, h2] at e1
    rw [h3, h4] at e2
    simp [EV.ixD, EV.valsOf, EV.ev.eq_1, EV.ev.eq_2, EV.ev.eq_3, EV.ev.eq_4, EV.ev.eq_5, EV.ev.eq_6, EV.ev.eq_7, EV.ev.eq_8, EV.ev.eq_9, EV.ev.eq_10, EV.ev.eq_11, EV.ev.eq_12, EV.ev.eq_13, EV.ev.eq_14, EV.ev.eq_15, EV.ev.eq_16, EV.ev.eq_17, EV.ev.eq_18, EV.ev.eq_19, EV.ev.eq_20, EV.ev.eq_21, EV.ev.eq_22, EV.ev.eq_23, EV.ev.eq_24, EV.ev.eq_25, EV.ev.eq_26, EV.runDef, EV.params, EV.runB, EV.enter, EV.slots0, EV.exS.eq_1, EV.exS.eq_2, EV.exS.eq_3, EV.exS.eq_4, EV.exS.eq_5, EV.exS.eq_6, EV.exS.eq_7, EV.exS.eq_8, EV.exS.eq_9, EV.exS.eq_10, EV.exS.eq_11, EV.exS.eq_14, EV.exS.eq_15, EV.exSs, EV.look, EV.stl, EV.isi, EV.tr, EV.leave, EV.frz, EV.lookAll, EV.afterCall, EV.lent, EV.takeO, EV.store, EV.builtin, EV.b_abs, EV.evA, EV.evO, EV.evC, EV.evI, lcLoop, itmF, e0_is_bearing, e1, e2, hide]
  simp [EV.ixD, EV.valsOf, EV.ev.eq_1, EV.ev.eq_2, EV.ev.eq_3, EV.ev.eq_4, EV.ev.eq_5, EV.ev.eq_6, EV.ev.eq_7, EV.ev.eq_8, EV.ev.eq_9, EV.ev.eq_10, EV.ev.eq_11, EV.ev.eq_12, EV.ev.eq_13, EV.ev.eq_14, EV.ev.eq_15, EV.ev.eq_16, EV.ev.eq_17, EV.ev.eq_18, EV.ev.eq_19, EV.ev.eq_20, EV.ev.eq_21, EV.ev.eq_22, EV.ev.eq_23, EV.ev.eq_24, EV.ev.eq_25, EV.ev.eq_26, EV.runDef, EV.params, EV.runB, EV.enter, EV.slots0, EV.exS.eq_1, EV.exS.eq_2, EV.exS.eq_3, EV.exS.eq_4, EV.exS.eq_5, EV.exS.eq_6, EV.exS.eq_7, EV.exS.eq_8, EV.exS.eq_9, EV.exS.eq_10, EV.exS.eq_11, EV.exS.eq_14, EV.exS.eq_15, EV.exSs, EV.look, EV.stl, EV.isi, EV.tr, EV.leave, EV.frz, EV.lookAll, EV.afterCall, EV.lent, EV.takeO, EV.store, EV.builtin, EV.b_abs, EV.evA, EV.evO, EV.evC, EV.evI, f_is_bearing, bLen, plainAt, hide, hl, sizeLine_eq, unhide, bAll, boolsD, hs]
theorem is_place_ok {wf : Nat} (n : Nat) {p : Int × Int} (hp : okP p) : callF defs globs wf (n + 2) 7 [encP p] = val (.bool true) := by
  obtain ⟨a, b⟩ := p
  obtain ⟨⟨h1, h2⟩, h3, h4⟩ := hp
  rw [call_def d_is_place_fronts]
  have hl : lcLoop (itmF (cc wf (n + 1)) none e0_is_place_fronts (.v 1) .no [1]) [.int a, .int b] [.f (.tuple [.int a, .int b]), .u] = .ok ([.bool true, .bool true], [.f (.tuple [.int a, .int b]), .u]) := by
    simp at h1 h2 h3 h4
    simp [EV.ixD, EV.valsOf, EV.ev.eq_1, EV.ev.eq_2, EV.ev.eq_3, EV.ev.eq_4, EV.ev.eq_5, EV.ev.eq_6, EV.ev.eq_7, EV.ev.eq_8, EV.ev.eq_9, EV.ev.eq_10, EV.ev.eq_11, EV.ev.eq_12, EV.ev.eq_13, EV.ev.eq_14, EV.ev.eq_15, EV.ev.eq_16, EV.ev.eq_17, EV.ev.eq_18, EV.ev.eq_19, EV.ev.eq_20, EV.ev.eq_21, EV.ev.eq_22, EV.ev.eq_23, EV.ev.eq_24, EV.ev.eq_25, EV.ev.eq_26, EV.runDef, EV.params, EV.runB, EV.enter, EV.slots0, EV.exS.eq_1, EV.exS.eq_2, EV.exS.eq_3, EV.exS.eq_4, EV.exS.eq_5, EV.exS.eq_6, EV.exS.eq_7, EV.exS.eq_8, EV.exS.eq_9, EV.exS.eq_10, EV.exS.eq_11, EV.exS.eq_14, EV.exS.eq_15, EV.exSs, EV.look, EV.stl, EV.isi, EV.tr, EV.leave, EV.frz, EV.lookAll, EV.afterCall, EV.lent, EV.takeO, EV.store, EV.builtin, EV.b_abs, EV.evA, EV.evO, EV.evC, EV.evI, lcLoop, itmF, e0_is_place_fronts, is_integer_int, h1, h2, h3, h4, hide]
  simp [EV.ixD, EV.valsOf, EV.ev.eq_1, EV.ev.eq_2, EV.ev.eq_3, EV.ev.eq_4, EV.ev.eq_5, EV.ev.eq_6, EV.ev.eq_7, EV.ev.eq_8, EV.ev.eq_9, EV.ev.eq_10, EV.ev.eq_11, EV.ev.eq_12, EV.ev.eq_13, EV.ev.eq_14, EV.ev.eq_15, EV.ev.eq_16, EV.ev.eq_17, EV.ev.eq_18, EV.ev.eq_19, EV.ev.eq_20, EV.ev.eq_21, EV.ev.eq_22, EV.ev.eq_23, EV.ev.eq_24, EV.ev.eq_25, EV.ev.eq_26, EV.runDef, EV.params, EV.runB, EV.enter, EV.slots0, EV.exS.eq_1, EV.exS.eq_2, EV.exS.eq_3, EV.exS.eq_4, EV.exS.eq_5, EV.exS.eq_6, EV.exS.eq_7, EV.exS.eq_8, EV.exS.eq_9, EV.exS.eq_10, EV.exS.eq_11, EV.exS.eq_14, EV.exS.eq_15, EV.exSs, EV.look, EV.stl, EV.isi, EV.tr, EV.leave, EV.frz, EV.lookAll, EV.afterCall, EV.lent, EV.takeO, EV.store, EV.builtin, EV.b_abs, EV.evA, EV.evO, EV.evC, EV.evI, f_is_place_fronts, bLen, plainAt, hide, hl, sizeLine_eq, unhide, bAll, boolsD]
theorem is_ratio_ok {wf k : Nat} (n : Nat) {r : Rat} (hw : 2 ^ 400 ≤ wf) (h : Bd k r) (hk : k ≤ 400) : callF defs globs wf (n + 2) 8 [q r] = val (.bool true) := by
  rw [call_def d_is_ratio_fronts]
  have hs := shared_ok (wf := wf) n (x := r.num) (lt_wf hw h.2 hk)
  have hd := r.den_pos
  rw [gcd_nd] at hs
  simp [EV.ixD, EV.valsOf, EV.ev.eq_1, EV.ev.eq_2, EV.ev.eq_3, EV.ev.eq_4, EV.ev.eq_5, EV.ev.eq_6, EV.ev.eq_7, EV.ev.eq_8, EV.ev.eq_9, EV.ev.eq_10, EV.ev.eq_11, EV.ev.eq_12, EV.ev.eq_13, EV.ev.eq_14, EV.ev.eq_15, EV.ev.eq_16, EV.ev.eq_17, EV.ev.eq_18, EV.ev.eq_19, EV.ev.eq_20, EV.ev.eq_21, EV.ev.eq_22, EV.ev.eq_23, EV.ev.eq_24, EV.ev.eq_25, EV.ev.eq_26, EV.runDef, EV.params, EV.runB, EV.enter, EV.slots0, EV.exS.eq_1, EV.exS.eq_2, EV.exS.eq_3, EV.exS.eq_4, EV.exS.eq_5, EV.exS.eq_6, EV.exS.eq_7, EV.exS.eq_8, EV.exS.eq_9, EV.exS.eq_10, EV.exS.eq_11, EV.exS.eq_14, EV.exS.eq_15, EV.exSs, EV.look, EV.stl, EV.isi, EV.tr, EV.leave, EV.frz, EV.lookAll, EV.afterCall, EV.lent, EV.takeO, EV.store, EV.builtin, EV.b_abs, EV.evA, EV.evO, EV.evC, EV.evI, f_is_ratio_fronts, bLen, is_integer_int, hd, hs]
theorem is_front_ok {wf : Nat} (n : Nat) {f : Fr} (hw : 2 ^ 400 ≤ wf) (h : f.ok) : callF defs globs wf (n + 5) 9 [encF f] = val (.bool true) := by
  rw [call_def d_is_front]
  have e1 := is_place_ok (wf := wf) (n + 2) h.p
  have e2 := is_bearing_ok (wf := wf) n hw h.bx h.by' h.g
  have e3 := is_ratio_ok (wf := wf) (n + 2) hw h.sb (by decide)
  have h4 := h.num
  simp [EV.ixD, EV.valsOf, EV.ev.eq_1, EV.ev.eq_2, EV.ev.eq_3, EV.ev.eq_4, EV.ev.eq_5, EV.ev.eq_6, EV.ev.eq_7, EV.ev.eq_8, EV.ev.eq_9, EV.ev.eq_10, EV.ev.eq_11, EV.ev.eq_12, EV.ev.eq_13, EV.ev.eq_14, EV.ev.eq_15, EV.ev.eq_16, EV.ev.eq_17, EV.ev.eq_18, EV.ev.eq_19, EV.ev.eq_20, EV.ev.eq_21, EV.ev.eq_22, EV.ev.eq_23, EV.ev.eq_24, EV.ev.eq_25, EV.ev.eq_26, EV.runDef, EV.params, EV.runB, EV.enter, EV.slots0, EV.exS.eq_1, EV.exS.eq_2, EV.exS.eq_3, EV.exS.eq_4, EV.exS.eq_5, EV.exS.eq_6, EV.exS.eq_7, EV.exS.eq_8, EV.exS.eq_9, EV.exS.eq_10, EV.exS.eq_11, EV.exS.eq_14, EV.exS.eq_15, EV.exSs, EV.look, EV.stl, EV.isi, EV.tr, EV.leave, EV.frz, EV.lookAll, EV.afterCall, EV.lent, EV.takeO, EV.store, EV.builtin, EV.b_abs, EV.evA, EV.evO, EV.evC, EV.evI, f_is_front, bLen, e1, e2, e3, h4]
theorem check_front_ok {wf : Nat} (n : Nat) {f : Fr} (hw : 2 ^ 400 ≤ wf) (h : f.ok) : callF defs globs wf (n + 6) 10 [encF f] = val .none := by
  rw [call_def d_check_front]
  have e1 := is_front_ok (wf := wf) n hw h
  simp [EV.ixD, EV.valsOf, EV.ev.eq_1, EV.ev.eq_2, EV.ev.eq_3, EV.ev.eq_4, EV.ev.eq_5, EV.ev.eq_6, EV.ev.eq_7, EV.ev.eq_8, EV.ev.eq_9, EV.ev.eq_10, EV.ev.eq_11, EV.ev.eq_12, EV.ev.eq_13, EV.ev.eq_14, EV.ev.eq_15, EV.ev.eq_16, EV.ev.eq_17, EV.ev.eq_18, EV.ev.eq_19, EV.ev.eq_20, EV.ev.eq_21, EV.ev.eq_22, EV.ev.eq_23, EV.ev.eq_24, EV.ev.eq_25, EV.ev.eq_26, EV.runDef, EV.params, EV.runB, EV.enter, EV.slots0, EV.exS.eq_1, EV.exS.eq_2, EV.exS.eq_3, EV.exS.eq_4, EV.exS.eq_5, EV.exS.eq_6, EV.exS.eq_7, EV.exS.eq_8, EV.exS.eq_9, EV.exS.eq_10, EV.exS.eq_11, EV.exS.eq_14, EV.exS.eq_15, EV.exSs, EV.look, EV.stl, EV.isi, EV.tr, EV.leave, EV.frz, EV.lookAll, EV.afterCall, EV.lent, EV.takeO, EV.store, EV.builtin, EV.b_abs, EV.evA, EV.evO, EV.evC, EV.evI, f_check_front, e1, check_true]
def okPs (ps : List (Int × Int)) : Prop := 1 ≤ ps.length ∧ ps.length ≤ 60 ∧ ∀ p ∈ ps, okP p
abbrev encPs (ps : List (Int × Int)) : D := .list (ps.map encP)
theorem check_places_ok {wf : Nat} (n : Nat) {ps : List (Int × Int)} (h : okPs ps) : callF defs globs wf (n + 3) 11 [encPs ps] = val .none := by
  rw [call_def d_check_places]
  have hl : lcLoop (itmF (cc wf (n + 2)) none e0_check_places (.v 1) .no [1]) (ps.map encP) [.f (encPs ps), .u] = .ok (ps.map fun _ => .bool true, [.f (encPs ps), .u]) := by
    apply lc_map
    intro p hp
    have := is_place_ok (wf := wf) n (h.2.2 p hp)
    simp [EV.ixD, EV.valsOf, EV.ev.eq_1, EV.ev.eq_2, EV.ev.eq_3, EV.ev.eq_4, EV.ev.eq_5, EV.ev.eq_6, EV.ev.eq_7, EV.ev.eq_8, EV.ev.eq_9, EV.ev.eq_10, EV.ev.eq_11, EV.ev.eq_12, EV.ev.eq_13, EV.ev.eq_14, EV.ev.eq_15, EV.ev.eq_16, EV.ev.eq_17, EV.ev.eq_18, EV.ev.eq_19, EV.ev.eq_20, EV.ev.eq_21, EV.ev.eq_22, EV.ev.eq_23, EV.ev.eq_24, EV.ev.eq_25, EV.ev.eq_26, EV.runDef, EV.params, EV.runB, EV.enter, EV.slots0, EV.exS.eq_1, EV.exS.eq_2, EV.exS.eq_3, EV.exS.eq_4, EV.exS.eq_5, EV.exS.eq_6, EV.exS.eq_7, EV.exS.eq_8, EV.exS.eq_9, EV.exS.eq_10, EV.exS.eq_11, EV.exS.eq_14, EV.exS.eq_15, EV.exSs, EV.look, EV.stl, EV.isi, EV.tr, EV.leave, EV.frz, EV.lookAll, EV.afterCall, EV.lent, EV.takeO, EV.store, EV.builtin, EV.b_abs, EV.evA, EV.evO, EV.evC, EV.evI, itmF, e0_check_places, this, hide]
  have h1 := h.1
  have h2 := h.2.1
  have h3 : ps.length ≤ sizeLine := by rw [sizeLine_eq]; omega
  have h5 := all_true ps
  have h6 : (1 : Int) ≤ (ps.length : Int) := by omega
  have h7 : (ps.length : Int) ≤ 60 := by omega
  have h8 : ¬ 60 < ps.length := by omega
  simp only [List.map_const'] at hl h5
  simp [EV.ixD, EV.valsOf, EV.ev.eq_1, EV.ev.eq_2, EV.ev.eq_3, EV.ev.eq_4, EV.ev.eq_5, EV.ev.eq_6, EV.ev.eq_7, EV.ev.eq_8, EV.ev.eq_9, EV.ev.eq_10, EV.ev.eq_11, EV.ev.eq_12, EV.ev.eq_13, EV.ev.eq_14, EV.ev.eq_15, EV.ev.eq_16, EV.ev.eq_17, EV.ev.eq_18, EV.ev.eq_19, EV.ev.eq_20, EV.ev.eq_21, EV.ev.eq_22, EV.ev.eq_23, EV.ev.eq_24, EV.ev.eq_25, EV.ev.eq_26, EV.runDef, EV.params, EV.runB, EV.enter, EV.slots0, EV.exS.eq_1, EV.exS.eq_2, EV.exS.eq_3, EV.exS.eq_4, EV.exS.eq_5, EV.exS.eq_6, EV.exS.eq_7, EV.exS.eq_8, EV.exS.eq_9, EV.exS.eq_10, EV.exS.eq_11, EV.exS.eq_14, EV.exS.eq_15, EV.exSs, EV.look, EV.stl, EV.isi, EV.tr, EV.leave, EV.frz, EV.lookAll, EV.afterCall, EV.lent, EV.takeO, EV.store, EV.builtin, EV.b_abs, EV.evA, EV.evO, EV.evC, EV.evI, f_check_places, bLen, plainAt, hide, hl, h3, unhide, h5, h1, h6, h7, h8, check_true]
end K3
end

section
/-! M2 -/
set_option linter.all false
set_option maxRecDepth 100000
set_option maxHeartbeats 1000000
set_option exponentiation.threshold 5000
namespace K3
open PySem EV
theorem along_ok {j k : Nat} (wf n : Nat) {a b x y : Int} (h1 : lt2 j a) (h2 : lt2 j b) (h3 : lt2 k x) (h4 : lt2 k y) (hj : j ≤ 4000) (hk : k ≤ 4000) : callF defs globs wf (n + 1) 12 [.tuple [.int a, .int b], .tuple [.int x, .int y]] = val (.int (a * x + b * y)) := by
  rw [call_def d_along]
  simp [EV.ixD, EV.valsOf, EV.ev.eq_1, EV.ev.eq_2, EV.ev.eq_3, EV.ev.eq_4, EV.ev.eq_5, EV.ev.eq_6, EV.ev.eq_7, EV.ev.eq_8, EV.ev.eq_9, EV.ev.eq_10, EV.ev.eq_11, EV.ev.eq_12, EV.ev.eq_13, EV.ev.eq_14, EV.ev.eq_15, EV.ev.eq_16, EV.ev.eq_17, EV.ev.eq_18, EV.ev.eq_19, EV.ev.eq_20, EV.ev.eq_21, EV.ev.eq_22, EV.ev.eq_23, EV.ev.eq_24, EV.ev.eq_25, EV.ev.eq_26, EV.runDef, EV.params, EV.runB, EV.enter, EV.slots0, EV.exS.eq_1, EV.exS.eq_2, EV.exS.eq_3, EV.exS.eq_4, EV.exS.eq_5, EV.exS.eq_6, EV.exS.eq_7, EV.exS.eq_8, EV.exS.eq_9, EV.exS.eq_10, EV.exS.eq_11, EV.exS.eq_14, EV.exS.eq_15, EV.exSs, EV.look, EV.stl, EV.isi, EV.tr, EV.leave, EV.frz, EV.lookAll, EV.afterCall, EV.lent, EV.takeO, EV.store, EV.builtin, EV.b_abs, EV.evA, EV.evO, EV.evC, EV.evI, f_along, bm h1 h3 hj hk, bm h2 h4 hj hk]
theorem speed_of_ok (wf n : Nat) {f : Fr} (h : f.ok) : callF defs globs wf (n + 2) 13 [encF f] = val (.tuple [.int (f.N * f.s.num), .int f.s.den]) := by
  rw [call_def d_speed_of]
  have e := along_ok wf n (lt2_30 h.bx) (lt2_30 h.by') (lt2_30 h.bx) (lt2_30 h.by') (by decide) (by decide)
  have e2 := bm (bd_N h) h.sb.1 (by decide) (by decide)
  unfold Fr.N at e2 ⊢
  simp [EV.ixD, EV.valsOf, EV.ev.eq_1, EV.ev.eq_2, EV.ev.eq_3, EV.ev.eq_4, EV.ev.eq_5, EV.ev.eq_6, EV.ev.eq_7, EV.ev.eq_8, EV.ev.eq_9, EV.ev.eq_10, EV.ev.eq_11, EV.ev.eq_12, EV.ev.eq_13, EV.ev.eq_14, EV.ev.eq_15, EV.ev.eq_16, EV.ev.eq_17, EV.ev.eq_18, EV.ev.eq_19, EV.ev.eq_20, EV.ev.eq_21, EV.ev.eq_22, EV.ev.eq_23, EV.ev.eq_24, EV.ev.eq_25, EV.ev.eq_26, EV.runDef, EV.params, EV.runB, EV.enter, EV.slots0, EV.exS.eq_1, EV.exS.eq_2, EV.exS.eq_3, EV.exS.eq_4, EV.exS.eq_5, EV.exS.eq_6, EV.exS.eq_7, EV.exS.eq_8, EV.exS.eq_9, EV.exS.eq_10, EV.exS.eq_11, EV.exS.eq_14, EV.exS.eq_15, EV.exSs, EV.look, EV.stl, EV.isi, EV.tr, EV.leave, EV.frz, EV.lookAll, EV.afterCall, EV.lent, EV.takeO, EV.store, EV.builtin, EV.b_abs, EV.evA, EV.evO, EV.evC, EV.evI, f_speed_of, e, e2]
theorem over_ok {wf j k : Nat} (n : Nat) {a b c d : Int} (hw : 2 ^ 400 ≤ wf) (h1 : lt2 j a) (h2 : lt2 k b) (h3 : lt2 k c) (h4 : lt2 j d) (hj : j ≤ 4000) (hk : k ≤ 200) (h0 : b * c ≠ 0) : callF defs globs wf (n + 3) 14 [.tuple [.int a, .int b], .tuple [.int c, .int d]] = val (q (((a * d : Int) : Rat) / ((b * c : Int) : Rat))) := by
  rw [call_def d_over]
  have m1 := bm h1 h4 (by omega) (by omega)
  have m2 := bm h2 h3 (by omega) (by omega)
  have l2 := lt2_mul h2 h3
  generalize b * c = v at *
  generalize a * d = u at *
  by_cases hv : 0 < v
  · have e := ratio_ok (k := k + k) (wf := wf) n (x := u) hw hv l2 (by omega)
    simp [EV.ixD, EV.valsOf, EV.ev.eq_1, EV.ev.eq_2, EV.ev.eq_3, EV.ev.eq_4, EV.ev.eq_5, EV.ev.eq_6, EV.ev.eq_7, EV.ev.eq_8, EV.ev.eq_9, EV.ev.eq_10, EV.ev.eq_11, EV.ev.eq_12, EV.ev.eq_13, EV.ev.eq_14, EV.ev.eq_15, EV.ev.eq_16, EV.ev.eq_17, EV.ev.eq_18, EV.ev.eq_19, EV.ev.eq_20, EV.ev.eq_21, EV.ev.eq_22, EV.ev.eq_23, EV.ev.eq_24, EV.ev.eq_25, EV.ev.eq_26, EV.runDef, EV.params, EV.runB, EV.enter, EV.slots0, EV.exS.eq_1, EV.exS.eq_2, EV.exS.eq_3, EV.exS.eq_4, EV.exS.eq_5, EV.exS.eq_6, EV.exS.eq_7, EV.exS.eq_8, EV.exS.eq_9, EV.exS.eq_10, EV.exS.eq_11, EV.exS.eq_14, EV.exS.eq_15, EV.exSs, EV.look, EV.stl, EV.isi, EV.tr, EV.leave, EV.frz, EV.lookAll, EV.afterCall, EV.lent, EV.takeO, EV.store, EV.builtin, EV.b_abs, EV.evA, EV.evO, EV.evC, EV.evI, f_over, m1, m2, hv, e]
  · have e := ratio_ok (k := k + k) (wf := wf) n (x := -u) hw (show 0 < -v by omega) (lt2_neg l2) (by omega)
    have e3 : ((-u : Int) : Rat) / ((-v : Int) : Rat) = (u : Rat) / (v : Rat) := by
      have : (v : Rat) ≠ 0 := by rw [Ne, Rat.intCast_eq_zero_iff]; exact h0
      push_cast
      grind
    rw [e3] at e
    simp [EV.ixD, EV.valsOf, EV.ev.eq_1, EV.ev.eq_2, EV.ev.eq_3, EV.ev.eq_4, EV.ev.eq_5, EV.ev.eq_6, EV.ev.eq_7, EV.ev.eq_8, EV.ev.eq_9, EV.ev.eq_10, EV.ev.eq_11, EV.ev.eq_12, EV.ev.eq_13, EV.ev.eq_14, EV.ev.eq_15, EV.ev.eq_16, EV.ev.eq_17, EV.ev.eq_18, EV.ev.eq_19, EV.ev.eq_20, EV.ev.eq_21, EV.ev.eq_22, EV.ev.eq_23, EV.ev.eq_24, EV.ev.eq_25, EV.ev.eq_26, EV.runDef, EV.params, EV.runB, EV.enter, EV.slots0, EV.exS.eq_1, EV.exS.eq_2, EV.exS.eq_3, EV.exS.eq_4, EV.exS.eq_5, EV.exS.eq_6, EV.exS.eq_7, EV.exS.eq_8, EV.exS.eq_9, EV.exS.eq_10, EV.exS.eq_11, EV.exS.eq_14, EV.exS.eq_15, EV.exSs, EV.look, EV.stl, EV.isi, EV.tr, EV.leave, EV.frz, EV.lookAll, EV.afterCall, EV.lent, EV.takeO, EV.store, EV.builtin, EV.b_abs, EV.evA, EV.evO, EV.evC, EV.evI, f_over, m1, m2, hv, e]
theorem reached_ok {wf : Nat} (n : Nat) {f : Fr} {p : Int × Int} (hw : 2 ^ 400 ≤ wf) (h : f.ok) (hp : okP p) : callF defs globs wf (n + 4) 15 [encF f, encP p] = val (q (f.rt p)) := by
  rw [call_def d_reached]
  have a1 := along_ok wf (n + 2) (lt2_30 h.bx) (lt2_30 h.by') (okP_x hp).1 (okP_x hp).2 (by decide) (by decide)
  have a2 := along_ok wf (n + 2) (lt2_30 h.bx) (lt2_30 h.by') (okP_x h.p).1 (okP_x h.p).2 (by decide) (by decide)
  have a3 := speed_of_ok wf (n + 1) h
  have hn := h.Nn
  have a4 := over_ok (j := 100) (k := 100) (wf := wf) n (a := f.F p) (b := 1) (c := f.N * f.s.num) (d := f.s.den) hw (lt2_mono (bd_F h hp) (by decide)) (by unfold lt2; decide) (lt2_mono (lt2_mul (bd_N h) h.sb.1) (by decide)) (lt2_mono h.sb.2 (by decide)) (by decide) (by decide) (by omega)
  rw [Int.one_mul, rt_eq h p] at a4
  unfold Fr.F at a4
  simp [EV.ixD, EV.valsOf, EV.ev.eq_1, EV.ev.eq_2, EV.ev.eq_3, EV.ev.eq_4, EV.ev.eq_5, EV.ev.eq_6, EV.ev.eq_7, EV.ev.eq_8, EV.ev.eq_9, EV.ev.eq_10, EV.ev.eq_11, EV.ev.eq_12, EV.ev.eq_13, EV.ev.eq_14, EV.ev.eq_15, EV.ev.eq_16, EV.ev.eq_17, EV.ev.eq_18, EV.ev.eq_19, EV.ev.eq_20, EV.ev.eq_21, EV.ev.eq_22, EV.ev.eq_23, EV.ev.eq_24, EV.ev.eq_25, EV.ev.eq_26, EV.runDef, EV.params, EV.runB, EV.enter, EV.slots0, EV.exS.eq_1, EV.exS.eq_2, EV.exS.eq_3, EV.exS.eq_4, EV.exS.eq_5, EV.exS.eq_6, EV.exS.eq_7, EV.exS.eq_8, EV.exS.eq_9, EV.exS.eq_10, EV.exS.eq_11, EV.exS.eq_14, EV.exS.eq_15, EV.exSs, EV.look, EV.stl, EV.isi, EV.tr, EV.leave, EV.frz, EV.lookAll, EV.afterCall, EV.lent, EV.takeO, EV.store, EV.builtin, EV.b_abs, EV.evA, EV.evO, EV.evC, EV.evI, f_reached, a1, a2, a3, a4]
theorem ql_eq (a b : Rat) : decide (a.num * (b.den : Int) < b.num * (a.den : Int)) = decide (a < b) := decide_eq_decide.mpr (Rat.lt_iff ..).symm
theorem is_less_ok (wf n : Nat) {j k : Nat} {a b : Rat} (h1 : Bd j a) (h2 : Bd k b) (hj : j ≤ 4000) (hk : k ≤ 4000) : callF defs globs wf (n + 1) 16 [q a, q b] = val (.bool (decide (a < b))) := by
  rw [call_def d_is_less]
  rw [← ql_eq]
  simp only [q]
  have m1 := bm h1.1 h2.2 hj hk
  have m2 := bm h2.1 h1.2 hk hj
  generalize (a.den : Int) = ad at *
  generalize (b.den : Int) = bd at *
  simp [EV.ixD, EV.valsOf, EV.ev.eq_1, EV.ev.eq_2, EV.ev.eq_3, EV.ev.eq_4, EV.ev.eq_5, EV.ev.eq_6, EV.ev.eq_7, EV.ev.eq_8, EV.ev.eq_9, EV.ev.eq_10, EV.ev.eq_11, EV.ev.eq_12, EV.ev.eq_13, EV.ev.eq_14, EV.ev.eq_15, EV.ev.eq_16, EV.ev.eq_17, EV.ev.eq_18, EV.ev.eq_19, EV.ev.eq_20, EV.ev.eq_21, EV.ev.eq_22, EV.ev.eq_23, EV.ev.eq_24, EV.ev.eq_25, EV.ev.eq_26, EV.runDef, EV.params, EV.runB, EV.enter, EV.slots0, EV.exS.eq_1, EV.exS.eq_2, EV.exS.eq_3, EV.exS.eq_4, EV.exS.eq_5, EV.exS.eq_6, EV.exS.eq_7, EV.exS.eq_8, EV.exS.eq_9, EV.exS.eq_10, EV.exS.eq_11, EV.exS.eq_14, EV.exS.eq_15, EV.exSs, EV.look, EV.stl, EV.isi, EV.tr, EV.leave, EV.frz, EV.lookAll, EV.afterCall, EV.lent, EV.takeO, EV.store, EV.builtin, EV.b_abs, EV.evA, EV.evO, EV.evC, EV.evI, f_is_less, m1, m2]
theorem reaches_at_ok {wf : Nat} (n : Nat) {f : Fr} {p : Int × Int} (hw : 2 ^ 400 ≤ wf) (h : f.ok) (hp : okP p) : callF defs globs wf (n + 7) 17 [encF f, encP p] = val (q (f.rt p)) := by
  rw [call_def d_reaches_at]
  have a1 := check_front_ok n hw h
  have a2 := is_place_ok (wf := wf) (n + 4) hp
  have a3 := reached_ok (n + 2) hw h hp
  simp [EV.ixD, EV.valsOf, EV.ev.eq_1, EV.ev.eq_2, EV.ev.eq_3, EV.ev.eq_4, EV.ev.eq_5, EV.ev.eq_6, EV.ev.eq_7, EV.ev.eq_8, EV.ev.eq_9, EV.ev.eq_10, EV.ev.eq_11, EV.ev.eq_12, EV.ev.eq_13, EV.ev.eq_14, EV.ev.eq_15, EV.ev.eq_16, EV.ev.eq_17, EV.ev.eq_18, EV.ev.eq_19, EV.ev.eq_20, EV.ev.eq_21, EV.ev.eq_22, EV.ev.eq_23, EV.ev.eq_24, EV.ev.eq_25, EV.ev.eq_26, EV.runDef, EV.params, EV.runB, EV.enter, EV.slots0, EV.exS.eq_1, EV.exS.eq_2, EV.exS.eq_3, EV.exS.eq_4, EV.exS.eq_5, EV.exS.eq_6, EV.exS.eq_7, EV.exS.eq_8, EV.exS.eq_9, EV.exS.eq_10, EV.exS.eq_11, EV.exS.eq_14, EV.exS.eq_15, EV.exSs, EV.look, EV.stl, EV.isi, EV.tr, EV.leave, EV.frz, EV.lookAll, EV.afterCall, EV.lent, EV.takeO, EV.store, EV.builtin, EV.b_abs, EV.evA, EV.evO, EV.evC, EV.evI, f_reaches_at, a1, a2, a3, check_true]
end K3
end

section
/-! M3 -/
set_option linter.all false
set_option maxRecDepth 100000
set_option maxHeartbeats 1000000
set_option exponentiation.threshold 5000
namespace K3
open PySem EV
abbrev qs (R : Nat → Rat) (n : Nat) : D := .list ((List.range n).map fun k => q (R k))
def First (R : Nat → Rat) (n b : Nat) : Prop := b < n ∧ ∀ k, k < n → R b ≤ R k ∧ (k < b → R b < R k)
def Pl (L : D) (R : Nat → Rat) (i : Nat) (ρ : Rho) : Prop := ∃ (b : Nat) (x y : Sl), ρ = [.f L, .f (.int b), x, y] ∧ (i = 0 → b = 0) ∧ (0 < i → First R i b)
theorem turn_least (wf n : Nat) {R : Nat → Rat} {m : Nat} (hb : ∀ k, k < m → Bd 2000 (R k)) : ∀ i d ρ, (enumL ((List.range m).map fun k => q (R k)))[i]? = some d → Pl (qs R m) R i ρ → ∃ ρ', forF (cc wf (n + 1)) none (.t (.cons (.v 2) (.cons (.v 3) .nil))) b0_least_of d ρ = .ok (.nx, ρ') ∧ Pl (qs R m) R (i + 1) ρ' := by
  rintro i d ρ hd ⟨b, x, y, rfl, h0, h1⟩
  obtain ⟨z, hz, rfl⟩ := enum_get hd
  rw [List.getElem?_map] at hz
  have him : i < m := by
    rcases Nat.lt_or_ge i m with h | h
    · exact h
    · rw [List.getElem?_eq_none (by simpa using h)] at hz; cases hz
  rw [List.getElem?_range him] at hz
  cases hz
  have hbm : b < m := by
    by_cases hi : 0 < i
    · have := (h1 hi).1; omega
    · rw [h0 (by omega)]; omega
  have hg := get_rng (g := fun k => q (R k)) hbm
  have hl := is_less_ok wf n (hb i him) (hb b hbm) (by decide) (by decide)
  by_cases hc : R i < R b
  · rw [decide_eq_true hc] at hl
    refine ⟨[.f (qs R m), .f (.int i), .f (.int i), .f (q (R i))], ?_, i, _, _, rfl, by
      intro h; omega, fun _ => ⟨by omega, fun k hk => ?_⟩⟩
    · simp [EV.ixD, EV.valsOf, EV.ev.eq_1, EV.ev.eq_2, EV.ev.eq_3, EV.ev.eq_4, EV.ev.eq_5, EV.ev.eq_6, EV.ev.eq_7, EV.ev.eq_8, EV.ev.eq_9, EV.ev.eq_10, EV.ev.eq_11, EV.ev.eq_12, EV.ev.eq_13, EV.ev.eq_14, EV.ev.eq_15, EV.ev.eq_16, EV.ev.eq_17, EV.ev.eq_18, EV.ev.eq_19, EV.ev.eq_20, EV.ev.eq_21, EV.ev.eq_22, EV.ev.eq_23, EV.ev.eq_24, EV.ev.eq_25, EV.ev.eq_26, EV.runDef, EV.params, EV.runB, EV.enter, EV.slots0, EV.exS.eq_1, EV.exS.eq_2, EV.exS.eq_3, EV.exS.eq_4, EV.exS.eq_5, EV.exS.eq_6, EV.exS.eq_7, EV.exS.eq_8, EV.exS.eq_9, EV.exS.eq_10, EV.exS.eq_11, EV.exS.eq_14, EV.exS.eq_15, EV.exSs, EV.look, EV.stl, EV.isi, EV.tr, EV.leave, EV.frz, EV.lookAll, EV.afterCall, EV.lent, EV.takeO, EV.store, EV.builtin, EV.b_abs, EV.evA, EV.evO, EV.evC, EV.evI, forF, b0_least_of, hg, hl]
    · by_cases hi : 0 < i
      · have h2 := (h1 hi).2
        by_cases hk2 : k < i
        · have := h2 k hk2
          exact ⟨by grind, fun _ => by grind⟩
        · have : k = i := by omega
          subst this
          exact ⟨Rat.le_refl, fun h => by omega⟩
      · have : i = 0 := by omega
        subst this
        rw [h0 rfl] at hc
        exact absurd hc (Rat.lt_irrefl)
  · rw [decide_eq_false hc] at hl
    refine ⟨[.f (qs R m), .f (.int b), .f (.int i), .f (q (R i))], ?_, b, _, _, rfl, by
      intro h; omega, fun _ => ?_⟩
    · simp [EV.ixD, EV.valsOf, EV.ev.eq_1, EV.ev.eq_2, EV.ev.eq_3, EV.ev.eq_4, EV.ev.eq_5, EV.ev.eq_6, EV.ev.eq_7, EV.ev.eq_8, EV.ev.eq_9, EV.ev.eq_10, EV.ev.eq_11, EV.ev.eq_12, EV.ev.eq_13, EV.ev.eq_14, EV.ev.eq_15, EV.ev.eq_16, EV.ev.eq_17, EV.ev.eq_18, EV.ev.eq_19, EV.ev.eq_20, EV.ev.eq_21, EV.ev.eq_22, EV.ev.eq_23, EV.ev.eq_24, EV.ev.eq_25, EV.ev.eq_26, EV.runDef, EV.params, EV.runB, EV.enter, EV.slots0, EV.exS.eq_1, EV.exS.eq_2, EV.exS.eq_3, EV.exS.eq_4, EV.exS.eq_5, EV.exS.eq_6, EV.exS.eq_7, EV.exS.eq_8, EV.exS.eq_9, EV.exS.eq_10, EV.exS.eq_11, EV.exS.eq_14, EV.exS.eq_15, EV.exSs, EV.look, EV.stl, EV.isi, EV.tr, EV.leave, EV.frz, EV.lookAll, EV.afterCall, EV.lent, EV.takeO, EV.store, EV.builtin, EV.b_abs, EV.evA, EV.evO, EV.evC, EV.evI, forF, b0_least_of, hg, hl]
    · by_cases hi : 0 < i
      · obtain ⟨h2, h3⟩ := h1 hi
        refine ⟨by omega, fun k hk => ?_⟩
        by_cases hk2 : k < i
        · exact h3 k hk2
        · have : k = i := by omega
          subst this
          exact ⟨by grind, fun h => by omega⟩
      · have : i = 0 := by omega
        subst this
        rw [h0 rfl]
        refine ⟨by omega, fun k hk => ?_⟩
        have : k = 0 := by omega
        subst this
        exact ⟨Rat.le_refl, fun h => by omega⟩
theorem least_ok (wf n : Nat) {R : Nat → Rat} {m : Nat} (hm : 0 < m) (hb : ∀ k, k < m → Bd 2000 (R k)) : ∃ b : Nat, First R m b ∧ callF defs globs wf (n + 2) 18 [qs R m] = val (.int b) := by
  rw [call_def d_least_of]
  obtain ⟨ρ', e, b, x, y, rfl, h0, h1⟩ := for_go (Pl (qs R m) R) (turn_least wf n hb) ⟨0, .u, .u, rfl, fun _ => rfl, fun h => by omega⟩
  have hl : (enumL ((List.range m).map fun k => q (R k))).length = m := by rw [enum_len]; simp
  rw [hl] at h1
  rw [show ((0 : Nat) : Int) = 0 from rfl] at e
  refine ⟨b, h1 hm, ?_⟩
  simp [EV.ixD, EV.valsOf, EV.ev.eq_1, EV.ev.eq_2, EV.ev.eq_3, EV.ev.eq_4, EV.ev.eq_5, EV.ev.eq_6, EV.ev.eq_7, EV.ev.eq_8, EV.ev.eq_9, EV.ev.eq_10, EV.ev.eq_11, EV.ev.eq_12, EV.ev.eq_13, EV.ev.eq_14, EV.ev.eq_15, EV.ev.eq_16, EV.ev.eq_17, EV.ev.eq_18, EV.ev.eq_19, EV.ev.eq_20, EV.ev.eq_21, EV.ev.eq_22, EV.ev.eq_23, EV.ev.eq_24, EV.ev.eq_25, EV.ev.eq_26, EV.runDef, EV.params, EV.runB, EV.enter, EV.slots0, EV.exS.eq_1, EV.exS.eq_2, EV.exS.eq_3, EV.exS.eq_4, EV.exS.eq_5, EV.exS.eq_6, EV.exS.eq_7, EV.exS.eq_8, EV.exS.eq_9, EV.exS.eq_10, EV.exS.eq_11, EV.exS.eq_14, EV.exS.eq_15, EV.exSs, EV.look, EV.stl, EV.isi, EV.tr, EV.leave, EV.frz, EV.lookAll, EV.afterCall, EV.lent, EV.takeO, EV.store, EV.builtin, EV.b_abs, EV.evA, EV.evO, EV.evC, EV.evI, f_least_of, e]
end K3
end

section
/-! M4 -/
set_option linter.all false
set_option maxRecDepth 100000
set_option maxHeartbeats 1000000
set_option exponentiation.threshold 5000
namespace K3
open PySem EV
def pa (ps : List (Int × Int)) (k : Nat) : Int × Int := ps.getD k (0, 0)
theorem okPs.atk {ps : List (Int × Int)} (h : okPs ps) {k : Nat} (hk : k < ps.length) : okP (pa ps k) := by
  have : pa ps k = ps[k] := by simp [EV.ixD, EV.valsOf, EV.ev.eq_1, EV.ev.eq_2, EV.ev.eq_3, EV.ev.eq_4, EV.ev.eq_5, EV.ev.eq_6, EV.ev.eq_7, EV.ev.eq_8, EV.ev.eq_9, EV.ev.eq_10, EV.ev.eq_11, EV.ev.eq_12, EV.ev.eq_13, EV.ev.eq_14, EV.ev.eq_15, EV.ev.eq_16, EV.ev.eq_17, EV.ev.eq_18, EV.ev.eq_19, EV.ev.eq_20, EV.ev.eq_21, EV.ev.eq_22, EV.ev.eq_23, EV.ev.eq_24, EV.ev.eq_25, EV.ev.eq_26, EV.runDef, EV.params, EV.runB, EV.enter, EV.slots0, EV.exS.eq_1, EV.exS.eq_2, EV.exS.eq_3, EV.exS.eq_4, EV.exS.eq_5, EV.exS.eq_6, EV.exS.eq_7, EV.exS.eq_8, EV.exS.eq_9, EV.exS.eq_10, EV.exS.eq_11, EV.exS.eq_14, EV.exS.eq_15, EV.exSs, EV.look, EV.stl, EV.isi, EV.tr, EV.leave, EV.frz, EV.lookAll, EV.afterCall, EV.lent, EV.takeO, EV.store, EV.builtin, EV.b_abs, EV.evA, EV.evO, EV.evC, EV.evI, pa, List.getD, hk]
  rw [this]
  exact h.2.2 _ (List.getElem_mem hk)
theorem map_pa {β : Type} (ps : List (Int × Int)) (g : Int × Int → β) : ps.map g = (List.range ps.length).map fun k => g (pa ps k) := map_range ps (0, 0) g
theorem enum_pa (ps : List (Int × Int)) (g : Int × Int → D) : enumL (ps.map g) = (List.range ps.length).map fun (k : Nat) => PyData.tuple [.int (k : Int), g (pa ps k)] := enum_range ps (0, 0) g
theorem get_pa (ps : List (Int × Int)) (g : Int × Int → D) {k : Nat} (h : k < ps.length) : L2.atI (ps.map g) (k : Int) = some (g (pa ps k)) := get_map ps (0, 0) g h
theorem okPs.line {ps : List (Int × Int)} (h : okPs ps) : ps.length ≤ sizeLine := by
  rw [sizeLine_eq]
  have := h.2.1
  omega
theorem first_reached_ok {wf : Nat} (n : Nat) {f : Fr} {ps : List (Int × Int)} (hw : 2 ^ 400 ≤ wf) (h : f.ok) (hp : okPs ps) : ∃ b : Nat, First (fun k => f.rt (pa ps k)) ps.length b ∧ callF defs globs wf (n + 7) 19 [encF f, encPs ps] = val (.int b) := by
  rw [call_def d_first_reached]
  have a1 := check_front_ok n hw h
  have a2 := check_places_ok (wf := wf) (n + 3) hp
  obtain ⟨b, hb, a3⟩ := least_ok wf (n + 4) (R := fun k => f.rt (pa ps k)) (m := ps.length) hp.1 (fun k hk => bd_mono (bd_rt h (hp.atk hk)) (by decide))
  refine ⟨b, hb, ?_⟩
  have hl : lcLoop (itmF (cc wf (n + 6)) none e0_first_reached (.v 2) .no [2]) (ps.map encP) [.f (encF f), .f (encPs ps), .u] = .ok (ps.map fun p => q (f.rt p), [.f (encF f), .f (encPs ps), .u]) := by
    apply lc_map
    intro p hq
    have := reached_ok (n + 2) hw h (hp.2.2 p hq)
    simp [EV.ixD, EV.valsOf, EV.ev.eq_1, EV.ev.eq_2, EV.ev.eq_3, EV.ev.eq_4, EV.ev.eq_5, EV.ev.eq_6, EV.ev.eq_7, EV.ev.eq_8, EV.ev.eq_9, EV.ev.eq_10, EV.ev.eq_11, EV.ev.eq_12, EV.ev.eq_13, EV.ev.eq_14, EV.ev.eq_15, EV.ev.eq_16, EV.ev.eq_17, EV.ev.eq_18, EV.ev.eq_19, EV.ev.eq_20, EV.ev.eq_21, EV.ev.eq_22, EV.ev.eq_23, EV.ev.eq_24, EV.ev.eq_25, EV.ev.eq_26, EV.runDef, EV.params, EV.runB, EV.enter, EV.slots0, EV.exS.eq_1, EV.exS.eq_2, EV.exS.eq_3, EV.exS.eq_4, EV.exS.eq_5, EV.exS.eq_6, EV.exS.eq_7, EV.exS.eq_8, EV.exS.eq_9, EV.exS.eq_10, EV.exS.eq_11, EV.exS.eq_14, EV.exS.eq_15, EV.exSs, EV.look, EV.stl, EV.isi, EV.tr, EV.leave, EV.frz, EV.lookAll, EV.afterCall, EV.lent, EV.takeO, EV.store, EV.builtin, EV.b_abs, EV.evA, EV.evO, EV.evC, EV.evI, itmF, e0_first_reached, this, hide]
  rw [map_pa ps fun p => q (f.rt p)] at hl
  simp [EV.ixD, EV.valsOf, EV.ev.eq_1, EV.ev.eq_2, EV.ev.eq_3, EV.ev.eq_4, EV.ev.eq_5, EV.ev.eq_6, EV.ev.eq_7, EV.ev.eq_8, EV.ev.eq_9, EV.ev.eq_10, EV.ev.eq_11, EV.ev.eq_12, EV.ev.eq_13, EV.ev.eq_14, EV.ev.eq_15, EV.ev.eq_16, EV.ev.eq_17, EV.ev.eq_18, EV.ev.eq_19, EV.ev.eq_20, EV.ev.eq_21, EV.ev.eq_22, EV.ev.eq_23, EV.ev.eq_24, EV.ev.eq_25, EV.ev.eq_26, EV.runDef, EV.params, EV.runB, EV.enter, EV.slots0, EV.exS.eq_1, EV.exS.eq_2, EV.exS.eq_3, EV.exS.eq_4, EV.exS.eq_5, EV.exS.eq_6, EV.exS.eq_7, EV.exS.eq_8, EV.exS.eq_9, EV.exS.eq_10, EV.exS.eq_11, EV.exS.eq_14, EV.exS.eq_15, EV.exSs, EV.look, EV.stl, EV.isi, EV.tr, EV.leave, EV.frz, EV.lookAll, EV.afterCall, EV.lent, EV.takeO, EV.store, EV.builtin, EV.b_abs, EV.evA, EV.evO, EV.evC, EV.evI, f_first_reached, a1, a2, plainAt, hide, hl, hp.line, unhide, a3]
theorem passed_by_ok {wf k : Nat} (n : Nat) {f : Fr} {ps : List (Int × Int)} {t : Rat} (hw : 2 ^ 400 ≤ wf) (h : f.ok) (hp : okPs ps) (ht : Bd k t) (hk : k ≤ 400) : callF defs globs wf (n + 7) 20 [encF f, encPs ps, .int t.num, .int t.den] = .ok ⟨true, encI (((List.range ps.length).filter fun k => decide (f.rt (pa ps k) ≤ t)).map fun (k : Nat) => (k : Int)), .none⟩ := by
  rw [call_def d_passed_by]
  have a1 := check_front_ok n hw h
  have a2 := check_places_ok (wf := wf) (n + 3) hp
  have a3 := is_ratio_ok (n + 4) hw ht hk
  have hl : lcLoop (itmF (cc wf (n + 6)) none e0_passed_by (.t (.cons (.v 4) (.cons (.v 5) .nil))) ce0_passed_by [4, 5]) (enumL (ps.map encP)) [.f (encF f), .f (encPs ps), .f (.int t.num), .f (.int t.den), .u, .u] = .ok (((List.range ps.length).filter fun k => decide (f.rt (pa ps k) ≤ t)).map fun (k : Nat) => .int (k : Int), [.f (encF f), .f (encPs ps), .f (.int t.num), .f (.int t.den), .u, .u]) := by
    rw [enum_pa]
    apply lc_fil
    intro j hj
    have hj' := List.mem_range.mp hj
    have b1 := reached_ok (n + 2) hw h (hp.atk hj')
    have b2 := is_less_ok wf (n + 5) ht (bd_rt h (hp.atk hj')) (show k ≤ 4000 by omega) (by decide)
    by_cases hc : f.rt (pa ps j) ≤ t
    · have hd : decide (t < f.rt (pa ps j)) = false := decide_eq_false (by grind)
      rw [hd] at b2
      simp [EV.ixD, EV.valsOf, EV.ev.eq_1, EV.ev.eq_2, EV.ev.eq_3, EV.ev.eq_4, EV.ev.eq_5, EV.ev.eq_6, EV.ev.eq_7, EV.ev.eq_8, EV.ev.eq_9, EV.ev.eq_10, EV.ev.eq_11, EV.ev.eq_12, EV.ev.eq_13, EV.ev.eq_14, EV.ev.eq_15, EV.ev.eq_16, EV.ev.eq_17, EV.ev.eq_18, EV.ev.eq_19, EV.ev.eq_20, EV.ev.eq_21, EV.ev.eq_22, EV.ev.eq_23, EV.ev.eq_24, EV.ev.eq_25, EV.ev.eq_26, EV.runDef, EV.params, EV.runB, EV.enter, EV.slots0, EV.exS.eq_1, EV.exS.eq_2, EV.exS.eq_3, EV.exS.eq_4, EV.exS.eq_5, EV.exS.eq_6, EV.exS.eq_7, EV.exS.eq_8, EV.exS.eq_9, EV.exS.eq_10, EV.exS.eq_11, EV.exS.eq_14, EV.exS.eq_15, EV.exSs, EV.look, EV.stl, EV.isi, EV.tr, EV.leave, EV.frz, EV.lookAll, EV.afterCall, EV.lent, EV.takeO, EV.store, EV.builtin, EV.b_abs, EV.evA, EV.evO, EV.evC, EV.evI, itmF, e0_passed_by, ce0_passed_by, b1, b2, hide, hc]
    · have hd : decide (t < f.rt (pa ps j)) = true := decide_eq_true (by grind)
      rw [hd] at b2
      simp [EV.ixD, EV.valsOf, EV.ev.eq_1, EV.ev.eq_2, EV.ev.eq_3, EV.ev.eq_4, EV.ev.eq_5, EV.ev.eq_6, EV.ev.eq_7, EV.ev.eq_8, EV.ev.eq_9, EV.ev.eq_10, EV.ev.eq_11, EV.ev.eq_12, EV.ev.eq_13, EV.ev.eq_14, EV.ev.eq_15, EV.ev.eq_16, EV.ev.eq_17, EV.ev.eq_18, EV.ev.eq_19, EV.ev.eq_20, EV.ev.eq_21, EV.ev.eq_22, EV.ev.eq_23, EV.ev.eq_24, EV.ev.eq_25, EV.ev.eq_26, EV.runDef, EV.params, EV.runB, EV.enter, EV.slots0, EV.exS.eq_1, EV.exS.eq_2, EV.exS.eq_3, EV.exS.eq_4, EV.exS.eq_5, EV.exS.eq_6, EV.exS.eq_7, EV.exS.eq_8, EV.exS.eq_9, EV.exS.eq_10, EV.exS.eq_11, EV.exS.eq_14, EV.exS.eq_15, EV.exSs, EV.look, EV.stl, EV.isi, EV.tr, EV.leave, EV.frz, EV.lookAll, EV.afterCall, EV.lent, EV.takeO, EV.store, EV.builtin, EV.b_abs, EV.evA, EV.evO, EV.evC, EV.evI, itmF, e0_passed_by, ce0_passed_by, b1, b2, hide, hc]
  have h3 := hp.line
  simp [EV.ixD, EV.valsOf, EV.ev.eq_1, EV.ev.eq_2, EV.ev.eq_3, EV.ev.eq_4, EV.ev.eq_5, EV.ev.eq_6, EV.ev.eq_7, EV.ev.eq_8, EV.ev.eq_9, EV.ev.eq_10, EV.ev.eq_11, EV.ev.eq_12, EV.ev.eq_13, EV.ev.eq_14, EV.ev.eq_15, EV.ev.eq_16, EV.ev.eq_17, EV.ev.eq_18, EV.ev.eq_19, EV.ev.eq_20, EV.ev.eq_21, EV.ev.eq_22, EV.ev.eq_23, EV.ev.eq_24, EV.ev.eq_25, EV.ev.eq_26, EV.runDef, EV.params, EV.runB, EV.enter, EV.slots0, EV.exS.eq_1, EV.exS.eq_2, EV.exS.eq_3, EV.exS.eq_4, EV.exS.eq_5, EV.exS.eq_6, EV.exS.eq_7, EV.exS.eq_8, EV.exS.eq_9, EV.exS.eq_10, EV.exS.eq_11, EV.exS.eq_14, EV.exS.eq_15, EV.exSs, EV.look, EV.stl, EV.isi, EV.tr, EV.leave, EV.frz, EV.lookAll, EV.afterCall, EV.lent, EV.takeO, EV.store, EV.builtin, EV.b_abs, EV.evA, EV.evO, EV.evC, EV.evI, f_passed_by, a1, a2, a3, check_true, plainAt, hide, hl, enum_len, h3, unhide]
theorem check_fronts_ok {wf : Nat} (n : Nat) {f g : Fr} (hw : 2 ^ 400 ≤ wf) (h : f.ok) (hg : g.ok) : callF defs globs wf (n + 7) 21 [encF f, encF g] = val .none := by
  rw [call_def d_check_fronts]
  have a1 := check_front_ok n hw h
  have a2 := check_front_ok n hw hg
  simp [EV.ixD, EV.valsOf, EV.ev.eq_1, EV.ev.eq_2, EV.ev.eq_3, EV.ev.eq_4, EV.ev.eq_5, EV.ev.eq_6, EV.ev.eq_7, EV.ev.eq_8, EV.ev.eq_9, EV.ev.eq_10, EV.ev.eq_11, EV.ev.eq_12, EV.ev.eq_13, EV.ev.eq_14, EV.ev.eq_15, EV.ev.eq_16, EV.ev.eq_17, EV.ev.eq_18, EV.ev.eq_19, EV.ev.eq_20, EV.ev.eq_21, EV.ev.eq_22, EV.ev.eq_23, EV.ev.eq_24, EV.ev.eq_25, EV.ev.eq_26, EV.runDef, EV.params, EV.runB, EV.enter, EV.slots0, EV.exS.eq_1, EV.exS.eq_2, EV.exS.eq_3, EV.exS.eq_4, EV.exS.eq_5, EV.exS.eq_6, EV.exS.eq_7, EV.exS.eq_8, EV.exS.eq_9, EV.exS.eq_10, EV.exS.eq_11, EV.exS.eq_14, EV.exS.eq_15, EV.exSs, EV.look, EV.stl, EV.isi, EV.tr, EV.leave, EV.frz, EV.lookAll, EV.afterCall, EV.lent, EV.takeO, EV.store, EV.builtin, EV.b_abs, EV.evA, EV.evO, EV.evC, EV.evI, f_check_fronts, a1, a2]
theorem across_ok (wf n : Nat) {f g : Fr} (h : f.ok) (hg : g.ok) : callF defs globs wf (n + 1) 22 [.tuple [.int f.bx, .int f.by'], .tuple [.int g.bx, .int g.by']] = val (.int (wh f g)) := by
  rw [call_def d_across]
  have m1 := bm (lt2_30 h.bx) (lt2_30 hg.by') (by decide) (by decide)
  have m2 := bm (lt2_30 h.by') (lt2_30 hg.bx) (by decide) (by decide)
  simp [EV.ixD, EV.valsOf, EV.ev.eq_1, EV.ev.eq_2, EV.ev.eq_3, EV.ev.eq_4, EV.ev.eq_5, EV.ev.eq_6, EV.ev.eq_7, EV.ev.eq_8, EV.ev.eq_9, EV.ev.eq_10, EV.ev.eq_11, EV.ev.eq_12, EV.ev.eq_13, EV.ev.eq_14, EV.ev.eq_15, EV.ev.eq_16, EV.ev.eq_17, EV.ev.eq_18, EV.ev.eq_19, EV.ev.eq_20, EV.ev.eq_21, EV.ev.eq_22, EV.ev.eq_23, EV.ev.eq_24, EV.ev.eq_25, EV.ev.eq_26, EV.runDef, EV.params, EV.runB, EV.enter, EV.slots0, EV.exS.eq_1, EV.exS.eq_2, EV.exS.eq_3, EV.exS.eq_4, EV.exS.eq_5, EV.exS.eq_6, EV.exS.eq_7, EV.exS.eq_8, EV.exS.eq_9, EV.exS.eq_10, EV.exS.eq_11, EV.exS.eq_14, EV.exS.eq_15, EV.exSs, EV.look, EV.stl, EV.isi, EV.tr, EV.leave, EV.frz, EV.lookAll, EV.afterCall, EV.lent, EV.takeO, EV.store, EV.builtin, EV.b_abs, EV.evA, EV.evO, EV.evC, EV.evI, f_across, m1, m2, wh]
def Fr.Ln (f : Fr) (t : Rat) : Int := (f.bx * f.px + f.by' * f.py) * f.s.den * t.den + f.N * f.s.num * t.num
theorem lt2_bp {f : Fr} (h : f.ok) : lt2 61 (f.bx * f.px + f.by' * f.py) := by
  obtain ⟨h5, h6⟩ := okP_x h.p
  exact lt2_mono (lt2_add (lt2_mul (lt2_30 h.bx) h5) (lt2_mul (lt2_30 h.by') h6)) (by decide)
theorem bd_Ln {f : Fr} {t : Rat} (h : f.ok) (ht : Bd 60 t) : lt2 160 (f.Ln t) := lt2_mono (lt2_add (lt2_mul (lt2_mul (lt2_bp h) h.sb.2) ht.2) (lt2_mul (lt2_mul (bd_N h) h.sb.1) ht.1)) (by decide)
theorem Ln_eq {f : Fr} (t : Rat) : (f.Ln t : Rat) = f.L t * ((f.s.den : Int) : Rat) * ((t.den : Int) : Rat) := by
  unfold Fr.Ln Fr.L
  have h3 := nd f.s
  have h4 := nd t
  push_cast at *
  grind
end K3
end

section
/-! M4b -/
set_option linter.all false
set_option maxRecDepth 100000
set_option maxHeartbeats 1000000
set_option exponentiation.threshold 5000
namespace K3
open PySem EV
theorem line_raw {wf n : Nat} {p b s : D} {u v w t d x1 x2 x3 x4 : Int} (a1 : callF defs globs wf (n + 2) 12 [b, p] = val (.int u)) (a2 : callF defs globs wf (n + 2) 13 [.tuple [p, b, s]] = val (.tuple [.int v, .int w]))
    (m1 : binop .mul (.int u) (.int w) = some (.val (.int x1))) (m2 : binop .mul (.int x1) (.int d) = some (.val (.int x2))) (m3 : binop .mul (.int v) (.int t) = some (.val (.int x3))) (m4 : binop .mul (.int w) (.int d) = some (.val (.int x4))) : callF defs globs wf (n + 3) 23 [.tuple [p, b, s], .int t, .int d] = val (.tuple [.int (x2 + x3), .int x4]) := by
  rw [call_def d_line_at]
  simp [EV.ixD, EV.valsOf, EV.ev.eq_1, EV.ev.eq_2, EV.ev.eq_3, EV.ev.eq_4, EV.ev.eq_5, EV.ev.eq_6, EV.ev.eq_7, EV.ev.eq_8, EV.ev.eq_9, EV.ev.eq_10, EV.ev.eq_11, EV.ev.eq_12, EV.ev.eq_13, EV.ev.eq_14, EV.ev.eq_15, EV.ev.eq_16, EV.ev.eq_17, EV.ev.eq_18, EV.ev.eq_19, EV.ev.eq_20, EV.ev.eq_21, EV.ev.eq_22, EV.ev.eq_23, EV.ev.eq_24, EV.ev.eq_25, EV.ev.eq_26, EV.runDef, EV.params, EV.runB, EV.enter, EV.slots0, EV.exS.eq_1, EV.exS.eq_2, EV.exS.eq_3, EV.exS.eq_4, EV.exS.eq_5, EV.exS.eq_6, EV.exS.eq_7, EV.exS.eq_8, EV.exS.eq_9, EV.exS.eq_10, EV.exS.eq_11, EV.exS.eq_14, EV.exS.eq_15, EV.exSs, EV.look, EV.stl, EV.isi, EV.tr, EV.leave, EV.frz, EV.lookAll, EV.afterCall, EV.lent, EV.takeO, EV.store, EV.builtin, EV.b_abs, EV.evA, EV.evO, EV.evC, EV.evI, f_line_at, a1, a2, m1, m2, m3, m4]
theorem line_at_ok (wf n : Nat) {f : Fr} {t : Rat} (h : f.ok) (ht : Bd 60 t) : callF defs globs wf (n + 3) 23 [encF f, .int t.num, .int t.den] = val (.tuple [.int (f.Ln t), .int (f.s.den * t.den)]) := by
  obtain ⟨h5, h6⟩ := okP_x h.p
  exact line_raw (along_ok wf (n + 1) (lt2_30 h.bx) (lt2_30 h.by') h5 h6 (by decide) (by decide)) (speed_of_ok wf n h) (bm (lt2_bp h) h.sb.2 (by decide) (by decide)) (bm (lt2_mul (lt2_bp h) h.sb.2) ht.2 (by decide) (by decide)) (bm (lt2_mul (bd_N h) h.sb.1) ht.1 (by decide) (by decide)) (bm h.sb.2 ht.2 (by decide) (by decide))
end K3
end

section
/-! M5 -/
set_option linter.all false
set_option maxRecDepth 100000
set_option maxHeartbeats 1000000
set_option exponentiation.threshold 5000
namespace K3
open PySem EV
theorem meet_raw {wf n : Nat} {p1 s1 p2 s2 ox oy : D} {a b e f t d w P Q R S ps psf rq rqb qs' rqa pse : Int}
    (c1 : callF defs globs wf (n + 7) 21 [.tuple [p1, .tuple [.int a, .int b], s1], .tuple [p2, .tuple [.int e, .int f], s2]] = val .none)
    (c2 : callF defs globs wf (n + 7) 8 [.tuple [.int t, .int d]] = val (.bool true))
    (c3 : callF defs globs wf (n + 7) 22 [.tuple [.int a, .int b], .tuple [.int e, .int f]] = val (.int w)) (hw : w ≠ 0)
    (l1 : callF defs globs wf (n + 7) 23 [.tuple [p1, .tuple [.int a, .int b], s1], .int t, .int d] = val (.tuple [.int P, .int Q]))
    (l2 : callF defs globs wf (n + 7) 23 [.tuple [p2, .tuple [.int e, .int f], s2], .int t, .int d] = val (.tuple [.int R, .int S]))
    (m1 : binop .mul (.int P) (.int S) = some (.val (.int ps))) (m2 : binop .mul (.int ps) (.int f) = some (.val (.int psf)))
    (m3 : binop .mul (.int R) (.int Q) = some (.val (.int rq))) (m4 : binop .mul (.int rq) (.int b) = some (.val (.int rqb)))
    (m5 : binop .mul (.int Q) (.int S) = some (.val (.int qs'))) (m6 : binop .mul (.int rq) (.int a) = some (.val (.int rqa)))
    (m7 : binop .mul (.int ps) (.int e) = some (.val (.int pse)))
    (o1 : callF defs globs wf (n + 7) 14 [.tuple [.int (psf - rqb), .int qs'], .tuple [.int w, .int 1]] = val ox)
    (o2 : callF defs globs wf (n + 7) 14 [.tuple [.int (rqa - pse), .int qs'], .tuple [.int w, .int 1]] = val oy) :
    callF defs globs wf (n + 8) 24 [.tuple [p1, .tuple [.int a, .int b], s1], .tuple [p2, .tuple [.int e, .int f], s2], .int t, .int d] = val (.tuple [ox, oy]) := by
  rw [call_def d_meet_point]
  simp [EV.ixD, EV.valsOf, EV.ev.eq_1, EV.ev.eq_2, EV.ev.eq_3, EV.ev.eq_4, EV.ev.eq_5, EV.ev.eq_6, EV.ev.eq_7, EV.ev.eq_8, EV.ev.eq_9, EV.ev.eq_10, EV.ev.eq_11, EV.ev.eq_12, EV.ev.eq_13, EV.ev.eq_14, EV.ev.eq_15, EV.ev.eq_16, EV.ev.eq_17, EV.ev.eq_18, EV.ev.eq_19, EV.ev.eq_20, EV.ev.eq_21, EV.ev.eq_22, EV.ev.eq_23, EV.ev.eq_24, EV.ev.eq_25, EV.ev.eq_26, EV.runDef, EV.params, EV.runB, EV.enter, EV.slots0, EV.exS.eq_1, EV.exS.eq_2, EV.exS.eq_3, EV.exS.eq_4, EV.exS.eq_5, EV.exS.eq_6, EV.exS.eq_7, EV.exS.eq_8, EV.exS.eq_9, EV.exS.eq_10, EV.exS.eq_11, EV.exS.eq_14, EV.exS.eq_15, EV.exSs, EV.look, EV.stl, EV.isi, EV.tr, EV.leave, EV.frz, EV.lookAll, EV.afterCall, EV.lent, EV.takeO, EV.store, EV.builtin, EV.b_abs, EV.evA, EV.evO, EV.evC, EV.evI, f_meet_point, c1, c2, c3, hw, l1, l2, m1, m2, m3, m4, m5, m6, m7, o1, o2, check_true]
theorem meet_raw0 {wf n : Nat} {p1 s1 p2 s2 : D} {a b e f t d : Int}
    (c1 : callF defs globs wf (n + 7) 21 [.tuple [p1, .tuple [.int a, .int b], s1], .tuple [p2, .tuple [.int e, .int f], s2]] = val .none)
    (c2 : callF defs globs wf (n + 7) 8 [.tuple [.int t, .int d]] = val (.bool true))
    (c3 : callF defs globs wf (n + 7) 22 [.tuple [.int a, .int b], .tuple [.int e, .int f]] = val (.int 0)) :
    callF defs globs wf (n + 8) 24 [.tuple [p1, .tuple [.int a, .int b], s1], .tuple [p2, .tuple [.int e, .int f], s2], .int t, .int d] = val .none := by
  rw [call_def d_meet_point]
  simp [EV.ixD, EV.valsOf, EV.ev.eq_1, EV.ev.eq_2, EV.ev.eq_3, EV.ev.eq_4, EV.ev.eq_5, EV.ev.eq_6, EV.ev.eq_7, EV.ev.eq_8, EV.ev.eq_9, EV.ev.eq_10, EV.ev.eq_11, EV.ev.eq_12, EV.ev.eq_13, EV.ev.eq_14, EV.ev.eq_15, EV.ev.eq_16, EV.ev.eq_17, EV.ev.eq_18, EV.ev.eq_19, EV.ev.eq_20, EV.ev.eq_21, EV.ev.eq_22, EV.ev.eq_23, EV.ev.eq_24, EV.ev.eq_25, EV.ev.eq_26, EV.runDef, EV.params, EV.runB, EV.enter, EV.slots0, EV.exS.eq_1, EV.exS.eq_2, EV.exS.eq_3, EV.exS.eq_4, EV.exS.eq_5, EV.exS.eq_6, EV.exS.eq_7, EV.exS.eq_8, EV.exS.eq_9, EV.exS.eq_10, EV.exS.eq_11, EV.exS.eq_14, EV.exS.eq_15, EV.exSs, EV.look, EV.stl, EV.isi, EV.tr, EV.leave, EV.frz, EV.lookAll, EV.afterCall, EV.lent, EV.takeO, EV.store, EV.builtin, EV.b_abs, EV.evA, EV.evO, EV.evC, EV.evI, f_meet_point, c1, c2, c3, check_true]
theorem bd_wh {f g : Fr} (h : f.ok) (hg : g.ok) : lt2 61 (wh f g) := lt2_mono (lt2_sub (lt2_mul (lt2_30 h.bx) (lt2_30 hg.by')) (lt2_mul (lt2_30 h.by') (lt2_30 hg.bx))) (by decide)
theorem lt2_one (k : Nat) (hk : 1 ≤ k) : lt2 k 1 := lt2_mono (show lt2 1 1 by unfold lt2; decide) hk
theorem den_pos (r : Rat) : 0 < (r.den : Int) := by have := r.den_pos; omega
theorem meet_none {wf : Nat} (n : Nat) {f g : Fr} {t : Rat} (hw : 2 ^ 400 ≤ wf) (h : f.ok) (hg : g.ok) (ht : Bd 60 t) (h0 : wh f g = 0) : callF defs globs wf (n + 8) 24 [encF f, encF g, .int t.num, .int t.den] = val .none := by
  have c3 := across_ok wf (n + 6) h hg
  rw [h0] at c3
  exact meet_raw0 (check_fronts_ok n hw h hg) (is_ratio_ok (n + 5) hw ht (by decide)) c3
theorem mx_eq {f g : Fr} (t : Rat) (h0 : wh f g ≠ 0) : (((f.Ln t * (g.s.den * t.den) * g.by' - g.Ln t * (f.s.den * t.den) * f.by') * 1 : Int) : Rat) / ((f.s.den * t.den * (g.s.den * t.den) * wh f g : Int) : Rat) = mx f g t := by
  have h' : (wh f g : Rat) ≠ 0 := by rw [Ne, Rat.intCast_eq_zero_iff]; exact h0
  have e1 := Ln_eq (f := f) t
  have e2 := Ln_eq (f := g) t
  have e3 := den_ne f.s
  have e4 := den_ne g.s
  have e5 := den_ne t
  unfold mx
  generalize (wh f g) = w at *
  generalize f.Ln t = l1 at *
  generalize g.Ln t = l2 at *
  generalize f.L t = a at *
  generalize g.L t = b at *
  generalize (f.s.den : Int) = x at *
  generalize (g.s.den : Int) = y at *
  generalize (t.den : Int) = z at *
  push_cast
  rw [e1, e2]
  grind
theorem my_eq {f g : Fr} (t : Rat) (h0 : wh f g ≠ 0) : (((g.Ln t * (f.s.den * t.den) * f.bx - f.Ln t * (g.s.den * t.den) * g.bx) * 1 : Int) : Rat) / ((f.s.den * t.den * (g.s.den * t.den) * wh f g : Int) : Rat) = my f g t := by
  have h' : (wh f g : Rat) ≠ 0 := by rw [Ne, Rat.intCast_eq_zero_iff]; exact h0
  have e1 := Ln_eq (f := f) t
  have e2 := Ln_eq (f := g) t
  have e3 := den_ne f.s
  have e4 := den_ne g.s
  have e5 := den_ne t
  unfold my
  generalize (wh f g) = w at *
  generalize f.Ln t = l1 at *
  generalize g.Ln t = l2 at *
  generalize f.L t = a at *
  generalize g.L t = b at *
  generalize (f.s.den : Int) = x at *
  generalize (g.s.den : Int) = y at *
  generalize (t.den : Int) = z at *
  push_cast
  rw [e1, e2]
  grind
theorem bd_dd {f : Fr} {t : Rat} (h : f.ok) (ht : Bd 60 t) : lt2 90 ((f.s.den : Int) * t.den) := lt2_mono (lt2_mul h.sb.2 ht.2) (by decide)
theorem bd_x {f g : Fr} {t : Rat} (h : f.ok) (hg : g.ok) (ht : Bd 60 t) : lt2 300 (f.Ln t * (g.s.den * t.den) * g.by' - g.Ln t * (f.s.den * t.den) * f.by') :=
  lt2_mono (lt2_sub (lt2_mul (lt2_mul (bd_Ln h ht) (bd_dd hg ht)) (lt2_30 hg.by')) (lt2_mul (lt2_mul (bd_Ln hg ht) (bd_dd h ht)) (lt2_30 h.by'))) (by decide)
theorem bd_y {f g : Fr} {t : Rat} (h : f.ok) (hg : g.ok) (ht : Bd 60 t) : lt2 300 (g.Ln t * (f.s.den * t.den) * f.bx - f.Ln t * (g.s.den * t.den) * g.bx) :=
  lt2_mono (lt2_sub (lt2_mul (lt2_mul (bd_Ln hg ht) (bd_dd h ht)) (lt2_30 h.bx)) (lt2_mul (lt2_mul (bd_Ln h ht) (bd_dd hg ht)) (lt2_30 hg.bx))) (by decide)
theorem meet_some {wf : Nat} (n : Nat) {f g : Fr} {t : Rat} (hw : 2 ^ 400 ≤ wf) (h : f.ok) (hg : g.ok) (ht : Bd 60 t) (h0 : wh f g ≠ 0) : callF defs globs wf (n + 8) 24 [encF f, encF g, .int t.num, .int t.den] = val (.tuple [q (mx f g t), q (my f g t)]) := by
  have c3 := across_ok wf (n + 6) h hg
  have hd : (f.s.den : Int) * t.den * (g.s.den * t.den) * wh f g ≠ 0 := by
    have := den_pos f.s
    have := den_pos g.s
    have := den_pos t
    simp [EV.ixD, EV.valsOf, EV.ev.eq_1, EV.ev.eq_2, EV.ev.eq_3, EV.ev.eq_4, EV.ev.eq_5, EV.ev.eq_6, EV.ev.eq_7, EV.ev.eq_8, EV.ev.eq_9, EV.ev.eq_10, EV.ev.eq_11, EV.ev.eq_12, EV.ev.eq_13, EV.ev.eq_14, EV.ev.eq_15, EV.ev.eq_16, EV.ev.eq_17, EV.ev.eq_18, EV.ev.eq_19, EV.ev.eq_20, EV.ev.eq_21, EV.ev.eq_22, EV.ev.eq_23, EV.ev.eq_24, EV.ev.eq_25, EV.ev.eq_26, EV.runDef, EV.params, EV.runB, EV.enter, EV.slots0, EV.exS.eq_1, EV.exS.eq_2, EV.exS.eq_3, EV.exS.eq_4, EV.exS.eq_5, EV.exS.eq_6, EV.exS.eq_7, EV.exS.eq_8, EV.exS.eq_9, EV.exS.eq_10, EV.exS.eq_11, EV.exS.eq_14, EV.exS.eq_15, EV.exSs, EV.look, EV.stl, EV.isi, EV.tr, EV.leave, EV.frz, EV.lookAll, EV.afterCall, EV.lent, EV.takeO, EV.store, EV.builtin, EV.b_abs, EV.evA, EV.evO, EV.evC, EV.evI, Int.mul_eq_zero]
    omega
  have hq : lt2 180 ((f.s.den : Int) * t.den * (g.s.den * t.den)) := lt2_mono (lt2_mul (bd_dd h ht) (bd_dd hg ht)) (by decide)
  have o1 := over_ok (n + 4) (a := f.Ln t * (g.s.den * t.den) * g.by' - g.Ln t * (f.s.den * t.den) * f.by') (b := f.s.den * t.den * (g.s.den * t.den)) (c := wh f g) (d := 1) hw (bd_x h hg ht) hq (lt2_mono (bd_wh h hg) (by decide)) (lt2_one _ (by decide)) (by decide) (by decide) hd
  have o2 := over_ok (n + 4) (a := g.Ln t * (f.s.den * t.den) * f.bx - f.Ln t * (g.s.den * t.den) * g.bx) (b := f.s.den * t.den * (g.s.den * t.den)) (c := wh f g) (d := 1) hw (bd_y h hg ht) hq (lt2_mono (bd_wh h hg) (by decide)) (lt2_one _ (by decide)) (by decide) (by decide) hd
  rw [mx_eq t h0] at o1
  rw [my_eq t h0] at o2
  have p1 := lt2_mul (bd_Ln h ht) (bd_dd hg ht)
  have p2 := lt2_mul (bd_Ln hg ht) (bd_dd h ht)
  exact meet_raw (check_fronts_ok n hw h hg) (is_ratio_ok (n + 5) hw ht (by decide)) c3 h0 (line_at_ok wf (n + 4) h ht) (line_at_ok wf (n + 4) hg ht)
    (bm (bd_Ln h ht) (bd_dd hg ht) (by decide) (by decide)) (bm p1 (lt2_30 hg.by') (by decide) (by decide)) (bm (bd_Ln hg ht) (bd_dd h ht) (by decide) (by decide)) (bm p2 (lt2_30 h.by') (by decide) (by decide))
    (bm (bd_dd h ht) (bd_dd hg ht) (by decide) (by decide)) (bm p2 (lt2_30 h.bx) (by decide) (by decide)) (bm p1 (lt2_30 hg.bx) (by decide) (by decide)) o1 o2
end K3
end

section
/-! M6 -/
set_option linter.all false
set_option maxRecDepth 100000
set_option maxHeartbeats 1000000
set_option exponentiation.threshold 5000
namespace K3
open PySem EV
theorem between_raw {wf n : Nat} {F G P r1 r2 : D} {t d : Int} {x y : Bool} (c1 : callF defs globs wf (n + 7) 21 [F, G] = val .none) (c2 : callF defs globs wf (n + 7) 7 [P] = val (.bool true)) (c3 : callF defs globs wf (n + 7) 8 [.tuple [.int t, .int d]] = val (.bool true))
    (r1' : callF defs globs wf (n + 7) 15 [F, P] = val r1) (r2' : callF defs globs wf (n + 7) 15 [G, P] = val r2) (l1 : callF defs globs wf (n + 7) 16 [.tuple [.int t, .int d], r1] = val (.bool x)) (l2 : callF defs globs wf (n + 7) 16 [.tuple [.int t, .int d], r2] = val (.bool y)) :
    callF defs globs wf (n + 8) 25 [F, G, P, .int t, .int d] = val (.bool (!decide (x = y))) := by
  rw [call_def d_is_between]
  simp [EV.ixD, EV.valsOf, EV.ev.eq_1, EV.ev.eq_2, EV.ev.eq_3, EV.ev.eq_4, EV.ev.eq_5, EV.ev.eq_6, EV.ev.eq_7, EV.ev.eq_8, EV.ev.eq_9, EV.ev.eq_10, EV.ev.eq_11, EV.ev.eq_12, EV.ev.eq_13, EV.ev.eq_14, EV.ev.eq_15, EV.ev.eq_16, EV.ev.eq_17, EV.ev.eq_18, EV.ev.eq_19, EV.ev.eq_20, EV.ev.eq_21, EV.ev.eq_22, EV.ev.eq_23, EV.ev.eq_24, EV.ev.eq_25, EV.ev.eq_26, EV.runDef, EV.params, EV.runB, EV.enter, EV.slots0, EV.exS.eq_1, EV.exS.eq_2, EV.exS.eq_3, EV.exS.eq_4, EV.exS.eq_5, EV.exS.eq_6, EV.exS.eq_7, EV.exS.eq_8, EV.exS.eq_9, EV.exS.eq_10, EV.exS.eq_11, EV.exS.eq_14, EV.exS.eq_15, EV.exSs, EV.look, EV.stl, EV.isi, EV.tr, EV.leave, EV.frz, EV.lookAll, EV.afterCall, EV.lent, EV.takeO, EV.store, EV.builtin, EV.b_abs, EV.evA, EV.evO, EV.evC, EV.evI, f_is_between, c1, c2, c3, r1', r2', l1, l2, check_true]
theorem is_between_ok {wf : Nat} (n : Nat) {f g : Fr} {p : Int × Int} {t : Rat} (hw : 2 ^ 400 ≤ wf) (h : f.ok) (hg : g.ok) (hp : okP p) (ht : Bd 400 t) : callF defs globs wf (n + 8) 25 [encF f, encF g, encP p, .int t.num, .int t.den] = val (.bool (!decide (decide (t < f.rt p) = decide (t < g.rt p)))) :=
  between_raw (check_fronts_ok n hw h hg) (is_place_ok (n + 5) hp) (is_ratio_ok (n + 5) hw ht (by decide)) (reached_ok (n + 3) hw h hp) (reached_ok (n + 3) hw hg hp) (is_less_ok wf (n + 6) ht (bd_rt h hp) (by decide) (by decide)) (is_less_ok wf (n + 6) ht (bd_rt hg hp) (by decide) (by decide))
theorem is_reading_ok {wf : Nat} (n : Nat) {p : Int × Int} {t : Rat} (hw : 2 ^ 400 ≤ wf) (hp : okP p) (ht : Bd 400 t) : callF defs globs wf (n + 3) 26 [.tuple [encP p, q t]] = val (.bool true) := by
  rw [call_def d_is_reading]
  have a1 := is_place_ok (wf := wf) n hp
  have a2 := is_ratio_ok n hw ht (by decide)
  simp [EV.ixD, EV.valsOf, EV.ev.eq_1, EV.ev.eq_2, EV.ev.eq_3, EV.ev.eq_4, EV.ev.eq_5, EV.ev.eq_6, EV.ev.eq_7, EV.ev.eq_8, EV.ev.eq_9, EV.ev.eq_10, EV.ev.eq_11, EV.ev.eq_12, EV.ev.eq_13, EV.ev.eq_14, EV.ev.eq_15, EV.ev.eq_16, EV.ev.eq_17, EV.ev.eq_18, EV.ev.eq_19, EV.ev.eq_20, EV.ev.eq_21, EV.ev.eq_22, EV.ev.eq_23, EV.ev.eq_24, EV.ev.eq_25, EV.ev.eq_26, EV.runDef, EV.params, EV.runB, EV.enter, EV.slots0, EV.exS.eq_1, EV.exS.eq_2, EV.exS.eq_3, EV.exS.eq_4, EV.exS.eq_5, EV.exS.eq_6, EV.exS.eq_7, EV.exS.eq_8, EV.exS.eq_9, EV.exS.eq_10, EV.exS.eq_11, EV.exS.eq_14, EV.exS.eq_15, EV.exSs, EV.look, EV.stl, EV.isi, EV.tr, EV.leave, EV.frz, EV.lookAll, EV.afterCall, EV.lent, EV.takeO, EV.store, EV.builtin, EV.b_abs, EV.evA, EV.evO, EV.evC, EV.evI, f_is_reading, bLen, a1, a2]
theorem does_fit_raw {wf n : Nat} {F : D} {xs : List D} (c1 : callF defs globs wf (n + 6) 10 [F] = val .none) (hx : xs.length ≤ 60)
    (l1 : lcLoop (itmF (cc wf (n + 6)) none e0_does_fit (.v 2) .no [2]) xs [.f F, .f (.list xs), .u, .u, .u] = .ok (xs.map fun _ => .bool true, [.f F, .f (.list xs), .u, .u, .u]))
    (l2 : lcLoop (itmF (cc wf (n + 6)) none e1_does_fit (.t (.cons (.v 3) (.cons (.v 4) .nil))) .no [3, 4]) xs [.f F, .f (.list xs), .u, .u, .u] = .ok (xs.map fun _ => .bool true, [.f F, .f (.list xs), .u, .u, .u])) :
    callF defs globs wf (n + 7) 27 [F, .list xs] = val (.bool true) := by
  rw [call_def d_does_fit]
  have h3 : xs.length ≤ sizeLine := by rw [sizeLine_eq]; omega
  have h5 := all_true xs
  have h7 : (xs.length : Int) ≤ 60 := by omega
  simp only [List.map_const'] at l1 l2 h5
  simp [EV.ixD, EV.valsOf, EV.ev.eq_1, EV.ev.eq_2, EV.ev.eq_3, EV.ev.eq_4, EV.ev.eq_5, EV.ev.eq_6, EV.ev.eq_7, EV.ev.eq_8, EV.ev.eq_9, EV.ev.eq_10, EV.ev.eq_11, EV.ev.eq_12, EV.ev.eq_13, EV.ev.eq_14, EV.ev.eq_15, EV.ev.eq_16, EV.ev.eq_17, EV.ev.eq_18, EV.ev.eq_19, EV.ev.eq_20, EV.ev.eq_21, EV.ev.eq_22, EV.ev.eq_23, EV.ev.eq_24, EV.ev.eq_25, EV.ev.eq_26, EV.runDef, EV.params, EV.runB, EV.enter, EV.slots0, EV.exS.eq_1, EV.exS.eq_2, EV.exS.eq_3, EV.exS.eq_4, EV.exS.eq_5, EV.exS.eq_6, EV.exS.eq_7, EV.exS.eq_8, EV.exS.eq_9, EV.exS.eq_10, EV.exS.eq_11, EV.exS.eq_14, EV.exS.eq_15, EV.exSs, EV.look, EV.stl, EV.isi, EV.tr, EV.leave, EV.frz, EV.lookAll, EV.afterCall, EV.lent, EV.takeO, EV.store, EV.builtin, EV.b_abs, EV.evA, EV.evO, EV.evC, EV.evI, f_does_fit, bLen, plainAt, hide, l1, l2, h3, unhide, h5, h7, check_true, c1, hx]
abbrev encR (r : (Int × Int) × Rat) : D := .tuple [encP r.1, q r.2]
theorem does_fit_ok {wf : Nat} (n : Nat) {f : Fr} {rs : List ((Int × Int) × Rat)} (hw : 2 ^ 400 ≤ wf) (h : f.ok) (hl : rs.length ≤ 60) (hr : ∀ r ∈ rs, okP r.1 ∧ Bd 400 r.2 ∧ f.rt r.1 = r.2) : callF defs globs wf (n + 7) 27 [encF f, .list (rs.map encR)] = val (.bool true) := by
  apply does_fit_raw (check_front_ok n hw h) (by simpa using hl)
  · rw [List.map_map]
    apply lc_map
    intro r hr'
    obtain ⟨h1, h2, h3⟩ := hr r hr'
    have := is_reading_ok (n + 3) hw h1 h2
    simp [EV.ixD, EV.valsOf, EV.ev.eq_1, EV.ev.eq_2, EV.ev.eq_3, EV.ev.eq_4, EV.ev.eq_5, EV.ev.eq_6, EV.ev.eq_7, EV.ev.eq_8, EV.ev.eq_9, EV.ev.eq_10, EV.ev.eq_11, EV.ev.eq_12, EV.ev.eq_13, EV.ev.eq_14, EV.ev.eq_15, EV.ev.eq_16, EV.ev.eq_17, EV.ev.eq_18, EV.ev.eq_19, EV.ev.eq_20, EV.ev.eq_21, EV.ev.eq_22, EV.ev.eq_23, EV.ev.eq_24, EV.ev.eq_25, EV.ev.eq_26, EV.runDef, EV.params, EV.runB, EV.enter, EV.slots0, EV.exS.eq_1, EV.exS.eq_2, EV.exS.eq_3, EV.exS.eq_4, EV.exS.eq_5, EV.exS.eq_6, EV.exS.eq_7, EV.exS.eq_8, EV.exS.eq_9, EV.exS.eq_10, EV.exS.eq_11, EV.exS.eq_14, EV.exS.eq_15, EV.exSs, EV.look, EV.stl, EV.isi, EV.tr, EV.leave, EV.frz, EV.lookAll, EV.afterCall, EV.lent, EV.takeO, EV.store, EV.builtin, EV.b_abs, EV.evA, EV.evO, EV.evC, EV.evI, itmF, e0_does_fit, this, hide]
  · rw [List.map_map]
    apply lc_map
    intro r hr'
    obtain ⟨h1, h2, h3⟩ := hr r hr'
    have := reached_ok (n + 2) hw h h1
    rw [h3] at this
    simp [EV.ixD, EV.valsOf, EV.ev.eq_1, EV.ev.eq_2, EV.ev.eq_3, EV.ev.eq_4, EV.ev.eq_5, EV.ev.eq_6, EV.ev.eq_7, EV.ev.eq_8, EV.ev.eq_9, EV.ev.eq_10, EV.ev.eq_11, EV.ev.eq_12, EV.ev.eq_13, EV.ev.eq_14, EV.ev.eq_15, EV.ev.eq_16, EV.ev.eq_17, EV.ev.eq_18, EV.ev.eq_19, EV.ev.eq_20, EV.ev.eq_21, EV.ev.eq_22, EV.ev.eq_23, EV.ev.eq_24, EV.ev.eq_25, EV.ev.eq_26, EV.runDef, EV.params, EV.runB, EV.enter, EV.slots0, EV.exS.eq_1, EV.exS.eq_2, EV.exS.eq_3, EV.exS.eq_4, EV.exS.eq_5, EV.exS.eq_6, EV.exS.eq_7, EV.exS.eq_8, EV.exS.eq_9, EV.exS.eq_10, EV.exS.eq_11, EV.exS.eq_14, EV.exS.eq_15, EV.exSs, EV.look, EV.stl, EV.isi, EV.tr, EV.leave, EV.frz, EV.lookAll, EV.afterCall, EV.lent, EV.takeO, EV.store, EV.builtin, EV.b_abs, EV.evA, EV.evO, EV.evC, EV.evI, itmF, e1_does_fit, this, hide]
theorem fitted_raw {wf n : Nat} {p b P : D} {t d u v w : Int} (c1 : callF defs globs wf (n + 4) 7 [p] = val (.bool true)) (c2 : callF defs globs wf (n + 4) 6 [b] = val (.bool true)) (c3 : callF defs globs wf (n + 4) 26 [.tuple [P, .tuple [.int t, .int d]]] = val (.bool true))
    (a1 : callF defs globs wf (n + 4) 12 [b, P] = val (.int u)) (a2 : callF defs globs wf (n + 4) 12 [b, p] = val (.int v)) (m : binop .mul (.int (u - v)) (.int t) = some (.val (.int w))) :
    (w ≤ 0 → callF defs globs wf (n + 5) 28 [p, b, .tuple [P, .tuple [.int t, .int d]]] = val .none) ∧
    (∀ N o, ¬ w ≤ 0 → callF defs globs wf (n + 4) 12 [b, b] = val (.int N) → callF defs globs wf (n + 4) 14 [.tuple [.int (u - v), .int N], .tuple [.int t, .int d]] = val o → callF defs globs wf (n + 5) 28 [p, b, .tuple [P, .tuple [.int t, .int d]]] = val o) := by
  constructor
  · intro hw
    rw [call_def d_fitted_speed]
    simp [EV.ixD, EV.valsOf, EV.ev.eq_1, EV.ev.eq_2, EV.ev.eq_3, EV.ev.eq_4, EV.ev.eq_5, EV.ev.eq_6, EV.ev.eq_7, EV.ev.eq_8, EV.ev.eq_9, EV.ev.eq_10, EV.ev.eq_11, EV.ev.eq_12, EV.ev.eq_13, EV.ev.eq_14, EV.ev.eq_15, EV.ev.eq_16, EV.ev.eq_17, EV.ev.eq_18, EV.ev.eq_19, EV.ev.eq_20, EV.ev.eq_21, EV.ev.eq_22, EV.ev.eq_23, EV.ev.eq_24, EV.ev.eq_25, EV.ev.eq_26, EV.runDef, EV.params, EV.runB, EV.enter, EV.slots0, EV.exS.eq_1, EV.exS.eq_2, EV.exS.eq_3, EV.exS.eq_4, EV.exS.eq_5, EV.exS.eq_6, EV.exS.eq_7, EV.exS.eq_8, EV.exS.eq_9, EV.exS.eq_10, EV.exS.eq_11, EV.exS.eq_14, EV.exS.eq_15, EV.exSs, EV.look, EV.stl, EV.isi, EV.tr, EV.leave, EV.frz, EV.lookAll, EV.afterCall, EV.lent, EV.takeO, EV.store, EV.builtin, EV.b_abs, EV.evA, EV.evO, EV.evC, EV.evI, f_fitted_speed, c1, c2, c3, a1, a2, m, hw, check_true]
  · intro N o hw e1 e2
    rw [call_def d_fitted_speed]
    simp [EV.ixD, EV.valsOf, EV.ev.eq_1, EV.ev.eq_2, EV.ev.eq_3, EV.ev.eq_4, EV.ev.eq_5, EV.ev.eq_6, EV.ev.eq_7, EV.ev.eq_8, EV.ev.eq_9, EV.ev.eq_10, EV.ev.eq_11, EV.ev.eq_12, EV.ev.eq_13, EV.ev.eq_14, EV.ev.eq_15, EV.ev.eq_16, EV.ev.eq_17, EV.ev.eq_18, EV.ev.eq_19, EV.ev.eq_20, EV.ev.eq_21, EV.ev.eq_22, EV.ev.eq_23, EV.ev.eq_24, EV.ev.eq_25, EV.ev.eq_26, EV.runDef, EV.params, EV.runB, EV.enter, EV.slots0, EV.exS.eq_1, EV.exS.eq_2, EV.exS.eq_3, EV.exS.eq_4, EV.exS.eq_5, EV.exS.eq_6, EV.exS.eq_7, EV.exS.eq_8, EV.exS.eq_9, EV.exS.eq_10, EV.exS.eq_11, EV.exS.eq_14, EV.exS.eq_15, EV.exSs, EV.look, EV.stl, EV.isi, EV.tr, EV.leave, EV.frz, EV.lookAll, EV.afterCall, EV.lent, EV.takeO, EV.store, EV.builtin, EV.b_abs, EV.evA, EV.evO, EV.evC, EV.evI, f_fitted_speed, c1, c2, c3, a1, a2, m, hw, check_true, e1, e2]
/-- the speed that fits -/
def Fr.fs (f : Fr) (p : Int × Int) (t : Rat) : Option Rat := if f.F p * t.num ≤ 0 then none else some ((f.F p : Rat) / ((f.N : Rat) * t))
def encO : Option Rat → D
  | none => .none
  | some r => q r
theorem fitted_ok {wf : Nat} (n : Nat) {f : Fr} {p : Int × Int} {t : Rat} (hw : 2 ^ 400 ≤ wf) (h : f.ok) (hp : okP p) (ht : Bd 100 t) : callF defs globs wf (n + 5) 28 [.tuple [.int f.px, .int f.py], .tuple [.int f.bx, .int f.by'], encR (p, t)] = val (encO (f.fs p t)) := by
  obtain ⟨k1, k2⟩ := fitted_raw (n := n) (wf := wf) (is_place_ok (n + 2) h.p) (is_bearing_ok n hw h.bx h.by' h.g) (is_reading_ok (n + 1) hw hp (bd_mono ht (by decide)))
    (along_ok wf (n + 3) (lt2_30 h.bx) (lt2_30 h.by') (okP_x hp).1 (okP_x hp).2 (by decide) (by decide)) (along_ok wf (n + 3) (lt2_30 h.bx) (lt2_30 h.by') (okP_x h.p).1 (okP_x h.p).2 (by decide) (by decide)) (bm (bd_F h hp) ht.1 (by decide) (by decide))
  unfold Fr.fs
  by_cases hc : f.F p * t.num ≤ 0
  · rw [if_pos hc]
    exact k1 hc
  · rw [if_neg hc]
    have ht0 : t.num ≠ 0 := by intro e; rw [e] at hc; omega
    have h1 : f.N * t.num ≠ 0 := by
      have := h.N_pos
      rw [Ne, Int.mul_eq_zero]
      omega
    have o := over_ok (wf := wf) (j := 100) (k := 100) (n + 1) (a := f.F p) (b := f.N) (c := t.num) (d := t.den) hw (lt2_mono (bd_F h hp) (by decide)) (lt2_mono (bd_N h) (by decide)) ht.1 ht.2 (by decide) (by decide) h1
    have e : (((f.F p * t.den : Int)) : Rat) / ((f.N * t.num : Int) : Rat) = (f.F p : Rat) / ((f.N : Rat) * t) := by
      have e1 := nd t
      have e2 := den_ne t
      have e3 := h.Nq
      have e4 : t ≠ 0 := by rw [Ne, ← Rat.num_eq_zero]; exact ht0
      push_cast at *
      grind
    rw [e] at o
    exact k2 _ _ hc (along_ok wf (n + 3) (lt2_30 h.bx) (lt2_30 h.by') (lt2_30 h.bx) (lt2_30 h.by') (by decide) (by decide)) o
end K3
end

section
/-! MS -/
set_option linter.all false
set_option maxRecDepth 100000
namespace K3
open PySem EV
theorem al_pairs (l : List (Int × Int)) : alikeL (l.map encP) = true ∧ sortable (l.map encP) = true := by
  constructor
  · unfold alikeL
    simp [EV.ixD, EV.valsOf, EV.ev.eq_1, EV.ev.eq_2, EV.ev.eq_3, EV.ev.eq_4, EV.ev.eq_5, EV.ev.eq_6, EV.ev.eq_7, EV.ev.eq_8, EV.ev.eq_9, EV.ev.eq_10, EV.ev.eq_11, EV.ev.eq_12, EV.ev.eq_13, EV.ev.eq_14, EV.ev.eq_15, EV.ev.eq_16, EV.ev.eq_17, EV.ev.eq_18, EV.ev.eq_19, EV.ev.eq_20, EV.ev.eq_21, EV.ev.eq_22, EV.ev.eq_23, EV.ev.eq_24, EV.ev.eq_25, EV.ev.eq_26, EV.runDef, EV.params, EV.runB, EV.enter, EV.slots0, EV.exS.eq_1, EV.exS.eq_2, EV.exS.eq_3, EV.exS.eq_4, EV.exS.eq_5, EV.exS.eq_6, EV.exS.eq_7, EV.exS.eq_8, EV.exS.eq_9, EV.exS.eq_10, EV.exS.eq_11, EV.exS.eq_14, EV.exS.eq_15, EV.exSs, EV.look, EV.stl, EV.isi, EV.tr, EV.leave, EV.frz, EV.lookAll, EV.afterCall, EV.lent, EV.takeO, EV.store, EV.builtin, EV.b_abs, EV.evA, EV.evO, EV.evC, EV.evI, okD, dp, W.alike, W.alikeAll]
  · unfold sortable
    simp
theorem al_ints (l : List Int) : alikeL (l.map .int) = true ∧ sortable (l.map .int) = true := by
  constructor
  · unfold alikeL
    simp [EV.ixD, EV.valsOf, EV.ev.eq_1, EV.ev.eq_2, EV.ev.eq_3, EV.ev.eq_4, EV.ev.eq_5, EV.ev.eq_6, EV.ev.eq_7, EV.ev.eq_8, EV.ev.eq_9, EV.ev.eq_10, EV.ev.eq_11, EV.ev.eq_12, EV.ev.eq_13, EV.ev.eq_14, EV.ev.eq_15, EV.ev.eq_16, EV.ev.eq_17, EV.ev.eq_18, EV.ev.eq_19, EV.ev.eq_20, EV.ev.eq_21, EV.ev.eq_22, EV.ev.eq_23, EV.ev.eq_24, EV.ev.eq_25, EV.ev.eq_26, EV.runDef, EV.params, EV.runB, EV.enter, EV.slots0, EV.exS.eq_1, EV.exS.eq_2, EV.exS.eq_3, EV.exS.eq_4, EV.exS.eq_5, EV.exS.eq_6, EV.exS.eq_7, EV.exS.eq_8, EV.exS.eq_9, EV.exS.eq_10, EV.exS.eq_11, EV.exS.eq_14, EV.exS.eq_15, EV.exSs, EV.look, EV.stl, EV.isi, EV.tr, EV.leave, EV.frz, EV.lookAll, EV.afterCall, EV.lent, EV.takeO, EV.store, EV.builtin, EV.b_abs, EV.evA, EV.evO, EV.evC, EV.evI, okD, dp, W.alike]
  · unfold sortable
    simp
theorem sort_pairs (l : List (Int × Int)) (h : l.length ≤ 100000) : bSort [.list (l.map encP)] = some (.own (.list ((l.mergeSort le2).map encP))) := by
  have e : ∀ xs, bSort [.list xs] = if (alikeL xs && sortable xs && decide (xs.length ≤ 100000)) = true then some (.own (.list (sortD xs))) else none := fun _ => rfl
  rw [e, (al_pairs l).1, (al_pairs l).2]
  rw [if_pos (by simpa using h)]
  congr 3
  unfold sortD
  symm
  apply List.map_mergeSort
  intro a _ b _
  exact (congrFun (congrFun (W.dataLe_ii (β := Int × Int) (fun p => p.1) (fun p => p.2)) a) b).symm
theorem sort_ints (l : List Int) (h : l.length ≤ 100000) : bSort [encI l] = some (.own (encI (l.mergeSort leI))) := by
  have e : ∀ xs, bSort [.list xs] = if (alikeL xs && sortable xs && decide (xs.length ≤ 100000)) = true then some (.own (.list (sortD xs))) else none := fun _ => rfl
  rw [e, (al_ints l).1, (al_ints l).2]
  rw [if_pos (by simpa using h)]
  congr 3
  unfold sortD
  symm
  apply List.map_mergeSort
  intro a _ b _
  exact (congrFun (congrFun (W.dataLe_int (β := Int) (fun p => p)) a) b).symm
end K3
end

section
/-! M7 -/
set_option linter.all false
set_option maxRecDepth 100000
set_option maxHeartbeats 1000000
set_option exponentiation.threshold 5000
namespace K3
open PySem EV
theorem get_lt {α : Type} {l : List α} {i : Nat} {a : α} (h : l[i]? = some a) : i < l.length := by
  obtain ⟨h1, _⟩ := List.getElem?_eq_some_iff.mp h
  exact h1
theorem take_snoc {α : Type} {l : List α} {i : Nat} {a : α} (h : l[i]? = some a) : l.take (i + 1) = l.take i ++ [a] := by
  rw [List.take_add_one, h]
  rfl
def Po (F P L : D) (l : List (Int × Int)) (i : Nat) (ρ : Rho) : Prop := ∃ x5 x6 : Sl, ρ = [.f F, .f P, .f L, .o (encI ((l.take i).map (·.2))), .u, x5, x6, .u]
theorem turn_order (C : Cfg) (F P L : D) (l : List (Int × Int)) (hl : l.length ≤ 100000) : ∀ i d ρ, (l.map encP)[i]? = some d → Po F P L l i ρ → ∃ ρ', forF C none (.t (.cons (.v 5) (.cons (.v 6) .nil))) b2_order_of_reaching d ρ = .ok (.nx, ρ') ∧ Po F P L l (i + 1) ρ' := by
  rintro i d ρ hd ⟨x5, x6, rfl⟩
  rw [List.getElem?_map] at hd
  cases e : l[i]? with
  | none => rw [e] at hd; cases hd
  | some a =>
    rw [e] at hd
    cases hd
    have := get_lt e
    refine ⟨[.f F, .f P, .f L, .o (encI ((l.take i).map (·.2) ++ [a.2])), .u, .f (.int a.1), .f (.int a.2), .u], ?_, .f (.int a.1), .f (.int a.2), ?_⟩
    · have hz : min i l.length < sizeLine := by rw [sizeLine_eq]; omega
      simp [EV.ixD, EV.valsOf, EV.ev.eq_1, EV.ev.eq_2, EV.ev.eq_3, EV.ev.eq_4, EV.ev.eq_5, EV.ev.eq_6, EV.ev.eq_7, EV.ev.eq_8, EV.ev.eq_9, EV.ev.eq_10, EV.ev.eq_11, EV.ev.eq_12, EV.ev.eq_13, EV.ev.eq_14, EV.ev.eq_15, EV.ev.eq_16, EV.ev.eq_17, EV.ev.eq_18, EV.ev.eq_19, EV.ev.eq_20, EV.ev.eq_21, EV.ev.eq_22, EV.ev.eq_23, EV.ev.eq_24, EV.ev.eq_25, EV.ev.eq_26, EV.runDef, EV.params, EV.runB, EV.enter, EV.slots0, EV.exS.eq_1, EV.exS.eq_2, EV.exS.eq_3, EV.exS.eq_4, EV.exS.eq_5, EV.exS.eq_6, EV.exS.eq_7, EV.exS.eq_8, EV.exS.eq_9, EV.exS.eq_10, EV.exS.eq_11, EV.exS.eq_14, EV.exS.eq_15, EV.exSs, EV.look, EV.stl, EV.isi, EV.tr, EV.leave, EV.frz, EV.lookAll, EV.afterCall, EV.lent, EV.takeO, EV.store, EV.builtin, EV.b_abs, EV.evA, EV.evO, EV.evC, EV.evI, forF, b2_order_of_reaching, hz]
    · rw [take_snoc e, List.map_append]
      rfl
theorem order_raw {wf n : Nat} {F : D} {ps : List (Int × Int)} {K : Nat → Int} (hn : ps.length ≤ 60) (c1 : callF defs globs wf (n + 6) 10 [F] = val .none) (c2 : callF defs globs wf (n + 6) 11 [encPs ps] = val .none)
    (l1 : lcLoop (itmF (cc wf (n + 6)) none e0_order_of_reaching (.v 4) .no [4]) (ps.map encP) [.f F, .f (encPs ps), .u, .u, .u, .u, .u, .u] = .ok ((List.range ps.length).map fun k => .int (K k), [.f F, .f (encPs ps), .u, .u, .u, .u, .u, .u])) :
    callF defs globs wf (n + 7) 29 [F, encPs ps] = .ok ⟨true, encI ((order K ps.length).map fun (k : Nat) => (k : Int)), .none⟩ := by
  rw [call_def d_order_of_reaching]
  have hz : ps.length ≤ sizeLine := by rw [sizeLine_eq]; omega
  have l2 : lcLoop (itmF (cc wf (n + 6)) none e1_order_of_reaching (.t (.cons (.v 6) (.cons (.v 7) .nil))) .no [6, 7]) (enumL ((List.range ps.length).map fun k => .int (K k))) [.f F, .f (encPs ps), .f (.list ((List.range ps.length).map fun k => .int (K k))), .o (.list []), .u, .u, .u, .u] = .ok (((List.range ps.length).map fun k => (K k, (k : Int))).map encP, [.f F, .f (encPs ps), .f (.list ((List.range ps.length).map fun k => .int (K k))), .o (.list []), .u, .u, .u, .u]) := by
    rw [List.map_map]
    have e : enumL ((List.range ps.length).map fun k => PyData.int (K k)) = (List.range ps.length).map fun (k : Nat) => .tuple [.int (k : Int), .int (K k)] := by
      have := enum_range (List.range ps.length) 0 (fun k => PyData.int (K k))
      rw [List.length_range] at this
      rw [this]
      apply List.map_congr_left
      intro k hk
      have := List.mem_range.mp hk
      simp [EV.ixD, EV.valsOf, EV.ev.eq_1, EV.ev.eq_2, EV.ev.eq_3, EV.ev.eq_4, EV.ev.eq_5, EV.ev.eq_6, EV.ev.eq_7, EV.ev.eq_8, EV.ev.eq_9, EV.ev.eq_10, EV.ev.eq_11, EV.ev.eq_12, EV.ev.eq_13, EV.ev.eq_14, EV.ev.eq_15, EV.ev.eq_16, EV.ev.eq_17, EV.ev.eq_18, EV.ev.eq_19, EV.ev.eq_20, EV.ev.eq_21, EV.ev.eq_22, EV.ev.eq_23, EV.ev.eq_24, EV.ev.eq_25, EV.ev.eq_26, EV.runDef, EV.params, EV.runB, EV.enter, EV.slots0, EV.exS.eq_1, EV.exS.eq_2, EV.exS.eq_3, EV.exS.eq_4, EV.exS.eq_5, EV.exS.eq_6, EV.exS.eq_7, EV.exS.eq_8, EV.exS.eq_9, EV.exS.eq_10, EV.exS.eq_11, EV.exS.eq_14, EV.exS.eq_15, EV.exSs, EV.look, EV.stl, EV.isi, EV.tr, EV.leave, EV.frz, EV.lookAll, EV.afterCall, EV.lent, EV.takeO, EV.store, EV.builtin, EV.b_abs, EV.evA, EV.evO, EV.evC, EV.evI, List.getD, this]
    rw [e]
    apply lc_map
    intro k hk
    simp [EV.ixD, EV.valsOf, EV.ev.eq_1, EV.ev.eq_2, EV.ev.eq_3, EV.ev.eq_4, EV.ev.eq_5, EV.ev.eq_6, EV.ev.eq_7, EV.ev.eq_8, EV.ev.eq_9, EV.ev.eq_10, EV.ev.eq_11, EV.ev.eq_12, EV.ev.eq_13, EV.ev.eq_14, EV.ev.eq_15, EV.ev.eq_16, EV.ev.eq_17, EV.ev.eq_18, EV.ev.eq_19, EV.ev.eq_20, EV.ev.eq_21, EV.ev.eq_22, EV.ev.eq_23, EV.ev.eq_24, EV.ev.eq_25, EV.ev.eq_26, EV.runDef, EV.params, EV.runB, EV.enter, EV.slots0, EV.exS.eq_1, EV.exS.eq_2, EV.exS.eq_3, EV.exS.eq_4, EV.exS.eq_5, EV.exS.eq_6, EV.exS.eq_7, EV.exS.eq_8, EV.exS.eq_9, EV.exS.eq_10, EV.exS.eq_11, EV.exS.eq_14, EV.exS.eq_15, EV.exSs, EV.look, EV.stl, EV.isi, EV.tr, EV.leave, EV.frz, EV.lookAll, EV.afterCall, EV.lent, EV.takeO, EV.store, EV.builtin, EV.b_abs, EV.evA, EV.evO, EV.evC, EV.evI, itmF, e1_order_of_reaching, hide]
  have hs := sort_pairs ((List.range ps.length).map fun k => (K k, (k : Int))) (by simp; omega)
  change _ = some (Opd.own (.list ((ordL K ps.length).map encP))) at hs
  have hlen : (ordL K ps.length).length = ps.length := by unfold ordL; simp
  obtain ⟨ρ', e, x5, x6, rfl⟩ := for_go (Po F (encPs ps) (.list ((List.range ps.length).map fun k => .int (K k))) (ordL K ps.length)) (turn_order (cc wf (n + 6)) F (encPs ps) (.list ((List.range ps.length).map fun k => .int (K k))) (ordL K ps.length) (by omega)) ⟨.u, .u, rfl⟩
  rw [List.length_map, List.take_length, ordL_snd, List.take_zero, List.map_nil] at e
  rw [show encI [] = .list [] from rfl] at e
  rw [← ordL_snd]
  generalize hLL : (List.range ps.length).map (fun k => PyData.int (K k)) = LL at *
  have hLl : LL.length = ps.length := by rw [← hLL]; simp
  generalize ((List.range ps.length).map fun k => (K k, (k : Int))).map encP = L3 at *
  generalize (ordL K ps.length).map encP = L4 at *
  rw [ordL_snd]
  simp [EV.ixD, EV.valsOf, EV.ev.eq_1, EV.ev.eq_2, EV.ev.eq_3, EV.ev.eq_4, EV.ev.eq_5, EV.ev.eq_6, EV.ev.eq_7, EV.ev.eq_8, EV.ev.eq_9, EV.ev.eq_10, EV.ev.eq_11, EV.ev.eq_12, EV.ev.eq_13, EV.ev.eq_14, EV.ev.eq_15, EV.ev.eq_16, EV.ev.eq_17, EV.ev.eq_18, EV.ev.eq_19, EV.ev.eq_20, EV.ev.eq_21, EV.ev.eq_22, EV.ev.eq_23, EV.ev.eq_24, EV.ev.eq_25, EV.ev.eq_26, EV.runDef, EV.params, EV.runB, EV.enter, EV.slots0, EV.exS.eq_1, EV.exS.eq_2, EV.exS.eq_3, EV.exS.eq_4, EV.exS.eq_5, EV.exS.eq_6, EV.exS.eq_7, EV.exS.eq_8, EV.exS.eq_9, EV.exS.eq_10, EV.exS.eq_11, EV.exS.eq_14, EV.exS.eq_15, EV.exSs, EV.look, EV.stl, EV.isi, EV.tr, EV.leave, EV.frz, EV.lookAll, EV.afterCall, EV.lent, EV.takeO, EV.store, EV.builtin, EV.b_abs, EV.evA, EV.evO, EV.evC, EV.evI, f_order_of_reaching, c1, c2, plainAt, hide, hz, l1, unhide, l2, enum_len, hLl, hs, e]
theorem order_ok {wf : Nat} (n : Nat) {f : Fr} {ps : List (Int × Int)} (hw : 2 ^ 400 ≤ wf) (h : f.ok) (hp : okPs ps) : callF defs globs wf (n + 7) 29 [encF f, encPs ps] = .ok ⟨true, encI ((order (fun k => f.bx * (pa ps k).1 + f.by' * (pa ps k).2) ps.length).map fun (k : Nat) => (k : Int)), .none⟩ := by
  apply order_raw hp.2.1 (check_front_ok n hw h) (check_places_ok (n + 3) hp)
  have := lc_map (f := itmF (cc wf (n + 6)) none e0_order_of_reaching (.v 4) .no [4]) (e := encP) (g := fun p => .int (f.bx * p.1 + f.by' * p.2)) (l := ps) (ρ := [.f (encF f), .f (encPs ps), .u, .u, .u, .u, .u, .u]) (by
    intro p hq
    have a1 := along_ok wf (n + 5) (lt2_30 h.bx) (lt2_30 h.by') (okP_x (hp.2.2 p hq)).1 (okP_x (hp.2.2 p hq)).2 (by decide) (by decide)
    simp [EV.ixD, EV.valsOf, EV.ev.eq_1, EV.ev.eq_2, EV.ev.eq_3, EV.ev.eq_4, EV.ev.eq_5, EV.ev.eq_6, EV.ev.eq_7, EV.ev.eq_8, EV.ev.eq_9, EV.ev.eq_10, EV.ev.eq_11, EV.ev.eq_12, EV.ev.eq_13, EV.ev.eq_14, EV.ev.eq_15, EV.ev.eq_16, EV.ev.eq_17, EV.ev.eq_18, EV.ev.eq_19, EV.ev.eq_20, EV.ev.eq_21, EV.ev.eq_22, EV.ev.eq_23, EV.ev.eq_24, EV.ev.eq_25, EV.ev.eq_26, EV.runDef, EV.params, EV.runB, EV.enter, EV.slots0, EV.exS.eq_1, EV.exS.eq_2, EV.exS.eq_3, EV.exS.eq_4, EV.exS.eq_5, EV.exS.eq_6, EV.exS.eq_7, EV.exS.eq_8, EV.exS.eq_9, EV.exS.eq_10, EV.exS.eq_11, EV.exS.eq_14, EV.exS.eq_15, EV.exSs, EV.look, EV.stl, EV.isi, EV.tr, EV.leave, EV.frz, EV.lookAll, EV.afterCall, EV.lent, EV.takeO, EV.store, EV.builtin, EV.b_abs, EV.evA, EV.evO, EV.evC, EV.evI, itmF, e0_order_of_reaching, a1, hide])
  rw [this, map_pa]
end K3
end

section
/-! M8 -/
set_option linter.all false
set_option maxRecDepth 100000
set_option maxHeartbeats 1000000
set_option exponentiation.threshold 5000
namespace K3
open PySem EV
/-- minus the time between -/
def gap (f g : Fr) (p : Int × Int) : Rat := if f.rt p ≤ g.rt p then f.rt p - g.rt p else g.rt p - f.rt p
def Pb (F G P : D) (T : Nat → Rat) (i : Nat) (ρ : Rho) : Prop := ∃ x4 x5 x6 x7 x8 : Sl, ρ = [.f F, .f G, .f P, .o (.list ((List.range i).map fun k => q (T k))), x4, x5, x6, x7, x8, .u]
theorem turn_gap_raw (wf n : Nat) (F G P p : D) (T : Nat → Rat) (i : Nat) (x4 x5 x6 x7 x8 : Sl) (hi : i ≤ 60) {a b e f u v m r : Int} (c1 : callF defs globs wf n 15 [F, p] = val (.tuple [.int a, .int b])) (c2 : callF defs globs wf n 15 [G, p] = val (.tuple [.int e, .int f]))
    (m1 : binop .mul (.int a) (.int f) = some (.val (.int u))) (m2 : binop .mul (.int e) (.int b) = some (.val (.int v))) (m3 : binop .mul (.int b) (.int f) = some (.val (.int m))) (hr : ((u - v).natAbs : Int) = r) (c3 : callF defs globs wf n 4 [.int (-r), .int m] = val (q (T i))) :
    forF (cc wf n) none (.v 4) b0_longest_between p [.f F, .f G, .f P, .o (.list ((List.range i).map fun k => q (T k))), x4, x5, x6, x7, x8, .u] = .ok (.nx, [.f F, .f G, .f P, .o (.list ((List.range (i + 1)).map fun k => q (T k))), .f p, .f (.int a), .f (.int b), .f (.int e), .f (.int f), .u]) := by
  have hz : i < sizeLine := by rw [sizeLine_eq]; omega
  rw [List.range_succ, List.map_append, List.map_singleton]
  generalize hL : (List.range i).map (fun k => q (T k)) = L at *
  have hl : L.length = i := by rw [← hL]; simp
  rw [← hl] at hz
  simp [EV.ixD, EV.valsOf, EV.ev.eq_1, EV.ev.eq_2, EV.ev.eq_3, EV.ev.eq_4, EV.ev.eq_5, EV.ev.eq_6, EV.ev.eq_7, EV.ev.eq_8, EV.ev.eq_9, EV.ev.eq_10, EV.ev.eq_11, EV.ev.eq_12, EV.ev.eq_13, EV.ev.eq_14, EV.ev.eq_15, EV.ev.eq_16, EV.ev.eq_17, EV.ev.eq_18, EV.ev.eq_19, EV.ev.eq_20, EV.ev.eq_21, EV.ev.eq_22, EV.ev.eq_23, EV.ev.eq_24, EV.ev.eq_25, EV.ev.eq_26, EV.runDef, EV.params, EV.runB, EV.enter, EV.slots0, EV.exS.eq_1, EV.exS.eq_2, EV.exS.eq_3, EV.exS.eq_4, EV.exS.eq_5, EV.exS.eq_6, EV.exS.eq_7, EV.exS.eq_8, EV.exS.eq_9, EV.exS.eq_10, EV.exS.eq_11, EV.exS.eq_14, EV.exS.eq_15, EV.exSs, EV.look, EV.stl, EV.isi, EV.tr, EV.leave, EV.frz, EV.lookAll, EV.afterCall, EV.lent, EV.takeO, EV.store, EV.builtin, EV.b_abs, EV.evA, EV.evO, EV.evC, EV.evI, forF, b0_longest_between, c1, c2, m1, m2, m3, hr, c3, hz]
theorem gap_eq (f g : Fr) (p : Int × Int) : ((-(((f.rt p).num * (g.rt p).den - (g.rt p).num * (f.rt p).den).natAbs : Int) : Int) : Rat) / (((f.rt p).den * (g.rt p).den : Int) : Rat) = gap f g p := by
  unfold gap
  generalize f.rt p = x
  generalize g.rt p = y
  have e1 := nd x
  have e2 := nd y
  have e3 := den_ne x
  have e4 := den_ne y
  by_cases h : x ≤ y
  · rw [if_pos h]
    rw [Rat.le_iff] at h
    have : (-((x.num * y.den - y.num * x.den).natAbs : Int)) = x.num * y.den - y.num * x.den := by omega
    rw [this]
    push_cast at *
    grind
  · rw [if_neg h]
    rw [Rat.le_iff] at h
    have : (-((x.num * y.den - y.num * x.den).natAbs : Int)) = y.num * x.den - x.num * y.den := by omega
    rw [this]
    push_cast at *
    grind
theorem bd_gap {f g : Fr} {p : Int × Int} (h : f.ok) (hg : g.ok) (hp : okP p) : Bd 300 (gap f g p) := by
  rw [← gap_eq]
  have b1 := bd_rt h hp
  have b2 := bd_rt hg hp
  exact bd_div (Int.mul_pos (den_pos _) (den_pos _)) (lt2_mono (lt2_neg (lt2_abs (lt2_sub (lt2_mul b1.1 b2.2) (lt2_mul b2.1 b1.2)))) (by decide)) (lt2_mono (lt2_mul b1.2 b2.2) (by decide))
theorem turn_gap {wf : Nat} (n : Nat) {f g : Fr} {ps : List (Int × Int)} (hw : 2 ^ 400 ≤ wf) (h : f.ok) (hg : g.ok) (hp : okPs ps) : ∀ i d ρ, (ps.map encP)[i]? = some d → Pb (encF f) (encF g) (encPs ps) (fun k => gap f g (pa ps k)) i ρ → ∃ ρ', forF (cc wf (n + 4)) none (.v 4) b0_longest_between d ρ = .ok (.nx, ρ') ∧ Pb (encF f) (encF g) (encPs ps) (fun k => gap f g (pa ps k)) (i + 1) ρ' := by
  rintro i d ρ hd ⟨x4, x5, x6, x7, x8, rfl⟩
  have hi := get_lt hd
  rw [List.length_map] at hi
  have hd2 : d = encP (pa ps i) := by
    have := get_pa ps encP hi
    rw [atI_nat (by simpa using hi), hd] at this
    cases this
    rfl
  subst hd2
  have b1 := bd_rt h (hp.atk hi)
  have b2 := bd_rt hg (hp.atk hi)
  have hden := Int.mul_pos (den_pos (f.rt (pa ps i))) (den_pos (g.rt (pa ps i)))
  have c3 := ratio_ok (n + 2) (x := -(((f.rt (pa ps i)).num * (g.rt (pa ps i)).den - (g.rt (pa ps i)).num * (f.rt (pa ps i)).den).natAbs : Int)) hw hden (lt2_mul b1.2 b2.2) (by decide)
  rw [gap_eq] at c3
  have hi2 : i ≤ 60 := by have := hp.2.1; omega
  have key := turn_gap_raw wf (n + 4) (encF f) (encF g) (encPs ps) (encP (pa ps i)) (fun k => gap f g (pa ps k)) i x4 x5 x6 x7 x8 hi2 (reached_ok n hw h (hp.atk hi)) (reached_ok n hw hg (hp.atk hi)) (bm b1.1 b2.2 (by decide) (by decide)) (bm b2.1 b1.2 (by decide) (by decide)) (bm b1.2 b2.2 (by decide) (by decide)) rfl c3
  exact ⟨_, key, _, _, _, _, _, rfl⟩
theorem longest_raw {wf n : Nat} {F G : D} {ps : List D} {T : Nat → Rat} {m b : Nat} {x4 x5 x6 x7 x8 : Sl} (c1 : callF defs globs wf (n + 7) 21 [F, G] = val .none) (c2 : callF defs globs wf (n + 7) 11 [.list ps] = val .none)
    (l : forLoop (forF (cc wf (n + 7)) none (.v 4) b0_longest_between) ps [.f F, .f G, .f (.list ps), .o (.list []), .u, .u, .u, .u, .u, .u] = .ok (.nx, [.f F, .f G, .f (.list ps), .o (qs T m), x4, x5, x6, x7, x8, .u])) (hb : b < m)
    (c3 : callF defs globs wf (n + 7) 18 [qs T m] = val (.int b)) : callF defs globs wf (n + 8) 30 [F, G, .list ps] = val (.tuple [q (-T b), .int b]) := by
  rw [call_def d_longest_between]
  have g := get_rng (g := fun k => q (T k)) hb
  unfold qs at *
  generalize (List.range m).map (fun k => q (T k)) = L at *
  have e1 : (-T b).num = -(T b).num := rfl
  have e2 : (-T b).den = (T b).den := rfl
  rw [q, e1, e2]
  simp only [q] at g
  generalize (T b).num = u at *
  generalize ((T b).den : Int) = v at *
  simp [EV.ixD, EV.valsOf, EV.ev.eq_1, EV.ev.eq_2, EV.ev.eq_3, EV.ev.eq_4, EV.ev.eq_5, EV.ev.eq_6, EV.ev.eq_7, EV.ev.eq_8, EV.ev.eq_9, EV.ev.eq_10, EV.ev.eq_11, EV.ev.eq_12, EV.ev.eq_13, EV.ev.eq_14, EV.ev.eq_15, EV.ev.eq_16, EV.ev.eq_17, EV.ev.eq_18, EV.ev.eq_19, EV.ev.eq_20, EV.ev.eq_21, EV.ev.eq_22, EV.ev.eq_23, EV.ev.eq_24, EV.ev.eq_25, EV.ev.eq_26, EV.runDef, EV.params, EV.runB, EV.enter, EV.slots0, EV.exS.eq_1, EV.exS.eq_2, EV.exS.eq_3, EV.exS.eq_4, EV.exS.eq_5, EV.exS.eq_6, EV.exS.eq_7, EV.exS.eq_8, EV.exS.eq_9, EV.exS.eq_10, EV.exS.eq_11, EV.exS.eq_14, EV.exS.eq_15, EV.exSs, EV.look, EV.stl, EV.isi, EV.tr, EV.leave, EV.frz, EV.lookAll, EV.afterCall, EV.lent, EV.takeO, EV.store, EV.builtin, EV.b_abs, EV.evA, EV.evO, EV.evC, EV.evI, f_longest_between, c1, c2, l, c3, g, flatR, flat, flatL]
theorem longest_ok {wf : Nat} (n : Nat) {f g : Fr} {ps : List (Int × Int)} (hw : 2 ^ 400 ≤ wf) (h : f.ok) (hg : g.ok) (hp : okPs ps) : ∃ b, First (fun k => gap f g (pa ps k)) ps.length b ∧ callF defs globs wf (n + 8) 30 [encF f, encF g, encPs ps] = val (.tuple [q (-gap f g (pa ps b)), .int b]) := by
  obtain ⟨b, hb, c3⟩ := least_ok wf (n + 5) (R := fun k => gap f g (pa ps k)) (m := ps.length) hp.1 (fun k hk => bd_mono (bd_gap h hg (hp.atk hk)) (by decide))
  obtain ⟨ρ', e, x4, x5, x6, x7, x8, rfl⟩ := for_go (Pb (encF f) (encF g) (encPs ps) (fun k => gap f g (pa ps k))) (turn_gap (n + 3) hw h hg hp) ⟨.u, .u, .u, .u, .u, rfl⟩
  rw [List.length_map] at e
  exact ⟨b, hb, longest_raw (check_fronts_ok n hw h hg) (check_places_ok (n + 4) hp) e hb.1 c3⟩
end K3
end

section
/-! M9 -/
set_option linter.all false
set_option maxRecDepth 100000
set_option maxHeartbeats 1000000
set_option exponentiation.threshold 5000
namespace K3
open PySem EV
theorem moved_raw {wf n : Nat} {x y a b m l t d x1 x2 a1 a2 y1 y2 b1 b2 ld n1 d1 n2 d2 u1 u2 : Int} {q3 q4 : D}
    (c1 : callF defs globs wf (n + 6) 10 [.tuple [.tuple [.int x, .int y], .tuple [.int a, .int b], .tuple [.int m, .int l]]] = val .none) (c2 : callF defs globs wf (n + 6) 8 [.tuple [.int t, .int d]] = val (.bool true))
    (m1 : binop .mul (.int x) (.int l) = some (.val (.int x1))) (m2 : binop .mul (.int x1) (.int d) = some (.val (.int x2))) (m3 : binop .mul (.int a) (.int m) = some (.val (.int a1))) (m4 : binop .mul (.int a1) (.int t) = some (.val (.int a2)))
    (m5 : binop .mul (.int y) (.int l) = some (.val (.int y1))) (m6 : binop .mul (.int y1) (.int d) = some (.val (.int y2))) (m7 : binop .mul (.int b) (.int m) = some (.val (.int b1))) (m8 : binop .mul (.int b1) (.int t) = some (.val (.int b2)))
    (m9 : binop .mul (.int l) (.int d) = some (.val (.int ld)))
    (r1 : callF defs globs wf (n + 6) 4 [.int (x2 + a2), .int ld] = val (.tuple [.int n1, .int d1])) (r2 : callF defs globs wf (n + 6) 4 [.int (y2 + b2), .int ld] = val (.tuple [.int n2, .int d2]))
    (m10 : binop .mul (.int b) (.int d1) = some (.val (.int u1))) (m11 : binop .mul (.int a) (.int d2) = some (.val (.int u2)))
    (r3 : callF defs globs wf (n + 6) 4 [.int (n1 - u1), .int d1] = val q3) (r4 : callF defs globs wf (n + 6) 4 [.int (n2 + u2), .int d2] = val q4) :
    callF defs globs wf (n + 7) 31 [.tuple [.tuple [.int x, .int y], .tuple [.int a, .int b], .tuple [.int m, .int l]], .int t, .int d] = val (.tuple [.tuple [.tuple [.int n1, .int d1], .tuple [.int n2, .int d2]], .tuple [q3, q4]]) := by
  rw [call_def d_moved_front]
  simp [EV.ixD, EV.valsOf, EV.ev.eq_1, EV.ev.eq_2, EV.ev.eq_3, EV.ev.eq_4, EV.ev.eq_5, EV.ev.eq_6, EV.ev.eq_7, EV.ev.eq_8, EV.ev.eq_9, EV.ev.eq_10, EV.ev.eq_11, EV.ev.eq_12, EV.ev.eq_13, EV.ev.eq_14, EV.ev.eq_15, EV.ev.eq_16, EV.ev.eq_17, EV.ev.eq_18, EV.ev.eq_19, EV.ev.eq_20, EV.ev.eq_21, EV.ev.eq_22, EV.ev.eq_23, EV.ev.eq_24, EV.ev.eq_25, EV.ev.eq_26, EV.runDef, EV.params, EV.runB, EV.enter, EV.slots0, EV.exS.eq_1, EV.exS.eq_2, EV.exS.eq_3, EV.exS.eq_4, EV.exS.eq_5, EV.exS.eq_6, EV.exS.eq_7, EV.exS.eq_8, EV.exS.eq_9, EV.exS.eq_10, EV.exS.eq_11, EV.exS.eq_14, EV.exS.eq_15, EV.exSs, EV.look, EV.stl, EV.isi, EV.tr, EV.leave, EV.frz, EV.lookAll, EV.afterCall, EV.lent, EV.takeO, EV.store, EV.builtin, EV.b_abs, EV.evA, EV.evO, EV.evC, EV.evI, f_moved_front, c1, c2, m1, m2, m3, m4, m5, m6, m7, m8, m9, m10, m11, r1, r2, r3, r4, check_true]
theorem hx_eq (f : Fr) (t : Rat) : ((f.px * f.s.den * t.den + f.bx * f.s.num * t.num : Int) : Rat) / ((f.s.den * t.den : Int) : Rat) = hx f t := by
  unfold hx
  have e1 := nd f.s
  have e2 := nd t
  have e3 := den_ne f.s
  have e4 := den_ne t
  push_cast at *
  grind
theorem hy_eq (f : Fr) (t : Rat) : ((f.py * f.s.den * t.den + f.by' * f.s.num * t.num : Int) : Rat) / ((f.s.den * t.den : Int) : Rat) = hy f t := by
  unfold hy
  have e1 := nd f.s
  have e2 := nd t
  have e3 := den_ne f.s
  have e4 := den_ne t
  push_cast at *
  grind
theorem sub_eq (r : Rat) (b : Int) : ((r.num - b * r.den : Int) : Rat) / ((r.den : Int) : Rat) = r - b := by
  have e1 := nd r
  have e3 := den_ne r
  push_cast at *
  grind
theorem add_eq (r : Rat) (b : Int) : ((r.num + b * r.den : Int) : Rat) / ((r.den : Int) : Rat) = r + b := by
  have e1 := nd r
  have e3 := den_ne r
  push_cast at *
  grind
theorem bd_hx {f : Fr} {t : Rat} (h : f.ok) (ht : Bd 160 t) : Bd 260 (hx f t) ∧ Bd 260 (hy f t) := by
  obtain ⟨h5, h6⟩ := okP_x h.p
  rw [← hx_eq, ← hy_eq]
  have hd := Int.mul_pos (den_pos f.s) (den_pos t)
  have hl := lt2_mono (lt2_mul h.sb.2 ht.2) (show 30 + 160 ≤ 260 by decide)
  exact ⟨bd_div hd (lt2_mono (lt2_add (lt2_mul (lt2_mul h5 h.sb.2) ht.2) (lt2_mul (lt2_mul (lt2_30 h.bx) h.sb.1) ht.1)) (by decide)) hl, bd_div hd (lt2_mono (lt2_add (lt2_mul (lt2_mul h6 h.sb.2) ht.2) (lt2_mul (lt2_mul (lt2_30 h.by') h.sb.1) ht.1)) (by decide)) hl⟩
theorem moved_ok {wf : Nat} (n : Nat) {f : Fr} {t : Rat} (hw : 2 ^ 400 ≤ wf) (h : f.ok) (ht : Bd 160 t) : callF defs globs wf (n + 7) 31 [encF f, .int t.num, .int t.den] = val (.tuple [.tuple [q (hx f t), q (hy f t)], .tuple [q (hx f t - f.by'), q (hy f t + f.bx)]]) := by
  obtain ⟨h5, h6⟩ := okP_x h.p
  have hd := Int.mul_pos (den_pos f.s) (den_pos t)
  have hl := lt2_mul h.sb.2 ht.2
  obtain ⟨bx, by1⟩ := bd_hx h ht
  have r1 := ratio_ok (n + 4) (x := f.px * f.s.den * t.den + f.bx * f.s.num * t.num) hw hd hl (by decide)
  have r2 := ratio_ok (n + 4) (x := f.py * f.s.den * t.den + f.by' * f.s.num * t.num) hw hd hl (by decide)
  rw [hx_eq] at r1
  rw [hy_eq] at r2
  have r3 := ratio_ok (n + 4) (x := (hx f t).num - f.by' * (hx f t).den) hw (den_pos (hx f t)) bx.2 (by decide)
  have r4 := ratio_ok (n + 4) (x := (hy f t).num + f.bx * (hy f t).den) hw (den_pos (hy f t)) by1.2 (by decide)
  rw [sub_eq] at r3
  rw [add_eq] at r4
  exact moved_raw (check_front_ok n hw h) (is_ratio_ok (n + 4) hw ht (by decide)) (bm h5 h.sb.2 (by decide) (by decide)) (bm (lt2_mul h5 h.sb.2) ht.2 (by decide) (by decide)) (bm (lt2_30 h.bx) h.sb.1 (by decide) (by decide)) (bm (lt2_mul (lt2_30 h.bx) h.sb.1) ht.1 (by decide) (by decide))
    (bm h6 h.sb.2 (by decide) (by decide)) (bm (lt2_mul h6 h.sb.2) ht.2 (by decide) (by decide)) (bm (lt2_30 h.by') h.sb.1 (by decide) (by decide)) (bm (lt2_mul (lt2_30 h.by') h.sb.1) ht.1 (by decide) (by decide)) (bm h.sb.2 ht.2 (by decide) (by decide)) r1 r2
    (bm (lt2_30 h.by') bx.2 (by decide) (by decide)) (bm (lt2_30 h.bx) by1.2 (by decide) (by decide)) r3 r4
theorem same_raw1 {wf n : Nat} {p1 s1 p2 s2 : D} {a b e f w : Int}
    (c1 : callF defs globs wf (n + 7) 21 [.tuple [p1, .tuple [.int a, .int b], s1], .tuple [p2, .tuple [.int e, .int f], s2]] = val .none)
    (c3 : callF defs globs wf (n + 7) 22 [.tuple [.int a, .int b], .tuple [.int e, .int f]] = val (.int w)) (hw : w ≠ 0) :
    callF defs globs wf (n + 8) 32 [.tuple [p1, .tuple [.int a, .int b], s1], .tuple [p2, .tuple [.int e, .int f], s2]] = val .none := by
  rw [call_def d_same_line]
  simp [EV.ixD, EV.valsOf, EV.ev.eq_1, EV.ev.eq_2, EV.ev.eq_3, EV.ev.eq_4, EV.ev.eq_5, EV.ev.eq_6, EV.ev.eq_7, EV.ev.eq_8, EV.ev.eq_9, EV.ev.eq_10, EV.ev.eq_11, EV.ev.eq_12, EV.ev.eq_13, EV.ev.eq_14, EV.ev.eq_15, EV.ev.eq_16, EV.ev.eq_17, EV.ev.eq_18, EV.ev.eq_19, EV.ev.eq_20, EV.ev.eq_21, EV.ev.eq_22, EV.ev.eq_23, EV.ev.eq_24, EV.ev.eq_25, EV.ev.eq_26, EV.runDef, EV.params, EV.runB, EV.enter, EV.slots0, EV.exS.eq_1, EV.exS.eq_2, EV.exS.eq_3, EV.exS.eq_4, EV.exS.eq_5, EV.exS.eq_6, EV.exS.eq_7, EV.exS.eq_8, EV.exS.eq_9, EV.exS.eq_10, EV.exS.eq_11, EV.exS.eq_14, EV.exS.eq_15, EV.exSs, EV.look, EV.stl, EV.isi, EV.tr, EV.leave, EV.frz, EV.lookAll, EV.afterCall, EV.lent, EV.takeO, EV.store, EV.builtin, EV.b_abs, EV.evA, EV.evO, EV.evC, EV.evI, f_same_line, c1, c3, hw]
theorem same_raw2 {wf n : Nat} {p1 s1 p2 s2 : D} {a b e f u v P Q R S ps sr srq qs' : Int}
    (c1 : callF defs globs wf (n + 7) 21 [.tuple [p1, .tuple [.int a, .int b], s1], .tuple [p2, .tuple [.int e, .int f], s2]] = val .none)
    (c3 : callF defs globs wf (n + 7) 22 [.tuple [.int a, .int b], .tuple [.int e, .int f]] = val (.int 0))
    (a1 : callF defs globs wf (n + 7) 12 [.tuple [.int a, .int b], p2] = val (.int u)) (a2 : callF defs globs wf (n + 7) 12 [.tuple [.int a, .int b], p1] = val (.int v))
    (v1 : callF defs globs wf (n + 7) 13 [.tuple [p1, .tuple [.int a, .int b], s1]] = val (.tuple [.int P, .int Q])) (v2 : callF defs globs wf (n + 7) 13 [.tuple [p2, .tuple [.int e, .int f], s2]] = val (.tuple [.int R, .int S]))
    (m1 : binop .mul (.int P) (.int S) = some (.val (.int ps))) (m2 : binop .mul (.int (if a = e ∧ b = f then 1 else -1)) (.int R) = some (.val (.int sr))) (m3 : binop .mul (.int sr) (.int Q) = some (.val (.int srq))) (m4 : binop .mul (.int Q) (.int S) = some (.val (.int qs'))) :
    (ps - srq = 0 → callF defs globs wf (n + 8) 32 [.tuple [p1, .tuple [.int a, .int b], s1], .tuple [p2, .tuple [.int e, .int f], s2]] = val (if u - v = 0 then q 0 else .none)) ∧
    (∀ o, ps - srq ≠ 0 → callF defs globs wf (n + 7) 14 [.tuple [.int (u - v), .int 1], .tuple [.int (ps - srq), .int qs']] = val o → callF defs globs wf (n + 8) 32 [.tuple [p1, .tuple [.int a, .int b], s1], .tuple [p2, .tuple [.int e, .int f], s2]] = val o) := by
  constructor
  · intro h0
    rw [call_def d_same_line]
    by_cases he : a = e ∧ b = f
    · obtain ⟨rfl, rfl⟩ := he
      rw [if_pos ⟨rfl, rfl⟩] at m2
      by_cases hu : u - v = 0 <;> simp [EV.ixD, EV.valsOf, EV.ev.eq_1, EV.ev.eq_2, EV.ev.eq_3, EV.ev.eq_4, EV.ev.eq_5, EV.ev.eq_6, EV.ev.eq_7, EV.ev.eq_8, EV.ev.eq_9, EV.ev.eq_10, EV.ev.eq_11, EV.ev.eq_12, EV.ev.eq_13, EV.ev.eq_14, EV.ev.eq_15, EV.ev.eq_16, EV.ev.eq_17, EV.ev.eq_18, EV.ev.eq_19, EV.ev.eq_20, EV.ev.eq_21, EV.ev.eq_22, EV.ev.eq_23, EV.ev.eq_24, EV.ev.eq_25, EV.ev.eq_26, EV.runDef, EV.params, EV.runB, EV.enter, EV.slots0, EV.exS.eq_1, EV.exS.eq_2, EV.exS.eq_3, EV.exS.eq_4, EV.exS.eq_5, EV.exS.eq_6, EV.exS.eq_7, EV.exS.eq_8, EV.exS.eq_9, EV.exS.eq_10, EV.exS.eq_11, EV.exS.eq_14, EV.exS.eq_15, EV.exSs, EV.look, EV.stl, EV.isi, EV.tr, EV.leave, EV.frz, EV.lookAll, EV.afterCall, EV.lent, EV.takeO, EV.store, EV.builtin, EV.b_abs, EV.evA, EV.evO, EV.evC, EV.evI, f_same_line, c1, c3, a1, a2, v1, v2, m1, m2, m3, m4, h0, hu]
    · rw [if_neg he] at m2
      have he2 : (a = e ∧ b = f) = False := eq_false he
      by_cases hu : u - v = 0 <;> simp [EV.ixD, EV.valsOf, EV.ev.eq_1, EV.ev.eq_2, EV.ev.eq_3, EV.ev.eq_4, EV.ev.eq_5, EV.ev.eq_6, EV.ev.eq_7, EV.ev.eq_8, EV.ev.eq_9, EV.ev.eq_10, EV.ev.eq_11, EV.ev.eq_12, EV.ev.eq_13, EV.ev.eq_14, EV.ev.eq_15, EV.ev.eq_16, EV.ev.eq_17, EV.ev.eq_18, EV.ev.eq_19, EV.ev.eq_20, EV.ev.eq_21, EV.ev.eq_22, EV.ev.eq_23, EV.ev.eq_24, EV.ev.eq_25, EV.ev.eq_26, EV.runDef, EV.params, EV.runB, EV.enter, EV.slots0, EV.exS.eq_1, EV.exS.eq_2, EV.exS.eq_3, EV.exS.eq_4, EV.exS.eq_5, EV.exS.eq_6, EV.exS.eq_7, EV.exS.eq_8, EV.exS.eq_9, EV.exS.eq_10, EV.exS.eq_11, EV.exS.eq_14, EV.exS.eq_15, EV.exSs, EV.look, EV.stl, EV.isi, EV.tr, EV.leave, EV.frz, EV.lookAll, EV.afterCall, EV.lent, EV.takeO, EV.store, EV.builtin, EV.b_abs, EV.evA, EV.evO, EV.evC, EV.evI, f_same_line, c1, c3, a1, a2, v1, v2, m1, m2, m3, m4, h0, he2, hu]
  · intro o h0 ho
    rw [call_def d_same_line]
    by_cases he : a = e ∧ b = f
    · obtain ⟨rfl, rfl⟩ := he
      rw [if_pos ⟨rfl, rfl⟩] at m2
      simp [EV.ixD, EV.valsOf, EV.ev.eq_1, EV.ev.eq_2, EV.ev.eq_3, EV.ev.eq_4, EV.ev.eq_5, EV.ev.eq_6, EV.ev.eq_7, EV.ev.eq_8, EV.ev.eq_9, EV.ev.eq_10, EV.ev.eq_11, EV.ev.eq_12, EV.ev.eq_13, EV.ev.eq_14, EV.ev.eq_15, EV.ev.eq_16, EV.ev.eq_17, EV.ev.eq_18, EV.ev.eq_19, EV.ev.eq_20, EV.ev.eq_21, EV.ev.eq_22, EV.ev.eq_23, EV.ev.eq_24, EV.ev.eq_25, EV.ev.eq_26, EV.runDef, EV.params, EV.runB, EV.enter, EV.slots0, EV.exS.eq_1, EV.exS.eq_2, EV.exS.eq_3, EV.exS.eq_4, EV.exS.eq_5, EV.exS.eq_6, EV.exS.eq_7, EV.exS.eq_8, EV.exS.eq_9, EV.exS.eq_10, EV.exS.eq_11, EV.exS.eq_14, EV.exS.eq_15, EV.exSs, EV.look, EV.stl, EV.isi, EV.tr, EV.leave, EV.frz, EV.lookAll, EV.afterCall, EV.lent, EV.takeO, EV.store, EV.builtin, EV.b_abs, EV.evA, EV.evO, EV.evC, EV.evI, f_same_line, c1, c3, a1, a2, v1, v2, m1, m2, m3, m4, h0, ho]
    · rw [if_neg he] at m2
      have he2 : (a = e ∧ b = f) = False := eq_false he
      simp [EV.ixD, EV.valsOf, EV.ev.eq_1, EV.ev.eq_2, EV.ev.eq_3, EV.ev.eq_4, EV.ev.eq_5, EV.ev.eq_6, EV.ev.eq_7, EV.ev.eq_8, EV.ev.eq_9, EV.ev.eq_10, EV.ev.eq_11, EV.ev.eq_12, EV.ev.eq_13, EV.ev.eq_14, EV.ev.eq_15, EV.ev.eq_16, EV.ev.eq_17, EV.ev.eq_18, EV.ev.eq_19, EV.ev.eq_20, EV.ev.eq_21, EV.ev.eq_22, EV.ev.eq_23, EV.ev.eq_24, EV.ev.eq_25, EV.ev.eq_26, EV.runDef, EV.params, EV.runB, EV.enter, EV.slots0, EV.exS.eq_1, EV.exS.eq_2, EV.exS.eq_3, EV.exS.eq_4, EV.exS.eq_5, EV.exS.eq_6, EV.exS.eq_7, EV.exS.eq_8, EV.exS.eq_9, EV.exS.eq_10, EV.exS.eq_11, EV.exS.eq_14, EV.exS.eq_15, EV.exSs, EV.look, EV.stl, EV.isi, EV.tr, EV.leave, EV.frz, EV.lookAll, EV.afterCall, EV.lent, EV.takeO, EV.store, EV.builtin, EV.b_abs, EV.evA, EV.evO, EV.evC, EV.evI, f_same_line, c1, c3, a1, a2, v1, v2, m1, m2, m3, m4, h0, he2, ho]
end K3
end

section
/-! M10 -/
set_option linter.all false
set_option maxRecDepth 100000
set_option maxHeartbeats 1000000
set_option exponentiation.threshold 5000
namespace K3
open PySem EV
def nrI (f g : Fr) : Int := f.N * f.s.num * g.s.den - same f g * (g.N * g.s.num) * f.s.den
theorem nrI_eq (f g : Fr) : (nrI f g : Rat) = nr f g * ((f.s.den : Int) : Rat) * ((g.s.den : Int) : Rat) := by
  unfold nrI nr
  have e1 := nd f.s
  have e2 := nd g.s
  generalize same f g = s at *
  push_cast at *
  grind
theorem nrI_zero (f g : Fr) : nrI f g = 0 ↔ nr f g = 0 := by
  have e := nrI_eq f g
  have e1 := den_ne f.s
  have e2 := den_ne g.s
  rw [← Rat.intCast_eq_zero_iff, e]
  constructor
  · intro h
    grind
  · intro h
    rw [h]
    grind
theorem same_lt (f g : Fr) : lt2 1 (same f g) := by
  unfold same lt2
  split <;> decide
theorem bd_nrI {f g : Fr} (h : f.ok) (hg : g.ok) : lt2 130 (nrI f g) := lt2_mono (lt2_sub (lt2_mul (lt2_mul (bd_N h) h.sb.1) hg.sb.2) (lt2_mul (lt2_mul (same_lt f g) (lt2_mul (bd_N hg) hg.sb.1)) h.sb.2)) (by decide)
theorem sl_val {f g : Fr} (h : nr f g ≠ 0) : ((f.F (g.px, g.py) * (f.s.den * g.s.den) : Int) : Rat) / ((1 * nrI f g : Int) : Rat) = (f.F (g.px, g.py) : Rat) / nr f g := by
  have e := nrI_eq f g
  have e1 := den_ne f.s
  have e2 := den_ne g.s
  generalize nrI f g = k at *
  generalize nr f g = r at *
  push_cast at *
  grind
theorem same_line_ok {wf : Nat} (n : Nat) {f g : Fr} (hw : 2 ^ 400 ≤ wf) (h : f.ok) (hg : g.ok) : callF defs globs wf (n + 8) 32 [encF f, encF g] = val (encO (sl f g)) := by
  have c3 := across_ok wf (n + 6) h hg
  unfold sl
  by_cases h0 : wh f g = 0
  · rw [h0] at c3
    rw [if_pos h0]
    obtain ⟨k1, k2⟩ := same_raw2 (n := n) (wf := wf) (check_fronts_ok n hw h hg) c3 (along_ok wf (n + 6) (lt2_30 h.bx) (lt2_30 h.by') (okP_x hg.p).1 (okP_x hg.p).2 (by decide) (by decide)) (along_ok wf (n + 6) (lt2_30 h.bx) (lt2_30 h.by') (okP_x h.p).1 (okP_x h.p).2 (by decide) (by decide))
      (speed_of_ok wf (n + 5) h) (speed_of_ok wf (n + 5) hg) (bm (lt2_mul (bd_N h) h.sb.1) hg.sb.2 (by decide) (by decide)) (bm (same_lt f g) (lt2_mul (bd_N hg) hg.sb.1) (by decide) (by decide)) (bm (lt2_mul (same_lt f g) (lt2_mul (bd_N hg) hg.sb.1)) h.sb.2 (by decide) (by decide)) (bm h.sb.2 hg.sb.2 (by decide) (by decide))
    by_cases h1 : nr f g = 0
    · rw [if_pos h1]
      have := k1 ((nrI_zero f g).mpr h1)
      have e : (if f.F (g.px, g.py) = 0 then q 0 else .none) = encO (if f.F (g.px, g.py) = 0 then some 0 else none) := by split <;> rfl
      rw [← e]
      exact this
    · rw [if_neg h1]
      have h2 : nrI f g ≠ 0 := fun e => h1 ((nrI_zero f g).mp e)
      have o := over_ok (n + 4) (j := 130) (k := 130) (a := f.F (g.px, g.py)) (b := 1) (c := nrI f g) (d := f.s.den * g.s.den) hw (lt2_mono (bd_F h hg.p) (by decide)) (lt2_one _ (by decide)) (bd_nrI h hg) (lt2_mono (lt2_mul h.sb.2 hg.sb.2) (by decide)) (by decide) (by decide) (by omega)
      rw [sl_val h1] at o
      exact k2 _ h2 o
  · rw [if_neg h0]
    exact same_raw1 (check_fronts_ok n hw h hg) c3 h0
theorem bd_neg {k : Nat} {r : Rat} (h : Bd k r) : Bd k (-r) := ⟨lt2_neg h.1, h.2⟩
theorem bd_div' {k : Nat} {a b : Int} (h0 : b ≠ 0) (ha : lt2 k a) (hb : lt2 k b) : Bd k ((a : Rat) / (b : Rat)) := by
  by_cases h : 0 < b
  · exact bd_div h ha hb
  · have := bd_div (a := -a) (b := -b) (show 0 < -b by omega) (lt2_neg ha) (lt2_neg hb)
    have e3 : ((-a : Int) : Rat) / ((-b : Int) : Rat) = (a : Rat) / (b : Rat) := by
      have : (b : Rat) ≠ 0 := by rw [Ne, Rat.intCast_eq_zero_iff]; exact h0
      push_cast
      grind
    rw [e3] at this
    exact this
theorem bd_sl {f g : Fr} {w : Rat} (h : f.ok) (hg : g.ok) (e : sl f g = some w) : Bd 160 w := by
  unfold sl at e
  split at e
  · split at e
    · split at e
      · cases e
        exact ⟨by unfold lt2; decide, by unfold lt2; decide⟩
      · cases e
    · rename_i h1 h2
      cases e
      rw [← sl_val h2]
      have h3 : nrI f g ≠ 0 := fun e => h2 ((nrI_zero f g).mp e)
      exact bd_div' (by omega) (lt2_mono (lt2_mul (bd_F h hg.p) (lt2_mul h.sb.2 hg.sb.2)) (by decide)) (lt2_mono (lt2_mul (lt2_one 1 (by decide)) (bd_nrI h hg)) (by decide))
  · cases e
theorem is_place2_ok {wf : Nat} (n : Nat) {p : Int × Int} (hp : okP p) : callF defs globs wf (n + 3) 33 [encP p] = val (.bool true) := by
  obtain ⟨a, b⟩ := p
  obtain ⟨⟨h1, h2⟩, h3, h4⟩ := hp
  rw [call_def d_is_place_checkwoods]
  have hl : lcLoop (itmF (cc wf (n + 2)) none e0_is_place_checkwoods (.v 1) .no [1]) [.int a, .int b] [.f (.tuple [.int a, .int b]), .u] = .ok ([.bool true, .bool true], [.f (.tuple [.int a, .int b]), .u]) := by
    simp at h1 h2 h3 h4
    simp [EV.ixD, EV.valsOf, EV.ev.eq_1, EV.ev.eq_2, EV.ev.eq_3, EV.ev.eq_4, EV.ev.eq_5, EV.ev.eq_6, EV.ev.eq_7, EV.ev.eq_8, EV.ev.eq_9, EV.ev.eq_10, EV.ev.eq_11, EV.ev.eq_12, EV.ev.eq_13, EV.ev.eq_14, EV.ev.eq_15, EV.ev.eq_16, EV.ev.eq_17, EV.ev.eq_18, EV.ev.eq_19, EV.ev.eq_20, EV.ev.eq_21, EV.ev.eq_22, EV.ev.eq_23, EV.ev.eq_24, EV.ev.eq_25, EV.ev.eq_26, EV.runDef, EV.params, EV.runB, EV.enter, EV.slots0, EV.exS.eq_1, EV.exS.eq_2, EV.exS.eq_3, EV.exS.eq_4, EV.exS.eq_5, EV.exS.eq_6, EV.exS.eq_7, EV.exS.eq_8, EV.exS.eq_9, EV.exS.eq_10, EV.exS.eq_11, EV.exS.eq_14, EV.exS.eq_15, EV.exSs, EV.look, EV.stl, EV.isi, EV.tr, EV.leave, EV.frz, EV.lookAll, EV.afterCall, EV.lent, EV.takeO, EV.store, EV.builtin, EV.b_abs, EV.evA, EV.evO, EV.evC, EV.evI, lcLoop, itmF, e0_is_place_checkwoods, is_within_int, h1, h2, h3, h4, hide]
  simp [EV.ixD, EV.valsOf, EV.ev.eq_1, EV.ev.eq_2, EV.ev.eq_3, EV.ev.eq_4, EV.ev.eq_5, EV.ev.eq_6, EV.ev.eq_7, EV.ev.eq_8, EV.ev.eq_9, EV.ev.eq_10, EV.ev.eq_11, EV.ev.eq_12, EV.ev.eq_13, EV.ev.eq_14, EV.ev.eq_15, EV.ev.eq_16, EV.ev.eq_17, EV.ev.eq_18, EV.ev.eq_19, EV.ev.eq_20, EV.ev.eq_21, EV.ev.eq_22, EV.ev.eq_23, EV.ev.eq_24, EV.ev.eq_25, EV.ev.eq_26, EV.runDef, EV.params, EV.runB, EV.enter, EV.slots0, EV.exS.eq_1, EV.exS.eq_2, EV.exS.eq_3, EV.exS.eq_4, EV.exS.eq_5, EV.exS.eq_6, EV.exS.eq_7, EV.exS.eq_8, EV.exS.eq_9, EV.exS.eq_10, EV.exS.eq_11, EV.exS.eq_14, EV.exS.eq_15, EV.exSs, EV.look, EV.stl, EV.isi, EV.tr, EV.leave, EV.frz, EV.lookAll, EV.afterCall, EV.lent, EV.takeO, EV.store, EV.builtin, EV.b_abs, EV.evA, EV.evO, EV.evC, EV.evI, f_is_place_checkwoods, bLen, plainAt, hide, hl, sizeLine_eq, unhide, bAll, boolsD]
theorem is_ratio2_ok {wf k : Nat} (n : Nat) {r : Rat} (hw : 2 ^ 400 ≤ wf) (h : Bd k r) (hk : k ≤ 400) : callF defs globs wf (n + 3) 34 [q r] = val (.bool true) := by
  rw [call_def d_is_ratio_checkwoods]
  have hs := ratio_ok (wf := wf) n (x := r.num) hw (den_pos r) h.2 hk
  rw [ndi] at hs
  have hd : ¬ (r.den : Int) < 1 := by have := r.den_pos; omega
  have hc := cm_eq_q r r
  simp only [q] at *
  generalize r.num = a at *
  generalize (r.den : Int) = b at *
  have hl : lcLoop (itmF (cc wf (n + 2)) none e0_is_ratio_checkwoods (.v 1) .no [1]) [.int a, .int b] [.f (.tuple [.int a, .int b]), .u] = .ok ([.bool true, .bool true], [.f (.tuple [.int a, .int b]), .u]) := by
    simp [EV.ixD, EV.valsOf, EV.ev.eq_1, EV.ev.eq_2, EV.ev.eq_3, EV.ev.eq_4, EV.ev.eq_5, EV.ev.eq_6, EV.ev.eq_7, EV.ev.eq_8, EV.ev.eq_9, EV.ev.eq_10, EV.ev.eq_11, EV.ev.eq_12, EV.ev.eq_13, EV.ev.eq_14, EV.ev.eq_15, EV.ev.eq_16, EV.ev.eq_17, EV.ev.eq_18, EV.ev.eq_19, EV.ev.eq_20, EV.ev.eq_21, EV.ev.eq_22, EV.ev.eq_23, EV.ev.eq_24, EV.ev.eq_25, EV.ev.eq_26, EV.runDef, EV.params, EV.runB, EV.enter, EV.slots0, EV.exS.eq_1, EV.exS.eq_2, EV.exS.eq_3, EV.exS.eq_4, EV.exS.eq_5, EV.exS.eq_6, EV.exS.eq_7, EV.exS.eq_8, EV.exS.eq_9, EV.exS.eq_10, EV.exS.eq_11, EV.exS.eq_14, EV.exS.eq_15, EV.exSs, EV.look, EV.stl, EV.isi, EV.tr, EV.leave, EV.frz, EV.lookAll, EV.afterCall, EV.lent, EV.takeO, EV.store, EV.builtin, EV.b_abs, EV.evA, EV.evO, EV.evC, EV.evI, lcLoop, itmF, e0_is_ratio_checkwoods, is_integer_int, hide]
  simp [EV.ixD, EV.valsOf, EV.ev.eq_1, EV.ev.eq_2, EV.ev.eq_3, EV.ev.eq_4, EV.ev.eq_5, EV.ev.eq_6, EV.ev.eq_7, EV.ev.eq_8, EV.ev.eq_9, EV.ev.eq_10, EV.ev.eq_11, EV.ev.eq_12, EV.ev.eq_13, EV.ev.eq_14, EV.ev.eq_15, EV.ev.eq_16, EV.ev.eq_17, EV.ev.eq_18, EV.ev.eq_19, EV.ev.eq_20, EV.ev.eq_21, EV.ev.eq_22, EV.ev.eq_23, EV.ev.eq_24, EV.ev.eq_25, EV.ev.eq_26, EV.runDef, EV.params, EV.runB, EV.enter, EV.slots0, EV.exS.eq_1, EV.exS.eq_2, EV.exS.eq_3, EV.exS.eq_4, EV.exS.eq_5, EV.exS.eq_6, EV.exS.eq_7, EV.exS.eq_8, EV.exS.eq_9, EV.exS.eq_10, EV.exS.eq_11, EV.exS.eq_14, EV.exS.eq_15, EV.exSs, EV.look, EV.stl, EV.isi, EV.tr, EV.leave, EV.frz, EV.lookAll, EV.afterCall, EV.lent, EV.takeO, EV.store, EV.builtin, EV.b_abs, EV.evA, EV.evO, EV.evC, EV.evI, f_is_ratio_checkwoods, bLen, plainAt, hide, hl, sizeLine_eq, unhide, bAll, boolsD, hs, hd]
theorem pow9 : binop .pow (.int 10) (.int 9) = some (.val (.int 1000000000)) := by
  have e : binop .pow (.int 10) (.int 9) = some (.val (.int (10 ^ 9))) := rfl
  rw [e]
  have h : (10 : Int) ^ 9 = 1000000000 := by decide
  rw [h]
theorem takes_raw {wf n : Nat} {px py a b x y m l t d z w u v u2 v2 f1 f2 : Int} {Q : D} (c1 : callF defs globs wf (n + 4) 33 [.tuple [.int px, .int py]] = val (.bool true)) (c2 : callF defs globs wf (n + 4) 33 [.tuple [.int x, .int y]] = val (.bool true))
    (w1 : callF defs globs wf (n + 4) 1 [.int a, .int (-1000000000), .int 1000000000] = val (.bool true)) (w2 : callF defs globs wf (n + 4) 1 [.int b, .int (-1000000000), .int 1000000000] = val (.bool true)) (ha : (a.natAbs : Int) = z) (hb : (b.natAbs : Int) = w)
    (c3 : callF defs globs wf (n + 4) 3 [.int z, .int w] = val (.int 1)) (c4 : callF defs globs wf (n + 4) 34 [.tuple [.int m, .int l]] = val (.bool true)) (hm : ¬ m < 1)
    (m1 : binop .mul (.int (x - px)) (.int a) = some (.val (.int u))) (m2 : binop .mul (.int (y - py)) (.int b) = some (.val (.int v))) (m3 : binop .mul (.int a) (.int a) = some (.val (.int u2))) (m4 : binop .mul (.int b) (.int b) = some (.val (.int v2)))
    (m5 : binop .mul (.int (u + v)) (.int l) = some (.val (.int f1))) (m6 : binop .mul (.int (u2 + v2)) (.int m) = some (.val (.int f2))) (c5 : callF defs globs wf (n + 4) 4 [.int f1, .int f2] = val Q) (ce : cmpop .eq (.tuple [.int t, .int d]) Q = some true) :
    callF defs globs wf (n + 5) 35 [.tuple [.tuple [.int px, .int py], .tuple [.int a, .int b], .tuple [.int m, .int l]], .tuple [.int x, .int y], .int t, .int d] = val (.bool true) := by
  rw [call_def d_takes_reach]
  obtain ⟨K, hp⟩ : ∃ K : Int, binop .pow (.int 10) (.int 9) = some (.val (.int K)) ∧ K = 1000000000 := ⟨_, pow9, rfl⟩
  have hK := hp.2
  rw [← hK] at w1 w2
  have hl : ∀ x4 x5 x6 x8 x9, lcLoop (itmF (cc wf (n + 4)) none e0_takes_reach (.v 7) .no [7]) [.int a, .int b] [.f (.tuple [.tuple [.int px, .int py], .tuple [.int a, .int b], .tuple [.int m, .int l]]), .f (.tuple [.int x, .int y]), .f (.int t), .f (.int d), x4, x5, x6, .u, x8, x9] = .ok ([.bool true, .bool true], [.f (.tuple [.tuple [.int px, .int py], .tuple [.int a, .int b], .tuple [.int m, .int l]]), .f (.tuple [.int x, .int y]), .f (.int t), .f (.int d), x4, x5, x6, .u, x8, x9]) := by
    intro x4 x5 x6 x8 x9
    simp [EV.ixD, EV.valsOf, EV.ev.eq_1, EV.ev.eq_2, EV.ev.eq_3, EV.ev.eq_4, EV.ev.eq_5, EV.ev.eq_6, EV.ev.eq_7, EV.ev.eq_8, EV.ev.eq_9, EV.ev.eq_10, EV.ev.eq_11, EV.ev.eq_12, EV.ev.eq_13, EV.ev.eq_14, EV.ev.eq_15, EV.ev.eq_16, EV.ev.eq_17, EV.ev.eq_18, EV.ev.eq_19, EV.ev.eq_20, EV.ev.eq_21, EV.ev.eq_22, EV.ev.eq_23, EV.ev.eq_24, EV.ev.eq_25, EV.ev.eq_26, EV.runDef, EV.params, EV.runB, EV.enter, EV.slots0, EV.exS.eq_1, EV.exS.eq_2, EV.exS.eq_3, EV.exS.eq_4, EV.exS.eq_5, EV.exS.eq_6, EV.exS.eq_7, EV.exS.eq_8, EV.exS.eq_9, EV.exS.eq_10, EV.exS.eq_11, EV.exS.eq_14, EV.exS.eq_15, EV.exSs, EV.look, EV.stl, EV.isi, EV.tr, EV.leave, EV.frz, EV.lookAll, EV.afterCall, EV.lent, EV.takeO, EV.store, EV.builtin, EV.b_abs, EV.evA, EV.evO, EV.evC, EV.evI, lcLoop, itmF, e0_takes_reach, hp.1, w1, w2, hide]
  simp [EV.ixD, EV.valsOf, EV.ev.eq_1, EV.ev.eq_2, EV.ev.eq_3, EV.ev.eq_4, EV.ev.eq_5, EV.ev.eq_6, EV.ev.eq_7, EV.ev.eq_8, EV.ev.eq_9, EV.ev.eq_10, EV.ev.eq_11, EV.ev.eq_12, EV.ev.eq_13, EV.ev.eq_14, EV.ev.eq_15, EV.ev.eq_16, EV.ev.eq_17, EV.ev.eq_18, EV.ev.eq_19, EV.ev.eq_20, EV.ev.eq_21, EV.ev.eq_22, EV.ev.eq_23, EV.ev.eq_24, EV.ev.eq_25, EV.ev.eq_26, EV.runDef, EV.params, EV.runB, EV.enter, EV.slots0, EV.exS.eq_1, EV.exS.eq_2, EV.exS.eq_3, EV.exS.eq_4, EV.exS.eq_5, EV.exS.eq_6, EV.exS.eq_7, EV.exS.eq_8, EV.exS.eq_9, EV.exS.eq_10, EV.exS.eq_11, EV.exS.eq_14, EV.exS.eq_15, EV.exSs, EV.look, EV.stl, EV.isi, EV.tr, EV.leave, EV.frz, EV.lookAll, EV.afterCall, EV.lent, EV.takeO, EV.store, EV.builtin, EV.b_abs, EV.evA, EV.evO, EV.evC, EV.evI, f_takes_reach, bLen, c1, c2, plainAt, hide, hl, sizeLine_eq, unhide, bAll, boolsD, ha, hb, c3, c4, hm, m1, m2, m3, m4, m5, m6, c5, ce]
end K3
end

section
/-! M11 -/
set_option linter.all false
set_option maxRecDepth 100000
set_option maxHeartbeats 1000000
set_option exponentiation.threshold 5000
namespace K3
open PySem EV
/-! draws -/
def Nn (l : List Int) : Prop := ∀ x ∈ l, 0 ≤ x
/-- a draw below a bound -/
theorem take_ok (wf n : Nat) (l : List Int) (b : Int) (hl : Nn l) (hb : 0 < b) : ∃ v l', 0 ≤ v ∧ v < b ∧ Nn l' ∧ callF defs globs wf (n + 1) 37 [encI l, .int b] = .ok ⟨false, .int v, encI l'⟩ := by
  rw [call_def d__law_take]
  cases h : l.getLast? with
  | none =>
    have : l = [] := by simpa using h
    subst this
    refine ⟨0, [], by omega, hb, hl, ?_⟩
    simp [EV.ixD, EV.valsOf, EV.ev.eq_1, EV.ev.eq_2, EV.ev.eq_3, EV.ev.eq_4, EV.ev.eq_5, EV.ev.eq_6, EV.ev.eq_7, EV.ev.eq_8, EV.ev.eq_9, EV.ev.eq_10, EV.ev.eq_11, EV.ev.eq_12, EV.ev.eq_13, EV.ev.eq_14, EV.ev.eq_15, EV.ev.eq_16, EV.ev.eq_17, EV.ev.eq_18, EV.ev.eq_19, EV.ev.eq_20, EV.ev.eq_21, EV.ev.eq_22, EV.ev.eq_23, EV.ev.eq_24, EV.ev.eq_25, EV.ev.eq_26, EV.runDef, EV.params, EV.runB, EV.enter, EV.slots0, EV.exS.eq_1, EV.exS.eq_2, EV.exS.eq_3, EV.exS.eq_4, EV.exS.eq_5, EV.exS.eq_6, EV.exS.eq_7, EV.exS.eq_8, EV.exS.eq_9, EV.exS.eq_10, EV.exS.eq_11, EV.exS.eq_14, EV.exS.eq_15, EV.exSs, EV.look, EV.stl, EV.isi, EV.tr, EV.leave, EV.frz, EV.lookAll, EV.afterCall, EV.lent, EV.takeO, EV.store, EV.builtin, EV.b_abs, EV.evA, EV.evO, EV.evC, EV.evI, f__law_take, bLen]
  | some x =>
    have hne : l ≠ [] := by intro e; subst e; cases h
    have hx : 0 ≤ x := hl x (List.mem_of_getLast? h)
    refine ⟨x % b, l.dropLast, Int.emod_nonneg _ (by omega), Int.emod_lt_of_pos _ hb, fun y hy => hl y (List.dropLast_subset _ hy), ?_⟩
    have hn : l.length ≠ 0 := by simpa using hne
    simp [EV.ixD, EV.valsOf, EV.ev.eq_1, EV.ev.eq_2, EV.ev.eq_3, EV.ev.eq_4, EV.ev.eq_5, EV.ev.eq_6, EV.ev.eq_7, EV.ev.eq_8, EV.ev.eq_9, EV.ev.eq_10, EV.ev.eq_11, EV.ev.eq_12, EV.ev.eq_13, EV.ev.eq_14, EV.ev.eq_15, EV.ev.eq_16, EV.ev.eq_17, EV.ev.eq_18, EV.ev.eq_19, EV.ev.eq_20, EV.ev.eq_21, EV.ev.eq_22, EV.ev.eq_23, EV.ev.eq_24, EV.ev.eq_25, EV.ev.eq_26, EV.runDef, EV.params, EV.runB, EV.enter, EV.slots0, EV.exS.eq_1, EV.exS.eq_2, EV.exS.eq_3, EV.exS.eq_4, EV.exS.eq_5, EV.exS.eq_6, EV.exS.eq_7, EV.exS.eq_8, EV.exS.eq_9, EV.exS.eq_10, EV.exS.eq_11, EV.exS.eq_14, EV.exS.eq_15, EV.exSs, EV.look, EV.stl, EV.isi, EV.tr, EV.leave, EV.frz, EV.lookAll, EV.afterCall, EV.lent, EV.takeO, EV.store, EV.builtin, EV.b_abs, EV.evA, EV.evO, EV.evC, EV.evI, f__law_take, bLen, hn, List.getLast?_map, h, bInt, bo_mod hb, encI]
theorem two64 : (2 : Int) ^ 64 = 18446744073709551616 := by decide
theorem mul_small {a b : Int} (h : -18446744073709551616 < a) (h2 : a < 18446744073709551616) : mulOk a b = true := by
  rw [← two64] at h h2
  unfold mulOk
  simp only [Bool.or_eq_true, Bool.and_eq_true, decide_eq_true_eq]
  exact .inl (.inl ⟨h, h2⟩)
def Pd (b : Nat) (s : D) (i : Nat) (ρ : Rho) : Prop := ∃ (l : List Int) (sd : Int) (c k : Sl) (nb : Int), ρ = [.f s, .o (encI l), .f (.int sd), c, .f (.int nb), k] ∧ Nn l ∧ l.length ≤ b + i ∧ 0 ≤ sd ∧ sd < 2147483647 ∧ 0 ≤ nb
theorem nn_snoc {l : List Int} {x : Int} (h : Nn l) (hx : 0 ≤ x) : Nn (l ++ [x]) := fun y hy => by
  rcases List.mem_append.mp hy with h1 | h1
  · exact h y h1
  · rw [List.mem_singleton.mp h1]; exact hx
theorem turn60 (C : Cfg) (b : Nat) (s : D) (hb : b ≤ 100000) : ∀ i d ρ, i < 60 → Pd b s i ρ → d ∈ rngL 0 60 → ∃ ρ', forF C none (.v 5) b0__law_draws d ρ = .ok (.nx, ρ') ∧ Pd b s (i + 1) ρ' := by
  rintro i d ρ hi ⟨l, sd, c, k, nb, rfl, h1, h2, h3, h4, h5⟩ hd
  by_cases hp : 0 < nb
  · refine ⟨[.f s, .o (encI (l ++ [nb % 997])), .f (.int sd), c, .f (.int (nb / 997)), .f d], ?_, l ++ [nb % 997], sd, c, .f d, nb / 997, rfl, nn_snoc h1 (by omega), by simp; omega, h3, h4, by omega⟩
    have hz : l.length < sizeLine := by rw [PySem.sizeLine_eq]; omega
    simp [EV.ixD, EV.valsOf, EV.ev.eq_1, EV.ev.eq_2, EV.ev.eq_3, EV.ev.eq_4, EV.ev.eq_5, EV.ev.eq_6, EV.ev.eq_7, EV.ev.eq_8, EV.ev.eq_9, EV.ev.eq_10, EV.ev.eq_11, EV.ev.eq_12, EV.ev.eq_13, EV.ev.eq_14, EV.ev.eq_15, EV.ev.eq_16, EV.ev.eq_17, EV.ev.eq_18, EV.ev.eq_19, EV.ev.eq_20, EV.ev.eq_21, EV.ev.eq_22, EV.ev.eq_23, EV.ev.eq_24, EV.ev.eq_25, EV.ev.eq_26, EV.runDef, EV.params, EV.runB, EV.enter, EV.slots0, EV.exS.eq_1, EV.exS.eq_2, EV.exS.eq_3, EV.exS.eq_4, EV.exS.eq_5, EV.exS.eq_6, EV.exS.eq_7, EV.exS.eq_8, EV.exS.eq_9, EV.exS.eq_10, EV.exS.eq_11, EV.exS.eq_14, EV.exS.eq_15, EV.exSs, EV.look, EV.stl, EV.isi, EV.tr, EV.leave, EV.frz, EV.lookAll, EV.afterCall, EV.lent, EV.takeO, EV.store, EV.builtin, EV.b_abs, EV.evA, EV.evO, EV.evC, EV.evI, forF, b0__law_draws, hp, encI, bInt, bo_mod (show (0 : Int) < 997 by decide), bo_div (a := nb) (show (0 : Int) < 997 by decide) (by decide), hz]
  · refine ⟨[.f s, .o (encI l), .f (.int sd), c, .f (.int nb), .f d], ?_, l, sd, c, .f d, nb, rfl, h1, by omega, h3, h4, h5⟩
    simp [EV.ixD, EV.valsOf, EV.ev.eq_1, EV.ev.eq_2, EV.ev.eq_3, EV.ev.eq_4, EV.ev.eq_5, EV.ev.eq_6, EV.ev.eq_7, EV.ev.eq_8, EV.ev.eq_9, EV.ev.eq_10, EV.ev.eq_11, EV.ev.eq_12, EV.ev.eq_13, EV.ev.eq_14, EV.ev.eq_15, EV.ev.eq_16, EV.ev.eq_17, EV.ev.eq_18, EV.ev.eq_19, EV.ev.eq_20, EV.ev.eq_21, EV.ev.eq_22, EV.ev.eq_23, EV.ev.eq_24, EV.ev.eq_25, EV.ev.eq_26, EV.runDef, EV.params, EV.runB, EV.enter, EV.slots0, EV.exS.eq_1, EV.exS.eq_2, EV.exS.eq_3, EV.exS.eq_4, EV.exS.eq_5, EV.exS.eq_6, EV.exS.eq_7, EV.exS.eq_8, EV.exS.eq_9, EV.exS.eq_10, EV.exS.eq_11, EV.exS.eq_14, EV.exS.eq_15, EV.exSs, EV.look, EV.stl, EV.isi, EV.tr, EV.leave, EV.frz, EV.lookAll, EV.afterCall, EV.lent, EV.takeO, EV.store, EV.builtin, EV.b_abs, EV.evA, EV.evO, EV.evC, EV.evI, forF, b0__law_draws, hp, encI]
def Pc (s : D) (i : Nat) (ρ : Rho) : Prop := ∃ (l : List Int) (sd : Int) (c nb k : Sl), ρ = [.f s, .o (encI l), .f (.int sd), c, nb, k] ∧ Nn l ∧ l.length ≤ 62 * i ∧ 0 ≤ sd ∧ sd < 2147483647
theorem pow18 : binop .pow (.int 10) (.int 18) = some (.val (.int 1000000000000000000)) := by
  have e : binop .pow (.int 10) (.int 18) = some (.val (.int (10 ^ 18))) := rfl
  rw [e]
  have h : (10 : Int) ^ 18 = 1000000000000000000 := by decide
  rw [h]
theorem turnC (C : Cfg) (s : D) : ∀ i d ρ, i < 63 → Pc s i ρ → (∃ z : Int, d = .int z) → ∃ ρ', forF C none (.v 3) b1__law_draws d ρ = .ok (.nx, ρ') ∧ Pc s (i + 1) ρ' := by
  rintro i d ρ hi ⟨l, sd, c, nb, k, rfl, h1, h2, h3, h4⟩ ⟨z, rfl⟩
  have hm := bo_mul (mul_small (b := 48271) (show -18446744073709551616 < sd by omega) (show sd < 18446744073709551616 by omega))
  obtain ⟨K, hp⟩ : ∃ K : Int, binop .pow (.int 10) (.int 18) = some (.val (.int K)) := ⟨_, pow18⟩
  obtain ⟨m, em, hm1⟩ : ∃ m : Int, (z.natAbs : Int) = m ∧ 0 ≤ m := ⟨_, rfl, by omega⟩
  have e0 : small62 60 = true := by decide
  have hz1 : l.length < sizeLine := by rw [PySem.sizeLine_eq]; omega
  have hz2 : l.length + 1 < sizeLine := by rw [PySem.sizeLine_eq]; omega
  generalize hs : (sd * 48271 + m + 1) % 2147483647 = sd'
  have hs1 : 0 ≤ sd' := by omega
  have hs2 : sd' < 2147483647 := by omega
  have hmod := bo_mod (a := sd * 48271 + m + 1) (show (0 : Int) < 2147483647 by omega)
  rw [hs] at hmod
  by_cases hb : m < K
  · obtain ⟨ρ2, e2, l2, sd2, c2, k2, nb2, rfl, a1, a2, a3, a4, a5⟩ := for_inv (Pd (l.length + 2) s) 60 (rngL 0 60) 0 [.f s, .o (encI (l ++ [m % 997] ++ [sd' % 65521])), .f (.int sd'), .f (.int z), .f (.int 0), k] (by simp [EV.ixD, EV.valsOf, EV.ev.eq_1, EV.ev.eq_2, EV.ev.eq_3, EV.ev.eq_4, EV.ev.eq_5, EV.ev.eq_6, EV.ev.eq_7, EV.ev.eq_8, EV.ev.eq_9, EV.ev.eq_10, EV.ev.eq_11, EV.ev.eq_12, EV.ev.eq_13, EV.ev.eq_14, EV.ev.eq_15, EV.ev.eq_16, EV.ev.eq_17, EV.ev.eq_18, EV.ev.eq_19, EV.ev.eq_20, EV.ev.eq_21, EV.ev.eq_22, EV.ev.eq_23, EV.ev.eq_24, EV.ev.eq_25, EV.ev.eq_26, EV.runDef, EV.params, EV.runB, EV.enter, EV.slots0, EV.exS.eq_1, EV.exS.eq_2, EV.exS.eq_3, EV.exS.eq_4, EV.exS.eq_5, EV.exS.eq_6, EV.exS.eq_7, EV.exS.eq_8, EV.exS.eq_9, EV.exS.eq_10, EV.exS.eq_11, EV.exS.eq_14, EV.exS.eq_15, EV.exSs, EV.look, EV.stl, EV.isi, EV.tr, EV.leave, EV.frz, EV.lookAll, EV.afterCall, EV.lent, EV.takeO, EV.store, EV.builtin, EV.b_abs, EV.evA, EV.evO, EV.evC, EV.evI, rngL])
      (turn60 C (l.length + 2) s (by omega)) ⟨_, sd', .f (.int z), k, 0, rfl, nn_snoc (nn_snoc h1 (by omega)) (by omega), by simp, hs1, hs2, by omega⟩
    refine ⟨_, ?_, l2, sd2, c2, .f (.int nb2), k2, rfl, a1, ?_, a3, a4⟩
    · simp [EV.ixD, EV.valsOf, EV.ev.eq_1, EV.ev.eq_2, EV.ev.eq_3, EV.ev.eq_4, EV.ev.eq_5, EV.ev.eq_6, EV.ev.eq_7, EV.ev.eq_8, EV.ev.eq_9, EV.ev.eq_10, EV.ev.eq_11, EV.ev.eq_12, EV.ev.eq_13, EV.ev.eq_14, EV.ev.eq_15, EV.ev.eq_16, EV.ev.eq_17, EV.ev.eq_18, EV.ev.eq_19, EV.ev.eq_20, EV.ev.eq_21, EV.ev.eq_22, EV.ev.eq_23, EV.ev.eq_24, EV.ev.eq_25, EV.ev.eq_26, EV.runDef, EV.params, EV.runB, EV.enter, EV.slots0, EV.exS.eq_1, EV.exS.eq_2, EV.exS.eq_3, EV.exS.eq_4, EV.exS.eq_5, EV.exS.eq_6, EV.exS.eq_7, EV.exS.eq_8, EV.exS.eq_9, EV.exS.eq_10, EV.exS.eq_11, EV.exS.eq_14, EV.exS.eq_15, EV.exSs, EV.look, EV.stl, EV.isi, EV.tr, EV.leave, EV.frz, EV.lookAll, EV.afterCall, EV.lent, EV.takeO, EV.store, EV.builtin, EV.b_abs, EV.evA, EV.evO, EV.evC, EV.evI, forF, b1__law_draws, bInt, hm, hmod, hp, hb, em, encI, bo_mod (show (0 : Int) < 997 by decide), bo_mod (show (0 : Int) < 65521 by omega), hz1, hz2, e0] at e2 ⊢
      rw [e2]
      rfl
    · simp [EV.ixD, EV.valsOf, EV.ev.eq_1, EV.ev.eq_2, EV.ev.eq_3, EV.ev.eq_4, EV.ev.eq_5, EV.ev.eq_6, EV.ev.eq_7, EV.ev.eq_8, EV.ev.eq_9, EV.ev.eq_10, EV.ev.eq_11, EV.ev.eq_12, EV.ev.eq_13, EV.ev.eq_14, EV.ev.eq_15, EV.ev.eq_16, EV.ev.eq_17, EV.ev.eq_18, EV.ev.eq_19, EV.ev.eq_20, EV.ev.eq_21, EV.ev.eq_22, EV.ev.eq_23, EV.ev.eq_24, EV.ev.eq_25, EV.ev.eq_26, EV.runDef, EV.params, EV.runB, EV.enter, EV.slots0, EV.exS.eq_1, EV.exS.eq_2, EV.exS.eq_3, EV.exS.eq_4, EV.exS.eq_5, EV.exS.eq_6, EV.exS.eq_7, EV.exS.eq_8, EV.exS.eq_9, EV.exS.eq_10, EV.exS.eq_11, EV.exS.eq_14, EV.exS.eq_15, EV.exSs, EV.look, EV.stl, EV.isi, EV.tr, EV.leave, EV.frz, EV.lookAll, EV.afterCall, EV.lent, EV.takeO, EV.store, EV.builtin, EV.b_abs, EV.evA, EV.evO, EV.evC, EV.evI, rngL] at a2; omega
  · obtain ⟨ρ2, e2, l2, sd2, c2, k2, nb2, rfl, a1, a2, a3, a4, a5⟩ := for_inv (Pd l.length s) 60 (rngL 0 60) 0 [.f s, .o (encI l), .f (.int sd'), .f (.int z), .f (.int m), k] (by simp [EV.ixD, EV.valsOf, EV.ev.eq_1, EV.ev.eq_2, EV.ev.eq_3, EV.ev.eq_4, EV.ev.eq_5, EV.ev.eq_6, EV.ev.eq_7, EV.ev.eq_8, EV.ev.eq_9, EV.ev.eq_10, EV.ev.eq_11, EV.ev.eq_12, EV.ev.eq_13, EV.ev.eq_14, EV.ev.eq_15, EV.ev.eq_16, EV.ev.eq_17, EV.ev.eq_18, EV.ev.eq_19, EV.ev.eq_20, EV.ev.eq_21, EV.ev.eq_22, EV.ev.eq_23, EV.ev.eq_24, EV.ev.eq_25, EV.ev.eq_26, EV.runDef, EV.params, EV.runB, EV.enter, EV.slots0, EV.exS.eq_1, EV.exS.eq_2, EV.exS.eq_3, EV.exS.eq_4, EV.exS.eq_5, EV.exS.eq_6, EV.exS.eq_7, EV.exS.eq_8, EV.exS.eq_9, EV.exS.eq_10, EV.exS.eq_11, EV.exS.eq_14, EV.exS.eq_15, EV.exSs, EV.look, EV.stl, EV.isi, EV.tr, EV.leave, EV.frz, EV.lookAll, EV.afterCall, EV.lent, EV.takeO, EV.store, EV.builtin, EV.b_abs, EV.evA, EV.evO, EV.evC, EV.evI, rngL])
      (turn60 C l.length s (by omega)) ⟨_, sd', .f (.int z), k, _, rfl, h1, by omega, hs1, hs2, by omega⟩
    refine ⟨_, ?_, l2, sd2, c2, .f (.int nb2), k2, rfl, a1, ?_, a3, a4⟩
    · simp [EV.ixD, EV.valsOf, EV.ev.eq_1, EV.ev.eq_2, EV.ev.eq_3, EV.ev.eq_4, EV.ev.eq_5, EV.ev.eq_6, EV.ev.eq_7, EV.ev.eq_8, EV.ev.eq_9, EV.ev.eq_10, EV.ev.eq_11, EV.ev.eq_12, EV.ev.eq_13, EV.ev.eq_14, EV.ev.eq_15, EV.ev.eq_16, EV.ev.eq_17, EV.ev.eq_18, EV.ev.eq_19, EV.ev.eq_20, EV.ev.eq_21, EV.ev.eq_22, EV.ev.eq_23, EV.ev.eq_24, EV.ev.eq_25, EV.ev.eq_26, EV.runDef, EV.params, EV.runB, EV.enter, EV.slots0, EV.exS.eq_1, EV.exS.eq_2, EV.exS.eq_3, EV.exS.eq_4, EV.exS.eq_5, EV.exS.eq_6, EV.exS.eq_7, EV.exS.eq_8, EV.exS.eq_9, EV.exS.eq_10, EV.exS.eq_11, EV.exS.eq_14, EV.exS.eq_15, EV.exSs, EV.look, EV.stl, EV.isi, EV.tr, EV.leave, EV.frz, EV.lookAll, EV.afterCall, EV.lent, EV.takeO, EV.store, EV.builtin, EV.b_abs, EV.evA, EV.evO, EV.evC, EV.evI, forF, b1__law_draws, bInt, hm, hmod, hp, hb, em, encI, e0] at e2 ⊢
      rw [e2]
      rfl
    · simp [EV.ixD, EV.valsOf, EV.ev.eq_1, EV.ev.eq_2, EV.ev.eq_3, EV.ev.eq_4, EV.ev.eq_5, EV.ev.eq_6, EV.ev.eq_7, EV.ev.eq_8, EV.ev.eq_9, EV.ev.eq_10, EV.ev.eq_11, EV.ev.eq_12, EV.ev.eq_13, EV.ev.eq_14, EV.ev.eq_15, EV.ev.eq_16, EV.ev.eq_17, EV.ev.eq_18, EV.ev.eq_19, EV.ev.eq_20, EV.ev.eq_21, EV.ev.eq_22, EV.ev.eq_23, EV.ev.eq_24, EV.ev.eq_25, EV.ev.eq_26, EV.runDef, EV.params, EV.runB, EV.enter, EV.slots0, EV.exS.eq_1, EV.exS.eq_2, EV.exS.eq_3, EV.exS.eq_4, EV.exS.eq_5, EV.exS.eq_6, EV.exS.eq_7, EV.exS.eq_8, EV.exS.eq_9, EV.exS.eq_10, EV.exS.eq_11, EV.exS.eq_14, EV.exS.eq_15, EV.exSs, EV.look, EV.stl, EV.isi, EV.tr, EV.leave, EV.frz, EV.lookAll, EV.afterCall, EV.lent, EV.takeO, EV.store, EV.builtin, EV.b_abs, EV.evA, EV.evO, EV.evC, EV.evI, rngL] at a2; omega
def Pe (s : D) (i : Nat) (ρ : Rho) : Prop := ∃ (l : List Int) (sd : Int) (c nb k : Sl), ρ = [.f s, .o (encI l), .f (.int sd), c, nb, k] ∧ Nn l ∧ l.length ≤ 62 * 63 + i ∧ 0 ≤ sd ∧ sd < 2147483647
theorem turnE (C : Cfg) (s : D) : ∀ i d ρ, i < 1600 → Pe s i ρ → d ∈ rngL 0 1600 → ∃ ρ', forF C none (.v 5) b2__law_draws d ρ = .ok (.nx, ρ') ∧ Pe s (i + 1) ρ' := by
  rintro i d ρ hi ⟨l, sd, c, nb, k, rfl, h1, h2, h3, h4⟩ hd
  have hm := bo_mul (mul_small (b := 48271) (show -18446744073709551616 < sd by omega) (show sd < 18446744073709551616 by omega))
  have hz1 : l.length < sizeLine := by rw [PySem.sizeLine_eq]; omega
  generalize hs : (sd * 48271 + 69621) % 2147483647 = sd'
  have hs1 : 0 ≤ sd' := by omega
  have hs2 : sd' < 2147483647 := by omega
  have hmod := bo_mod (a := sd * 48271 + 69621) (show (0 : Int) < 2147483647 by omega)
  rw [hs] at hmod
  have hd5 := bo_div (a := sd') (b := 5) (by decide) (by decide)
  refine ⟨[.f s, .o (encI (l ++ [sd' / 5])), .f (.int sd'), c, nb, .f d], ?_, l ++ [sd' / 5], sd', c, nb, .f d, rfl, nn_snoc h1 (by omega), by simp; omega, hs1, hs2⟩
  simp [EV.ixD, EV.valsOf, EV.ev.eq_1, EV.ev.eq_2, EV.ev.eq_3, EV.ev.eq_4, EV.ev.eq_5, EV.ev.eq_6, EV.ev.eq_7, EV.ev.eq_8, EV.ev.eq_9, EV.ev.eq_10, EV.ev.eq_11, EV.ev.eq_12, EV.ev.eq_13, EV.ev.eq_14, EV.ev.eq_15, EV.ev.eq_16, EV.ev.eq_17, EV.ev.eq_18, EV.ev.eq_19, EV.ev.eq_20, EV.ev.eq_21, EV.ev.eq_22, EV.ev.eq_23, EV.ev.eq_24, EV.ev.eq_25, EV.ev.eq_26, EV.runDef, EV.params, EV.runB, EV.enter, EV.slots0, EV.exS.eq_1, EV.exS.eq_2, EV.exS.eq_3, EV.exS.eq_4, EV.exS.eq_5, EV.exS.eq_6, EV.exS.eq_7, EV.exS.eq_8, EV.exS.eq_9, EV.exS.eq_10, EV.exS.eq_11, EV.exS.eq_14, EV.exS.eq_15, EV.exSs, EV.look, EV.stl, EV.isi, EV.tr, EV.leave, EV.frz, EV.lookAll, EV.afterCall, EV.lent, EV.takeO, EV.store, EV.builtin, EV.b_abs, EV.evA, EV.evO, EV.evC, EV.evI, forF, b2__law_draws, bInt, hm, hmod, encI, hd5, hz1]
theorem draws_ok (wf n : Nat) (ns : List Int) (hn : ns.length ≤ 63) : ∃ l, Nn l ∧ callF defs globs wf (n + 1) 36 [encI ns] = .ok ⟨true, encI l, .none⟩ := by
  rw [call_def d__law_draws]
  obtain ⟨ρ1, e1, l1, sd1, c1, nb1, k1, rfl, a1, a2, a3, a4⟩ := for_inv (Pc (encI ns)) 63 (ns.map .int) 0 [.f (encI ns), .o (encI []), .f (.int 11), .u, .u, .u] (by simpa using hn)
    (f := forF (cc wf n) none (.v 3) b1__law_draws) (fun i d ρ hi hp hd => turnC (cc wf n) (encI ns) i d ρ hi hp (by
      obtain ⟨z, _, rfl⟩ := List.mem_map.mp hd
      exact ⟨z, rfl⟩)) ⟨[], 11, .u, .u, .u, rfl, (fun x hx => by cases hx), by simp, by omega, by omega⟩
  have hl1 : l1.length ≤ 62 * 63 := by
    rw [List.length_map] at a2
    omega
  obtain ⟨ρ2, e2, l2, sd2, c2, nb2, k2, rfl, g1, g2, g3, g4⟩ := for_inv (Pe (encI ns)) 1600 (rngL 0 1600) 0 [.f (encI ns), .o (encI l1), .f (.int sd1), c1, nb1, k1] (by simp [EV.ixD, EV.valsOf, EV.ev.eq_1, EV.ev.eq_2, EV.ev.eq_3, EV.ev.eq_4, EV.ev.eq_5, EV.ev.eq_6, EV.ev.eq_7, EV.ev.eq_8, EV.ev.eq_9, EV.ev.eq_10, EV.ev.eq_11, EV.ev.eq_12, EV.ev.eq_13, EV.ev.eq_14, EV.ev.eq_15, EV.ev.eq_16, EV.ev.eq_17, EV.ev.eq_18, EV.ev.eq_19, EV.ev.eq_20, EV.ev.eq_21, EV.ev.eq_22, EV.ev.eq_23, EV.ev.eq_24, EV.ev.eq_25, EV.ev.eq_26, EV.runDef, EV.params, EV.runB, EV.enter, EV.slots0, EV.exS.eq_1, EV.exS.eq_2, EV.exS.eq_3, EV.exS.eq_4, EV.exS.eq_5, EV.exS.eq_6, EV.exS.eq_7, EV.exS.eq_8, EV.exS.eq_9, EV.exS.eq_10, EV.exS.eq_11, EV.exS.eq_14, EV.exS.eq_15, EV.exSs, EV.look, EV.stl, EV.isi, EV.tr, EV.leave, EV.frz, EV.lookAll, EV.afterCall, EV.lent, EV.takeO, EV.store, EV.builtin, EV.b_abs, EV.evA, EV.evO, EV.evC, EV.evI, rngL])
    (f := forF (cc wf n) none (.v 5) b2__law_draws) (turnE (cc wf n) (encI ns)) ⟨l1, sd1, c1, nb1, k1, rfl, a1, by omega, a3, a4⟩
  refine ⟨l2.reverse, fun x hx => g1 x (by simpa using hx), ?_⟩
  have e0 : small62 1600 = true := by decide
  rw [show encI [] = .list [] from rfl] at e1
  have er : bRev [encI l2] = some (.own (encI l2.reverse)) := by
    have : bRev [encI l2] = some (.own (.list (l2.map .int).reverse)) := rfl
    rw [this, ← List.map_reverse]
  have ei : (1600 : Int).toNat = 1600 := rfl
  unfold encI at *
  generalize hA : ns.map PyData.int = A at *
  generalize l1.map PyData.int = B at *
  generalize l2.map PyData.int = Cc at *
  generalize l2.reverse.map PyData.int = Dd at *
  simp [EV.ixD, EV.valsOf, EV.ev.eq_1, EV.ev.eq_2, EV.ev.eq_3, EV.ev.eq_4, EV.ev.eq_5, EV.ev.eq_6, EV.ev.eq_7, EV.ev.eq_8, EV.ev.eq_9, EV.ev.eq_10, EV.ev.eq_11, EV.ev.eq_12, EV.ev.eq_13, EV.ev.eq_14, EV.ev.eq_15, EV.ev.eq_16, EV.ev.eq_17, EV.ev.eq_18, EV.ev.eq_19, EV.ev.eq_20, EV.ev.eq_21, EV.ev.eq_22, EV.ev.eq_23, EV.ev.eq_24, EV.ev.eq_25, EV.ev.eq_26, EV.runDef, EV.params, EV.runB, EV.enter, EV.slots0, EV.exS.eq_1, EV.exS.eq_2, EV.exS.eq_3, EV.exS.eq_4, EV.exS.eq_5, EV.exS.eq_6, EV.exS.eq_7, EV.exS.eq_8, EV.exS.eq_9, EV.exS.eq_10, EV.exS.eq_11, EV.exS.eq_14, EV.exS.eq_15, EV.exSs, EV.look, EV.stl, EV.isi, EV.tr, EV.leave, EV.frz, EV.lookAll, EV.afterCall, EV.lent, EV.takeO, EV.store, EV.builtin, EV.b_abs, EV.evA, EV.evO, EV.evC, EV.evI, f__law_draws, e1, e0, e2, er]
end K3
end

section
/-! M12 -/
set_option linter.all false
set_option maxRecDepth 100000
set_option maxHeartbeats 1000000
set_option exponentiation.threshold 5000
namespace K3
open PySem EV
theorem takes_reach_ok {wf : Nat} (n : Nat) {f : Fr} {p : Int × Int} (hw : 2 ^ 400 ≤ wf) (h : f.ok) (hp : okP p) : callF defs globs wf (n + 5) 35 [encF f, encP p, .int (f.rt p).num, .int (f.rt p).den] = val (.bool true) := by
  obtain ⟨h1, h2⟩ := okP_x hp
  obtain ⟨h5, h6⟩ := okP_x h.p
  have hF : (p.1 - f.px) * f.bx + (p.2 - f.py) * f.by' = f.F p := by unfold Fr.F; grind
  have b1 := h.bx
  have b2 := h.by'
  have w1 := is_within_int wf (n + 2) f.bx (-1000000000) 1000000000
  have w2 := is_within_int wf (n + 2) f.by' (-1000000000) 1000000000
  rw [decide_eq_true (show -1000000000 ≤ f.bx by omega), decide_eq_true (show f.bx ≤ 1000000000 by omega)] at w1
  rw [decide_eq_true (show -1000000000 ≤ f.by' by omega), decide_eq_true (show f.by' ≤ 1000000000 by omega)] at w2
  have c3 := shared_ok (wf := wf) (n + 3) (x := (f.bx.natAbs : Int)) (y := (f.by'.natAbs : Int)) (by
    have := lt_wf hw (lt2_30 h.by') (by decide)
    omega)
  have eg : Int.gcd (f.bx.natAbs : Int) (f.by'.natAbs : Int) = Int.gcd f.bx f.by' := by simp [EV.ixD, EV.valsOf, EV.ev.eq_1, EV.ev.eq_2, EV.ev.eq_3, EV.ev.eq_4, EV.ev.eq_5, EV.ev.eq_6, EV.ev.eq_7, EV.ev.eq_8, EV.ev.eq_9, EV.ev.eq_10, EV.ev.eq_11, EV.ev.eq_12, EV.ev.eq_13, EV.ev.eq_14, EV.ev.eq_15, EV.ev.eq_16, EV.ev.eq_17, EV.ev.eq_18, EV.ev.eq_19, EV.ev.eq_20, EV.ev.eq_21, EV.ev.eq_22, EV.ev.eq_23, EV.ev.eq_24, EV.ev.eq_25, EV.ev.eq_26, EV.runDef, EV.params, EV.runB, EV.enter, EV.slots0, EV.exS.eq_1, EV.exS.eq_2, EV.exS.eq_3, EV.exS.eq_4, EV.exS.eq_5, EV.exS.eq_6, EV.exS.eq_7, EV.exS.eq_8, EV.exS.eq_9, EV.exS.eq_10, EV.exS.eq_11, EV.exS.eq_14, EV.exS.eq_15, EV.exSs, EV.look, EV.stl, EV.isi, EV.tr, EV.leave, EV.frz, EV.lookAll, EV.afterCall, EV.lent, EV.takeO, EV.store, EV.builtin, EV.b_abs, EV.evA, EV.evO, EV.evC, EV.evI, Int.gcd]
  rw [eg, h.g] at c3
  have c5 := ratio_ok (n + 2) (x := f.F p * f.s.den) hw h.Nn (lt2_mul (bd_N h) h.sb.1) (by decide)
  rw [rt_eq h p] at c5
  have hm : ¬ f.s.num < 1 := by have := h.num; omega
  have s1 := lt2_sub h1 h5
  have s2 := lt2_sub h2 h6
  rw [← hF] at c5
  unfold Fr.N at c5
  have q1 := bm s1 (lt2_30 h.bx) (by decide) (by decide)
  have q2 := bm s2 (lt2_30 h.by') (by decide) (by decide)
  have q3 := bm (lt2_30 h.bx) (lt2_30 h.bx) (by decide) (by decide)
  have q4 := bm (lt2_30 h.by') (lt2_30 h.by') (by decide) (by decide)
  have q5 := bm (lt2_add (lt2_mul s1 (lt2_30 h.bx)) (lt2_mul s2 (lt2_30 h.by'))) h.sb.2 (by decide) (by decide)
  have q6 := bm (lt2_add (lt2_mul (lt2_30 h.bx) (lt2_30 h.bx)) (lt2_mul (lt2_30 h.by') (lt2_30 h.by'))) h.sb.1 (by decide) (by decide)
  have p1 := is_place2_ok (wf := wf) (n + 1) h.p
  have p2 := is_place2_ok (wf := wf) (n + 1) hp
  have p3 := is_ratio2_ok (n + 1) hw h.sb (by decide)
  have ce : cmpop .eq (q (f.rt p)) (q (f.rt p)) = some true := by rw [cm_eq_q]; simp
  exact takes_raw p1 p2 w1 w2 rfl rfl c3 p3 hm q1 q2 q3 q4 q5 q6 c5 ce
end K3
end

section
/-! M13 -/
set_option linter.all false
set_option maxRecDepth 100000
set_option maxHeartbeats 1000000
set_option exponentiation.threshold 5000
namespace K3
open PySem EV
/-- one of some, by a draw -/
theorem pick_ok (wf n : Nat) (l : List Int) (xs : List D) (hl : Nn l) (hx : xs ≠ []) : ∃ v l', v ∈ xs ∧ Nn l' ∧ callF defs globs wf (n + 2) 38 [encI l, .list xs] = .ok ⟨false, v, encI l'⟩ := by
  have h0 : 0 < xs.length := List.length_pos_iff.mpr hx
  obtain ⟨v, l', h1, h2, h3, e⟩ := take_ok wf n l xs.length hl (by omega)
  obtain ⟨k, rfl⟩ := Int.eq_ofNat_of_zero_le h1
  have hk : k < xs.length := by omega
  have ha := atI_nat (xs := xs) hk
  rw [List.getElem?_eq_getElem hk] at ha
  refine ⟨xs[k], l', List.getElem_mem hk, h3, ?_⟩
  rw [call_def d__law_pick]
  simp [EV.ixD, EV.valsOf, EV.ev.eq_1, EV.ev.eq_2, EV.ev.eq_3, EV.ev.eq_4, EV.ev.eq_5, EV.ev.eq_6, EV.ev.eq_7, EV.ev.eq_8, EV.ev.eq_9, EV.ev.eq_10, EV.ev.eq_11, EV.ev.eq_12, EV.ev.eq_13, EV.ev.eq_14, EV.ev.eq_15, EV.ev.eq_16, EV.ev.eq_17, EV.ev.eq_18, EV.ev.eq_19, EV.ev.eq_20, EV.ev.eq_21, EV.ev.eq_22, EV.ev.eq_23, EV.ev.eq_24, EV.ev.eq_25, EV.ev.eq_26, EV.runDef, EV.params, EV.runB, EV.enter, EV.slots0, EV.exS.eq_1, EV.exS.eq_2, EV.exS.eq_3, EV.exS.eq_4, EV.exS.eq_5, EV.exS.eq_6, EV.exS.eq_7, EV.exS.eq_8, EV.exS.eq_9, EV.exS.eq_10, EV.exS.eq_11, EV.exS.eq_14, EV.exS.eq_15, EV.exSs, EV.look, EV.stl, EV.isi, EV.tr, EV.leave, EV.frz, EV.lookAll, EV.afterCall, EV.lent, EV.takeO, EV.store, EV.builtin, EV.b_abs, EV.evA, EV.evO, EV.evC, EV.evI, f__law_pick, bLen, e, flatR, flat, flatL, ha, hx]
theorem same_bool (wf n : Nat) (a b : Bool) : callF defs globs wf (n + 1) 39 [.bool a, .bool b] = val (.bool (decide (a = b))) := by
  rw [call_def d__law_same]
  simp [EV.ixD, EV.valsOf, EV.ev.eq_1, EV.ev.eq_2, EV.ev.eq_3, EV.ev.eq_4, EV.ev.eq_5, EV.ev.eq_6, EV.ev.eq_7, EV.ev.eq_8, EV.ev.eq_9, EV.ev.eq_10, EV.ev.eq_11, EV.ev.eq_12, EV.ev.eq_13, EV.ev.eq_14, EV.ev.eq_15, EV.ev.eq_16, EV.ev.eq_17, EV.ev.eq_18, EV.ev.eq_19, EV.ev.eq_20, EV.ev.eq_21, EV.ev.eq_22, EV.ev.eq_23, EV.ev.eq_24, EV.ev.eq_25, EV.ev.eq_26, EV.runDef, EV.params, EV.runB, EV.enter, EV.slots0, EV.exS.eq_1, EV.exS.eq_2, EV.exS.eq_3, EV.exS.eq_4, EV.exS.eq_5, EV.exS.eq_6, EV.exS.eq_7, EV.exS.eq_8, EV.exS.eq_9, EV.exS.eq_10, EV.exS.eq_11, EV.exS.eq_14, EV.exS.eq_15, EV.exSs, EV.look, EV.stl, EV.isi, EV.tr, EV.leave, EV.frz, EV.lookAll, EV.afterCall, EV.lent, EV.takeO, EV.store, EV.builtin, EV.b_abs, EV.evA, EV.evO, EV.evC, EV.evI, f__law_same, isD, isConst]
theorem same_trues (wf n : Nat) : callF defs globs wf (n + 2) 39 [.list [.bool true, .bool true], .list [.bool true, .bool true]] = val (.bool true) := by
  rw [call_def d__law_same]
  have e := same_bool wf n true true
  have e0 : small62 2 = true := by decide
  have a0 : L2.atI [PyData.bool true, PyData.bool true] ((0 : Nat) : Int) = some (.bool true) := rfl
  have a1 : L2.atI [PyData.bool true, PyData.bool true] ((1 : Nat) : Int) = some (.bool true) := rfl
  simp [EV.ixD, EV.valsOf, EV.ev.eq_1, EV.ev.eq_2, EV.ev.eq_3, EV.ev.eq_4, EV.ev.eq_5, EV.ev.eq_6, EV.ev.eq_7, EV.ev.eq_8, EV.ev.eq_9, EV.ev.eq_10, EV.ev.eq_11, EV.ev.eq_12, EV.ev.eq_13, EV.ev.eq_14, EV.ev.eq_15, EV.ev.eq_16, EV.ev.eq_17, EV.ev.eq_18, EV.ev.eq_19, EV.ev.eq_20, EV.ev.eq_21, EV.ev.eq_22, EV.ev.eq_23, EV.ev.eq_24, EV.ev.eq_25, EV.ev.eq_26, EV.runDef, EV.params, EV.runB, EV.enter, EV.slots0, EV.exS.eq_1, EV.exS.eq_2, EV.exS.eq_3, EV.exS.eq_4, EV.exS.eq_5, EV.exS.eq_6, EV.exS.eq_7, EV.exS.eq_8, EV.exS.eq_9, EV.exS.eq_10, EV.exS.eq_11, EV.exS.eq_14, EV.exS.eq_15, EV.exSs, EV.look, EV.stl, EV.isi, EV.tr, EV.leave, EV.frz, EV.lookAll, EV.afterCall, EV.lent, EV.takeO, EV.store, EV.builtin, EV.b_abs, EV.evA, EV.evO, EV.evC, EV.evI, f__law_same, isD, isConst, bLen, e0, rngL, List.range_succ, forLoop, forF, b0__law_same, e]
theorem lr_loop (C : Cfg) (a b : Sl) : ∀ (k : Nat) (x y : Int) (t : Sl) (ds : List D), 0 ≤ x → 0 ≤ y → y.natAbs < 2 ^ k → 2 * k + 1 ≤ ds.length → ∃ t', forLoop (forF C none (.v 4) b0__law_ratio) ds [a, b, .f (.int x), .f (.int y), t] = .ok (.nx, [a, b, .f (.int (Int.gcd x y)), .f (.int 0), t']) := by
  intro k
  induction k with
  | zero =>
    intro x y t ds h1 h2 h3 h4
    have : y = 0 := by omega
    subst this
    cases ds with
    | nil => simp at h4
    | cons d ds =>
      refine ⟨.f d, ?_⟩
      rw [forLoop]
      simp [EV.ixD, EV.valsOf, EV.ev.eq_1, EV.ev.eq_2, EV.ev.eq_3, EV.ev.eq_4, EV.ev.eq_5, EV.ev.eq_6, EV.ev.eq_7, EV.ev.eq_8, EV.ev.eq_9, EV.ev.eq_10, EV.ev.eq_11, EV.ev.eq_12, EV.ev.eq_13, EV.ev.eq_14, EV.ev.eq_15, EV.ev.eq_16, EV.ev.eq_17, EV.ev.eq_18, EV.ev.eq_19, EV.ev.eq_20, EV.ev.eq_21, EV.ev.eq_22, EV.ev.eq_23, EV.ev.eq_24, EV.ev.eq_25, EV.ev.eq_26, EV.runDef, EV.params, EV.runB, EV.enter, EV.slots0, EV.exS.eq_1, EV.exS.eq_2, EV.exS.eq_3, EV.exS.eq_4, EV.exS.eq_5, EV.exS.eq_6, EV.exS.eq_7, EV.exS.eq_8, EV.exS.eq_9, EV.exS.eq_10, EV.exS.eq_11, EV.exS.eq_14, EV.exS.eq_15, EV.exSs, EV.look, EV.stl, EV.isi, EV.tr, EV.leave, EV.frz, EV.lookAll, EV.afterCall, EV.lent, EV.takeO, EV.store, EV.builtin, EV.b_abs, EV.evA, EV.evO, EV.evC, EV.evI, forF, b0__law_ratio]
      omega
  | succ k ih =>
    intro x y t ds h1 h2 h3 h4
    cases ds with
    | nil => simp at h4
    | cons d ds =>
      by_cases hy : y = 0
      · subst hy
        refine ⟨.f d, ?_⟩
        rw [forLoop]
        simp [EV.ixD, EV.valsOf, EV.ev.eq_1, EV.ev.eq_2, EV.ev.eq_3, EV.ev.eq_4, EV.ev.eq_5, EV.ev.eq_6, EV.ev.eq_7, EV.ev.eq_8, EV.ev.eq_9, EV.ev.eq_10, EV.ev.eq_11, EV.ev.eq_12, EV.ev.eq_13, EV.ev.eq_14, EV.ev.eq_15, EV.ev.eq_16, EV.ev.eq_17, EV.ev.eq_18, EV.ev.eq_19, EV.ev.eq_20, EV.ev.eq_21, EV.ev.eq_22, EV.ev.eq_23, EV.ev.eq_24, EV.ev.eq_25, EV.ev.eq_26, EV.runDef, EV.params, EV.runB, EV.enter, EV.slots0, EV.exS.eq_1, EV.exS.eq_2, EV.exS.eq_3, EV.exS.eq_4, EV.exS.eq_5, EV.exS.eq_6, EV.exS.eq_7, EV.exS.eq_8, EV.exS.eq_9, EV.exS.eq_10, EV.exS.eq_11, EV.exS.eq_14, EV.exS.eq_15, EV.exSs, EV.look, EV.stl, EV.isi, EV.tr, EV.leave, EV.frz, EV.lookAll, EV.afterCall, EV.lent, EV.takeO, EV.store, EV.builtin, EV.b_abs, EV.evA, EV.evO, EV.evC, EV.evI, forF, b0__law_ratio]
        omega
      · have hy0 : 0 < y := by omega
        have hm := Int.emod_lt_of_pos x hy0
        have hn := Int.emod_nonneg x hy
        have hg := gcd_step h1 hy0
        cases ds with
        | nil => simp at h4
        | cons d2 ds =>
          generalize hr : x % y = r at *
          have e1 : forF C none (.v 4) b0__law_ratio d [a, b, .f (.int x), .f (.int y), t] = .ok (.nx, [a, b, .f (.int y), .f (.int r), .f d]) := by
            simp [EV.ixD, EV.valsOf, EV.ev.eq_1, EV.ev.eq_2, EV.ev.eq_3, EV.ev.eq_4, EV.ev.eq_5, EV.ev.eq_6, EV.ev.eq_7, EV.ev.eq_8, EV.ev.eq_9, EV.ev.eq_10, EV.ev.eq_11, EV.ev.eq_12, EV.ev.eq_13, EV.ev.eq_14, EV.ev.eq_15, EV.ev.eq_16, EV.ev.eq_17, EV.ev.eq_18, EV.ev.eq_19, EV.ev.eq_20, EV.ev.eq_21, EV.ev.eq_22, EV.ev.eq_23, EV.ev.eq_24, EV.ev.eq_25, EV.ev.eq_26, EV.runDef, EV.params, EV.runB, EV.enter, EV.slots0, EV.exS.eq_1, EV.exS.eq_2, EV.exS.eq_3, EV.exS.eq_4, EV.exS.eq_5, EV.exS.eq_6, EV.exS.eq_7, EV.exS.eq_8, EV.exS.eq_9, EV.exS.eq_10, EV.exS.eq_11, EV.exS.eq_14, EV.exS.eq_15, EV.exSs, EV.look, EV.stl, EV.isi, EV.tr, EV.leave, EV.frz, EV.lookAll, EV.afterCall, EV.lent, EV.takeO, EV.store, EV.builtin, EV.b_abs, EV.evA, EV.evO, EV.evC, EV.evI, forF, b0__law_ratio, hy, bInt, bo_mod hy0, hr]
          by_cases hr0 : r = 0
          · subst hr0
            refine ⟨.f d2, ?_⟩
            rw [forLoop, e1]
            rw [← hg]
            simp [EV.ixD, EV.valsOf, EV.ev.eq_1, EV.ev.eq_2, EV.ev.eq_3, EV.ev.eq_4, EV.ev.eq_5, EV.ev.eq_6, EV.ev.eq_7, EV.ev.eq_8, EV.ev.eq_9, EV.ev.eq_10, EV.ev.eq_11, EV.ev.eq_12, EV.ev.eq_13, EV.ev.eq_14, EV.ev.eq_15, EV.ev.eq_16, EV.ev.eq_17, EV.ev.eq_18, EV.ev.eq_19, EV.ev.eq_20, EV.ev.eq_21, EV.ev.eq_22, EV.ev.eq_23, EV.ev.eq_24, EV.ev.eq_25, EV.ev.eq_26, EV.runDef, EV.params, EV.runB, EV.enter, EV.slots0, EV.exS.eq_1, EV.exS.eq_2, EV.exS.eq_3, EV.exS.eq_4, EV.exS.eq_5, EV.exS.eq_6, EV.exS.eq_7, EV.exS.eq_8, EV.exS.eq_9, EV.exS.eq_10, EV.exS.eq_11, EV.exS.eq_14, EV.exS.eq_15, EV.exSs, EV.look, EV.stl, EV.isi, EV.tr, EV.leave, EV.frz, EV.lookAll, EV.afterCall, EV.lent, EV.takeO, EV.store, EV.builtin, EV.b_abs, EV.evA, EV.evO, EV.evC, EV.evI, forLoop, forF, b0__law_ratio]
            omega
          · have hr1 : 0 < r := by omega
            have hm2 := Int.emod_lt_of_pos y hr1
            have hn2 := Int.emod_nonneg y hr0
            have hg2 := gcd_step h2 hr1
            have hle : y % r ≤ y - r := by
              have := Int.emod_add_mul_ediv y r
              have h5 : 1 ≤ y / r := by
                rw [Int.le_ediv_iff_mul_le hr1]; omega
              have : r * 1 ≤ r * (y / r) := Int.mul_le_mul_of_nonneg_left h5 (by omega)
              omega
            generalize hs : y % r = s at *
            have e2 : forF C none (.v 4) b0__law_ratio d2 [a, b, .f (.int y), .f (.int r), .f d] = .ok (.nx, [a, b, .f (.int r), .f (.int s), .f d2]) := by
              simp [EV.ixD, EV.valsOf, EV.ev.eq_1, EV.ev.eq_2, EV.ev.eq_3, EV.ev.eq_4, EV.ev.eq_5, EV.ev.eq_6, EV.ev.eq_7, EV.ev.eq_8, EV.ev.eq_9, EV.ev.eq_10, EV.ev.eq_11, EV.ev.eq_12, EV.ev.eq_13, EV.ev.eq_14, EV.ev.eq_15, EV.ev.eq_16, EV.ev.eq_17, EV.ev.eq_18, EV.ev.eq_19, EV.ev.eq_20, EV.ev.eq_21, EV.ev.eq_22, EV.ev.eq_23, EV.ev.eq_24, EV.ev.eq_25, EV.ev.eq_26, EV.runDef, EV.params, EV.runB, EV.enter, EV.slots0, EV.exS.eq_1, EV.exS.eq_2, EV.exS.eq_3, EV.exS.eq_4, EV.exS.eq_5, EV.exS.eq_6, EV.exS.eq_7, EV.exS.eq_8, EV.exS.eq_9, EV.exS.eq_10, EV.exS.eq_11, EV.exS.eq_14, EV.exS.eq_15, EV.exSs, EV.look, EV.stl, EV.isi, EV.tr, EV.leave, EV.frz, EV.lookAll, EV.afterCall, EV.lent, EV.takeO, EV.store, EV.builtin, EV.b_abs, EV.evA, EV.evO, EV.evC, EV.evI, forF, b0__law_ratio, hr0, bInt, bo_mod hr1, hs]
            have hk : s.natAbs < 2 ^ k := by
              rw [Nat.pow_succ] at h3
              omega
            obtain ⟨t', e3⟩ := ih r s (.f d2) ds (by omega) hn2 hk (by simp at h4; omega)
            refine ⟨t', ?_⟩
            rw [forLoop, e1]
            show forLoop _ (d2 :: ds) _ = _
            rw [forLoop, e2]
            show forLoop _ ds _ = _
            rw [e3, hg2, hg]
theorem gcd_lt {k : Nat} {x y : Int} (h0 : 0 < y) (h : lt2 k y) (hk : k ≤ 4000) : 0 < Int.gcd x y ∧ Int.gcd x y < 2 ^ 4000 := by
  refine ⟨Int.gcd_pos_of_ne_zero_right _ (by omega), ?_⟩
  have h2 := lt2_mono h hk
  unfold lt2 at h2
  have h3 : Int.gcd x y ≤ y.natAbs := Nat.le_of_dvd (by omega) (Int.gcd_dvd_natAbs_right x y)
  omega
theorem law_ratio_ok {k : Nat} (wf n : Nat) {a b : Int} (h0 : 0 < b) (h : lt2 k b) (hk : k ≤ 1999) : callF defs globs wf (n + 1) 40 [.int a, .int b] = val (q ((a : Rat) / (b : Rat))) := by
  rw [call_def d__law_ratio]
  have hb : ((b.natAbs : Int)).natAbs < 2 ^ k := by unfold lt2 at h; simpa using h
  obtain ⟨t', e⟩ := lr_loop (cc wf n) (.f (.int a)) (.f (.int b)) k a.natAbs b.natAbs .u (rngL 0 4000) (by omega) (by omega) hb (by simp [EV.ixD, EV.valsOf, EV.ev.eq_1, EV.ev.eq_2, EV.ev.eq_3, EV.ev.eq_4, EV.ev.eq_5, EV.ev.eq_6, EV.ev.eq_7, EV.ev.eq_8, EV.ev.eq_9, EV.ev.eq_10, EV.ev.eq_11, EV.ev.eq_12, EV.ev.eq_13, EV.ev.eq_14, EV.ev.eq_15, EV.ev.eq_16, EV.ev.eq_17, EV.ev.eq_18, EV.ev.eq_19, EV.ev.eq_20, EV.ev.eq_21, EV.ev.eq_22, EV.ev.eq_23, EV.ev.eq_24, EV.ev.eq_25, EV.ev.eq_26, EV.runDef, EV.params, EV.runB, EV.enter, EV.slots0, EV.exS.eq_1, EV.exS.eq_2, EV.exS.eq_3, EV.exS.eq_4, EV.exS.eq_5, EV.exS.eq_6, EV.exS.eq_7, EV.exS.eq_8, EV.exS.eq_9, EV.exS.eq_10, EV.exS.eq_11, EV.exS.eq_14, EV.exS.eq_15, EV.exSs, EV.look, EV.stl, EV.isi, EV.tr, EV.leave, EV.frz, EV.lookAll, EV.afterCall, EV.lent, EV.takeO, EV.store, EV.builtin, EV.b_abs, EV.evA, EV.evO, EV.evC, EV.evI, rngL]; omega)
  obtain ⟨g1, g2⟩ := gcd_lt (x := a) h0 h (by omega)
  have eg : Int.gcd (a.natAbs : Int) (b.natAbs : Int) = Int.gcd a b := by simp [EV.ixD, EV.valsOf, EV.ev.eq_1, EV.ev.eq_2, EV.ev.eq_3, EV.ev.eq_4, EV.ev.eq_5, EV.ev.eq_6, EV.ev.eq_7, EV.ev.eq_8, EV.ev.eq_9, EV.ev.eq_10, EV.ev.eq_11, EV.ev.eq_12, EV.ev.eq_13, EV.ev.eq_14, EV.ev.eq_15, EV.ev.eq_16, EV.ev.eq_17, EV.ev.eq_18, EV.ev.eq_19, EV.ev.eq_20, EV.ev.eq_21, EV.ev.eq_22, EV.ev.eq_23, EV.ev.eq_24, EV.ev.eq_25, EV.ev.eq_26, EV.runDef, EV.params, EV.runB, EV.enter, EV.slots0, EV.exS.eq_1, EV.exS.eq_2, EV.exS.eq_3, EV.exS.eq_4, EV.exS.eq_5, EV.exS.eq_6, EV.exS.eq_7, EV.exS.eq_8, EV.exS.eq_9, EV.exS.eq_10, EV.exS.eq_11, EV.exS.eq_14, EV.exS.eq_15, EV.exSs, EV.look, EV.stl, EV.isi, EV.tr, EV.leave, EV.frz, EV.lookAll, EV.afterCall, EV.lent, EV.takeO, EV.store, EV.builtin, EV.b_abs, EV.evA, EV.evO, EV.evC, EV.evI, Int.gcd]
  rw [eg] at e
  unfold q
  rw [num_div a b h0, den_div a b h0]
  obtain ⟨x, hx⟩ : ∃ x : Int, (a.natAbs : Int) = x := ⟨_, rfl⟩
  obtain ⟨y, hy⟩ : ∃ y : Int, (b.natAbs : Int) = y := ⟨_, rfl⟩
  rw [hx, hy] at e
  have e0 : small62 4000 = true := by decide
  generalize Int.gcd a b = g at *
  have d1 := bo_div (a := a) (show (0 : Int) < g by omega) (by simpa using g2)
  have d2 := bo_div (a := b) (show (0 : Int) < g by omega) (by simpa using g2)
  clear g1 g2
  generalize (g : Int) = G at *
  simp [EV.ixD, EV.valsOf, EV.ev.eq_1, EV.ev.eq_2, EV.ev.eq_3, EV.ev.eq_4, EV.ev.eq_5, EV.ev.eq_6, EV.ev.eq_7, EV.ev.eq_8, EV.ev.eq_9, EV.ev.eq_10, EV.ev.eq_11, EV.ev.eq_12, EV.ev.eq_13, EV.ev.eq_14, EV.ev.eq_15, EV.ev.eq_16, EV.ev.eq_17, EV.ev.eq_18, EV.ev.eq_19, EV.ev.eq_20, EV.ev.eq_21, EV.ev.eq_22, EV.ev.eq_23, EV.ev.eq_24, EV.ev.eq_25, EV.ev.eq_26, EV.runDef, EV.params, EV.runB, EV.enter, EV.slots0, EV.exS.eq_1, EV.exS.eq_2, EV.exS.eq_3, EV.exS.eq_4, EV.exS.eq_5, EV.exS.eq_6, EV.exS.eq_7, EV.exS.eq_8, EV.exS.eq_9, EV.exS.eq_10, EV.exS.eq_11, EV.exS.eq_14, EV.exS.eq_15, EV.exSs, EV.look, EV.stl, EV.isi, EV.tr, EV.leave, EV.frz, EV.lookAll, EV.afterCall, EV.lent, EV.takeO, EV.store, EV.builtin, EV.b_abs, EV.evA, EV.evO, EV.evC, EV.evI, f__law_ratio, e0, hx, hy, e, d1, d2]
theorem plus_raw {wf n : Nat} {a b c d x y z : Int} {Q : D} (m1 : binop .mul (.int a) (.int d) = some (.val (.int x))) (m2 : binop .mul (.int c) (.int b) = some (.val (.int y))) (m3 : binop .mul (.int b) (.int d) = some (.val (.int z))) (r : callF defs globs wf (n + 1) 40 [.int (x + y), .int z] = val Q) : callF defs globs wf (n + 2) 41 [.tuple [.int a, .int b], .tuple [.int c, .int d]] = val Q := by
  rw [call_def d__law_plus]
  simp [EV.ixD, EV.valsOf, EV.ev.eq_1, EV.ev.eq_2, EV.ev.eq_3, EV.ev.eq_4, EV.ev.eq_5, EV.ev.eq_6, EV.ev.eq_7, EV.ev.eq_8, EV.ev.eq_9, EV.ev.eq_10, EV.ev.eq_11, EV.ev.eq_12, EV.ev.eq_13, EV.ev.eq_14, EV.ev.eq_15, EV.ev.eq_16, EV.ev.eq_17, EV.ev.eq_18, EV.ev.eq_19, EV.ev.eq_20, EV.ev.eq_21, EV.ev.eq_22, EV.ev.eq_23, EV.ev.eq_24, EV.ev.eq_25, EV.ev.eq_26, EV.runDef, EV.params, EV.runB, EV.enter, EV.slots0, EV.exS.eq_1, EV.exS.eq_2, EV.exS.eq_3, EV.exS.eq_4, EV.exS.eq_5, EV.exS.eq_6, EV.exS.eq_7, EV.exS.eq_8, EV.exS.eq_9, EV.exS.eq_10, EV.exS.eq_11, EV.exS.eq_14, EV.exS.eq_15, EV.exSs, EV.look, EV.stl, EV.isi, EV.tr, EV.leave, EV.frz, EV.lookAll, EV.afterCall, EV.lent, EV.takeO, EV.store, EV.builtin, EV.b_abs, EV.evA, EV.evO, EV.evC, EV.evI, f__law_plus, m1, m2, m3, r]
theorem law_plus_ok {j k : Nat} (wf n : Nat) {a b : Rat} (h1 : Bd j a) (h2 : Bd k b) (hj : j + k ≤ 1999) : callF defs globs wf (n + 2) 41 [q a, q b] = val (q (a + b)) := by
  have hd := Int.mul_pos (den_pos a) (den_pos b)
  have e : ((a.num * b.den + b.num * a.den : Int) : Rat) / ((a.den * b.den : Int) : Rat) = a + b := by
    have e1 := nd a
    have e2 := nd b
    have e3 := den_ne a
    have e4 := den_ne b
    push_cast at *
    grind
  have r := law_ratio_ok wf n (a := a.num * b.den + b.num * a.den) hd (lt2_mul h1.2 h2.2) hj
  rw [e] at r
  have m1 := bm h1.1 h2.2 (by omega) (by omega)
  have m2 := bm h2.1 h1.2 (by omega) (by omega)
  have m3 := bm h1.2 h2.2 (by omega) (by omega)
  exact plus_raw m1 m2 m3 r
theorem qle_eq (a b : Rat) : decide (a.num * (b.den : Int) ≤ b.num * (a.den : Int)) = decide (a ≤ b) := decide_eq_decide.mpr (Rat.le_iff ..).symm
theorem at_most_ok {j k : Nat} (wf n : Nat) {a b : Rat} (h1 : Bd j a) (h2 : Bd k b) (hj : j ≤ 4000) (hk : k ≤ 4000) : callF defs globs wf (n + 1) 42 [q a, q b] = val (.bool (decide (a ≤ b))) := by
  rw [call_def d__law_is_at_most, ← qle_eq]
  simp only [q]
  have m1 := bm h1.1 h2.2 hj hk
  have m2 := bm h2.1 h1.2 hk hj
  generalize (a.den : Int) = ad at *
  generalize (b.den : Int) = bd at *
  simp [EV.ixD, EV.valsOf, EV.ev.eq_1, EV.ev.eq_2, EV.ev.eq_3, EV.ev.eq_4, EV.ev.eq_5, EV.ev.eq_6, EV.ev.eq_7, EV.ev.eq_8, EV.ev.eq_9, EV.ev.eq_10, EV.ev.eq_11, EV.ev.eq_12, EV.ev.eq_13, EV.ev.eq_14, EV.ev.eq_15, EV.ev.eq_16, EV.ev.eq_17, EV.ev.eq_18, EV.ev.eq_19, EV.ev.eq_20, EV.ev.eq_21, EV.ev.eq_22, EV.ev.eq_23, EV.ev.eq_24, EV.ev.eq_25, EV.ev.eq_26, EV.runDef, EV.params, EV.runB, EV.enter, EV.slots0, EV.exS.eq_1, EV.exS.eq_2, EV.exS.eq_3, EV.exS.eq_4, EV.exS.eq_5, EV.exS.eq_6, EV.exS.eq_7, EV.exS.eq_8, EV.exS.eq_9, EV.exS.eq_10, EV.exS.eq_11, EV.exS.eq_14, EV.exS.eq_15, EV.exSs, EV.look, EV.stl, EV.isi, EV.tr, EV.leave, EV.frz, EV.lookAll, EV.afterCall, EV.lent, EV.takeO, EV.store, EV.builtin, EV.b_abs, EV.evA, EV.evO, EV.evC, EV.evI, f__law_is_at_most, m1, m2]
theorem bd_add {j k : Nat} {a b : Rat} (h1 : Bd j a) (h2 : Bd k b) : Bd (j + k + 1) (a + b) := by
  have hd := Int.mul_pos (den_pos a) (den_pos b)
  have e : ((a.num * b.den + b.num * a.den : Int) : Rat) / ((a.den * b.den : Int) : Rat) = a + b := by
    have e1 := nd a
    have e2 := nd b
    have e3 := den_ne a
    have e4 := den_ne b
    push_cast at *
    grind
  rw [← e]
  have m1 := lt2_add (lt2_mul h1.1 h2.2) (lt2_mul h2.1 h1.2)
  exact bd_div hd (lt2_mono m1 (by omega)) (lt2_mono (lt2_mul h1.2 h2.2) (by omega))
end K3
end

section
/-! M14 -/
set_option linter.all false
set_option maxRecDepth 100000
set_option maxHeartbeats 1000000
set_option exponentiation.threshold 5000
namespace K3
open PySem EV
theorem fl_nx {f : D → Rho → Rs (Fl × Rho)} {d : D} {ds : List D} {ρ ρ' : Rho} (h : f d ρ = .ok (.nx, ρ')) : forLoop f (d :: ds) ρ = forLoop f ds ρ' := by
  rw [forLoop, h]
  rfl
theorem lb_zero (C : Cfg) (s m a b : Sl) : ∀ (x : Int) (ds : List D) (t : Sl), ∃ t', forLoop (forF C (some 0) (.v 6) b0__law_bearing) ds [s, m, a, b, .f (.int x), .f (.int 0), t] = .ok (.nx, [s, m, a, b, .f (.int x), .f (.int 0), t'])
  | x, [], t => ⟨t, rfl⟩
  | x, d :: ds, t => by
    obtain ⟨t', e⟩ := lb_zero C s m a b x ds (.f d)
    refine ⟨t', ?_⟩
    rw [forLoop]
    have e1 : forF C (some 0) (.v 6) b0__law_bearing d [s, m, a, b, .f (.int x), .f (.int 0), t] = .ok (.nx, [s, m, a, b, .f (.int x), .f (.int 0), .f d]) := by
      simp [EV.ixD, EV.valsOf, EV.ev.eq_1, EV.ev.eq_2, EV.ev.eq_3, EV.ev.eq_4, EV.ev.eq_5, EV.ev.eq_6, EV.ev.eq_7, EV.ev.eq_8, EV.ev.eq_9, EV.ev.eq_10, EV.ev.eq_11, EV.ev.eq_12, EV.ev.eq_13, EV.ev.eq_14, EV.ev.eq_15, EV.ev.eq_16, EV.ev.eq_17, EV.ev.eq_18, EV.ev.eq_19, EV.ev.eq_20, EV.ev.eq_21, EV.ev.eq_22, EV.ev.eq_23, EV.ev.eq_24, EV.ev.eq_25, EV.ev.eq_26, EV.runDef, EV.params, EV.runB, EV.enter, EV.slots0, EV.exS.eq_1, EV.exS.eq_2, EV.exS.eq_3, EV.exS.eq_4, EV.exS.eq_5, EV.exS.eq_6, EV.exS.eq_7, EV.exS.eq_8, EV.exS.eq_9, EV.exS.eq_10, EV.exS.eq_11, EV.exS.eq_14, EV.exS.eq_15, EV.exSs, EV.look, EV.stl, EV.isi, EV.tr, EV.leave, EV.frz, EV.lookAll, EV.afterCall, EV.lent, EV.takeO, EV.store, EV.builtin, EV.b_abs, EV.evA, EV.evO, EV.evC, EV.evI, forF, b0__law_bearing]
    rw [e1]
    exact e
theorem lb_loop (C : Cfg) (s m a b : Sl) : ∀ (k : Nat) (x y : Int) (t : Sl) (ds : List D), 0 ≤ x → 0 ≤ y → y.natAbs < 2 ^ k → 2 * k ≤ ds.length → ∃ t', forLoop (forF C (some 0) (.v 6) b0__law_bearing) ds [s, m, a, b, .f (.int x), .f (.int y), t] = .ok (.nx, [s, m, a, b, .f (.int (Int.gcd x y)), .f (.int 0), t']) := by
  intro k
  induction k with
  | zero =>
    intro x y t ds h1 h2 h3 h4
    have : y = 0 := by omega
    subst this
    obtain ⟨t', e⟩ := lb_zero C s m a b x ds t
    refine ⟨t', ?_⟩
    rw [e]
    simp
    omega
  | succ k ih =>
    intro x y t ds h1 h2 h3 h4
    by_cases hy : y = 0
    · subst hy
      obtain ⟨t', e⟩ := lb_zero C s m a b x ds t
      refine ⟨t', ?_⟩
      rw [e]
      simp
      omega
    · have hy0 : 0 < y := by omega
      have hm := Int.emod_lt_of_pos x hy0
      have hn := Int.emod_nonneg x hy
      have hg := gcd_step h1 hy0
      match ds, h4 with
      | [], h4 => simp at h4
      | [_], h4 => simp at h4; omega
      | d :: d2 :: ds, h4 =>
        generalize hr : x % y = r at *
        have e1 : forF C (some 0) (.v 6) b0__law_bearing d [s, m, a, b, .f (.int x), .f (.int y), t] = .ok (.nx, [s, m, a, b, .f (.int y), .f (.int r), .f d]) := by
          simp [EV.ixD, EV.valsOf, EV.ev.eq_1, EV.ev.eq_2, EV.ev.eq_3, EV.ev.eq_4, EV.ev.eq_5, EV.ev.eq_6, EV.ev.eq_7, EV.ev.eq_8, EV.ev.eq_9, EV.ev.eq_10, EV.ev.eq_11, EV.ev.eq_12, EV.ev.eq_13, EV.ev.eq_14, EV.ev.eq_15, EV.ev.eq_16, EV.ev.eq_17, EV.ev.eq_18, EV.ev.eq_19, EV.ev.eq_20, EV.ev.eq_21, EV.ev.eq_22, EV.ev.eq_23, EV.ev.eq_24, EV.ev.eq_25, EV.ev.eq_26, EV.runDef, EV.params, EV.runB, EV.enter, EV.slots0, EV.exS.eq_1, EV.exS.eq_2, EV.exS.eq_3, EV.exS.eq_4, EV.exS.eq_5, EV.exS.eq_6, EV.exS.eq_7, EV.exS.eq_8, EV.exS.eq_9, EV.exS.eq_10, EV.exS.eq_11, EV.exS.eq_14, EV.exS.eq_15, EV.exSs, EV.look, EV.stl, EV.isi, EV.tr, EV.leave, EV.frz, EV.lookAll, EV.afterCall, EV.lent, EV.takeO, EV.store, EV.builtin, EV.b_abs, EV.evA, EV.evO, EV.evC, EV.evI, forF, b0__law_bearing, hy0, bInt, bo_mod hy0, hr]
        by_cases hr0 : r = 0
        · subst hr0
          obtain ⟨t', e⟩ := lb_zero C s m a b y (d2 :: ds) (.f d)
          refine ⟨t', ?_⟩
          rw [fl_nx e1, e, ← hg]
          simp
          omega
        · have hr1 : 0 < r := by omega
          have hm2 := Int.emod_lt_of_pos y hr1
          have hn2 := Int.emod_nonneg y hr0
          have hg2 := gcd_step h2 hr1
          have hle : y % r ≤ y - r := by
            have := Int.emod_add_mul_ediv y r
            have h5 : 1 ≤ y / r := by
              rw [Int.le_ediv_iff_mul_le hr1]; omega
            have : r * 1 ≤ r * (y / r) := Int.mul_le_mul_of_nonneg_left h5 (by omega)
            omega
          generalize hs : y % r = u at *
          have e2 : forF C (some 0) (.v 6) b0__law_bearing d2 [s, m, a, b, .f (.int y), .f (.int r), .f d] = .ok (.nx, [s, m, a, b, .f (.int r), .f (.int u), .f d2]) := by
            simp [EV.ixD, EV.valsOf, EV.ev.eq_1, EV.ev.eq_2, EV.ev.eq_3, EV.ev.eq_4, EV.ev.eq_5, EV.ev.eq_6, EV.ev.eq_7, EV.ev.eq_8, EV.ev.eq_9, EV.ev.eq_10, EV.ev.eq_11, EV.ev.eq_12, EV.ev.eq_13, EV.ev.eq_14, EV.ev.eq_15, EV.ev.eq_16, EV.ev.eq_17, EV.ev.eq_18, EV.ev.eq_19, EV.ev.eq_20, EV.ev.eq_21, EV.ev.eq_22, EV.ev.eq_23, EV.ev.eq_24, EV.ev.eq_25, EV.ev.eq_26, EV.runDef, EV.params, EV.runB, EV.enter, EV.slots0, EV.exS.eq_1, EV.exS.eq_2, EV.exS.eq_3, EV.exS.eq_4, EV.exS.eq_5, EV.exS.eq_6, EV.exS.eq_7, EV.exS.eq_8, EV.exS.eq_9, EV.exS.eq_10, EV.exS.eq_11, EV.exS.eq_14, EV.exS.eq_15, EV.exSs, EV.look, EV.stl, EV.isi, EV.tr, EV.leave, EV.frz, EV.lookAll, EV.afterCall, EV.lent, EV.takeO, EV.store, EV.builtin, EV.b_abs, EV.evA, EV.evO, EV.evC, EV.evI, forF, b0__law_bearing, hr1, bInt, bo_mod hr1, hs]
          have hk : u.natAbs < 2 ^ k := by
            rw [Nat.pow_succ] at h3
            omega
          obtain ⟨t', e3⟩ := ih r u (.f d2) ds (by omega) hn2 hk (by simp at h4; omega)
          refine ⟨t', ?_⟩
          rw [fl_nx e1, fl_nx e2, e3, hg2, hg]
theorem bearing_raw {wf n : Nat} {l0 l1 l2 : List Int} {m m2 v w a b x y g c d : Int} {t' : Sl} (mm : binop .mul (.int 2) (.int m) = some (.val (.int m2))) (t1 : callF defs globs wf (n + 1) 37 [encI l0, .int (m2 + 1)] = .ok ⟨false, .int v, encI l1⟩) (t2 : callF defs globs wf (n + 1) 37 [encI l1, .int (m2 + 1)] = .ok ⟨false, .int w, encI l2⟩)
    (ha : (if v - m = 0 ∧ w - m = 0 then 1 else v - m) = a) (hb : w - m = b) (hx : (a.natAbs : Int) = x) (hy : (b.natAbs : Int) = y)
    (e : forLoop (forF (cc wf (n + 1)) (some 0) (.v 6) b0__law_bearing) (rngL 0 99) [.o (encI l2), .f (.int m), .f (.int a), .f (.int b), .f (.int x), .f (.int y), .u] = .ok (.nx, [.o (encI l2), .f (.int m), .f (.int a), .f (.int b), .f (.int g), .f (.int 0), t']))
    (d1 : binop .fdiv (.int a) (.int g) = some (.val (.int c))) (d2 : binop .fdiv (.int b) (.int g) = some (.val (.int d))) :
    callF defs globs wf (n + 2) 43 [encI l0, .int m] = .ok ⟨false, .tuple [.int c, .int d], encI l2⟩ := by
  rw [call_def d__law_bearing]
  have e0 : small62 99 = true := by decide
  unfold encI at *
  generalize l0.map PyData.int = L0 at *
  generalize l1.map PyData.int = L1 at *
  generalize l2.map PyData.int = L2 at *
  by_cases h : v - m = 0
  · by_cases h2 : w - m = 0
    · rw [if_pos ⟨h, h2⟩] at ha
      subst ha
      rw [h2] at hb
      subst hb
      have hx1 : x = 1 := by omega
      have hy1 : y = 0 := by omega
      subst hx1 hy1
      simp [EV.ixD, EV.valsOf, EV.ev.eq_1, EV.ev.eq_2, EV.ev.eq_3, EV.ev.eq_4, EV.ev.eq_5, EV.ev.eq_6, EV.ev.eq_7, EV.ev.eq_8, EV.ev.eq_9, EV.ev.eq_10, EV.ev.eq_11, EV.ev.eq_12, EV.ev.eq_13, EV.ev.eq_14, EV.ev.eq_15, EV.ev.eq_16, EV.ev.eq_17, EV.ev.eq_18, EV.ev.eq_19, EV.ev.eq_20, EV.ev.eq_21, EV.ev.eq_22, EV.ev.eq_23, EV.ev.eq_24, EV.ev.eq_25, EV.ev.eq_26, EV.runDef, EV.params, EV.runB, EV.enter, EV.slots0, EV.exS.eq_1, EV.exS.eq_2, EV.exS.eq_3, EV.exS.eq_4, EV.exS.eq_5, EV.exS.eq_6, EV.exS.eq_7, EV.exS.eq_8, EV.exS.eq_9, EV.exS.eq_10, EV.exS.eq_11, EV.exS.eq_14, EV.exS.eq_15, EV.exSs, EV.look, EV.stl, EV.isi, EV.tr, EV.leave, EV.frz, EV.lookAll, EV.afterCall, EV.lent, EV.takeO, EV.store, EV.builtin, EV.b_abs, EV.evA, EV.evO, EV.evC, EV.evI, f__law_bearing, mm, t1, t2, h, h2, e, d1, d2, e0]
    · rw [if_neg (fun hh => h2 hh.2)] at ha
      rw [h] at ha
      subst ha
      have hx1 : x = 0 := by omega
      subst hx1
      rw [hb] at h2
      simp [EV.ixD, EV.valsOf, EV.ev.eq_1, EV.ev.eq_2, EV.ev.eq_3, EV.ev.eq_4, EV.ev.eq_5, EV.ev.eq_6, EV.ev.eq_7, EV.ev.eq_8, EV.ev.eq_9, EV.ev.eq_10, EV.ev.eq_11, EV.ev.eq_12, EV.ev.eq_13, EV.ev.eq_14, EV.ev.eq_15, EV.ev.eq_16, EV.ev.eq_17, EV.ev.eq_18, EV.ev.eq_19, EV.ev.eq_20, EV.ev.eq_21, EV.ev.eq_22, EV.ev.eq_23, EV.ev.eq_24, EV.ev.eq_25, EV.ev.eq_26, EV.runDef, EV.params, EV.runB, EV.enter, EV.slots0, EV.exS.eq_1, EV.exS.eq_2, EV.exS.eq_3, EV.exS.eq_4, EV.exS.eq_5, EV.exS.eq_6, EV.exS.eq_7, EV.exS.eq_8, EV.exS.eq_9, EV.exS.eq_10, EV.exS.eq_11, EV.exS.eq_14, EV.exS.eq_15, EV.exSs, EV.look, EV.stl, EV.isi, EV.tr, EV.leave, EV.frz, EV.lookAll, EV.afterCall, EV.lent, EV.takeO, EV.store, EV.builtin, EV.b_abs, EV.evA, EV.evO, EV.evC, EV.evI, f__law_bearing, mm, t1, t2, h, h2, hb, hy, e, d1, d2, e0]
  · rw [if_neg (fun hh => h hh.1)] at ha
    rw [ha] at h
    simp [EV.ixD, EV.valsOf, EV.ev.eq_1, EV.ev.eq_2, EV.ev.eq_3, EV.ev.eq_4, EV.ev.eq_5, EV.ev.eq_6, EV.ev.eq_7, EV.ev.eq_8, EV.ev.eq_9, EV.ev.eq_10, EV.ev.eq_11, EV.ev.eq_12, EV.ev.eq_13, EV.ev.eq_14, EV.ev.eq_15, EV.ev.eq_16, EV.ev.eq_17, EV.ev.eq_18, EV.ev.eq_19, EV.ev.eq_20, EV.ev.eq_21, EV.ev.eq_22, EV.ev.eq_23, EV.ev.eq_24, EV.ev.eq_25, EV.ev.eq_26, EV.runDef, EV.params, EV.runB, EV.enter, EV.slots0, EV.exS.eq_1, EV.exS.eq_2, EV.exS.eq_3, EV.exS.eq_4, EV.exS.eq_5, EV.exS.eq_6, EV.exS.eq_7, EV.exS.eq_8, EV.exS.eq_9, EV.exS.eq_10, EV.exS.eq_11, EV.exS.eq_14, EV.exS.eq_15, EV.exSs, EV.look, EV.stl, EV.isi, EV.tr, EV.leave, EV.frz, EV.lookAll, EV.afterCall, EV.lent, EV.takeO, EV.store, EV.builtin, EV.b_abs, EV.evA, EV.evO, EV.evC, EV.evI, f__law_bearing, mm, t1, t2, h, ha, hb, hx, hy, e, d1, d2, e0]
theorem gcd_ediv {a b : Int} (h : Int.gcd a b ≠ 0) : Int.gcd (a / (Int.gcd a b : Int)) (b / (Int.gcd a b : Int)) = 1 := by
  have h1 : (Int.gcd a b : Int) ∣ a := Int.gcd_dvd_left ..
  have h2 : (Int.gcd a b : Int) ∣ b := Int.gcd_dvd_right ..
  obtain ⟨c, hc⟩ := h1
  obtain ⟨d, hd⟩ := h2
  generalize hg : (Int.gcd a b) = g at *
  have e1 : a / (g : Int) = c := by rw [hc]; exact Int.mul_ediv_cancel_left c (by omega)
  have e2 : b / (g : Int) = d := by rw [hd]; exact Int.mul_ediv_cancel_left d (by omega)
  rw [e1, e2]
  rw [hc, hd, Int.gcd_mul_left] at hg
  have : (g : Int).natAbs = g := by simp
  rw [this] at hg
  have h3 : g * Int.gcd c d = g * 1 := by omega
  exact Nat.eq_of_mul_eq_mul_left (by omega) h3
theorem bearing_ok (wf n : Nat) (l : List Int) (m : Int) (hl : Nn l) (h0 : 1 ≤ m) (h1 : m ≤ 30) : ∃ a b l', Nn l' ∧ a.natAbs ≤ 100 ∧ b.natAbs ≤ 100 ∧ Int.gcd a b = 1 ∧ callF defs globs wf (n + 2) 43 [encI l, .int m] = .ok ⟨false, .tuple [.int a, .int b], encI l'⟩ := by
  obtain ⟨v, l1, v1, v2, n1, t1⟩ := take_ok wf n l (2 * m + 1) hl (by omega)
  obtain ⟨w, l2, w1, w2, n2, t2⟩ := take_ok wf n l1 (2 * m + 1) n1 (by omega)
  obtain ⟨a, ha⟩ : ∃ a, (if v - m = 0 ∧ w - m = 0 then 1 else v - m) = a := ⟨_, rfl⟩
  obtain ⟨b, hb⟩ : ∃ b, w - m = b := ⟨_, rfl⟩
  have ha2 : a.natAbs ≤ 100 := by
    split at ha <;> omega
  have hb2 : b.natAbs ≤ 100 := by omega
  have hne : ¬ (a = 0 ∧ b = 0) := by
    split at ha <;> omega
  have hg : Int.gcd a b ≠ 0 := by
    rw [Ne, Int.gcd_eq_zero_iff]
    exact hne
  obtain ⟨t', e⟩ := lb_loop (cc wf (n + 1)) (.o (encI l2)) (.f (.int m)) (.f (.int a)) (.f (.int b)) 7 a.natAbs b.natAbs .u (rngL 0 99) (by omega) (by omega) (by
    have : (2 : Nat) ^ 7 = 128 := by decide
    omega) (by simp [EV.ixD, EV.valsOf, EV.ev.eq_1, EV.ev.eq_2, EV.ev.eq_3, EV.ev.eq_4, EV.ev.eq_5, EV.ev.eq_6, EV.ev.eq_7, EV.ev.eq_8, EV.ev.eq_9, EV.ev.eq_10, EV.ev.eq_11, EV.ev.eq_12, EV.ev.eq_13, EV.ev.eq_14, EV.ev.eq_15, EV.ev.eq_16, EV.ev.eq_17, EV.ev.eq_18, EV.ev.eq_19, EV.ev.eq_20, EV.ev.eq_21, EV.ev.eq_22, EV.ev.eq_23, EV.ev.eq_24, EV.ev.eq_25, EV.ev.eq_26, EV.runDef, EV.params, EV.runB, EV.enter, EV.slots0, EV.exS.eq_1, EV.exS.eq_2, EV.exS.eq_3, EV.exS.eq_4, EV.exS.eq_5, EV.exS.eq_6, EV.exS.eq_7, EV.exS.eq_8, EV.exS.eq_9, EV.exS.eq_10, EV.exS.eq_11, EV.exS.eq_14, EV.exS.eq_15, EV.exSs, EV.look, EV.stl, EV.isi, EV.tr, EV.leave, EV.frz, EV.lookAll, EV.afterCall, EV.lent, EV.takeO, EV.store, EV.builtin, EV.b_abs, EV.evA, EV.evO, EV.evC, EV.evI, rngL])
  have eg : Int.gcd (a.natAbs : Int) (b.natAbs : Int) = Int.gcd a b := by simp [EV.ixD, EV.valsOf, EV.ev.eq_1, EV.ev.eq_2, EV.ev.eq_3, EV.ev.eq_4, EV.ev.eq_5, EV.ev.eq_6, EV.ev.eq_7, EV.ev.eq_8, EV.ev.eq_9, EV.ev.eq_10, EV.ev.eq_11, EV.ev.eq_12, EV.ev.eq_13, EV.ev.eq_14, EV.ev.eq_15, EV.ev.eq_16, EV.ev.eq_17, EV.ev.eq_18, EV.ev.eq_19, EV.ev.eq_20, EV.ev.eq_21, EV.ev.eq_22, EV.ev.eq_23, EV.ev.eq_24, EV.ev.eq_25, EV.ev.eq_26, EV.runDef, EV.params, EV.runB, EV.enter, EV.slots0, EV.exS.eq_1, EV.exS.eq_2, EV.exS.eq_3, EV.exS.eq_4, EV.exS.eq_5, EV.exS.eq_6, EV.exS.eq_7, EV.exS.eq_8, EV.exS.eq_9, EV.exS.eq_10, EV.exS.eq_11, EV.exS.eq_14, EV.exS.eq_15, EV.exSs, EV.look, EV.stl, EV.isi, EV.tr, EV.leave, EV.frz, EV.lookAll, EV.afterCall, EV.lent, EV.takeO, EV.store, EV.builtin, EV.b_abs, EV.evA, EV.evO, EV.evC, EV.evI, Int.gcd]
  rw [eg] at e
  have hgl : Int.gcd a b < 2 ^ 4000 := by
    have h3 : Int.gcd a b ≤ 100 := by
      by_cases h : a = 0
      · have h4 := Nat.le_of_dvd (by omega) (Int.gcd_dvd_natAbs_right a b)
        omega
      · have h4 := Nat.le_of_dvd (by omega) (Int.gcd_dvd_natAbs_left a b)
        omega
    have h4 : (100 : Nat) < 2 ^ 4000 := Nat.lt_of_lt_of_le (show 100 < 2 ^ 7 by decide) (Nat.pow_le_pow_right (by decide) (by decide))
    exact Nat.lt_of_le_of_lt h3 h4
  have g1 := gcd_ediv hg
  have q1 := Int.natAbs_ediv_le_natAbs a (Int.gcd a b)
  have q2 := Int.natAbs_ediv_le_natAbs b (Int.gcd a b)
  refine ⟨a / (Int.gcd a b : Int), b / (Int.gcd a b : Int), l2, n2, by omega, by omega, g1, ?_⟩
  exact bearing_raw (bo_mul (mul_small (a := 2) (by decide) (by decide))) t1 t2 ha hb rfl rfl e (bo_div (by omega) (by simpa using hgl)) (bo_div (by omega) (by simpa using hgl))
end K3
end

section
/-! M15 -/
set_option linter.all false
set_option maxRecDepth 100000
set_option maxHeartbeats 1000000
set_option exponentiation.threshold 5000
namespace K3
open PySem EV
theorem lt2_nat {k : Nat} {a : Int} (h : a.natAbs < 2 ^ k) : lt2 k a := h
theorem bd_small {a b : Int} (h0 : 0 < b) (ha : a.natAbs ≤ 1000000000) (hb : b.natAbs ≤ 1000000000) : Bd 30 ((a : Rat) / (b : Rat)) := bd_div h0 (lt2_30 ha) (lt2_30 hb)
theorem minute_ok (wf n : Nat) (l : List Int) (hl : Nn l) : ∃ t l', Nn l' ∧ Bd 30 t ∧ callF defs globs wf (n + 2) 47 [encI l] = .ok ⟨false, q t, encI l'⟩ := by
  obtain ⟨v, l1, v1, v2, n1, t1⟩ := take_ok wf n l 40 hl (by omega)
  obtain ⟨w, l2, w1, w2, n2, t2⟩ := take_ok wf n l1 6 n1 (by omega)
  have h0 : 0 < 1 + w := by omega
  have hb : Bd 30 (((v - 12 : Int) : Rat) / ((1 + w : Int) : Rat)) := bd_small h0 (by omega) (by omega)
  have r := law_ratio_ok (k := 30) wf n (a := v - 12) (b := 1 + w) h0 (lt2_30 (by omega)) (by decide)
  refine ⟨_, l2, n2, hb, ?_⟩
  generalize (((v - 12 : Int) : Rat) / ((1 + w : Int) : Rat)) = t at *
  rw [call_def d__law_minute]
  unfold encI at *
  generalize l.map PyData.int = L0 at *
  generalize l1.map PyData.int = L1 at *
  generalize l2.map PyData.int = L2 at *
  simp [EV.ixD, EV.valsOf, EV.ev.eq_1, EV.ev.eq_2, EV.ev.eq_3, EV.ev.eq_4, EV.ev.eq_5, EV.ev.eq_6, EV.ev.eq_7, EV.ev.eq_8, EV.ev.eq_9, EV.ev.eq_10, EV.ev.eq_11, EV.ev.eq_12, EV.ev.eq_13, EV.ev.eq_14, EV.ev.eq_15, EV.ev.eq_16, EV.ev.eq_17, EV.ev.eq_18, EV.ev.eq_19, EV.ev.eq_20, EV.ev.eq_21, EV.ev.eq_22, EV.ev.eq_23, EV.ev.eq_24, EV.ev.eq_25, EV.ev.eq_26, EV.runDef, EV.params, EV.runB, EV.enter, EV.slots0, EV.exS.eq_1, EV.exS.eq_2, EV.exS.eq_3, EV.exS.eq_4, EV.exS.eq_5, EV.exS.eq_6, EV.exS.eq_7, EV.exS.eq_8, EV.exS.eq_9, EV.exS.eq_10, EV.exS.eq_11, EV.exS.eq_14, EV.exS.eq_15, EV.exSs, EV.look, EV.stl, EV.isi, EV.tr, EV.leave, EV.frz, EV.lookAll, EV.afterCall, EV.lent, EV.takeO, EV.store, EV.builtin, EV.b_abs, EV.evA, EV.evO, EV.evC, EV.evI, f__law_minute, t1, t2, r]
theorem front_raw {wf n : Nat} {L0 L1 L2 L3 L4 L5 L6 : List D} {far x y v w : Int} {m B S : D} (t1 : callF defs globs wf n 37 [.list L0, .int far] = .ok ⟨false, .int x, .list L1⟩) (t2 : callF defs globs wf n 37 [.list L1, .int far] = .ok ⟨false, .int y, .list L2⟩)
    (t3 : callF defs globs wf n 38 [.list L2, .list [.int 1, .int 4, .int 30]] = .ok ⟨false, m, .list L3⟩) (t4 : callF defs globs wf n 43 [.list L3, m] = .ok ⟨false, B, .list L4⟩) (t5 : callF defs globs wf n 37 [.list L4, .int 9] = .ok ⟨false, .int v, .list L5⟩) (t6 : callF defs globs wf n 37 [.list L5, .int 9] = .ok ⟨false, .int w, .list L6⟩)
    (t7 : callF defs globs wf n 40 [.int (1 + v), .int (1 + w)] = val S) : callF defs globs wf (n + 1) 44 [.list L0, .int far] = .ok ⟨false, .tuple [.tuple [.int x, .int y], B, S], .list L6⟩ := by
  rw [call_def d__law_front]
  simp [EV.ixD, EV.valsOf, EV.ev.eq_1, EV.ev.eq_2, EV.ev.eq_3, EV.ev.eq_4, EV.ev.eq_5, EV.ev.eq_6, EV.ev.eq_7, EV.ev.eq_8, EV.ev.eq_9, EV.ev.eq_10, EV.ev.eq_11, EV.ev.eq_12, EV.ev.eq_13, EV.ev.eq_14, EV.ev.eq_15, EV.ev.eq_16, EV.ev.eq_17, EV.ev.eq_18, EV.ev.eq_19, EV.ev.eq_20, EV.ev.eq_21, EV.ev.eq_22, EV.ev.eq_23, EV.ev.eq_24, EV.ev.eq_25, EV.ev.eq_26, EV.runDef, EV.params, EV.runB, EV.enter, EV.slots0, EV.exS.eq_1, EV.exS.eq_2, EV.exS.eq_3, EV.exS.eq_4, EV.exS.eq_5, EV.exS.eq_6, EV.exS.eq_7, EV.exS.eq_8, EV.exS.eq_9, EV.exS.eq_10, EV.exS.eq_11, EV.exS.eq_14, EV.exS.eq_15, EV.exSs, EV.look, EV.stl, EV.isi, EV.tr, EV.leave, EV.frz, EV.lookAll, EV.afterCall, EV.lent, EV.takeO, EV.store, EV.builtin, EV.b_abs, EV.evA, EV.evO, EV.evC, EV.evI, f__law_front, t1, t2, t3, t4, t5, t6, t7, sizeLine_eq]
def Fr.sm (f : Fr) : Prop := f.bx.natAbs ≤ 100 ∧ f.by'.natAbs ≤ 100
theorem front_ok (wf n : Nat) (l : List Int) (hl : Nn l) : ∃ f l', Nn l' ∧ Fr.ok f ∧ f.sm ∧ callF defs globs wf (n + 3) 44 [encI l, .int 1001] = .ok ⟨false, encF f, encI l'⟩ := by
  obtain ⟨x, l1, x1, x2, n1, t1⟩ := take_ok wf (n + 1) l 1001 hl (by omega)
  obtain ⟨y, l2, y1, y2, n2, t2⟩ := take_ok wf (n + 1) l1 1001 n1 (by omega)
  obtain ⟨m, l3, m1, n3, t3⟩ := pick_ok wf n l2 [.int 1, .int 4, .int 30] n2 (by simp)
  obtain ⟨m', e, m2, m3⟩ : ∃ m', m = .int m' ∧ 1 ≤ m' ∧ m' ≤ 30 := by
    simp at m1
    rcases m1 with rfl | rfl | rfl
    · exact ⟨1, rfl, by omega, by omega⟩
    · exact ⟨4, rfl, by omega, by omega⟩
    · exact ⟨30, rfl, by omega, by omega⟩
  subst e
  obtain ⟨a, b, l4, n4, a1, b1, g, t4⟩ := bearing_ok wf n l3 m' n3 m2 m3
  obtain ⟨v, l5, v1, v2, n5, t5⟩ := take_ok wf (n + 1) l4 9 n4 (by omega)
  obtain ⟨w, l6, w1, w2, n6, t6⟩ := take_ok wf (n + 1) l5 9 n5 (by omega)
  have h0 : 0 < 1 + w := by omega
  have r := law_ratio_ok (k := 30) wf (n + 1) (a := 1 + v) (b := 1 + w) h0 (lt2_30 (by omega)) (by decide)
  have hb : Bd 30 (((1 + v : Int) : Rat) / ((1 + w : Int) : Rat)) := bd_small h0 (by omega) (by omega)
  have hs : 0 < (((1 + v : Int) : Rat) / ((1 + w : Int) : Rat)) := by
    rw [Rat.div_def]
    exact Rat.mul_pos (Rat.intCast_pos.mpr (by omega)) (Rat.inv_pos.mpr (Rat.intCast_pos.mpr h0))
  refine ⟨⟨x, y, a, b, _⟩, l6, n6, ⟨⟨⟨x1, by show x ≤ 1000; omega⟩, y1, by show y ≤ 1000; omega⟩, by show a.natAbs ≤ _; omega, by show b.natAbs ≤ _; omega, g, hs, hb⟩, ⟨a1, b1⟩, front_raw t1 t2 t3 t4 t5 t6 r⟩
theorem reach_raw {wf n : Nat} {px py a b m l x y u v f1 a2 b2 f2 : Int} {Q : D} (m1 : binop .mul (.int a) (.int (x - px)) = some (.val (.int u))) (m2 : binop .mul (.int b) (.int (y - py)) = some (.val (.int v))) (m3 : binop .mul (.int (u + v)) (.int l) = some (.val (.int f1)))
    (m4 : binop .mul (.int a) (.int a) = some (.val (.int a2))) (m5 : binop .mul (.int b) (.int b) = some (.val (.int b2))) (m6 : binop .mul (.int (a2 + b2)) (.int m) = some (.val (.int f2))) (r : callF defs globs wf n 40 [.int f1, .int f2] = val Q) :
    callF defs globs wf (n + 1) 45 [.tuple [.tuple [.int px, .int py], .tuple [.int a, .int b], .tuple [.int m, .int l]], .tuple [.int x, .int y]] = val Q := by
  rw [call_def d__law_reach]
  simp [EV.ixD, EV.valsOf, EV.ev.eq_1, EV.ev.eq_2, EV.ev.eq_3, EV.ev.eq_4, EV.ev.eq_5, EV.ev.eq_6, EV.ev.eq_7, EV.ev.eq_8, EV.ev.eq_9, EV.ev.eq_10, EV.ev.eq_11, EV.ev.eq_12, EV.ev.eq_13, EV.ev.eq_14, EV.ev.eq_15, EV.ev.eq_16, EV.ev.eq_17, EV.ev.eq_18, EV.ev.eq_19, EV.ev.eq_20, EV.ev.eq_21, EV.ev.eq_22, EV.ev.eq_23, EV.ev.eq_24, EV.ev.eq_25, EV.ev.eq_26, EV.runDef, EV.params, EV.runB, EV.enter, EV.slots0, EV.exS.eq_1, EV.exS.eq_2, EV.exS.eq_3, EV.exS.eq_4, EV.exS.eq_5, EV.exS.eq_6, EV.exS.eq_7, EV.exS.eq_8, EV.exS.eq_9, EV.exS.eq_10, EV.exS.eq_11, EV.exS.eq_14, EV.exS.eq_15, EV.exSs, EV.look, EV.stl, EV.isi, EV.tr, EV.leave, EV.frz, EV.lookAll, EV.afterCall, EV.lent, EV.takeO, EV.store, EV.builtin, EV.b_abs, EV.evA, EV.evO, EV.evC, EV.evI, f__law_reach, m1, m2, m3, m4, m5, m6, r]
theorem law_reach_ok (wf n : Nat) {f : Fr} {p : Int × Int} (h : f.ok) (hp : okP p) : callF defs globs wf (n + 2) 45 [encF f, encP p] = val (q (f.rt p)) := by
  obtain ⟨h1, h2⟩ := okP_x hp
  obtain ⟨h5, h6⟩ := okP_x h.p
  have hF : f.bx * (p.1 - f.px) + f.by' * (p.2 - f.py) = f.F p := by unfold Fr.F; grind
  have s1 := lt2_sub h1 h5
  have s2 := lt2_sub h2 h6
  have r := law_ratio_ok wf n (a := f.F p * f.s.den) h.Nn (lt2_mul (bd_N h) h.sb.1) (by decide)
  rw [rt_eq h p, ← hF] at r
  unfold Fr.N at r
  exact reach_raw (bm (lt2_30 h.bx) s1 (by decide) (by decide)) (bm (lt2_30 h.by') s2 (by decide) (by decide)) (bm (lt2_add (lt2_mul (lt2_30 h.bx) s1) (lt2_mul (lt2_30 h.by') s2)) h.sb.2 (by decide) (by decide)) (bm (lt2_30 h.bx) (lt2_30 h.bx) (by decide) (by decide)) (bm (lt2_30 h.by') (lt2_30 h.by') (by decide) (by decide))
    (bm (lt2_add (lt2_mul (lt2_30 h.bx) (lt2_30 h.bx)) (lt2_mul (lt2_30 h.by') (lt2_30 h.by'))) h.sb.1 (by decide) (by decide)) r
theorem on_raw {wf n : Nat} {px py a b m l X1 X2 Y1 Y2 t d x1 y1 ap bp a2 b2 u v w : Int} {Q1 Q2 Q3 Q4 Q5 : D} {r : Bool} (m1 : binop .mul (.int a) (.int X1) = some (.val (.int x1))) (r1 : callF defs globs wf n 40 [.int x1, .int X2] = val Q1) (m2 : binop .mul (.int b) (.int Y1) = some (.val (.int y1))) (r2 : callF defs globs wf n 40 [.int y1, .int Y2] = val Q2)
    (r3 : callF defs globs wf n 41 [Q1, Q2] = val Q3) (m3 : binop .mul (.int a) (.int px) = some (.val (.int ap))) (m4 : binop .mul (.int b) (.int py) = some (.val (.int bp))) (r4 : callF defs globs wf n 41 [Q3, .tuple [.int (-ap - bp), .int 1]] = val Q4)
    (m5 : binop .mul (.int a) (.int a) = some (.val (.int a2))) (m6 : binop .mul (.int b) (.int b) = some (.val (.int b2))) (m7 : binop .mul (.int (a2 + b2)) (.int m) = some (.val (.int u))) (m8 : binop .mul (.int u) (.int t) = some (.val (.int v))) (m9 : binop .mul (.int l) (.int d) = some (.val (.int w)))
    (r5 : callF defs globs wf n 40 [.int v, .int w] = val Q5) (ce : cmpop .eq Q4 Q5 = some r) :
    callF defs globs wf (n + 1) 46 [.tuple [.tuple [.int px, .int py], .tuple [.int a, .int b], .tuple [.int m, .int l]], .tuple [.tuple [.int X1, .int X2], .tuple [.int Y1, .int Y2]], .tuple [.int t, .int d]] = val (.bool r) := by
  rw [call_def d__law_is_on]
  have e : ∀ z : Int, 0 - z = -z := fun z => by omega
  simp [EV.ixD, EV.valsOf, EV.ev.eq_1, EV.ev.eq_2, EV.ev.eq_3, EV.ev.eq_4, EV.ev.eq_5, EV.ev.eq_6, EV.ev.eq_7, EV.ev.eq_8, EV.ev.eq_9, EV.ev.eq_10, EV.ev.eq_11, EV.ev.eq_12, EV.ev.eq_13, EV.ev.eq_14, EV.ev.eq_15, EV.ev.eq_16, EV.ev.eq_17, EV.ev.eq_18, EV.ev.eq_19, EV.ev.eq_20, EV.ev.eq_21, EV.ev.eq_22, EV.ev.eq_23, EV.ev.eq_24, EV.ev.eq_25, EV.ev.eq_26, EV.runDef, EV.params, EV.runB, EV.enter, EV.slots0, EV.exS.eq_1, EV.exS.eq_2, EV.exS.eq_3, EV.exS.eq_4, EV.exS.eq_5, EV.exS.eq_6, EV.exS.eq_7, EV.exS.eq_8, EV.exS.eq_9, EV.exS.eq_10, EV.exS.eq_11, EV.exS.eq_14, EV.exS.eq_15, EV.exSs, EV.look, EV.stl, EV.isi, EV.tr, EV.leave, EV.frz, EV.lookAll, EV.afterCall, EV.lent, EV.takeO, EV.store, EV.builtin, EV.b_abs, EV.evA, EV.evO, EV.evC, EV.evI, f__law_is_on, m1, r1, m2, r2, r3, m3, m4, e, r4, m5, m6, m7, m8, m9, r5, ce]
theorem is_on_ok (wf n : Nat) {f : Fr} {X Y t : Rat} (h : f.ok) (hX : Bd 300 X) (hY : Bd 300 Y) (ht : Bd 160 t) : ∃ r, (f.on X Y t → r = true) ∧ callF defs globs wf (n + 3) 46 [encF f, .tuple [q X, q Y], q t] = val (.bool r) := by
  obtain ⟨h5, h6⟩ := okP_x h.p
  have r1 := law_ratio_ok wf (n + 1) (a := f.bx * X.num) (den_pos X) hX.2 (by decide)
  have r2 := law_ratio_ok wf (n + 1) (a := f.by' * Y.num) (den_pos Y) hY.2 (by decide)
  have e1 : ((f.bx * X.num : Int) : Rat) / ((X.den : Int) : Rat) = (f.bx : Rat) * X := by
    have e1 := nd X
    have e3 := den_ne X
    push_cast at *
    grind
  have e2 : ((f.by' * Y.num : Int) : Rat) / ((Y.den : Int) : Rat) = (f.by' : Rat) * Y := by
    have e1 := nd Y
    have e3 := den_ne Y
    push_cast at *
    grind
  have c1 : Bd 330 ((f.bx : Rat) * X) := by
    rw [← e1]
    exact bd_div (den_pos X) (lt2_mono (lt2_mul (lt2_30 h.bx) hX.1) (by decide)) (lt2_mono hX.2 (by decide))
  have c2 : Bd 330 ((f.by' : Rat) * Y) := by
    rw [← e2]
    exact bd_div (den_pos Y) (lt2_mono (lt2_mul (lt2_30 h.by') hY.1) (by decide)) (lt2_mono hY.2 (by decide))
  rw [e1] at r1
  rw [e2] at r2
  have r3 := law_plus_ok wf n c1 c2 (by decide)
  have c3 := bd_add c1 c2
  obtain ⟨z, hz⟩ : ∃ z : Int, -(f.bx * f.px) - f.by' * f.py = z := ⟨_, rfl⟩
  have hzb : lt2 330 z := by rw [← hz]; exact lt2_mono (lt2_sub (lt2_neg (lt2_mul (lt2_30 h.bx) h5)) (lt2_mul (lt2_30 h.by') h6)) (by decide)
  have ez : q (z : Rat) = .tuple [.int z, .int 1] := by simp [EV.ixD, EV.valsOf, EV.ev.eq_1, EV.ev.eq_2, EV.ev.eq_3, EV.ev.eq_4, EV.ev.eq_5, EV.ev.eq_6, EV.ev.eq_7, EV.ev.eq_8, EV.ev.eq_9, EV.ev.eq_10, EV.ev.eq_11, EV.ev.eq_12, EV.ev.eq_13, EV.ev.eq_14, EV.ev.eq_15, EV.ev.eq_16, EV.ev.eq_17, EV.ev.eq_18, EV.ev.eq_19, EV.ev.eq_20, EV.ev.eq_21, EV.ev.eq_22, EV.ev.eq_23, EV.ev.eq_24, EV.ev.eq_25, EV.ev.eq_26, EV.runDef, EV.params, EV.runB, EV.enter, EV.slots0, EV.exS.eq_1, EV.exS.eq_2, EV.exS.eq_3, EV.exS.eq_4, EV.exS.eq_5, EV.exS.eq_6, EV.exS.eq_7, EV.exS.eq_8, EV.exS.eq_9, EV.exS.eq_10, EV.exS.eq_11, EV.exS.eq_14, EV.exS.eq_15, EV.exSs, EV.look, EV.stl, EV.isi, EV.tr, EV.leave, EV.frz, EV.lookAll, EV.afterCall, EV.lent, EV.takeO, EV.store, EV.builtin, EV.b_abs, EV.evA, EV.evO, EV.evC, EV.evI, q]
  have c4 : Bd 330 (z : Rat) := ⟨by rw [Rat.num_intCast]; exact hzb, by rw [Rat.den_intCast]; exact lt2_one _ (by decide)⟩
  have r4 := law_plus_ok wf n c3 c4 (by decide)
  rw [ez] at r4
  have r5 := law_ratio_ok wf (n + 1) (a := f.N * f.s.num * t.num) (Int.mul_pos (den_pos f.s) (den_pos t)) (lt2_mul h.sb.2 ht.2) (by decide)
  have e5 : ((f.N * f.s.num * t.num : Int) : Rat) / ((f.s.den * t.den : Int) : Rat) = (f.N : Rat) * f.s * t := by
    have e1 := nd t
    have e3 := den_ne t
    have e4 := nd f.s
    have e5 := den_ne f.s
    push_cast at *
    grind
  rw [e5] at r5
  refine ⟨decide ((f.bx : Rat) * X + (f.by' : Rat) * Y + (z : Rat) = (f.N : Rat) * f.s * t), ?_, ?_⟩
  · intro hon
    rw [decide_eq_true_eq]
    unfold Fr.on Fr.L at hon
    rw [hon, ← hz]
    push_cast
    grind
  · have ce := cm_eq_q ((f.bx : Rat) * X + (f.by' : Rat) * Y + (z : Rat)) ((f.N : Rat) * f.s * t)
    rw [← hz] at r4
    rw [← hz] at ce ⊢
    unfold Fr.N at r5
    exact on_raw (bm (lt2_30 h.bx) hX.1 (by decide) (by decide)) r1 (bm (lt2_30 h.by') hY.1 (by decide) (by decide)) r2 r3 (bm (lt2_30 h.bx) h5 (by decide) (by decide)) (bm (lt2_30 h.by') h6 (by decide) (by decide)) r4 (bm (lt2_30 h.bx) (lt2_30 h.bx) (by decide) (by decide)) (bm (lt2_30 h.by') (lt2_30 h.by') (by decide) (by decide))
      (bm (lt2_add (lt2_mul (lt2_30 h.bx) (lt2_30 h.bx)) (lt2_mul (lt2_30 h.by') (lt2_30 h.by'))) h.sb.1 (by decide) (by decide)) (bm (lt2_mul (bd_N h) h.sb.1) ht.1 (by decide) (by decide)) (bm h.sb.2 ht.2 (by decide) (by decide)) r5 ce
end K3
end

section
/-! MC -/
set_option linter.all false
set_option maxRecDepth 100000
namespace K3
open PySem EV
def pl : Sl → Bool
  | .u => true
  | .f _ => true
  | .o _ => false
theorem plainAt_eq (ρ : Rho) (i : Nat) : plainAt ρ i = match ρ[i]? with
  | some s => pl s
  | none => false := by
  unfold plainAt
  cases h : ρ[i]? with
  | none => rfl
  | some s => cases s <;> rfl
@[simp] theorem pl_u : pl .u = true := rfl
@[simp] theorem pl_f (d : D) : pl (.f d) = true := rfl
theorem cut_take (xs : List D) (k : Nat) : cut xs none (some (k : Int)) = xs.take k := by
  unfold cut
  rw [HT.sIx_none, HT.sIx_nat, List.drop_zero, Nat.sub_zero]
  by_cases h : k ≤ xs.length
  · rw [Nat.min_eq_left h]
  · rw [Nat.min_eq_right (by omega), List.take_of_length_le (Nat.le_refl _), List.take_of_length_le (by omega)]
theorem inn_encI (k : Int) (l : List Int) : cmpop .inn (.int k) (encI l) = some (decide (k ∈ l)) := by
  have e : cmpop .inn (.int k) (encI l) = if (okD (.int k) && okD (encI l)) = true then some ((l.map PyData.int).any fun z => PyData.eqv z (.int k)) else none := rfl
  rw [e, ok_encI]
  have : okD (.int k) = true := rfl
  rw [this, if_pos (by rfl), List.any_map]
  congr 1
  clear e this
  induction l with
  | nil => simp
  | cons a l ih =>
    rw [List.any_cons, ih]
    simp only [Function.comp, eqv_int, List.mem_cons]
    rw [← Bool.decide_or]
    exact decide_eq_decide.mpr (by constructor <;> (intro h; rcases h with h | h) <;> simp [EV.ixD, EV.valsOf, EV.ev.eq_1, EV.ev.eq_2, EV.ev.eq_3, EV.ev.eq_4, EV.ev.eq_5, EV.ev.eq_6, EV.ev.eq_7, EV.ev.eq_8, EV.ev.eq_9, EV.ev.eq_10, EV.ev.eq_11, EV.ev.eq_12, EV.ev.eq_13, EV.ev.eq_14, EV.ev.eq_15, EV.ev.eq_16, EV.ev.eq_17, EV.ev.eq_18, EV.ev.eq_19, EV.ev.eq_20, EV.ev.eq_21, EV.ev.eq_22, EV.ev.eq_23, EV.ev.eq_24, EV.ev.eq_25, EV.ev.eq_26, EV.runDef, EV.params, EV.runB, EV.enter, EV.slots0, EV.exS.eq_1, EV.exS.eq_2, EV.exS.eq_3, EV.exS.eq_4, EV.exS.eq_5, EV.exS.eq_6, EV.exS.eq_7, EV.exS.eq_8, EV.exS.eq_9, EV.exS.eq_10, EV.exS.eq_11, EV.exS.eq_14, EV.exS.eq_15, EV.exSs, EV.look, EV.stl, EV.isi, EV.tr, EV.leave, EV.frz, EV.lookAll, EV.afterCall, EV.lent, EV.takeO, EV.store, EV.builtin, EV.b_abs, EV.evA, EV.evO, EV.evC, EV.evI, h])
theorem rng_encI (n : Nat) : rngL 0 n = ((List.range n).map fun (k : Nat) => (k : Int)).map .int := by
  rw [rng_map, List.map_map]
  rfl
end K3
end

section
/-! M16 -/
set_option linter.all false
set_option maxRecDepth 100000
set_option maxHeartbeats 1000000
set_option exponentiation.threshold 5000
namespace K3
open PySem EV
/-- what is there when places are looked at -/
structure Ctx where
  wf : Nat
  f : Fr
  g : Fr
  ps : List (Int × Int)
  hw : 2 ^ 400 ≤ wf
  hf : f.ok
  hg : g.ok
  hp : okPs ps
namespace Ctx
variable (c : Ctx)
def n : Nat := c.ps.length
def r (k : Nat) : Rat := c.f.rt (pa c.ps k)
def u (k : Nat) : Rat := c.g.rt (pa c.ps k)
def K (k : Nat) : Int := c.f.bx * (pa c.ps k).1 + c.f.by' * (pa c.ps k).2
def O : List Nat := order c.K c.n
def OI : List Int := c.O.map fun (k : Nat) => (k : Int)
def gone (t : Rat) : List Nat := (List.range c.n).filter fun k => decide (c.r k ≤ t)
def GI (t : Rat) : List Int := (c.gone t).map fun (k : Nat) => (k : Int)
theorem okp {k : Nat} (h : k < c.n) : okP (pa c.ps k) := c.hp.atk h
theorem br {k : Nat} (h : k < c.n) : Bd 100 (c.r k) := bd_rt c.hf (c.okp h)
theorem bu {k : Nat} (h : k < c.n) : Bd 100 (c.u k) := bd_rt c.hg (c.okp h)
theorem r_le {i j : Nat} : c.r i ≤ c.r j ↔ c.K i ≤ c.K j := by
  unfold r K
  rw [rt_le c.hf]
  unfold Fr.F
  omega
theorem r_lt {i j : Nat} : c.r i < c.r j ↔ c.K i < c.K j := by
  rw [← Rat.not_le, c.r_le]
  omega
theorem n60 : c.n ≤ 60 := c.hp.2.1
theorem n1 : 1 ≤ c.n := c.hp.1
theorem Olen : c.O.length = c.n := order_len c.K c.n
theorem OIlen : c.OI.length = c.n := by unfold OI; rw [List.length_map, c.Olen]
theorem Oget {k : Nat} (h : k < c.n) : ∃ i, c.O[k]? = some i ∧ i < c.n := order_get h
theorem OIat {k i : Nat} (h : c.O[k]? = some i) : L2.atI (c.OI.map PyData.int) (k : Int) = some (.int (i : Int)) := by
  have hk := get_lt h
  rw [c.Olen] at hk
  rw [atI_nat (by rw [List.length_map, c.OIlen]; exact hk)]
  unfold OI
  rw [List.getElem?_map, List.getElem?_map, h]
  rfl
theorem first {b : Nat} (h : First c.r c.n b) : c.O[0]? = some b := by
  apply order_head h.1
  intro k hk
  obtain ⟨h1, h2⟩ := h.2 k hk
  rw [c.r_le] at h1
  rw [c.r_lt] at h2
  exact ⟨h1, h2⟩
theorem sorted : c.OI.mergeSort leI = (List.range c.n).map fun (k : Nat) => (k : Int) := order_sorted c.K c.n
theorem takes (t : Rat) : c.OI.take (c.GI t).length = (c.O.filter fun k => decide (c.r k ≤ t)).map fun (k : Nat) => (k : Int) := by
  unfold OI GI
  rw [List.length_map, ← List.map_take]
  congr 1
  exact order_take (p := fun k => decide (c.r k ≤ t)) (by
    intro i j h1 h2
    rw [decide_eq_true_eq] at *
    rw [← c.r_le] at h1
    grind)
theorem GI_mem {t : Rat} {k : Nat} (h : k < c.n) : decide ((k : Int) ∈ c.GI t) = decide (c.r k ≤ t) := by
  apply decide_eq_decide.mpr
  unfold GI gone
  constructor
  · intro h2
    obtain ⟨a, ha, e⟩ := List.mem_map.mp h2
    obtain ⟨h3, h4⟩ := List.mem_filter.mp ha
    have : a = k := by omega
    subst this
    simpa using h4
  · intro h2
    exact List.mem_map.mpr ⟨k, List.mem_filter.mpr ⟨List.mem_range.mpr h, by simpa using h2⟩, rfl⟩
theorem turn2_raw {wf m : Nat} {d0 F G P U b ra rb : D} {L R : List D} {x9 y6 y10 y11 y12 y13 y14 y15 : Sl} {i a b' : Int} {e : Bool} (o1 : L2.atI L i = some (.int a)) (o2 : L2.atI L (i + 1) = some (.int b')) (r1 : L2.atI R a = some ra) (r2 : L2.atI R b' = some rb) (am : callF defs globs wf m 42 [ra, rb] = val (.bool true)) (cm : cmpop .eq ra rb = some e) (h : e = true → ¬ b' < a) :
    forF (cc wf m) (some 0) (.v 9) b2__law_are_places_due (.int i) [.o d0, .f F, .f G, .f P, .f (.list R), .f U, y6, .o (.list L), .f b, x9, y10, y11, y12, y13, y14, y15] = .ok (.nx, [.o d0, .f F, .f G, .f P, .f (.list R), .f U, y6, .o (.list L), .f b, .f (.int i), y10, y11, y12, y13, y14, y15]) := by
  cases e with
  | true =>
    have h5 := h rfl
    simp [EV.ixD, EV.valsOf, EV.ev.eq_1, EV.ev.eq_2, EV.ev.eq_3, EV.ev.eq_4, EV.ev.eq_5, EV.ev.eq_6, EV.ev.eq_7, EV.ev.eq_8, EV.ev.eq_9, EV.ev.eq_10, EV.ev.eq_11, EV.ev.eq_12, EV.ev.eq_13, EV.ev.eq_14, EV.ev.eq_15, EV.ev.eq_16, EV.ev.eq_17, EV.ev.eq_18, EV.ev.eq_19, EV.ev.eq_20, EV.ev.eq_21, EV.ev.eq_22, EV.ev.eq_23, EV.ev.eq_24, EV.ev.eq_25, EV.ev.eq_26, EV.runDef, EV.params, EV.runB, EV.enter, EV.slots0, EV.exS.eq_1, EV.exS.eq_2, EV.exS.eq_3, EV.exS.eq_4, EV.exS.eq_5, EV.exS.eq_6, EV.exS.eq_7, EV.exS.eq_8, EV.exS.eq_9, EV.exS.eq_10, EV.exS.eq_11, EV.exS.eq_14, EV.exS.eq_15, EV.exSs, EV.look, EV.stl, EV.isi, EV.tr, EV.leave, EV.frz, EV.lookAll, EV.afterCall, EV.lent, EV.takeO, EV.store, EV.builtin, EV.b_abs, EV.evA, EV.evO, EV.evC, EV.evI, forF, b2__law_are_places_due, o1, o2, r1, r2, am, cm, h5]
  | false => simp [EV.ixD, EV.valsOf, EV.ev.eq_1, EV.ev.eq_2, EV.ev.eq_3, EV.ev.eq_4, EV.ev.eq_5, EV.ev.eq_6, EV.ev.eq_7, EV.ev.eq_8, EV.ev.eq_9, EV.ev.eq_10, EV.ev.eq_11, EV.ev.eq_12, EV.ev.eq_13, EV.ev.eq_14, EV.ev.eq_15, EV.ev.eq_16, EV.ev.eq_17, EV.ev.eq_18, EV.ev.eq_19, EV.ev.eq_20, EV.ev.eq_21, EV.ev.eq_22, EV.ev.eq_23, EV.ev.eq_24, EV.ev.eq_25, EV.ev.eq_26, EV.runDef, EV.params, EV.runB, EV.enter, EV.slots0, EV.exS.eq_1, EV.exS.eq_2, EV.exS.eq_3, EV.exS.eq_4, EV.exS.eq_5, EV.exS.eq_6, EV.exS.eq_7, EV.exS.eq_8, EV.exS.eq_9, EV.exS.eq_10, EV.exS.eq_11, EV.exS.eq_14, EV.exS.eq_15, EV.exSs, EV.look, EV.stl, EV.isi, EV.tr, EV.leave, EV.frz, EV.lookAll, EV.afterCall, EV.lent, EV.takeO, EV.store, EV.builtin, EV.b_abs, EV.evA, EV.evO, EV.evC, EV.evI, forF, b2__law_are_places_due, o1, o2, r1, r2, am, cm]
/-- the first loop: orders go by minutes -/
def P2 (d b : D) (i : Nat) (ρ : Rho) : Prop := ∃ x9, pl x9 = true ∧ ρ = [.o d, .f (encF c.f), .f (encF c.g), .f (encPs c.ps), .f (qs c.r c.n), .f (qs c.u c.n), .u, .o (encI c.OI), .f b, x9, .u, .u, .u, .u, .u, .u]
theorem turn2 (m : Nat) (d b : D) : ∀ i z ρ, (rngL 0 (c.n - 1))[i]? = some z → c.P2 d b i ρ → ∃ ρ', forF (cc c.wf (m + 1)) (some 0) (.v 9) b2__law_are_places_due z ρ = .ok (.nx, ρ') ∧ c.P2 d b (i + 1) ρ' := by
  rintro i z ρ hz ⟨x9, h9, rfl⟩
  have hi := get_lt hz
  rw [rng_map] at hz hi
  simp at hi
  rw [List.getElem?_map, List.getElem?_range hi] at hz
  cases hz
  obtain ⟨a, ha, ha2⟩ := c.Oget (k := i) (by omega)
  obtain ⟨b', hb, hb2⟩ := c.Oget (k := i + 1) (by omega)
  have hR := order_next (K := c.K) (n := c.n) ha hb
  have oa := c.OIat ha
  have ob := c.OIat hb
  have ra := get_rng (g := fun k => q (c.r k)) ha2
  have rb := get_rng (g := fun k => q (c.r k)) hb2
  have hle : c.r a ≤ c.r b' := by rw [c.r_le]; unfold Rk at hR; omega
  have am := at_most_ok c.wf m (c.br ha2) (c.br hb2) (by decide) (by decide)
  rw [decide_eq_true hle] at am
  have hn : decide (c.r a = c.r b') = true → ¬ (b' : Int) < (a : Int) := by
    intro h1
    rw [decide_eq_true_eq] at h1
    have h3 : c.K a ≤ c.K b' := by rw [← c.r_le]; exact hle
    have h4 : c.K b' ≤ c.K a := by rw [← c.r_le]; grind
    unfold Rk at hR
    omega
  have ei : (((i + 1 : Nat) : Int)) = (i : Int) + 1 := by omega
  rw [ei] at ob
  exact ⟨_, turn2_raw oa ob ra rb am (cm_eq_q (c.r a) (c.r b')) hn, .f (.int i), rfl, rfl⟩
end Ctx
end K3
end

section
/-! M17 -/
set_option linter.all false
set_option maxRecDepth 100000
set_option maxHeartbeats 1000000
set_option exponentiation.threshold 5000
namespace K3
open PySem EV
@[simp] theorem bind_ok' {α β : Type} (a : α) (f : α → Rs β) : (Rs.ok a >>= f) = f a := Eq.symm (Eq.symm rfl)
theorem turn5_raw {wf m : Nat} {d0 F G b P gone ui : D} {Ps R U : List D} {y6 x7 x9 y12 y13 y14 y15 : Sl} {i t d : Int} {x y z : Bool} (p1 : L2.atI Ps i = some P) (c25 : callF defs globs wf m 25 [F, G, P, .int t, .int d] = val (.bool x)) (inn : cmpop .inn (.int i) gone = some y) (u1 : L2.atI U i = some ui)
    (am : callF defs globs wf m 42 [ui, .tuple [.int t, .int d]] = val (.bool z)) (hx : x = !decide (y = z)) :
    forF (cc wf m) (some 0) (.v 9) b5__law_are_places_due (.int i) [.o d0, .f F, .f G, .f (.list Ps), .f (.list R), .f (.list U), y6, x7, .f b, x9, .f (.tuple [.int t, .int d]), .o gone, y12, y13, y14, y15] = .ok (.nx, [.o d0, .f F, .f G, .f (.list Ps), .f (.list R), .f (.list U), y6, x7, .f b, .f (.int i), .f (.tuple [.int t, .int d]), .o gone, y12, y13, y14, y15]) := by
  subst hx
  simp [EV.ixD, EV.valsOf, EV.ev.eq_1, EV.ev.eq_2, EV.ev.eq_3, EV.ev.eq_4, EV.ev.eq_5, EV.ev.eq_6, EV.ev.eq_7, EV.ev.eq_8, EV.ev.eq_9, EV.ev.eq_10, EV.ev.eq_11, EV.ev.eq_12, EV.ev.eq_13, EV.ev.eq_14, EV.ev.eq_15, EV.ev.eq_16, EV.ev.eq_17, EV.ev.eq_18, EV.ev.eq_19, EV.ev.eq_20, EV.ev.eq_21, EV.ev.eq_22, EV.ev.eq_23, EV.ev.eq_24, EV.ev.eq_25, EV.ev.eq_26, EV.runDef, EV.params, EV.runB, EV.enter, EV.slots0, EV.exS.eq_1, EV.exS.eq_2, EV.exS.eq_3, EV.exS.eq_4, EV.exS.eq_5, EV.exS.eq_6, EV.exS.eq_7, EV.exS.eq_8, EV.exS.eq_9, EV.exS.eq_10, EV.exS.eq_11, EV.exS.eq_14, EV.exS.eq_15, EV.exSs, EV.look, EV.stl, EV.isi, EV.tr, EV.leave, EV.frz, EV.lookAll, EV.afterCall, EV.lent, EV.takeO, EV.store, EV.builtin, EV.b_abs, EV.evA, EV.evO, EV.evC, EV.evI, -EV.bind_ok, forF, b5__law_are_places_due, p1, c25, inn, u1, am]
theorem s62_nat {N : Nat} (h : N ≤ 100000) : small62 (N : Int) = true := by
  unfold small62
  have e : (2 : Int) ^ 62 = 4611686018427387904 := by decide
  rw [e, Bool.and_eq_true, decide_eq_true_eq, decide_eq_true_eq]
  omega
theorem turn6_raw {wf m : Nat} {d0 F G b : D} {Ps R U L Gl A B TL rg : List D} {N gl : Int} {y6 x7 x9 x9' x10 x11 y12 y13 y14 y15 : Sl} {t d : Int} (h9 : pl x9 = true) (h7 : x7 = .o (.list L) ∨ x7 = .f (.list L)) (hN : bLen [.list Ps] = some (.val (.int N))) (hG : bLen [.list Gl] = some (.val (.int gl))) (s62 : small62 N = true) (hrg : rngL 0 N.toNat = rg) (hr : rg.length ≤ sizeLine) (hz : L.length ≤ sizeLine) (hs : slD (.list L) none (some gl) = some (.own (.list TL)))
    (c20 : callF defs globs wf m 20 [F, .list Ps, .int t, .int d] = .ok ⟨true, .list Gl, .none⟩)
    (l3 : ∀ x7, lcLoop (itmF (cc wf m) (some 0) e3__law_are_places_due (.v 9) ce3__law_are_places_due [9]) rg [.o d0, .f F, .f G, .f (.list Ps), .f (.list R), .f (.list U), y6, x7, .f b, .u, .f (.tuple [.int t, .int d]), .o (.list Gl), y12, y13, y14, y15] = .ok (A, [.o d0, .f F, .f G, .f (.list Ps), .f (.list R), .f (.list U), y6, x7, .f b, .u, .f (.tuple [.int t, .int d]), .o (.list Gl), y12, y13, y14, y15]))
    (ne3 : cmpop .ne (.list Gl) (.list A) = some false)
    (l4 : lcLoop (itmF (cc wf m) (some 0) e4__law_are_places_due (.v 9) ce4__law_are_places_due [9]) L [.o d0, .f F, .f G, .f (.list Ps), .f (.list R), .f (.list U), y6, .f (.list L), .f b, .u, .f (.tuple [.int t, .int d]), .o (.list Gl), y12, y13, y14, y15] = .ok (B, [.o d0, .f F, .f G, .f (.list Ps), .f (.list R), .f (.list U), y6, .f (.list L), .f b, .u, .f (.tuple [.int t, .int d]), .o (.list Gl), y12, y13, y14, y15]))
    (ne4 : cmpop .ne (.list TL) (.list B) = some false)
    (l5 : forLoop (forF (cc wf m) (some 0) (.v 9) b5__law_are_places_due) rg [.o d0, .f F, .f G, .f (.list Ps), .f (.list R), .f (.list U), y6, .f (.list L), .f b, x9, .f (.tuple [.int t, .int d]), .o (.list Gl), y12, y13, y14, y15] = .ok (.nx, [.o d0, .f F, .f G, .f (.list Ps), .f (.list R), .f (.list U), y6, .f (.list L), .f b, x9', .f (.tuple [.int t, .int d]), .o (.list Gl), y12, y13, y14, y15])) :
    forF (cc wf m) (some 0) (.v 10) b6__law_are_places_due (.tuple [.int t, .int d]) [.o d0, .f F, .f G, .f (.list Ps), .f (.list R), .f (.list U), y6, x7, .f b, x9, x10, x11, y12, y13, y14, y15] = .ok (.nx, [.o d0, .f F, .f G, .f (.list Ps), .f (.list R), .f (.list U), y6, .f (.list L), .f b, x9', .f (.tuple [.int t, .int d]), .o (.list Gl), y12, y13, y14, y15]) := by
  rcases h7 with rfl | rfl
  · simp [EV.ixD, EV.valsOf, EV.ev.eq_1, EV.ev.eq_2, EV.ev.eq_3, EV.ev.eq_4, EV.ev.eq_5, EV.ev.eq_6, EV.ev.eq_7, EV.ev.eq_8, EV.ev.eq_9, EV.ev.eq_10, EV.ev.eq_11, EV.ev.eq_12, EV.ev.eq_13, EV.ev.eq_14, EV.ev.eq_15, EV.ev.eq_16, EV.ev.eq_17, EV.ev.eq_18, EV.ev.eq_19, EV.ev.eq_20, EV.ev.eq_21, EV.ev.eq_22, EV.ev.eq_23, EV.ev.eq_24, EV.ev.eq_25, EV.ev.eq_26, EV.runDef, EV.params, EV.runB, EV.enter, EV.slots0, EV.exS.eq_1, EV.exS.eq_2, EV.exS.eq_3, EV.exS.eq_4, EV.exS.eq_5, EV.exS.eq_6, EV.exS.eq_7, EV.exS.eq_8, EV.exS.eq_9, EV.exS.eq_10, EV.exS.eq_11, EV.exS.eq_14, EV.exS.eq_15, EV.exSs, EV.look, EV.stl, EV.isi, EV.tr, EV.leave, EV.frz, EV.lookAll, EV.afterCall, EV.lent, EV.takeO, EV.store, EV.builtin, EV.b_abs, EV.evA, EV.evO, EV.evC, EV.evI, -EV.bind_ok, forF, b6__law_are_places_due, c20, hN, hG, s62, hrg, plainAt_eq, h9, hr, hz, hide, l3, unhide, ne3, hs, l4, ne4, l5]
  · simp [EV.ixD, EV.valsOf, EV.ev.eq_1, EV.ev.eq_2, EV.ev.eq_3, EV.ev.eq_4, EV.ev.eq_5, EV.ev.eq_6, EV.ev.eq_7, EV.ev.eq_8, EV.ev.eq_9, EV.ev.eq_10, EV.ev.eq_11, EV.ev.eq_12, EV.ev.eq_13, EV.ev.eq_14, EV.ev.eq_15, EV.ev.eq_16, EV.ev.eq_17, EV.ev.eq_18, EV.ev.eq_19, EV.ev.eq_20, EV.ev.eq_21, EV.ev.eq_22, EV.ev.eq_23, EV.ev.eq_24, EV.ev.eq_25, EV.ev.eq_26, EV.runDef, EV.params, EV.runB, EV.enter, EV.slots0, EV.exS.eq_1, EV.exS.eq_2, EV.exS.eq_3, EV.exS.eq_4, EV.exS.eq_5, EV.exS.eq_6, EV.exS.eq_7, EV.exS.eq_8, EV.exS.eq_9, EV.exS.eq_10, EV.exS.eq_11, EV.exS.eq_14, EV.exS.eq_15, EV.exSs, EV.look, EV.stl, EV.isi, EV.tr, EV.leave, EV.frz, EV.lookAll, EV.afterCall, EV.lent, EV.takeO, EV.store, EV.builtin, EV.b_abs, EV.evA, EV.evO, EV.evC, EV.evI, -EV.bind_ok, forF, b6__law_are_places_due, c20, hN, hG, s62, hrg, plainAt_eq, h9, hr, hz, hide, l3, unhide, ne3, hs, l4, ne4, l5]
theorem turn7_raw {wf m : Nat} {d0 F G b ra gap : D} {Ps R U : List D} {y6 x7 x9 y10 y11 y14 y15 : Sl} {i un ud nn dd an a : Int} {e : Bool} (r1 : L2.atI R i = some ra) (u1 : L2.atI U i = some (.tuple [.int un, .int ud])) (pls : callF defs globs wf m 41 [ra, .tuple [.int (-un), .int ud]] = val (.tuple [.int nn, .int dd])) (ab : (nn.natAbs : Int) = an)
    (am : callF defs globs wf m 42 [.tuple [.int an, .int dd], gap] = val (.bool true)) (ce : cmpop .eq (.tuple [.int an, .int dd]) gap = some e) (h : i < a → e = false) :
    forF (cc wf m) (some 0) (.v 9) b7__law_are_places_due (.int i) [.o d0, .f F, .f G, .f (.list Ps), .f (.list R), .f (.list U), y6, x7, .f b, x9, y10, y11, .f gap, .f (.int a), y14, y15] = .ok (.nx, [.o d0, .f F, .f G, .f (.list Ps), .f (.list R), .f (.list U), y6, x7, .f b, .f (.int i), y10, y11, .f gap, .f (.int a), .f (.int nn), .f (.int dd)]) := by
  have e0 : ∀ z : Int, 0 - z = -z := fun z => by omega
  by_cases hi : i < a
  · have := h hi
    subst this
    simp [EV.ixD, EV.valsOf, EV.ev.eq_1, EV.ev.eq_2, EV.ev.eq_3, EV.ev.eq_4, EV.ev.eq_5, EV.ev.eq_6, EV.ev.eq_7, EV.ev.eq_8, EV.ev.eq_9, EV.ev.eq_10, EV.ev.eq_11, EV.ev.eq_12, EV.ev.eq_13, EV.ev.eq_14, EV.ev.eq_15, EV.ev.eq_16, EV.ev.eq_17, EV.ev.eq_18, EV.ev.eq_19, EV.ev.eq_20, EV.ev.eq_21, EV.ev.eq_22, EV.ev.eq_23, EV.ev.eq_24, EV.ev.eq_25, EV.ev.eq_26, EV.runDef, EV.params, EV.runB, EV.enter, EV.slots0, EV.exS.eq_1, EV.exS.eq_2, EV.exS.eq_3, EV.exS.eq_4, EV.exS.eq_5, EV.exS.eq_6, EV.exS.eq_7, EV.exS.eq_8, EV.exS.eq_9, EV.exS.eq_10, EV.exS.eq_11, EV.exS.eq_14, EV.exS.eq_15, EV.exSs, EV.look, EV.stl, EV.isi, EV.tr, EV.leave, EV.frz, EV.lookAll, EV.afterCall, EV.lent, EV.takeO, EV.store, EV.builtin, EV.b_abs, EV.evA, EV.evO, EV.evC, EV.evI, -EV.bind_ok, forF, b7__law_are_places_due, r1, u1, e0, pls, ab, am, ce, hi]
  · simp [EV.ixD, EV.valsOf, EV.ev.eq_1, EV.ev.eq_2, EV.ev.eq_3, EV.ev.eq_4, EV.ev.eq_5, EV.ev.eq_6, EV.ev.eq_7, EV.ev.eq_8, EV.ev.eq_9, EV.ev.eq_10, EV.ev.eq_11, EV.ev.eq_12, EV.ev.eq_13, EV.ev.eq_14, EV.ev.eq_15, EV.ev.eq_16, EV.ev.eq_17, EV.ev.eq_18, EV.ev.eq_19, EV.ev.eq_20, EV.ev.eq_21, EV.ev.eq_22, EV.ev.eq_23, EV.ev.eq_24, EV.ev.eq_25, EV.ev.eq_26, EV.runDef, EV.params, EV.runB, EV.enter, EV.slots0, EV.exS.eq_1, EV.exS.eq_2, EV.exS.eq_3, EV.exS.eq_4, EV.exS.eq_5, EV.exS.eq_6, EV.exS.eq_7, EV.exS.eq_8, EV.exS.eq_9, EV.exS.eq_10, EV.exS.eq_11, EV.exS.eq_14, EV.exS.eq_15, EV.exSs, EV.look, EV.stl, EV.isi, EV.tr, EV.leave, EV.frz, EV.lookAll, EV.afterCall, EV.lent, EV.takeO, EV.store, EV.builtin, EV.b_abs, EV.evA, EV.evO, EV.evC, EV.evI, -EV.bind_ok, forF, b7__law_are_places_due, r1, u1, e0, pls, ab, am, ce, hi]
end K3
end

section
/-! M18 -/
set_option linter.all false
set_option maxRecDepth 100000
set_option maxHeartbeats 1000000
set_option exponentiation.threshold 5000
namespace K3
open PySem EV
namespace Ctx
variable (c : Ctx)
abbrev Rl : List D := (List.range c.n).map fun k => q (c.r k)
abbrev Ul : List D := (List.range c.n).map fun k => q (c.u k)
abbrev Pl' : List D := c.ps.map encP
abbrev Ol : List D := c.OI.map PyData.int
theorem lenP : c.Pl'.length = c.n := by rw [List.length_map]; rfl
def P5 (d0 b : D) (x7 y10 y11 : Sl) (i : Nat) (ρ : Rho) : Prop := ∃ x9, pl x9 = true ∧ ρ = [.o d0, .f (encF c.f), .f (encF c.g), .f (.list c.Pl'), .f (.list c.Rl), .f (.list c.Ul), .u, x7, .f b, x9, y10, y11, .u, .u, .u, .u]
theorem turn5 (m : Nat) (d0 b : D) (x7 : Sl) {t : Rat} (ht : Bd 400 t) : ∀ i z ρ, (rngL 0 c.n)[i]? = some z → c.P5 d0 b x7 (.f (q t)) (.o (encI (c.GI t))) i ρ → ∃ ρ', forF (cc c.wf (m + 8)) (some 0) (.v 9) b5__law_are_places_due z ρ = .ok (.nx, ρ') ∧ c.P5 d0 b x7 (.f (q t)) (.o (encI (c.GI t))) (i + 1) ρ' := by
  rintro i z ρ hz ⟨x9, h9, rfl⟩
  have hi := get_lt hz
  rw [rng_map] at hz hi
  simp at hi
  rw [List.getElem?_map, List.getElem?_range hi] at hz
  cases hz
  have c25 := is_between_ok m c.hw c.hf c.hg (c.okp hi) ht
  have am := at_most_ok c.wf (m + 7) (c.bu hi) ht (by decide) (by decide)
  have inn := inn_encI (i : Int) (c.GI t)
  rw [c.GI_mem hi] at inn
  have hx : (!decide (decide (t < c.r i) = decide (t < c.u i))) = !decide (decide (c.r i ≤ t) = decide (c.u i ≤ t)) := by
    congr 1
    have e1 : decide (t < c.r i) = !decide (c.r i ≤ t) := by rw [← decide_not]; exact decide_eq_decide.mpr (by grind)
    have e2 : decide (t < c.u i) = !decide (c.u i ≤ t) := by rw [← decide_not]; exact decide_eq_decide.mpr (by grind)
    rw [e1, e2]
    cases decide (c.r i ≤ t) <;> cases decide (c.u i ≤ t) <;> rfl
  exact ⟨_, turn5_raw (get_pa c.ps encP hi) c25 inn (get_rng (g := fun k => q (c.u k)) hi) am hx, .f (.int i), rfl, rfl⟩
theorem GIm (t : Rat) : (c.GI t).map PyData.int = (c.gone t).map fun (k : Nat) => .int (k : Int) := by
  unfold GI
  rw [List.map_map]
  rfl
theorem Om : c.Ol = c.O.map fun (k : Nat) => .int (k : Int) := by
  unfold Ol OI
  rw [List.map_map]
  rfl
theorem passed (m : Nat) {t : Rat} (ht : Bd 400 t) : callF defs globs c.wf (m + 7) 20 [encF c.f, .list c.Pl', .int t.num, .int t.den] = .ok ⟨true, .list ((c.GI t).map PyData.int), .none⟩ := passed_by_ok m c.hw c.hf c.hp ht (by decide)
def P6 (d0 b : D) (ρ : Rho) : Prop := ∃ x7 x9 x10 x11, (x7 = .o (.list c.Ol) ∨ x7 = .f (.list c.Ol)) ∧ pl x9 = true ∧ ρ = [.o d0, .f (encF c.f), .f (encF c.g), .f (.list c.Pl'), .f (.list c.Rl), .f (.list c.Ul), .u, x7, .f b, x9, x10, x11, .u, .u, .u, .u]
theorem turn6 (m : Nat) (d0 b : D) {t : Rat} (ht : Bd 400 t) {ρ : Rho} (hρ : c.P6 d0 b ρ) : ∃ ρ', forF (cc c.wf (m + 8)) (some 0) (.v 10) b6__law_are_places_due (q t) ρ = .ok (.nx, ρ') ∧ c.P6 d0 b ρ' := by
  obtain ⟨x7, x9, x10, x11, h7, h9, rfl⟩ := hρ
  have hn60 := c.n60
  have hr : (rngL 0 c.n).length = c.n := by simp [EV.ixD, EV.valsOf, EV.ev.eq_1, EV.ev.eq_2, EV.ev.eq_3, EV.ev.eq_4, EV.ev.eq_5, EV.ev.eq_6, EV.ev.eq_7, EV.ev.eq_8, EV.ev.eq_9, EV.ev.eq_10, EV.ev.eq_11, EV.ev.eq_12, EV.ev.eq_13, EV.ev.eq_14, EV.ev.eq_15, EV.ev.eq_16, EV.ev.eq_17, EV.ev.eq_18, EV.ev.eq_19, EV.ev.eq_20, EV.ev.eq_21, EV.ev.eq_22, EV.ev.eq_23, EV.ev.eq_24, EV.ev.eq_25, EV.ev.eq_26, EV.runDef, EV.params, EV.runB, EV.enter, EV.slots0, EV.exS.eq_1, EV.exS.eq_2, EV.exS.eq_3, EV.exS.eq_4, EV.exS.eq_5, EV.exS.eq_6, EV.exS.eq_7, EV.exS.eq_8, EV.exS.eq_9, EV.exS.eq_10, EV.exS.eq_11, EV.exS.eq_14, EV.exS.eq_15, EV.exSs, EV.look, EV.stl, EV.isi, EV.tr, EV.leave, EV.frz, EV.lookAll, EV.afterCall, EV.lent, EV.takeO, EV.store, EV.builtin, EV.b_abs, EV.evA, EV.evO, EV.evC, EV.evI, -EV.bind_ok, rngL]
  obtain ⟨ρ5, e5, x9', h9', rfl⟩ := for_go (c.P5 d0 b (.f (.list c.Ol)) (.f (q t)) (.o (encI (c.GI t)))) (c.turn5 m d0 b (.f (.list c.Ol)) ht) ⟨x9, h9, rfl⟩
  refine ⟨_, turn6_raw (N := (c.n : Int)) (gl := ((c.GI t).length : Int)) (rg := rngL 0 c.n) (Gl := (c.GI t).map .int) (TL := (c.OI.take (c.GI t).length).map .int) (A := (c.GI t).map .int) (B := (c.OI.take (c.GI t).length).map .int) h9 h7 ?_ ?_ (s62_nat (by omega)) rfl (by rw [hr, sizeLine_eq]; omega) (by rw [List.length_map, c.OIlen, sizeLine_eq]; omega) ?_ (c.passed (m + 1) ht) ?_ ?_ ?_ ?_ e5, .f (.list c.Ol), x9', _, _, .inr rfl, h9', rfl⟩
  · rw [← c.lenP]; rfl
  · show some (Opd.val (.int ((((c.GI t).map PyData.int).length : Nat) : Int))) = _
    rw [List.length_map]
  · show some (Opd.own (.list (cut _ none _))) = _
    rw [cut_take, List.map_take]
  · intro x7
    have key : ∀ GG, lcLoop (itmF (cc c.wf (m + 8)) (some 0) e3__law_are_places_due (.v 9) ce3__law_are_places_due [9]) ((List.range c.n).map fun (k : Nat) => .int (k : Int)) [.o d0, .f (encF c.f), .f (encF c.g), .f (.list c.Pl'), .f (.list c.Rl), .f (.list c.Ul), .u, x7, .f b, .u, .f (q t), GG, .u, .u, .u, .u] = .ok (((List.range c.n).filter fun k => decide (c.r k ≤ t)).map fun (k : Nat) => .int (k : Int), [.o d0, .f (encF c.f), .f (encF c.g), .f (.list c.Pl'), .f (.list c.Rl), .f (.list c.Ul), .u, x7, .f b, .u, .f (q t), GG, .u, .u, .u, .u]) := by
      intro GG
      apply lc_fil
      intro k hk
      have hk' := List.mem_range.mp hk
      have am := at_most_ok c.wf (m + 7) (c.br hk') ht (by decide) (by decide)
      have g1 := get_rng (g := fun k => q (c.r k)) hk'
      by_cases hc : c.r k ≤ t
      · rw [decide_eq_true hc] at am ⊢
        simp [EV.ixD, EV.valsOf, EV.ev.eq_1, EV.ev.eq_2, EV.ev.eq_3, EV.ev.eq_4, EV.ev.eq_5, EV.ev.eq_6, EV.ev.eq_7, EV.ev.eq_8, EV.ev.eq_9, EV.ev.eq_10, EV.ev.eq_11, EV.ev.eq_12, EV.ev.eq_13, EV.ev.eq_14, EV.ev.eq_15, EV.ev.eq_16, EV.ev.eq_17, EV.ev.eq_18, EV.ev.eq_19, EV.ev.eq_20, EV.ev.eq_21, EV.ev.eq_22, EV.ev.eq_23, EV.ev.eq_24, EV.ev.eq_25, EV.ev.eq_26, EV.runDef, EV.params, EV.runB, EV.enter, EV.slots0, EV.exS.eq_1, EV.exS.eq_2, EV.exS.eq_3, EV.exS.eq_4, EV.exS.eq_5, EV.exS.eq_6, EV.exS.eq_7, EV.exS.eq_8, EV.exS.eq_9, EV.exS.eq_10, EV.exS.eq_11, EV.exS.eq_14, EV.exS.eq_15, EV.exSs, EV.look, EV.stl, EV.isi, EV.tr, EV.leave, EV.frz, EV.lookAll, EV.afterCall, EV.lent, EV.takeO, EV.store, EV.builtin, EV.b_abs, EV.evA, EV.evO, EV.evC, EV.evI, -EV.bind_ok, itmF, e3__law_are_places_due, ce3__law_are_places_due, g1, am, hide]
      · rw [decide_eq_false hc] at am ⊢
        simp [EV.ixD, EV.valsOf, EV.ev.eq_1, EV.ev.eq_2, EV.ev.eq_3, EV.ev.eq_4, EV.ev.eq_5, EV.ev.eq_6, EV.ev.eq_7, EV.ev.eq_8, EV.ev.eq_9, EV.ev.eq_10, EV.ev.eq_11, EV.ev.eq_12, EV.ev.eq_13, EV.ev.eq_14, EV.ev.eq_15, EV.ev.eq_16, EV.ev.eq_17, EV.ev.eq_18, EV.ev.eq_19, EV.ev.eq_20, EV.ev.eq_21, EV.ev.eq_22, EV.ev.eq_23, EV.ev.eq_24, EV.ev.eq_25, EV.ev.eq_26, EV.runDef, EV.params, EV.runB, EV.enter, EV.slots0, EV.exS.eq_1, EV.exS.eq_2, EV.exS.eq_3, EV.exS.eq_4, EV.exS.eq_5, EV.exS.eq_6, EV.exS.eq_7, EV.exS.eq_8, EV.exS.eq_9, EV.exS.eq_10, EV.exS.eq_11, EV.exS.eq_14, EV.exS.eq_15, EV.exSs, EV.look, EV.stl, EV.isi, EV.tr, EV.leave, EV.frz, EV.lookAll, EV.afterCall, EV.lent, EV.takeO, EV.store, EV.builtin, EV.b_abs, EV.evA, EV.evO, EV.evC, EV.evI, -EV.bind_ok, itmF, e3__law_are_places_due, ce3__law_are_places_due, g1, am, hide]
    rw [rng_map, c.GIm]
    exact key _
  · have := cm_ne_encI (c.GI t) (c.GI t)
    rw [decide_eq_true rfl] at this
    exact this
  · have key : ∀ OO, lcLoop (itmF (cc c.wf (m + 8)) (some 0) e4__law_are_places_due (.v 9) ce4__law_are_places_due [9]) (c.O.map fun (k : Nat) => .int (k : Int)) [.o d0, .f (encF c.f), .f (encF c.g), .f (.list c.Pl'), .f (.list c.Rl), .f (.list c.Ul), .u, OO, .f b, .u, .f (q t), .o (encI (c.GI t)), .u, .u, .u, .u] = .ok ((c.O.filter fun k => decide (c.r k ≤ t)).map fun (k : Nat) => .int (k : Int), [.o d0, .f (encF c.f), .f (encF c.g), .f (.list c.Pl'), .f (.list c.Rl), .f (.list c.Ul), .u, OO, .f b, .u, .f (q t), .o (encI (c.GI t)), .u, .u, .u, .u]) := by
      intro OO
      apply lc_fil
      intro k hk
      have hk' : k < c.n := order_mem hk
      have inn := inn_encI (k : Int) (c.GI t)
      rw [c.GI_mem hk'] at inn
      generalize encI (c.GI t) = GG at *
      by_cases hc : c.r k ≤ t
      · rw [decide_eq_true hc] at inn ⊢
        simp [EV.ixD, EV.valsOf, EV.ev.eq_1, EV.ev.eq_2, EV.ev.eq_3, EV.ev.eq_4, EV.ev.eq_5, EV.ev.eq_6, EV.ev.eq_7, EV.ev.eq_8, EV.ev.eq_9, EV.ev.eq_10, EV.ev.eq_11, EV.ev.eq_12, EV.ev.eq_13, EV.ev.eq_14, EV.ev.eq_15, EV.ev.eq_16, EV.ev.eq_17, EV.ev.eq_18, EV.ev.eq_19, EV.ev.eq_20, EV.ev.eq_21, EV.ev.eq_22, EV.ev.eq_23, EV.ev.eq_24, EV.ev.eq_25, EV.ev.eq_26, EV.runDef, EV.params, EV.runB, EV.enter, EV.slots0, EV.exS.eq_1, EV.exS.eq_2, EV.exS.eq_3, EV.exS.eq_4, EV.exS.eq_5, EV.exS.eq_6, EV.exS.eq_7, EV.exS.eq_8, EV.exS.eq_9, EV.exS.eq_10, EV.exS.eq_11, EV.exS.eq_14, EV.exS.eq_15, EV.exSs, EV.look, EV.stl, EV.isi, EV.tr, EV.leave, EV.frz, EV.lookAll, EV.afterCall, EV.lent, EV.takeO, EV.store, EV.builtin, EV.b_abs, EV.evA, EV.evO, EV.evC, EV.evI, -EV.bind_ok, itmF, e4__law_are_places_due, ce4__law_are_places_due, inn, hide]
      · rw [decide_eq_false hc] at inn ⊢
        simp [EV.ixD, EV.valsOf, EV.ev.eq_1, EV.ev.eq_2, EV.ev.eq_3, EV.ev.eq_4, EV.ev.eq_5, EV.ev.eq_6, EV.ev.eq_7, EV.ev.eq_8, EV.ev.eq_9, EV.ev.eq_10, EV.ev.eq_11, EV.ev.eq_12, EV.ev.eq_13, EV.ev.eq_14, EV.ev.eq_15, EV.ev.eq_16, EV.ev.eq_17, EV.ev.eq_18, EV.ev.eq_19, EV.ev.eq_20, EV.ev.eq_21, EV.ev.eq_22, EV.ev.eq_23, EV.ev.eq_24, EV.ev.eq_25, EV.ev.eq_26, EV.runDef, EV.params, EV.runB, EV.enter, EV.slots0, EV.exS.eq_1, EV.exS.eq_2, EV.exS.eq_3, EV.exS.eq_4, EV.exS.eq_5, EV.exS.eq_6, EV.exS.eq_7, EV.exS.eq_8, EV.exS.eq_9, EV.exS.eq_10, EV.exS.eq_11, EV.exS.eq_14, EV.exS.eq_15, EV.exSs, EV.look, EV.stl, EV.isi, EV.tr, EV.leave, EV.frz, EV.lookAll, EV.afterCall, EV.lent, EV.takeO, EV.store, EV.builtin, EV.b_abs, EV.evA, EV.evO, EV.evC, EV.evI, -EV.bind_ok, itmF, e4__law_are_places_due, ce4__law_are_places_due, inn, hide]
    rw [c.takes, c.Om, List.map_map]
    exact key _
  · have := cm_ne_encI (c.OI.take (c.GI t).length) (c.OI.take (c.GI t).length)
    rw [decide_eq_true rfl] at this
    exact this
end Ctx
end K3
end

section
/-! M19 -/
set_option linter.all false
set_option maxRecDepth 100000
set_option maxHeartbeats 1000000
set_option exponentiation.threshold 5000
namespace K3
open PySem EV
theorem absq (x : Rat) : (PyData.tuple [.int (x.num.natAbs : Int), .int (x.den : Int)]) = q (if x ≤ 0 then -x else x) := by
  have h := @Rat.num_nonneg x
  by_cases hx : x ≤ 0
  · rw [if_pos hx]
    have h2 := @Rat.num_nonneg (-x)
    have e : (-x).num = -x.num := rfl
    have : 0 ≤ (-x).num := by rw [h2]; grind
    unfold q
    rw [show (-x).den = x.den from rfl, e]
    congr 3
    omega
  · rw [if_neg hx]
    have : 0 ≤ x.num := by rw [h]; grind
    unfold q
    congr 3
    omega
namespace Ctx
variable (c : Ctx)
def T (k : Nat) : Rat := gap c.f c.g (pa c.ps k)
theorem absT (k : Nat) : (PyData.tuple [.int ((c.r k + -c.u k).num.natAbs : Int), .int ((c.r k + -c.u k).den : Int)]) = q (-c.T k) := by
  rw [absq]
  have e : (if c.r k + -c.u k ≤ 0 then -(c.r k + -c.u k) else c.r k + -c.u k) = -c.T k := by
    unfold T gap
    show _ = -(if c.r k ≤ c.u k then c.r k - c.u k else c.u k - c.r k)
    split <;> split <;> grind
  rw [e]
def P7 (d0 b gp : D) (a : Int) (x7 x10 x11 : Sl) (i : Nat) (ρ : Rho) : Prop := ∃ x9 x14 x15, pl x9 = true ∧ ρ = [.o d0, .f (encF c.f), .f (encF c.g), .f (.list c.Pl'), .f (.list c.Rl), .f (.list c.Ul), .u, x7, .f b, x9, x10, x11, .f gp, .f (.int a), x14, x15]
theorem turn7 (m : Nat) (d0 b : D) (x7 x10 x11 : Sl) {a : Nat} (ha : First c.T c.n a) : ∀ i z ρ, (rngL 0 c.n)[i]? = some z → c.P7 d0 b (q (-c.T a)) a x7 x10 x11 i ρ → ∃ ρ', forF (cc c.wf (m + 2)) (some 0) (.v 9) b7__law_are_places_due z ρ = .ok (.nx, ρ') ∧ c.P7 d0 b (q (-c.T a)) a x7 x10 x11 (i + 1) ρ' := by
  rintro i z ρ hz ⟨x9, x14, x15, h9, rfl⟩
  have hi := get_lt hz
  rw [rng_map] at hz hi
  simp at hi
  rw [List.getElem?_map, List.getElem?_range hi] at hz
  cases hz
  obtain ⟨h1, h2⟩ := ha.2 i hi
  have b1 := c.br hi
  have b2 := c.bu hi
  have bT : ∀ {k}, k < c.n → Bd 300 (-c.T k) := fun hk => bd_neg (bd_gap c.hf c.hg (c.okp hk))
  have pls := law_plus_ok c.wf m b1 (bd_neg b2) (by decide)
  have am := at_most_ok c.wf (m + 1) (bT hi) (bT ha.1) (by decide) (by decide)
  have hle : -c.T i ≤ -c.T a := by grind
  rw [decide_eq_true hle, ← c.absT i] at am
  have ce := cm_eq_q (-c.T i) (-c.T a)
  rw [← c.absT i] at ce
  exact ⟨_, turn7_raw (get_rng (g := fun k => q (c.r k)) hi) (get_rng (g := fun k => q (c.u k)) hi) pls rfl am ce (by
    intro hlt
    rw [decide_eq_false_iff_not]
    have := h2 (by omega)
    grind), _, _, _, rfl, rfl⟩
end Ctx
theorem due_raw {wf m : Nat} {l0 l1 l2 : List Int} {F G gp t1 t2 oa : D} {Ps R U L So rg rg2 fits : List D} {N on o0 a un ud nn dd an : Int} {x7 x9 x9' x9'' x10 x11 x14 x15 : Sl}
    (hN : bLen [.list Ps] = some (.val (.int N))) (s62 : small62 N = true) (hrg : rngL 0 N.toNat = rg) (hr : rg.length ≤ 100000) (hr' : rg.length ≤ sizeLine) (hz : Ps.length ≤ sizeLine)
    (lc1 : ∀ x4 x5, lcLoop (itmF (cc wf m) (some 0) e0__law_are_places_due (.v 6) .no [6]) Ps [.o (encI l0), .f F, .f G, .f (.list Ps), x4, x5, .u, .u, .u, .u, .u, .u, .u, .u, .u, .u] = .ok (R, [.o (encI l0), .f F, .f G, .f (.list Ps), x4, x5, .u, .u, .u, .u, .u, .u, .u, .u, .u, .u]))
    (lc2 : ∀ x4 x5, lcLoop (itmF (cc wf m) (some 0) e1__law_are_places_due (.v 6) .no [6]) Ps [.o (encI l0), .f F, .f G, .f (.list Ps), x4, x5, .u, .u, .u, .u, .u, .u, .u, .u, .u, .u] = .ok (U, [.o (encI l0), .f F, .f G, .f (.list Ps), x4, x5, .u, .u, .u, .u, .u, .u, .u, .u, .u, .u]))
    (c29 : callF defs globs wf m 29 [F, .list Ps] = .ok ⟨true, .list L, .none⟩) (c19 : callF defs globs wf m 19 [F, .list Ps] = val (.int o0))
    (so : bSort [.list L] = some (.own (.list So))) (ne1 : cmpop .ne (.list So) (.list rg) = some false) (at0 : L2.atI L 0 = some (.int o0))
    (hL : bLen [.list L] = some (.val (.int on))) (s62' : small62 (on - 1) = true) (hrg2 : rngL 0 (on.toNat - 1) = rg2)
    (l2' : forLoop (forF (cc wf m) (some 0) (.v 9) b2__law_are_places_due) rg2 [.o (encI l0), .f F, .f G, .f (.list Ps), .f (.list R), .f (.list U), .u, .o (.list L), .f (.int o0), .u, .u, .u, .u, .u, .u, .u] = .ok (.nx, [.o (encI l0), .f F, .f G, .f (.list Ps), .f (.list R), .f (.list U), .u, .o (.list L), .f (.int o0), x9, .u, .u, .u, .u, .u, .u]))
    (c47 : callF defs globs wf m 47 [encI l0] = .ok ⟨false, t1, encI l1⟩) (c38 : callF defs globs wf m 38 [encI l1, .list R] = .ok ⟨false, t2, encI l2⟩)
    (l6 : forLoop (forF (cc wf m) (some 0) (.v 10) b6__law_are_places_due) [t1, t2, .tuple [.int 0, .int 1]] [.o (encI l2), .f F, .f G, .f (.list Ps), .f (.list R), .f (.list U), .u, .o (.list L), .f (.int o0), x9, .u, .u, .u, .u, .u, .u] = .ok (.nx, [.o (encI l2), .f F, .f G, .f (.list Ps), .f (.list R), .f (.list U), .u, x7, .f (.int o0), x9', x10, x11, .u, .u, .u, .u]))
    (c30 : callF defs globs wf m 30 [F, G, .list Ps] = val (.tuple [gp, .int a])) (ra : L2.atI R a = some oa) (ua : L2.atI U a = some (.tuple [.int un, .int ud])) (c41 : callF defs globs wf m 41 [oa, .tuple [.int (-un), .int ud]] = val (.tuple [.int nn, .int dd])) (ab : (nn.natAbs : Int) = an) (ne2 : cmpop .ne (.tuple [.int an, .int dd]) gp = some false)
    (l7 : forLoop (forF (cc wf m) (some 0) (.v 9) b7__law_are_places_due) rg [.o (encI l2), .f F, .f G, .f (.list Ps), .f (.list R), .f (.list U), .u, x7, .f (.int o0), x9', x10, x11, .f gp, .f (.int a), .f (.int nn), .f (.int dd)] = .ok (.nx, [.o (encI l2), .f F, .f G, .f (.list Ps), .f (.list R), .f (.list U), .u, x7, .f (.int o0), x9'', x10, x11, .f gp, .f (.int a), x14, x15])) (h9 : pl x9'' = true)
    (lc3 : lcLoop (itmF (cc wf m) (some 0) e8__law_are_places_due (.v 9) .no [9]) rg [.o (encI l2), .f F, .f G, .f (.list Ps), .f (.list R), .f (.list U), .u, x7, .f (.int o0), .u, x10, x11, .f gp, .f (.int a), x14, x15] = .ok (fits, [.o (encI l2), .f F, .f G, .f (.list Ps), .f (.list R), .f (.list U), .u, x7, .f (.int o0), .u, x10, x11, .f gp, .f (.int a), x14, x15]))
    (c27 : callF defs globs wf m 27 [F, .list fits] = val (.bool true)) :
    callF defs globs wf (m + 1) 48 [encI l0, F, G, .list Ps] = .ok ⟨false, .bool true, encI l2⟩ := by
  rw [call_def d__law_are_places_due]
  unfold encI at *
  generalize l0.map PyData.int = L0 at *
  generalize l1.map PyData.int = L1 at *
  generalize l2.map PyData.int = L2 at *
  have e0 : ∀ z : Int, 0 - z = -z := fun z => by omega
  have k3 : (3 : Nat) ≤ sizeLine := by rw [sizeLine_eq]; omega
  simp [EV.ixD, EV.valsOf, EV.ev.eq_1, EV.ev.eq_2, EV.ev.eq_3, EV.ev.eq_4, EV.ev.eq_5, EV.ev.eq_6, EV.ev.eq_7, EV.ev.eq_8, EV.ev.eq_9, EV.ev.eq_10, EV.ev.eq_11, EV.ev.eq_12, EV.ev.eq_13, EV.ev.eq_14, EV.ev.eq_15, EV.ev.eq_16, EV.ev.eq_17, EV.ev.eq_18, EV.ev.eq_19, EV.ev.eq_20, EV.ev.eq_21, EV.ev.eq_22, EV.ev.eq_23, EV.ev.eq_24, EV.ev.eq_25, EV.ev.eq_26, EV.runDef, EV.params, EV.runB, EV.enter, EV.slots0, EV.exS.eq_1, EV.exS.eq_2, EV.exS.eq_3, EV.exS.eq_4, EV.exS.eq_5, EV.exS.eq_6, EV.exS.eq_7, EV.exS.eq_8, EV.exS.eq_9, EV.exS.eq_10, EV.exS.eq_11, EV.exS.eq_14, EV.exS.eq_15, EV.exSs, EV.look, EV.stl, EV.isi, EV.tr, EV.leave, EV.frz, EV.lookAll, EV.afterCall, EV.lent, EV.takeO, EV.store, EV.builtin, EV.b_abs, EV.evA, EV.evO, EV.evC, EV.evI, -EV.bind_ok, f__law_are_places_due, hN, s62, hrg, hr, hr', hz, plainAt_eq, hide, unhide, lc1, lc2, c29, c19, so, ne1, at0, hL, s62', hrg2, l2', c47, c38, l6, c30, ra, ua, e0, c41, ab, ne2, l7, h9, lc3, c27, k3]
end K3
end

section
/-! M20 -/
set_option linter.all false
set_option maxRecDepth 100000
set_option maxHeartbeats 1000000
set_option exponentiation.threshold 5000
namespace K3
open PySem EV
theorem len_map {α : Type} (l : List α) (e : α → D) : bLen [.list (l.map e)] = some (.val (.int (l.length : Int))) := by
  show some (Opd.val (.int ((l.map e).length : Int))) = _
  rw [List.length_map]
theorem bd_zero (k : Nat) (hk : 1 ≤ k) : Bd k 0 := by
  constructor
  · show (0 : Int).natAbs < 2 ^ k
    exact Nat.two_pow_pos k
  · exact lt2_one k hk
theorem item8 {C : Cfg} {Ps R : List D} {y0 y1 y2 y5 y6 y7 y8 y10 y11 y12 y13 y14 y15 : Sl} {k : Int} {P r : D} (g1 : L2.atI Ps k = some P) (g2 : L2.atI R k = some r) : itmF C (some 0) e8__law_are_places_due (.v 9) .no [9] (.int k) [y0, y1, y2, .f (.list Ps), .f (.list R), y5, y6, y7, y8, .u, y10, y11, y12, y13, y14, y15] = .ok (some (.tuple [P, r]), [y0, y1, y2, .f (.list Ps), .f (.list R), y5, y6, y7, y8, .u, y10, y11, y12, y13, y14, y15]) := by
  simp [EV.ixD, EV.valsOf, EV.ev.eq_1, EV.ev.eq_2, EV.ev.eq_3, EV.ev.eq_4, EV.ev.eq_5, EV.ev.eq_6, EV.ev.eq_7, EV.ev.eq_8, EV.ev.eq_9, EV.ev.eq_10, EV.ev.eq_11, EV.ev.eq_12, EV.ev.eq_13, EV.ev.eq_14, EV.ev.eq_15, EV.ev.eq_16, EV.ev.eq_17, EV.ev.eq_18, EV.ev.eq_19, EV.ev.eq_20, EV.ev.eq_21, EV.ev.eq_22, EV.ev.eq_23, EV.ev.eq_24, EV.ev.eq_25, EV.ev.eq_26, EV.runDef, EV.params, EV.runB, EV.enter, EV.slots0, EV.exS.eq_1, EV.exS.eq_2, EV.exS.eq_3, EV.exS.eq_4, EV.exS.eq_5, EV.exS.eq_6, EV.exS.eq_7, EV.exS.eq_8, EV.exS.eq_9, EV.exS.eq_10, EV.exS.eq_11, EV.exS.eq_14, EV.exS.eq_15, EV.exSs, EV.look, EV.stl, EV.isi, EV.tr, EV.leave, EV.frz, EV.lookAll, EV.afterCall, EV.lent, EV.takeO, EV.store, EV.builtin, EV.b_abs, EV.evA, EV.evO, EV.evC, EV.evI, -EV.bind_ok, itmF, e8__law_are_places_due, g1, g2, hide]
namespace Ctx
variable (c : Ctx)
theorem loop6 (m : Nat) (d0 b : D) : ∀ (ts : List Rat) (ρ : Rho), (∀ t ∈ ts, Bd 400 t) → c.P6 d0 b ρ → ∃ ρ', forLoop (forF (cc c.wf (m + 8)) (some 0) (.v 10) b6__law_are_places_due) (ts.map q) ρ = .ok (.nx, ρ') ∧ c.P6 d0 b ρ'
  | [], ρ, _, h => ⟨ρ, rfl, h⟩
  | t :: ts, ρ, hb, h => by
    obtain ⟨ρ1, e1, h1⟩ := c.turn6 m d0 b (hb t List.mem_cons_self) h
    obtain ⟨ρ2, e2, h2⟩ := loop6 m d0 b ts ρ1 (fun t ht => hb t (List.mem_cons_of_mem _ ht)) h1
    refine ⟨ρ2, ?_, h2⟩
    rw [List.map_cons, fl_nx e1, e2]
theorem due_ok (m : Nat) (l : List Int) (hl : Nn l) : ∃ l', Nn l' ∧ callF defs globs c.wf (m + 9) 48 [encI l, encF c.f, encF c.g, encPs c.ps] = .ok ⟨false, .bool true, encI l'⟩ := by
  obtain ⟨b, hb, c19⟩ := first_reached_ok (m + 1) c.hw c.hf c.hp
  obtain ⟨t0, l1, n1, b0, c47⟩ := minute_ok c.wf (m + 6) l hl
  obtain ⟨v, l2, hv, n2, c38⟩ := pick_ok c.wf (m + 6) l1 c.Rl n1 (by
    have := c.n1
    intro e
    have := congrArg List.length e
    simp at this
    omega)
  obtain ⟨j, hj, rfl⟩ := List.mem_map.mp hv
  have hj' := List.mem_range.mp hj
  obtain ⟨a, ha, c30⟩ := longest_ok m c.hw c.hf c.hg c.hp
  have hn60 := c.n60
  have h1n := c.n1
  have hr : (rngL 0 c.n).length = c.n := by simp [EV.ixD, EV.valsOf, EV.ev.eq_1, EV.ev.eq_2, EV.ev.eq_3, EV.ev.eq_4, EV.ev.eq_5, EV.ev.eq_6, EV.ev.eq_7, EV.ev.eq_8, EV.ev.eq_9, EV.ev.eq_10, EV.ev.eq_11, EV.ev.eq_12, EV.ev.eq_13, EV.ev.eq_14, EV.ev.eq_15, EV.ev.eq_16, EV.ev.eq_17, EV.ev.eq_18, EV.ev.eq_19, EV.ev.eq_20, EV.ev.eq_21, EV.ev.eq_22, EV.ev.eq_23, EV.ev.eq_24, EV.ev.eq_25, EV.ev.eq_26, EV.runDef, EV.params, EV.runB, EV.enter, EV.slots0, EV.exS.eq_1, EV.exS.eq_2, EV.exS.eq_3, EV.exS.eq_4, EV.exS.eq_5, EV.exS.eq_6, EV.exS.eq_7, EV.exS.eq_8, EV.exS.eq_9, EV.exS.eq_10, EV.exS.eq_11, EV.exS.eq_14, EV.exS.eq_15, EV.exSs, EV.look, EV.stl, EV.isi, EV.tr, EV.leave, EV.frz, EV.lookAll, EV.afterCall, EV.lent, EV.takeO, EV.store, EV.builtin, EV.b_abs, EV.evA, EV.evO, EV.evC, EV.evI, -EV.bind_ok, rngL]
  obtain ⟨ρ2, e2, x9, h9, rfl⟩ := for_go (c.P2 (encI l) (.int b)) (c.turn2 (m + 7) (encI l) (.int b)) ⟨.u, rfl, rfl⟩
  obtain ⟨ρ6, e6, x7, x9', x10, x11, h7, h9', rfl⟩ := c.loop6 m (encI l2) (.int b) [t0, c.r j, 0] _ (by
    intro t ht
    simp at ht
    rcases ht with rfl | rfl | rfl
    · exact bd_mono b0 (by decide)
    · exact bd_mono (c.br hj') (by decide)
    · exact bd_zero _ (by decide)) ⟨.o (.list c.Ol), x9, .u, .u, .inl rfl, h9, rfl⟩
  have b1 := c.br ha.1
  have b2 := c.bu ha.1
  have pls := law_plus_ok c.wf (m + 6) b1 (bd_neg b2) (by decide)
  obtain ⟨ρ7, e7, x9'', x14, x15, h9'', rfl⟩ := for_go (c.P7 (encI l2) (.int b) (q (-c.T a)) a x7 x10 x11) (c.turn7 (m + 6) (encI l2) (.int b) x7 x10 x11 ha) ⟨x9', .f (.int (c.r a + -c.u a).num), .f (.int (c.r a + -c.u a).den), h9', rfl⟩
  have c27 := does_fit_ok (rs := (List.range c.n).map fun k => (pa c.ps k, c.r k)) (m + 1) c.hw c.hf (by simpa using hn60) (by
    intro r hr
    obtain ⟨k, hk, rfl⟩ := List.mem_map.mp hr
    have hk' := List.mem_range.mp hk
    exact ⟨c.okp hk', bd_mono (c.br hk') (by decide), rfl⟩)
  rw [List.map_map] at c27
  have ne2 := cm_ne_q (-c.T a) (-c.T a)
  rw [decide_eq_true rfl] at ne2
  have ne1 := cm_ne_encI ((List.range c.n).map fun (k : Nat) => (k : Int)) ((List.range c.n).map fun (k : Nat) => (k : Int))
  rw [decide_eq_true rfl] at ne1
  have hso := sort_ints c.OI (by rw [c.OIlen]; omega)
  rw [c.sorted] at hso
  refine ⟨l2, n2, due_raw (N := (c.n : Int)) (on := (c.n : Int)) (rg := rngL 0 c.n) (rg2 := rngL 0 (c.n - 1)) (R := c.Rl) (U := c.Ul) (L := c.Ol) (len_map c.ps encP) (s62_nat (by omega)) rfl (by rw [hr]; omega) (by rw [hr, sizeLine_eq]; omega) (by rw [c.lenP, sizeLine_eq]; omega) ?_ ?_ (order_ok (m + 1) c.hw c.hf c.hp) c19 hso ?_ (c.OIat (c.first hb)) ?_ ?_ rfl e2 c47 c38 e6 c30 (get_rng (g := fun k => q (c.r k)) ha.1) (get_rng (g := fun k => q (c.u k)) ha.1) pls rfl ?_ e7 h9'' ?_ c27⟩
  · intro x4 x5
    rw [show c.Rl = c.ps.map fun p => q (c.f.rt p) from (map_pa c.ps fun p => q (c.f.rt p)).symm]
    apply lc_map
    intro p hp
    have := law_reach_ok c.wf (m + 6) c.hf (c.hp.2.2 p hp)
    simp [EV.ixD, EV.valsOf, EV.ev.eq_1, EV.ev.eq_2, EV.ev.eq_3, EV.ev.eq_4, EV.ev.eq_5, EV.ev.eq_6, EV.ev.eq_7, EV.ev.eq_8, EV.ev.eq_9, EV.ev.eq_10, EV.ev.eq_11, EV.ev.eq_12, EV.ev.eq_13, EV.ev.eq_14, EV.ev.eq_15, EV.ev.eq_16, EV.ev.eq_17, EV.ev.eq_18, EV.ev.eq_19, EV.ev.eq_20, EV.ev.eq_21, EV.ev.eq_22, EV.ev.eq_23, EV.ev.eq_24, EV.ev.eq_25, EV.ev.eq_26, EV.runDef, EV.params, EV.runB, EV.enter, EV.slots0, EV.exS.eq_1, EV.exS.eq_2, EV.exS.eq_3, EV.exS.eq_4, EV.exS.eq_5, EV.exS.eq_6, EV.exS.eq_7, EV.exS.eq_8, EV.exS.eq_9, EV.exS.eq_10, EV.exS.eq_11, EV.exS.eq_14, EV.exS.eq_15, EV.exSs, EV.look, EV.stl, EV.isi, EV.tr, EV.leave, EV.frz, EV.lookAll, EV.afterCall, EV.lent, EV.takeO, EV.store, EV.builtin, EV.b_abs, EV.evA, EV.evO, EV.evC, EV.evI, -EV.bind_ok, itmF, e0__law_are_places_due, this, hide]
  · intro x4 x5
    rw [show c.Ul = c.ps.map fun p => q (c.g.rt p) from (map_pa c.ps fun p => q (c.g.rt p)).symm]
    apply lc_map
    intro p hp
    have := law_reach_ok c.wf (m + 6) c.hg (c.hp.2.2 p hp)
    simp [EV.ixD, EV.valsOf, EV.ev.eq_1, EV.ev.eq_2, EV.ev.eq_3, EV.ev.eq_4, EV.ev.eq_5, EV.ev.eq_6, EV.ev.eq_7, EV.ev.eq_8, EV.ev.eq_9, EV.ev.eq_10, EV.ev.eq_11, EV.ev.eq_12, EV.ev.eq_13, EV.ev.eq_14, EV.ev.eq_15, EV.ev.eq_16, EV.ev.eq_17, EV.ev.eq_18, EV.ev.eq_19, EV.ev.eq_20, EV.ev.eq_21, EV.ev.eq_22, EV.ev.eq_23, EV.ev.eq_24, EV.ev.eq_25, EV.ev.eq_26, EV.runDef, EV.params, EV.runB, EV.enter, EV.slots0, EV.exS.eq_1, EV.exS.eq_2, EV.exS.eq_3, EV.exS.eq_4, EV.exS.eq_5, EV.exS.eq_6, EV.exS.eq_7, EV.exS.eq_8, EV.exS.eq_9, EV.exS.eq_10, EV.exS.eq_11, EV.exS.eq_14, EV.exS.eq_15, EV.exSs, EV.look, EV.stl, EV.isi, EV.tr, EV.leave, EV.frz, EV.lookAll, EV.afterCall, EV.lent, EV.takeO, EV.store, EV.builtin, EV.b_abs, EV.evA, EV.evO, EV.evC, EV.evI, -EV.bind_ok, itmF, e1__law_are_places_due, this, hide]
  · rw [rng_encI]
    exact ne1
  · rw [len_map, c.OIlen]
  · have := s62_nat (N := c.n - 1) (by omega)
    have e : ((c.n : Int) - 1) = ((c.n - 1 : Nat) : Int) := by omega
    rw [e]
    exact this
  · rw [c.absT]
    exact ne2
  · rw [rng_map]
    apply lc_map
    intro k hk
    have hk' := List.mem_range.mp hk
    exact item8 (get_pa c.ps encP hk') (get_rng (g := fun k => q (c.r k)) hk')
end Ctx
end K3
end

section
/-! M21 -/
set_option linter.all false
set_option maxRecDepth 100000
set_option maxHeartbeats 1000000
set_option exponentiation.threshold 5000
namespace K3
open PySem EV
theorem exSs_nx {C : Cfg} {io : Option Nat} {s : S} {ss : Ss} {ρ ρ' : Rho} (h : exS C io s ρ = .ok (.nx, ρ')) : exSs C io (.cons s ss) ρ = exSs C io ss ρ' := by
  rw [exSs, h]
  rfl
theorem min_p (a b : Int) : bMin [.tuple [.int a, .int b]] = some (.val (.int (min a b))) := by
  have e : minL [.int a, .int b] = if alikeL [.int a, .int b] then some (W.minD (.int a) [.int b]) else none := rfl
  have e2 : bMin [.tuple [.int a, .int b]] = (minL [.int a, .int b]).map .val := rfl
  have e3 := (al_ints [a, b]).1
  have e4 := W.minD_ints a [b]
  rw [e2, e]
  simp at e3 e4
  rw [e3, e4]
  rfl
theorem max_p (a b : Int) : bMax [.tuple [.int a, .int b]] = some (.val (.int (max a b))) := by
  have e : maxL [.int a, .int b] = if alikeL [.int a, .int b] then some (W.maxD (.int a) [.int b]) else none := rfl
  have e2 : bMax [.tuple [.int a, .int b]] = (maxL [.int a, .int b]).map .val := rfl
  have e3 := (al_ints [a, b]).1
  have e4 := W.maxD_ints a [b]
  rw [e2, e]
  simp at e3 e4
  rw [e3, e4]
  rfl
section
variable {wf m : Nat} {sc dr G P : D} {x5 a9 a10 a11 a12 : Sl} {px py bx b_y sn sd x y p0 p1 tn td : Int}
abbrev eF (px py bx b_y sn sd : Int) : D := .tuple [.tuple [.int px, .int py], .tuple [.int bx, .int b_y], .tuple [.int sn, .int sd]]
abbrev L1 (sc dr F G P : D) (x5 : Sl) (x y : Int) (a8 a9 a10 a11 a12 : Sl) : Rho := [.f sc, .o dr, .f F, .f G, .f P, x5, .f (.int x), .f (.int y), a8, a9, a10, a11, a12, .u, .u, .u, .u, .u, .u, .u]
theorem b1_0 {F p M : D} (h : callF defs globs wf m 17 [F, p] = val M) : exS (cc wf m) none s0_b1_law (L1 sc dr F G P x5 x y (.f p) a9 a10 a11 a12) = .ok (.nx, L1 sc dr F G P x5 x y (.f p) (.f M) a10 a11 a12) := by
  simp [EV.ixD, EV.valsOf, EV.ev.eq_1, EV.ev.eq_2, EV.ev.eq_3, EV.ev.eq_4, EV.ev.eq_5, EV.ev.eq_6, EV.ev.eq_7, EV.ev.eq_8, EV.ev.eq_9, EV.ev.eq_10, EV.ev.eq_11, EV.ev.eq_12, EV.ev.eq_13, EV.ev.eq_14, EV.ev.eq_15, EV.ev.eq_16, EV.ev.eq_17, EV.ev.eq_18, EV.ev.eq_19, EV.ev.eq_20, EV.ev.eq_21, EV.ev.eq_22, EV.ev.eq_23, EV.ev.eq_24, EV.ev.eq_25, EV.ev.eq_26, EV.runDef, EV.params, EV.runB, EV.enter, EV.slots0, EV.exS.eq_1, EV.exS.eq_2, EV.exS.eq_3, EV.exS.eq_4, EV.exS.eq_5, EV.exS.eq_6, EV.exS.eq_7, EV.exS.eq_8, EV.exS.eq_9, EV.exS.eq_10, EV.exS.eq_11, EV.exS.eq_14, EV.exS.eq_15, EV.exSs, EV.look, EV.stl, EV.isi, EV.tr, EV.leave, EV.frz, EV.lookAll, EV.afterCall, EV.lent, EV.takeO, EV.store, EV.builtin, EV.b_abs, EV.evA, EV.evO, EV.evC, EV.evI, -EV.bind_ok, s0_b1_law, h]
theorem b1_1 {F : D} (h : callF defs globs wf m 45 [F, .tuple [.int p0, .int p1]] = val (.tuple [.int tn, .int td])) (h2 : callF defs globs wf m 46 [F, .tuple [.tuple [.int p0, .int 1], .tuple [.int p1, .int 1]], .tuple [.int tn, .int td]] = val (.bool true)) (h3 : callF defs globs wf m 35 [F, .tuple [.int p0, .int p1], .int tn, .int td] = val (.bool true))
    (hc : cmpop .ne (.tuple [.int tn, .int td]) (.tuple [.int tn, .int td]) = some false) : exS (cc wf m) none s1_b1_law (L1 sc dr F G P x5 x y (.f (.tuple [.int p0, .int p1])) (.f (.tuple [.int tn, .int td])) a10 a11 a12) = .ok (.nx, L1 sc dr F G P x5 x y (.f (.tuple [.int p0, .int p1])) (.f (.tuple [.int tn, .int td])) a10 a11 a12) := by
  simp [EV.ixD, EV.valsOf, EV.ev.eq_1, EV.ev.eq_2, EV.ev.eq_3, EV.ev.eq_4, EV.ev.eq_5, EV.ev.eq_6, EV.ev.eq_7, EV.ev.eq_8, EV.ev.eq_9, EV.ev.eq_10, EV.ev.eq_11, EV.ev.eq_12, EV.ev.eq_13, EV.ev.eq_14, EV.ev.eq_15, EV.ev.eq_16, EV.ev.eq_17, EV.ev.eq_18, EV.ev.eq_19, EV.ev.eq_20, EV.ev.eq_21, EV.ev.eq_22, EV.ev.eq_23, EV.ev.eq_24, EV.ev.eq_25, EV.ev.eq_26, EV.runDef, EV.params, EV.runB, EV.enter, EV.slots0, EV.exS.eq_1, EV.exS.eq_2, EV.exS.eq_3, EV.exS.eq_4, EV.exS.eq_5, EV.exS.eq_6, EV.exS.eq_7, EV.exS.eq_8, EV.exS.eq_9, EV.exS.eq_10, EV.exS.eq_11, EV.exS.eq_14, EV.exS.eq_15, EV.exSs, EV.look, EV.stl, EV.isi, EV.tr, EV.leave, EV.frz, EV.lookAll, EV.afterCall, EV.lent, EV.takeO, EV.store, EV.builtin, EV.b_abs, EV.evA, EV.evO, EV.evC, EV.evI, -EV.bind_ok, s1_b1_law, h, h2, h3, hc, isD]
theorem b1_2 {F : D} : exS (cc wf m) none s2_b1_law (L1 sc dr F G P x5 x y (.f (.tuple [.int p0, .int p1])) a9 a10 a11 a12) = .ok (.nx, L1 sc dr F G P x5 x y (.f (.tuple [.int p0, .int p1])) a9 (.f (.tuple [.int (p0 - y), .int (p1 + x)])) a11 a12) := by
  simp [EV.ixD, EV.valsOf, EV.ev.eq_1, EV.ev.eq_2, EV.ev.eq_3, EV.ev.eq_4, EV.ev.eq_5, EV.ev.eq_6, EV.ev.eq_7, EV.ev.eq_8, EV.ev.eq_9, EV.ev.eq_10, EV.ev.eq_11, EV.ev.eq_12, EV.ev.eq_13, EV.ev.eq_14, EV.ev.eq_15, EV.ev.eq_16, EV.ev.eq_17, EV.ev.eq_18, EV.ev.eq_19, EV.ev.eq_20, EV.ev.eq_21, EV.ev.eq_22, EV.ev.eq_23, EV.ev.eq_24, EV.ev.eq_25, EV.ev.eq_26, EV.runDef, EV.params, EV.runB, EV.enter, EV.slots0, EV.exS.eq_1, EV.exS.eq_2, EV.exS.eq_3, EV.exS.eq_4, EV.exS.eq_5, EV.exS.eq_6, EV.exS.eq_7, EV.exS.eq_8, EV.exS.eq_9, EV.exS.eq_10, EV.exS.eq_11, EV.exS.eq_14, EV.exS.eq_15, EV.exSs, EV.look, EV.stl, EV.isi, EV.tr, EV.leave, EV.frz, EV.lookAll, EV.afterCall, EV.lent, EV.takeO, EV.store, EV.builtin, EV.b_abs, EV.evA, EV.evO, EV.evC, EV.evI, -EV.bind_ok, s2_b1_law]
theorem b1_3 {F M : D} {u v : Int} {a8 : Sl} (h : 0 ≤ min u v → max u v ≤ 1000 → callF defs globs wf m 17 [F, .tuple [.int u, .int v]] = val M) (hc : cmpop .ne M M = some false) :
    exS (cc wf m) none s3_b1_law (L1 sc dr F G P x5 x y a8 (.f M) (.f (.tuple [.int u, .int v])) a11 a12) = .ok (.nx, L1 sc dr F G P x5 x y a8 (.f M) (.f (.tuple [.int u, .int v])) a11 a12) := by
  have h1 := min_p u v
  have h2 := max_p u v
  generalize min u v = a at *
  generalize max u v = b at *
  by_cases ha : 0 ≤ a
  · by_cases hb : b ≤ 1000
    · simp [EV.ixD, EV.valsOf, EV.ev.eq_1, EV.ev.eq_2, EV.ev.eq_3, EV.ev.eq_4, EV.ev.eq_5, EV.ev.eq_6, EV.ev.eq_7, EV.ev.eq_8, EV.ev.eq_9, EV.ev.eq_10, EV.ev.eq_11, EV.ev.eq_12, EV.ev.eq_13, EV.ev.eq_14, EV.ev.eq_15, EV.ev.eq_16, EV.ev.eq_17, EV.ev.eq_18, EV.ev.eq_19, EV.ev.eq_20, EV.ev.eq_21, EV.ev.eq_22, EV.ev.eq_23, EV.ev.eq_24, EV.ev.eq_25, EV.ev.eq_26, EV.runDef, EV.params, EV.runB, EV.enter, EV.slots0, EV.exS.eq_1, EV.exS.eq_2, EV.exS.eq_3, EV.exS.eq_4, EV.exS.eq_5, EV.exS.eq_6, EV.exS.eq_7, EV.exS.eq_8, EV.exS.eq_9, EV.exS.eq_10, EV.exS.eq_11, EV.exS.eq_14, EV.exS.eq_15, EV.exSs, EV.look, EV.stl, EV.isi, EV.tr, EV.leave, EV.frz, EV.lookAll, EV.afterCall, EV.lent, EV.takeO, EV.store, EV.builtin, EV.b_abs, EV.evA, EV.evO, EV.evC, EV.evI, -EV.bind_ok, s3_b1_law, h1, h2, ha, hb, h ha hb, hc]
    · simp [EV.ixD, EV.valsOf, EV.ev.eq_1, EV.ev.eq_2, EV.ev.eq_3, EV.ev.eq_4, EV.ev.eq_5, EV.ev.eq_6, EV.ev.eq_7, EV.ev.eq_8, EV.ev.eq_9, EV.ev.eq_10, EV.ev.eq_11, EV.ev.eq_12, EV.ev.eq_13, EV.ev.eq_14, EV.ev.eq_15, EV.ev.eq_16, EV.ev.eq_17, EV.ev.eq_18, EV.ev.eq_19, EV.ev.eq_20, EV.ev.eq_21, EV.ev.eq_22, EV.ev.eq_23, EV.ev.eq_24, EV.ev.eq_25, EV.ev.eq_26, EV.runDef, EV.params, EV.runB, EV.enter, EV.slots0, EV.exS.eq_1, EV.exS.eq_2, EV.exS.eq_3, EV.exS.eq_4, EV.exS.eq_5, EV.exS.eq_6, EV.exS.eq_7, EV.exS.eq_8, EV.exS.eq_9, EV.exS.eq_10, EV.exS.eq_11, EV.exS.eq_14, EV.exS.eq_15, EV.exSs, EV.look, EV.stl, EV.isi, EV.tr, EV.leave, EV.frz, EV.lookAll, EV.afterCall, EV.lent, EV.takeO, EV.store, EV.builtin, EV.b_abs, EV.evA, EV.evO, EV.evC, EV.evI, -EV.bind_ok, s3_b1_law, h1, h2, ha, hb]
  · simp [EV.ixD, EV.valsOf, EV.ev.eq_1, EV.ev.eq_2, EV.ev.eq_3, EV.ev.eq_4, EV.ev.eq_5, EV.ev.eq_6, EV.ev.eq_7, EV.ev.eq_8, EV.ev.eq_9, EV.ev.eq_10, EV.ev.eq_11, EV.ev.eq_12, EV.ev.eq_13, EV.ev.eq_14, EV.ev.eq_15, EV.ev.eq_16, EV.ev.eq_17, EV.ev.eq_18, EV.ev.eq_19, EV.ev.eq_20, EV.ev.eq_21, EV.ev.eq_22, EV.ev.eq_23, EV.ev.eq_24, EV.ev.eq_25, EV.ev.eq_26, EV.runDef, EV.params, EV.runB, EV.enter, EV.slots0, EV.exS.eq_1, EV.exS.eq_2, EV.exS.eq_3, EV.exS.eq_4, EV.exS.eq_5, EV.exS.eq_6, EV.exS.eq_7, EV.exS.eq_8, EV.exS.eq_9, EV.exS.eq_10, EV.exS.eq_11, EV.exS.eq_14, EV.exS.eq_15, EV.exSs, EV.look, EV.stl, EV.isi, EV.tr, EV.leave, EV.frz, EV.lookAll, EV.afterCall, EV.lent, EV.takeO, EV.store, EV.builtin, EV.b_abs, EV.evA, EV.evO, EV.evC, EV.evI, -EV.bind_ok, s3_b1_law, h1, ha]
theorem b1_4 {F : D} : exS (cc wf m) none s4_b1_law (L1 sc dr F G P x5 x y (.f (.tuple [.int p0, .int p1])) a9 a10 a11 a12) = .ok (.nx, L1 sc dr F G P x5 x y (.f (.tuple [.int p0, .int p1])) a9 a10 (.f (.tuple [.int (p0 + x), .int (p1 + y)])) a12) := by
  simp [EV.ixD, EV.valsOf, EV.ev.eq_1, EV.ev.eq_2, EV.ev.eq_3, EV.ev.eq_4, EV.ev.eq_5, EV.ev.eq_6, EV.ev.eq_7, EV.ev.eq_8, EV.ev.eq_9, EV.ev.eq_10, EV.ev.eq_11, EV.ev.eq_12, EV.ev.eq_13, EV.ev.eq_14, EV.ev.eq_15, EV.ev.eq_16, EV.ev.eq_17, EV.ev.eq_18, EV.ev.eq_19, EV.ev.eq_20, EV.ev.eq_21, EV.ev.eq_22, EV.ev.eq_23, EV.ev.eq_24, EV.ev.eq_25, EV.ev.eq_26, EV.runDef, EV.params, EV.runB, EV.enter, EV.slots0, EV.exS.eq_1, EV.exS.eq_2, EV.exS.eq_3, EV.exS.eq_4, EV.exS.eq_5, EV.exS.eq_6, EV.exS.eq_7, EV.exS.eq_8, EV.exS.eq_9, EV.exS.eq_10, EV.exS.eq_11, EV.exS.eq_14, EV.exS.eq_15, EV.exSs, EV.look, EV.stl, EV.isi, EV.tr, EV.leave, EV.frz, EV.lookAll, EV.afterCall, EV.lent, EV.takeO, EV.store, EV.builtin, EV.b_abs, EV.evA, EV.evO, EV.evC, EV.evI, -EV.bind_ok, s4_b1_law]
theorem b1_5 {pl1 bl M Q : D} {u v : Int} {a8 : Sl} (h : 0 ≤ min u v → max u v ≤ 1000 → callF defs globs wf m 17 [.tuple [pl1, bl, .tuple [.int sn, .int sd]], .tuple [.int u, .int v]] = val Q) (h41 : callF defs globs wf m 41 [M, .tuple [.int sd, .int sn]] = val Q) (hc : cmpop .ne Q Q = some false) :
    exS (cc wf m) none s5_b1_law (L1 sc dr (.tuple [pl1, bl, .tuple [.int sn, .int sd]]) G P x5 x y a8 (.f M) a10 (.f (.tuple [.int u, .int v])) a12) = .ok (.nx, L1 sc dr (.tuple [pl1, bl, .tuple [.int sn, .int sd]]) G P x5 x y a8 (.f M) a10 (.f (.tuple [.int u, .int v])) a12) := by
  have h1 := min_p u v
  have h2 := max_p u v
  generalize min u v = a at *
  generalize max u v = b at *
  by_cases ha : 0 ≤ a
  · by_cases hb : b ≤ 1000
    · simp [EV.ixD, EV.valsOf, EV.ev.eq_1, EV.ev.eq_2, EV.ev.eq_3, EV.ev.eq_4, EV.ev.eq_5, EV.ev.eq_6, EV.ev.eq_7, EV.ev.eq_8, EV.ev.eq_9, EV.ev.eq_10, EV.ev.eq_11, EV.ev.eq_12, EV.ev.eq_13, EV.ev.eq_14, EV.ev.eq_15, EV.ev.eq_16, EV.ev.eq_17, EV.ev.eq_18, EV.ev.eq_19, EV.ev.eq_20, EV.ev.eq_21, EV.ev.eq_22, EV.ev.eq_23, EV.ev.eq_24, EV.ev.eq_25, EV.ev.eq_26, EV.runDef, EV.params, EV.runB, EV.enter, EV.slots0, EV.exS.eq_1, EV.exS.eq_2, EV.exS.eq_3, EV.exS.eq_4, EV.exS.eq_5, EV.exS.eq_6, EV.exS.eq_7, EV.exS.eq_8, EV.exS.eq_9, EV.exS.eq_10, EV.exS.eq_11, EV.exS.eq_14, EV.exS.eq_15, EV.exSs, EV.look, EV.stl, EV.isi, EV.tr, EV.leave, EV.frz, EV.lookAll, EV.afterCall, EV.lent, EV.takeO, EV.store, EV.builtin, EV.b_abs, EV.evA, EV.evO, EV.evC, EV.evI, -EV.bind_ok, s5_b1_law, h1, h2, ha, hb, h ha hb, hc, h41]
    · simp [EV.ixD, EV.valsOf, EV.ev.eq_1, EV.ev.eq_2, EV.ev.eq_3, EV.ev.eq_4, EV.ev.eq_5, EV.ev.eq_6, EV.ev.eq_7, EV.ev.eq_8, EV.ev.eq_9, EV.ev.eq_10, EV.ev.eq_11, EV.ev.eq_12, EV.ev.eq_13, EV.ev.eq_14, EV.ev.eq_15, EV.ev.eq_16, EV.ev.eq_17, EV.ev.eq_18, EV.ev.eq_19, EV.ev.eq_20, EV.ev.eq_21, EV.ev.eq_22, EV.ev.eq_23, EV.ev.eq_24, EV.ev.eq_25, EV.ev.eq_26, EV.runDef, EV.params, EV.runB, EV.enter, EV.slots0, EV.exS.eq_1, EV.exS.eq_2, EV.exS.eq_3, EV.exS.eq_4, EV.exS.eq_5, EV.exS.eq_6, EV.exS.eq_7, EV.exS.eq_8, EV.exS.eq_9, EV.exS.eq_10, EV.exS.eq_11, EV.exS.eq_14, EV.exS.eq_15, EV.exSs, EV.look, EV.stl, EV.isi, EV.tr, EV.leave, EV.frz, EV.lookAll, EV.afterCall, EV.lent, EV.takeO, EV.store, EV.builtin, EV.b_abs, EV.evA, EV.evO, EV.evC, EV.evI, -EV.bind_ok, s5_b1_law, h1, h2, ha, hb]
  · simp [EV.ixD, EV.valsOf, EV.ev.eq_1, EV.ev.eq_2, EV.ev.eq_3, EV.ev.eq_4, EV.ev.eq_5, EV.ev.eq_6, EV.ev.eq_7, EV.ev.eq_8, EV.ev.eq_9, EV.ev.eq_10, EV.ev.eq_11, EV.ev.eq_12, EV.ev.eq_13, EV.ev.eq_14, EV.ev.eq_15, EV.ev.eq_16, EV.ev.eq_17, EV.ev.eq_18, EV.ev.eq_19, EV.ev.eq_20, EV.ev.eq_21, EV.ev.eq_22, EV.ev.eq_23, EV.ev.eq_24, EV.ev.eq_25, EV.ev.eq_26, EV.runDef, EV.params, EV.runB, EV.enter, EV.slots0, EV.exS.eq_1, EV.exS.eq_2, EV.exS.eq_3, EV.exS.eq_4, EV.exS.eq_5, EV.exS.eq_6, EV.exS.eq_7, EV.exS.eq_8, EV.exS.eq_9, EV.exS.eq_10, EV.exS.eq_11, EV.exS.eq_14, EV.exS.eq_15, EV.exSs, EV.look, EV.stl, EV.isi, EV.tr, EV.leave, EV.frz, EV.lookAll, EV.afterCall, EV.lent, EV.takeO, EV.store, EV.builtin, EV.b_abs, EV.evA, EV.evO, EV.evC, EV.evI, -EV.bind_ok, s5_b1_law, h1, ha]
theorem b1_6 {pl1 bl S p : D} (h : tn ≠ 0 → callF defs globs wf m 28 [pl1, bl, .tuple [p, .tuple [.int tn, .int td]]] = val S) (hc : cmpop .ne S S = some false) :
    exS (cc wf m) none s6_b1_law (L1 sc dr (.tuple [pl1, bl, S]) G P x5 x y (.f p) (.f (.tuple [.int tn, .int td])) a10 a11 a12) = .ok (.nx, L1 sc dr (.tuple [pl1, bl, S]) G P x5 x y (.f p) (.f (.tuple [.int tn, .int td])) a10 a11 a12) := by
  by_cases h0 : tn = 0
  · simp [EV.ixD, EV.valsOf, EV.ev.eq_1, EV.ev.eq_2, EV.ev.eq_3, EV.ev.eq_4, EV.ev.eq_5, EV.ev.eq_6, EV.ev.eq_7, EV.ev.eq_8, EV.ev.eq_9, EV.ev.eq_10, EV.ev.eq_11, EV.ev.eq_12, EV.ev.eq_13, EV.ev.eq_14, EV.ev.eq_15, EV.ev.eq_16, EV.ev.eq_17, EV.ev.eq_18, EV.ev.eq_19, EV.ev.eq_20, EV.ev.eq_21, EV.ev.eq_22, EV.ev.eq_23, EV.ev.eq_24, EV.ev.eq_25, EV.ev.eq_26, EV.runDef, EV.params, EV.runB, EV.enter, EV.slots0, EV.exS.eq_1, EV.exS.eq_2, EV.exS.eq_3, EV.exS.eq_4, EV.exS.eq_5, EV.exS.eq_6, EV.exS.eq_7, EV.exS.eq_8, EV.exS.eq_9, EV.exS.eq_10, EV.exS.eq_11, EV.exS.eq_14, EV.exS.eq_15, EV.exSs, EV.look, EV.stl, EV.isi, EV.tr, EV.leave, EV.frz, EV.lookAll, EV.afterCall, EV.lent, EV.takeO, EV.store, EV.builtin, EV.b_abs, EV.evA, EV.evO, EV.evC, EV.evI, -EV.bind_ok, s6_b1_law, h0]
  · simp [EV.ixD, EV.valsOf, EV.ev.eq_1, EV.ev.eq_2, EV.ev.eq_3, EV.ev.eq_4, EV.ev.eq_5, EV.ev.eq_6, EV.ev.eq_7, EV.ev.eq_8, EV.ev.eq_9, EV.ev.eq_10, EV.ev.eq_11, EV.ev.eq_12, EV.ev.eq_13, EV.ev.eq_14, EV.ev.eq_15, EV.ev.eq_16, EV.ev.eq_17, EV.ev.eq_18, EV.ev.eq_19, EV.ev.eq_20, EV.ev.eq_21, EV.ev.eq_22, EV.ev.eq_23, EV.ev.eq_24, EV.ev.eq_25, EV.ev.eq_26, EV.runDef, EV.params, EV.runB, EV.enter, EV.slots0, EV.exS.eq_1, EV.exS.eq_2, EV.exS.eq_3, EV.exS.eq_4, EV.exS.eq_5, EV.exS.eq_6, EV.exS.eq_7, EV.exS.eq_8, EV.exS.eq_9, EV.exS.eq_10, EV.exS.eq_11, EV.exS.eq_14, EV.exS.eq_15, EV.exSs, EV.look, EV.stl, EV.isi, EV.tr, EV.leave, EV.frz, EV.lookAll, EV.afterCall, EV.lent, EV.takeO, EV.store, EV.builtin, EV.b_abs, EV.evA, EV.evO, EV.evC, EV.evI, -EV.bind_ok, s6_b1_law, h0, h h0, hc]
theorem b1_7 {pl1 bl S p Q : D} (h : callF defs globs wf m 28 [pl1, bl, .tuple [p, .tuple [.int 7, .int 2]]] = val Q) :
    exS (cc wf m) none s7_b1_law (L1 sc dr (.tuple [pl1, bl, S]) G P x5 x y (.f p) a9 a10 a11 a12) = .ok (.nx, L1 sc dr (.tuple [pl1, bl, S]) G P x5 x y (.f p) a9 a10 a11 (.f Q)) := by
  simp [EV.ixD, EV.valsOf, EV.ev.eq_1, EV.ev.eq_2, EV.ev.eq_3, EV.ev.eq_4, EV.ev.eq_5, EV.ev.eq_6, EV.ev.eq_7, EV.ev.eq_8, EV.ev.eq_9, EV.ev.eq_10, EV.ev.eq_11, EV.ev.eq_12, EV.ev.eq_13, EV.ev.eq_14, EV.ev.eq_15, EV.ev.eq_16, EV.ev.eq_17, EV.ev.eq_18, EV.ev.eq_19, EV.ev.eq_20, EV.ev.eq_21, EV.ev.eq_22, EV.ev.eq_23, EV.ev.eq_24, EV.ev.eq_25, EV.ev.eq_26, EV.runDef, EV.params, EV.runB, EV.enter, EV.slots0, EV.exS.eq_1, EV.exS.eq_2, EV.exS.eq_3, EV.exS.eq_4, EV.exS.eq_5, EV.exS.eq_6, EV.exS.eq_7, EV.exS.eq_8, EV.exS.eq_9, EV.exS.eq_10, EV.exS.eq_11, EV.exS.eq_14, EV.exS.eq_15, EV.exSs, EV.look, EV.stl, EV.isi, EV.tr, EV.leave, EV.frz, EV.lookAll, EV.afterCall, EV.lent, EV.takeO, EV.store, EV.builtin, EV.b_abs, EV.evA, EV.evO, EV.evC, EV.evI, -EV.bind_ok, s7_b1_law, h]
theorem b1_8n {F p : D} (h : tn ≤ 0) : exS (cc wf m) none s8_b1_law (L1 sc dr F G P x5 x y (.f p) (.f (.tuple [.int tn, .int td])) a10 a11 (.f .none)) = .ok (.nx, L1 sc dr F G P x5 x y (.f p) (.f (.tuple [.int tn, .int td])) a10 a11 (.f .none)) := by
  simp [EV.ixD, EV.valsOf, EV.ev.eq_1, EV.ev.eq_2, EV.ev.eq_3, EV.ev.eq_4, EV.ev.eq_5, EV.ev.eq_6, EV.ev.eq_7, EV.ev.eq_8, EV.ev.eq_9, EV.ev.eq_10, EV.ev.eq_11, EV.ev.eq_12, EV.ev.eq_13, EV.ev.eq_14, EV.ev.eq_15, EV.ev.eq_16, EV.ev.eq_17, EV.ev.eq_18, EV.ev.eq_19, EV.ev.eq_20, EV.ev.eq_21, EV.ev.eq_22, EV.ev.eq_23, EV.ev.eq_24, EV.ev.eq_25, EV.ev.eq_26, EV.runDef, EV.params, EV.runB, EV.enter, EV.slots0, EV.exS.eq_1, EV.exS.eq_2, EV.exS.eq_3, EV.exS.eq_4, EV.exS.eq_5, EV.exS.eq_6, EV.exS.eq_7, EV.exS.eq_8, EV.exS.eq_9, EV.exS.eq_10, EV.exS.eq_11, EV.exS.eq_14, EV.exS.eq_15, EV.exSs, EV.look, EV.stl, EV.isi, EV.tr, EV.leave, EV.frz, EV.lookAll, EV.afterCall, EV.lent, EV.takeO, EV.store, EV.builtin, EV.b_abs, EV.evA, EV.evO, EV.evC, EV.evI, -EV.bind_ok, s8_b1_law, isD, isConst, h]
theorem b1_8s {pl1 bl S p : D} {u v : Int} (h : ¬ tn ≤ 0) (h27 : callF defs globs wf m 27 [.tuple [pl1, bl, .tuple [.int u, .int v]], .list [.tuple [p, .tuple [.int 7, .int 2]]]] = val (.bool true)) : exS (cc wf m) none s8_b1_law (L1 sc dr (.tuple [pl1, bl, S]) G P x5 x y (.f p) (.f (.tuple [.int tn, .int td])) a10 a11 (.f (.tuple [.int u, .int v]))) = .ok (.nx, L1 sc dr (.tuple [pl1, bl, S]) G P x5 x y (.f p) (.f (.tuple [.int tn, .int td])) a10 a11 (.f (.tuple [.int u, .int v]))) := by
  have k1 : (1 : Nat) ≤ sizeLine := by rw [sizeLine_eq]; omega
  simp [EV.ixD, EV.valsOf, EV.ev.eq_1, EV.ev.eq_2, EV.ev.eq_3, EV.ev.eq_4, EV.ev.eq_5, EV.ev.eq_6, EV.ev.eq_7, EV.ev.eq_8, EV.ev.eq_9, EV.ev.eq_10, EV.ev.eq_11, EV.ev.eq_12, EV.ev.eq_13, EV.ev.eq_14, EV.ev.eq_15, EV.ev.eq_16, EV.ev.eq_17, EV.ev.eq_18, EV.ev.eq_19, EV.ev.eq_20, EV.ev.eq_21, EV.ev.eq_22, EV.ev.eq_23, EV.ev.eq_24, EV.ev.eq_25, EV.ev.eq_26, EV.runDef, EV.params, EV.runB, EV.enter, EV.slots0, EV.exS.eq_1, EV.exS.eq_2, EV.exS.eq_3, EV.exS.eq_4, EV.exS.eq_5, EV.exS.eq_6, EV.exS.eq_7, EV.exS.eq_8, EV.exS.eq_9, EV.exS.eq_10, EV.exS.eq_11, EV.exS.eq_14, EV.exS.eq_15, EV.exSs, EV.look, EV.stl, EV.isi, EV.tr, EV.leave, EV.frz, EV.lookAll, EV.afterCall, EV.lent, EV.takeO, EV.store, EV.builtin, EV.b_abs, EV.evA, EV.evO, EV.evC, EV.evI, -EV.bind_ok, s8_b1_law, isD, isConst, h, h27, k1]
end
end K3
end

section
/-! M22 -/
set_option linter.all false
set_option maxRecDepth 100000
set_option maxHeartbeats 1000000
set_option exponentiation.threshold 5000
namespace K3
open PySem EV
def c72 : Rat := ⟨7, 2, by decide, by decide⟩
theorem c72_eq : c72 * 2 = 7 := by
  have := nd c72
  have e1 : c72.num = 7 := rfl
  have e2 : c72.den = 2 := rfl
  rw [e1, e2] at this
  push_cast at this
  grind
theorem q_int (z : Int) : q (z : Rat) = .tuple [.int z, .int 1] := by simp [EV.ixD, EV.valsOf, EV.ev.eq_1, EV.ev.eq_2, EV.ev.eq_3, EV.ev.eq_4, EV.ev.eq_5, EV.ev.eq_6, EV.ev.eq_7, EV.ev.eq_8, EV.ev.eq_9, EV.ev.eq_10, EV.ev.eq_11, EV.ev.eq_12, EV.ev.eq_13, EV.ev.eq_14, EV.ev.eq_15, EV.ev.eq_16, EV.ev.eq_17, EV.ev.eq_18, EV.ev.eq_19, EV.ev.eq_20, EV.ev.eq_21, EV.ev.eq_22, EV.ev.eq_23, EV.ev.eq_24, EV.ev.eq_25, EV.ev.eq_26, EV.runDef, EV.params, EV.runB, EV.enter, EV.slots0, EV.exS.eq_1, EV.exS.eq_2, EV.exS.eq_3, EV.exS.eq_4, EV.exS.eq_5, EV.exS.eq_6, EV.exS.eq_7, EV.exS.eq_8, EV.exS.eq_9, EV.exS.eq_10, EV.exS.eq_11, EV.exS.eq_14, EV.exS.eq_15, EV.exSs, EV.look, EV.stl, EV.isi, EV.tr, EV.leave, EV.frz, EV.lookAll, EV.afterCall, EV.lent, EV.takeO, EV.store, EV.builtin, EV.b_abs, EV.evA, EV.evO, EV.evC, EV.evI, -EV.bind_ok, q]
theorem on_rt {f : Fr} (h : f.ok) (p : Int × Int) : f.on (p.1 : Rat) (p.2 : Rat) (f.rt p) := by
  unfold Fr.on Fr.L Fr.rt
  have h1 := h.Ns
  have h2 : (f.F p : Rat) = (f.bx : Rat) * p.1 + (f.by' : Rat) * p.2 - ((f.bx : Rat) * f.px + (f.by' : Rat) * f.py) := by unfold Fr.F; push_cast; rfl
  generalize (f.N : Rat) * f.s = c at *
  rw [h2]
  push_cast
  grind
theorem bd_int {k : Nat} {z : Int} (h : lt2 k z) (hk : 1 ≤ k) : Bd k (z : Rat) := ⟨by rw [Rat.num_intCast]; exact h, by rw [Rat.den_intCast]; exact lt2_one _ hk⟩
theorem q_inv {s : Rat} (h : 0 < s) : q s⁻¹ = .tuple [.int (s.den : Int), .int s.num] := by
  have h1 := num_pos.mpr h
  unfold q
  have e : ((s.num.natAbs : Nat) : Int) = s.num := by omega
  rw [Rat.num_inv, Rat.den_inv, Int.sign_eq_one_of_pos h1, if_neg (by omega), Int.one_mul, e]
theorem rt_ahead {f : Fr} (h : f.ok) (p : Int × Int) : f.rt (p.1 + f.bx, p.2 + f.by') = f.rt p + f.s⁻¹ := by
  have h1 := h.Nq
  have h2 := h.s
  have e : f.F (p.1 + f.bx, p.2 + f.by') = f.F p + f.N := by unfold Fr.F Fr.N; grind
  unfold Fr.rt
  rw [e]
  push_cast
  grind
theorem rt_beside (f : Fr) (p : Int × Int) : f.rt (p.1 - f.by', p.2 + f.bx) = f.rt p := by
  have e : f.F (p.1 - f.by', p.2 + f.bx) = f.F p := by unfold Fr.F; grind
  unfold Fr.rt
  rw [e]
theorem rt_sign {f : Fr} (h : f.ok) (p : Int × Int) : ((f.rt p).num ≤ 0 ↔ f.F p ≤ 0) ∧ ((f.rt p).num = 0 ↔ f.F p = 0) := by
  have h1 := h.Ns
  have hc : 0 < ((f.N : Rat) * f.s)⁻¹ := Rat.inv_pos.mpr h1
  have e : f.rt p = (f.F p : Rat) * ((f.N : Rat) * f.s)⁻¹ := Rat.div_def ..
  generalize ((f.N : Rat) * f.s)⁻¹ = c at *
  have h3 : (f.rt p).num = 0 ↔ f.F p = 0 := by
    rw [Rat.num_eq_zero, e, Rat.mul_eq_zero, Rat.intCast_eq_zero_iff]
    constructor
    · rintro (h | h)
      · exact h
      · grind
    · exact .inl
  have h4 : 0 < (f.rt p).num ↔ 0 < f.F p := by
    rw [num_pos, e, Rat.mul_pos_iff_of_pos_right hc, Rat.intCast_pos]
  constructor
  · omega
  · exact h3
theorem fs_rt {f : Fr} (h : f.ok) (p : Int × Int) (h0 : (f.rt p).num ≠ 0) : f.fs p (f.rt p) = some f.s := by
  obtain ⟨h1, h2⟩ := rt_sign h p
  have h3 : f.F p ≠ 0 := fun e => h0 (h2.mpr e)
  have h4 : ¬ f.F p * (f.rt p).num ≤ 0 := by
    rw [Int.not_le]
    by_cases hs : f.F p ≤ 0
    · have := h1.mpr hs
      exact Int.mul_pos_of_neg_of_neg (by omega) (by omega)
    · exact Int.mul_pos (by omega) (by omega)
  unfold Fr.fs
  rw [if_neg h4]
  congr 1
  have h5 : (f.F p : Rat) ≠ 0 := by rw [Ne, Rat.intCast_eq_zero_iff]; exact h3
  have h6 := h.Nq
  have h7 := h.s
  unfold Fr.rt
  grind
theorem sm_7 {a : Int} (h : a.natAbs ≤ 100) : lt2 7 a := by
  unfold lt2
  have : (2 : Nat) ^ 7 = 128 := by decide
  omega
theorem okP_10 {p : Int × Int} (h : okP p) : lt2 10 p.1 ∧ lt2 10 p.2 := by
  obtain ⟨⟨h1, h2⟩, h3, h4⟩ := h
  have : (2 : Nat) ^ 10 = 1024 := by decide
  unfold lt2
  omega
def Fr.w (f : Fr) (p : Int × Int) : Fr := { f with s := (f.F p : Rat) / ((f.N : Rat) * c72) }
theorem w_ok {f : Fr} (h : f.ok) (hs : f.sm) {p : Int × Int} (hp : okP p) (h0 : 0 < f.F p) : (f.w p).ok ∧ (f.w p).rt p = c72 := by
  have h1 := h.Nq
  have h2 := c72_eq
  have e : ((f.F p * 2 : Int) : Rat) / ((f.N * 7 : Int) : Rat) = (f.F p : Rat) / ((f.N : Rat) * c72) := by
    push_cast
    have : c72 ≠ 0 := by grind
    grind
  have hF : (0 : Rat) < (f.F p : Rat) := Rat.intCast_pos.mpr h0
  obtain ⟨a1, a2⟩ := okP_10 hp
  obtain ⟨a3, a4⟩ := okP_10 h.p
  have lF : lt2 28 (f.F p * 2) := lt2_mono (lt2_mul (lt2_sub (lt2_add (lt2_mul (sm_7 hs.1) a1) (lt2_mul (sm_7 hs.2) a2)) (lt2_add (lt2_mul (sm_7 hs.1) a3) (lt2_mul (sm_7 hs.2) a4))) (show lt2 2 2 by unfold lt2; decide)) (by decide)
  have lN : lt2 28 (f.N * 7) := lt2_mono (lt2_mul (lt2_add (lt2_mul (sm_7 hs.1) (sm_7 hs.1)) (lt2_mul (sm_7 hs.2) (sm_7 hs.2))) (show lt2 3 7 by unfold lt2; decide)) (by decide)
  have hN := h.N_pos
  have hb : Bd 30 ((f.F p : Rat) / ((f.N : Rat) * c72)) := by
    rw [← e]
    exact bd_mono (bd_div (by omega) lF lN) (by decide)
  have hpos : 0 < (f.F p : Rat) / ((f.N : Rat) * c72) := by
    rw [Rat.div_def]
    exact Rat.mul_pos hF (Rat.inv_pos.mpr (Rat.mul_pos h1 (by grind)))
  refine ⟨⟨h.p, h.bx, h.by', h.g, hpos, hb⟩, ?_⟩
  unfold Fr.rt
  show (f.F p : Rat) / ((f.N : Rat) * ((f.F p : Rat) / ((f.N : Rat) * c72))) = c72
  generalize (f.F p : Rat) = a at *
  generalize (f.N : Rat) = b at *
  have : c72 ≠ 0 := by grind
  generalize c72 = c at *
  grind
namespace Ctx
variable (c : Ctx)
def Pa (sc dr : D) (x5 : Sl) (ρ : Rho) : Prop := ∃ a8 a9 a10 a11 a12, ρ = L1 sc dr (encF c.f) (encF c.g) (encPs c.ps) x5 c.f.bx c.f.by' a8 a9 a10 a11 a12
theorem okP_mm {u v : Int} (h1 : 0 ≤ min u v) (h2 : max u v ≤ 1000) : okP (u, v) := by
  unfold okP
  simp only
  omega
theorem turnA (hs : c.f.sm) (m : Nat) (sc dr : D) (x5 : Sl) {p : Int × Int} (hp : okP p) {ρ : Rho} (hρ : c.Pa sc dr x5 ρ) : ∃ ρ', forF (cc c.wf (m + 9)) none (.v 8) b1_law (encP p) ρ = .ok (.nx, ρ') ∧ c.Pa sc dr x5 ρ' := by
  obtain ⟨a8, a9, a10, a11, a12, rfl⟩ := hρ
  have hf := c.hf
  have hw := c.hw
  have e0 : forF (cc c.wf (m + 9)) none (.v 8) b1_law (encP p) (L1 sc dr (encF c.f) (encF c.g) (encPs c.ps) x5 c.f.bx c.f.by' a8 a9 a10 a11 a12) = exSs (cc c.wf (m + 9)) none b1_law (L1 sc dr (encF c.f) (encF c.g) (encPs c.ps) x5 c.f.bx c.f.by' (.f (encP p)) a9 a10 a11 a12) := by
    simp [EV.ixD, EV.valsOf, EV.ev.eq_1, EV.ev.eq_2, EV.ev.eq_3, EV.ev.eq_4, EV.ev.eq_5, EV.ev.eq_6, EV.ev.eq_7, EV.ev.eq_8, EV.ev.eq_9, EV.ev.eq_10, EV.ev.eq_11, EV.ev.eq_12, EV.ev.eq_13, EV.ev.eq_14, EV.ev.eq_15, EV.ev.eq_16, EV.ev.eq_17, EV.ev.eq_18, EV.ev.eq_19, EV.ev.eq_20, EV.ev.eq_21, EV.ev.eq_22, EV.ev.eq_23, EV.ev.eq_24, EV.ev.eq_25, EV.ev.eq_26, EV.runDef, EV.params, EV.runB, EV.enter, EV.slots0, EV.exS.eq_1, EV.exS.eq_2, EV.exS.eq_3, EV.exS.eq_4, EV.exS.eq_5, EV.exS.eq_6, EV.exS.eq_7, EV.exS.eq_8, EV.exS.eq_9, EV.exS.eq_10, EV.exS.eq_11, EV.exS.eq_14, EV.exS.eq_15, EV.exSs, EV.look, EV.stl, EV.isi, EV.tr, EV.leave, EV.frz, EV.lookAll, EV.afterCall, EV.lent, EV.takeO, EV.store, EV.builtin, EV.b_abs, EV.evA, EV.evO, EV.evC, EV.evI, -EV.bind_ok, forF]
  have br := bd_rt hf hp
  obtain ⟨p1, p2⟩ := okP_x hp
  have cM := cm_ne_q (c.f.rt p) (c.f.rt p)
  rw [decide_eq_true rfl] at cM
  obtain ⟨r, hr1, hr2⟩ := is_on_ok c.wf (m + 6) hf (X := (p.1 : Rat)) (Y := (p.2 : Rat)) (bd_int (lt2_mono p1 (by decide)) (by decide)) (bd_int (lt2_mono p2 (by decide)) (by decide)) (bd_mono br (by decide))
  rw [hr1 (on_rt hf p), q_int, q_int] at hr2
  have s0 := b1_0 (sc := sc) (dr := dr) (G := encF c.g) (P := encPs c.ps) (x5 := x5) (x := c.f.bx) (y := c.f.by') (a9 := a9) (a10 := a10) (a11 := a11) (a12 := a12) (reaches_at_ok (m + 2) hw hf hp)
  have s1 := b1_1 (sc := sc) (dr := dr) (G := encF c.g) (P := encPs c.ps) (x5 := x5) (x := c.f.bx) (y := c.f.by') (a10 := a10) (a11 := a11) (a12 := a12) (law_reach_ok c.wf (m + 7) hf hp) hr2 (takes_reach_ok (m + 4) hw hf hp) cM
  have s2 := b1_2 (wf := c.wf) (m := m + 9) (sc := sc) (dr := dr) (F := encF c.f) (G := encF c.g) (P := encPs c.ps) (x5 := x5) (x := c.f.bx) (y := c.f.by') (p0 := p.1) (p1 := p.2) (a9 := .f (q (c.f.rt p))) (a10 := a10) (a11 := a11) (a12 := a12)
  have s3 := b1_3 (wf := c.wf) (m := m + 9) (sc := sc) (dr := dr) (F := encF c.f) (M := q (c.f.rt p)) (G := encF c.g) (P := encPs c.ps) (x5 := x5) (x := c.f.bx) (y := c.f.by') (a8 := .f (encP p)) (a11 := a11) (a12 := a12) (u := p.1 - c.f.by') (v := p.2 + c.f.bx) (by
    intro h1 h2
    have := reaches_at_ok (m + 2) hw hf (okP_mm h1 h2)
    rw [rt_beside] at this
    exact this) cM
  have s4 := b1_4 (wf := c.wf) (m := m + 9) (sc := sc) (dr := dr) (F := encF c.f) (G := encF c.g) (P := encPs c.ps) (x5 := x5) (x := c.f.bx) (y := c.f.by') (p0 := p.1) (p1 := p.2) (a9 := .f (q (c.f.rt p))) (a10 := .f (.tuple [.int (p.1 - c.f.by'), .int (p.2 + c.f.bx)])) (a11 := a11) (a12 := a12)
  have cQ := cm_ne_q (c.f.rt p + c.f.s⁻¹) (c.f.rt p + c.f.s⁻¹)
  rw [decide_eq_true rfl] at cQ
  have bi : Bd 30 c.f.s⁻¹ := by
    have e := q_inv hf.s
    have hb := hf.sb
    have e1 : (c.f.s⁻¹).num = (c.f.s.den : Int) := by injection e with e; injection e with e e'; injection e
    have e2 : ((c.f.s⁻¹).den : Int) = c.f.s.num := by injection e with e; injection e with e e'; injection e' with e'; injection e'
    exact ⟨by rw [e1]; exact hb.2, by rw [e2]; exact hb.1⟩
  have pls := law_plus_ok c.wf (m + 7) br bi (by decide)
  rw [q_inv hf.s] at pls
  have s5 := b1_5 (sc := sc) (dr := dr) (pl1 := .tuple [.int c.f.px, .int c.f.py]) (bl := .tuple [.int c.f.bx, .int c.f.by']) (sn := c.f.s.num) (sd := c.f.s.den) (M := q (c.f.rt p)) (G := encF c.g) (P := encPs c.ps) (x5 := x5) (x := c.f.bx) (y := c.f.by') (a8 := .f (encP p)) (a10 := .f (.tuple [.int (p.1 - c.f.by'), .int (p.2 + c.f.bx)])) (a12 := a12) (u := p.1 + c.f.bx) (v := p.2 + c.f.by') (by
    intro h1 h2
    have := reaches_at_ok (m + 2) hw hf (okP_mm h1 h2)
    rw [rt_ahead hf] at this
    exact this) pls cQ
  have cS := cm_ne_q c.f.s c.f.s
  rw [decide_eq_true rfl] at cS
  have s6 := b1_6 (wf := c.wf) (m := m + 9) (sc := sc) (dr := dr) (pl1 := .tuple [.int c.f.px, .int c.f.py]) (bl := .tuple [.int c.f.bx, .int c.f.by']) (S := q c.f.s) (p := encP p) (tn := (c.f.rt p).num) (td := (c.f.rt p).den) (G := encF c.g) (P := encPs c.ps) (x5 := x5) (x := c.f.bx) (y := c.f.by') (a10 := .f (.tuple [.int (p.1 - c.f.by'), .int (p.2 + c.f.bx)])) (a11 := .f (.tuple [.int (p.1 + c.f.bx), .int (p.2 + c.f.by')])) (a12 := a12) (by
    intro h0
    have := fitted_ok (m + 4) hw hf hp br
    rw [fs_rt hf p h0] at this
    exact this) cS
  have b72 : Bd 100 c72 := ⟨by unfold lt2; decide, by unfold lt2; decide⟩
  have f7 := fitted_ok (m + 4) hw hf hp b72
  have s7 := b1_7 (sc := sc) (dr := dr) (S := q c.f.s) (G := encF c.g) (P := encPs c.ps) (x5 := x5) (x := c.f.bx) (y := c.f.by') (a9 := .f (q (c.f.rt p))) (a10 := .f (.tuple [.int (p.1 - c.f.by'), .int (p.2 + c.f.bx)])) (a11 := .f (.tuple [.int (p.1 + c.f.bx), .int (p.2 + c.f.by')])) (a12 := a12) f7
  obtain ⟨g1, g2⟩ := rt_sign hf p
  have s8 : exS (cc c.wf (m + 9)) none s8_b1_law (L1 sc dr (encF c.f) (encF c.g) (encPs c.ps) x5 c.f.bx c.f.by' (.f (encP p)) (.f (q (c.f.rt p))) (.f (.tuple [.int (p.1 - c.f.by'), .int (p.2 + c.f.bx)])) (.f (.tuple [.int (p.1 + c.f.bx), .int (p.2 + c.f.by')])) (.f (encO (c.f.fs p c72)))) = .ok (.nx, L1 sc dr (encF c.f) (encF c.g) (encPs c.ps) x5 c.f.bx c.f.by' (.f (encP p)) (.f (q (c.f.rt p))) (.f (.tuple [.int (p.1 - c.f.by'), .int (p.2 + c.f.bx)])) (.f (.tuple [.int (p.1 + c.f.bx), .int (p.2 + c.f.by')])) (.f (encO (c.f.fs p c72)))) := by
    have e7 : c72.num = 7 := rfl
    unfold Fr.fs
    rw [e7]
    by_cases hF : c.f.F p ≤ 0
    · rw [if_pos (by omega)]
      exact b1_8n (g1.mpr hF)
    · rw [if_neg (by omega)]
      obtain ⟨w1, w2⟩ := w_ok hf hs hp (by omega)
      have f27 := does_fit_ok (rs := [(p, c72)]) (m + 2) hw w1 (by simp) (by
        intro r hr
        rw [List.mem_singleton] at hr
        subst hr
        exact ⟨hp, bd_mono b72 (by decide), w2⟩)
      exact b1_8s (fun h => hF (g1.mp h)) f27
  have key : exSs (cc c.wf (m + 9)) none b1_law (L1 sc dr (encF c.f) (encF c.g) (encPs c.ps) x5 c.f.bx c.f.by' (.f (encP p)) a9 a10 a11 a12) = .ok (.nx, L1 sc dr (encF c.f) (encF c.g) (encPs c.ps) x5 c.f.bx c.f.by' (.f (encP p)) (.f (q (c.f.rt p))) (.f (.tuple [.int (p.1 - c.f.by'), .int (p.2 + c.f.bx)])) (.f (.tuple [.int (p.1 + c.f.bx), .int (p.2 + c.f.by')])) (.f (encO (c.f.fs p c72)))) := by
    unfold b1_law
    rw [exSs_nx s0, exSs_nx s1, exSs_nx s2, exSs_nx s3, exSs_nx s4, exSs_nx s5, exSs_nx s6, exSs_nx s7, exSs_nx s8, exSs]
  exact ⟨_, e0.trans key, _, _, _, _, _, rfl⟩
end Ctx
end K3
end

section
/-! M23 -/
set_option linter.all false
set_option maxRecDepth 100000
set_option maxHeartbeats 1000000
set_option exponentiation.threshold 5000
namespace K3
open PySem EV
abbrev L2' (sc dr F G P : D) (x5 : Sl) (x y : Int) (a8 a9 a10 a11 a12 a13 a14 a15 a16 a17 : Sl) : Rho := [.f sc, .o dr, .f F, .f G, .f P, x5, .f (.int x), .f (.int y), a8, a9, a10, a11, a12, a13, a14, a15, a16, a17, .u, .u]
section
variable {wf m : Nat} {sc P : D} {x5 a8 a9 a10 a11 a12 a13 a14 a15 a16 a17 : Sl} {x y tn td : Int} {l l' : List Int}
theorem b2_0 {F G M : D} (h : callF defs globs wf m 47 [encI l] = .ok ⟨false, M, encI l'⟩) : exS (cc wf m) none s0_b2_law (L2' sc (encI l) F G P x5 x y a8 a9 a10 a11 a12 a13 a14 a15 a16 a17) = .ok (.nx, L2' sc (encI l') F G P x5 x y a8 (.f M) a10 a11 a12 a13 a14 a15 a16 a17) := by
  unfold encI at *
  generalize l.map PyData.int = A at *
  generalize l'.map PyData.int = B at *
  simp [EV.ixD, EV.valsOf, EV.ev.eq_1, EV.ev.eq_2, EV.ev.eq_3, EV.ev.eq_4, EV.ev.eq_5, EV.ev.eq_6, EV.ev.eq_7, EV.ev.eq_8, EV.ev.eq_9, EV.ev.eq_10, EV.ev.eq_11, EV.ev.eq_12, EV.ev.eq_13, EV.ev.eq_14, EV.ev.eq_15, EV.ev.eq_16, EV.ev.eq_17, EV.ev.eq_18, EV.ev.eq_19, EV.ev.eq_20, EV.ev.eq_21, EV.ev.eq_22, EV.ev.eq_23, EV.ev.eq_24, EV.ev.eq_25, EV.ev.eq_26, EV.runDef, EV.params, EV.runB, EV.enter, EV.slots0, EV.exS.eq_1, EV.exS.eq_2, EV.exS.eq_3, EV.exS.eq_4, EV.exS.eq_5, EV.exS.eq_6, EV.exS.eq_7, EV.exS.eq_8, EV.exS.eq_9, EV.exS.eq_10, EV.exS.eq_11, EV.exS.eq_14, EV.exS.eq_15, EV.exSs, EV.look, EV.stl, EV.isi, EV.tr, EV.leave, EV.frz, EV.lookAll, EV.afterCall, EV.lent, EV.takeO, EV.store, EV.builtin, EV.b_abs, EV.evA, EV.evO, EV.evC, EV.evI, -EV.bind_ok, s0_b2_law, h]
theorem b2_1 {dr F G H S : D} (h : callF defs globs wf m 31 [F, .int tn, .int td] = val (.tuple [H, S])) : exS (cc wf m) none s1_b2_law (L2' sc dr F G P x5 x y a8 (.f (.tuple [.int tn, .int td])) a10 a11 a12 a13 a14 a15 a16 a17) = .ok (.nx, L2' sc dr F G P x5 x y a8 (.f (.tuple [.int tn, .int td])) a10 a11 a12 a13 (.f H) (.f S) a16 a17) := by
  simp [EV.ixD, EV.valsOf, EV.ev.eq_1, EV.ev.eq_2, EV.ev.eq_3, EV.ev.eq_4, EV.ev.eq_5, EV.ev.eq_6, EV.ev.eq_7, EV.ev.eq_8, EV.ev.eq_9, EV.ev.eq_10, EV.ev.eq_11, EV.ev.eq_12, EV.ev.eq_13, EV.ev.eq_14, EV.ev.eq_15, EV.ev.eq_16, EV.ev.eq_17, EV.ev.eq_18, EV.ev.eq_19, EV.ev.eq_20, EV.ev.eq_21, EV.ev.eq_22, EV.ev.eq_23, EV.ev.eq_24, EV.ev.eq_25, EV.ev.eq_26, EV.runDef, EV.params, EV.runB, EV.enter, EV.slots0, EV.exS.eq_1, EV.exS.eq_2, EV.exS.eq_3, EV.exS.eq_4, EV.exS.eq_5, EV.exS.eq_6, EV.exS.eq_7, EV.exS.eq_8, EV.exS.eq_9, EV.exS.eq_10, EV.exS.eq_11, EV.exS.eq_14, EV.exS.eq_15, EV.exSs, EV.look, EV.stl, EV.isi, EV.tr, EV.leave, EV.frz, EV.lookAll, EV.afterCall, EV.lent, EV.takeO, EV.store, EV.builtin, EV.b_abs, EV.evA, EV.evO, EV.evC, EV.evI, -EV.bind_ok, s1_b2_law, h]
theorem b2_2 {dr F G H1 H2 S S1 S2 M : D} (h1 : callF defs globs wf m 46 [F, .tuple [H1, H2], M] = val (.bool true)) (h2 : callF defs globs wf m 46 [F, S, M] = val (.bool true)) (h3 : callF defs globs wf m 41 [H1, .tuple [.int (-y), .int 1]] = val S1) (h4 : callF defs globs wf m 41 [H2, .tuple [.int x, .int 1]] = val S2) (hc : cmpop .ne S (.tuple [S1, S2]) = some false) :
    exS (cc wf m) none s2_b2_law (L2' sc dr F G P x5 x y a8 (.f M) a10 a11 a12 a13 (.f (.tuple [H1, H2])) (.f S) a16 a17) = .ok (.nx, L2' sc dr F G P x5 x y a8 (.f M) a10 a11 a12 a13 (.f (.tuple [H1, H2])) (.f S) a16 a17) := by
  have e0 : ∀ z : Int, 0 - z = -z := fun z => by omega
  simp [EV.ixD, EV.valsOf, EV.ev.eq_1, EV.ev.eq_2, EV.ev.eq_3, EV.ev.eq_4, EV.ev.eq_5, EV.ev.eq_6, EV.ev.eq_7, EV.ev.eq_8, EV.ev.eq_9, EV.ev.eq_10, EV.ev.eq_11, EV.ev.eq_12, EV.ev.eq_13, EV.ev.eq_14, EV.ev.eq_15, EV.ev.eq_16, EV.ev.eq_17, EV.ev.eq_18, EV.ev.eq_19, EV.ev.eq_20, EV.ev.eq_21, EV.ev.eq_22, EV.ev.eq_23, EV.ev.eq_24, EV.ev.eq_25, EV.ev.eq_26, EV.runDef, EV.params, EV.runB, EV.enter, EV.slots0, EV.exS.eq_1, EV.exS.eq_2, EV.exS.eq_3, EV.exS.eq_4, EV.exS.eq_5, EV.exS.eq_6, EV.exS.eq_7, EV.exS.eq_8, EV.exS.eq_9, EV.exS.eq_10, EV.exS.eq_11, EV.exS.eq_14, EV.exS.eq_15, EV.exSs, EV.look, EV.stl, EV.isi, EV.tr, EV.leave, EV.frz, EV.lookAll, EV.afterCall, EV.lent, EV.takeO, EV.store, EV.builtin, EV.b_abs, EV.evA, EV.evO, EV.evC, EV.evI, -EV.bind_ok, s2_b2_law, h1, h2, e0, h3, h4, hc]
theorem b2_3 {dr F G X Y : D} (h1 : callF defs globs wf m 24 [F, G, .int tn, .int td] = val X) (h2 : callF defs globs wf m 24 [G, F, .int tn, .int td] = val Y) : exS (cc wf m) none s3_b2_law (L2' sc dr F G P x5 x y a8 (.f (.tuple [.int tn, .int td])) a10 a11 a12 a13 a14 a15 a16 a17) = .ok (.nx, L2' sc dr F G P x5 x y a8 (.f (.tuple [.int tn, .int td])) a10 a11 a12 a13 a14 a15 (.f X) (.f Y)) := by
  simp [EV.ixD, EV.valsOf, EV.ev.eq_1, EV.ev.eq_2, EV.ev.eq_3, EV.ev.eq_4, EV.ev.eq_5, EV.ev.eq_6, EV.ev.eq_7, EV.ev.eq_8, EV.ev.eq_9, EV.ev.eq_10, EV.ev.eq_11, EV.ev.eq_12, EV.ev.eq_13, EV.ev.eq_14, EV.ev.eq_15, EV.ev.eq_16, EV.ev.eq_17, EV.ev.eq_18, EV.ev.eq_19, EV.ev.eq_20, EV.ev.eq_21, EV.ev.eq_22, EV.ev.eq_23, EV.ev.eq_24, EV.ev.eq_25, EV.ev.eq_26, EV.runDef, EV.params, EV.runB, EV.enter, EV.slots0, EV.exS.eq_1, EV.exS.eq_2, EV.exS.eq_3, EV.exS.eq_4, EV.exS.eq_5, EV.exS.eq_6, EV.exS.eq_7, EV.exS.eq_8, EV.exS.eq_9, EV.exS.eq_10, EV.exS.eq_11, EV.exS.eq_14, EV.exS.eq_15, EV.exSs, EV.look, EV.stl, EV.isi, EV.tr, EV.leave, EV.frz, EV.lookAll, EV.afterCall, EV.lent, EV.takeO, EV.store, EV.builtin, EV.b_abs, EV.evA, EV.evO, EV.evC, EV.evI, -EV.bind_ok, s3_b2_law, h1, h2]
theorem b2_4n {dr F g1 g3 : D} {e f u : Int} (m1 : binop .mul (.int x) (.int f) = some (.val (.int u))) (m2 : binop .mul (.int y) (.int e) = some (.val (.int u))) : exS (cc wf m) none s4_b2_law (L2' sc dr F (.tuple [g1, .tuple [.int e, .int f], g3]) P x5 x y a8 a9 a10 a11 a12 a13 a14 a15 (.f .none) (.f .none)) = .ok (.nx, L2' sc dr F (.tuple [g1, .tuple [.int e, .int f], g3]) P x5 x y a8 a9 a10 a11 a12 a13 a14 a15 (.f .none) (.f .none)) := by
  have c : cmpop .ne .none .none = some false := rfl
  simp [EV.ixD, EV.valsOf, EV.ev.eq_1, EV.ev.eq_2, EV.ev.eq_3, EV.ev.eq_4, EV.ev.eq_5, EV.ev.eq_6, EV.ev.eq_7, EV.ev.eq_8, EV.ev.eq_9, EV.ev.eq_10, EV.ev.eq_11, EV.ev.eq_12, EV.ev.eq_13, EV.ev.eq_14, EV.ev.eq_15, EV.ev.eq_16, EV.ev.eq_17, EV.ev.eq_18, EV.ev.eq_19, EV.ev.eq_20, EV.ev.eq_21, EV.ev.eq_22, EV.ev.eq_23, EV.ev.eq_24, EV.ev.eq_25, EV.ev.eq_26, EV.runDef, EV.params, EV.runB, EV.enter, EV.slots0, EV.exS.eq_1, EV.exS.eq_2, EV.exS.eq_3, EV.exS.eq_4, EV.exS.eq_5, EV.exS.eq_6, EV.exS.eq_7, EV.exS.eq_8, EV.exS.eq_9, EV.exS.eq_10, EV.exS.eq_11, EV.exS.eq_14, EV.exS.eq_15, EV.exSs, EV.look, EV.stl, EV.isi, EV.tr, EV.leave, EV.frz, EV.lookAll, EV.afterCall, EV.lent, EV.takeO, EV.store, EV.builtin, EV.b_abs, EV.evA, EV.evO, EV.evC, EV.evI, -EV.bind_ok, s4_b2_law, c, isD, isConst, m1, m2]
theorem b2_4s {dr F g1 g3 M X1 X2 : D} {e f u v : Int} (m1 : binop .mul (.int x) (.int f) = some (.val (.int u))) (m2 : binop .mul (.int y) (.int e) = some (.val (.int v))) (hn : u ≠ v) (c : cmpop .ne (.tuple [X1, X2]) (.tuple [X1, X2]) = some false) (h1 : callF defs globs wf m 46 [F, .tuple [X1, X2], M] = val (.bool true)) (h2 : callF defs globs wf m 46 [.tuple [g1, .tuple [.int e, .int f], g3], .tuple [X1, X2], M] = val (.bool true)) :
    exS (cc wf m) none s4_b2_law (L2' sc dr F (.tuple [g1, .tuple [.int e, .int f], g3]) P x5 x y a8 (.f M) a10 a11 a12 a13 a14 a15 (.f (.tuple [X1, X2])) (.f (.tuple [X1, X2]))) = .ok (.nx, L2' sc dr F (.tuple [g1, .tuple [.int e, .int f], g3]) P x5 x y a8 (.f M) a10 a11 a12 a13 a14 a15 (.f (.tuple [X1, X2])) (.f (.tuple [X1, X2]))) := by
  simp [EV.ixD, EV.valsOf, EV.ev.eq_1, EV.ev.eq_2, EV.ev.eq_3, EV.ev.eq_4, EV.ev.eq_5, EV.ev.eq_6, EV.ev.eq_7, EV.ev.eq_8, EV.ev.eq_9, EV.ev.eq_10, EV.ev.eq_11, EV.ev.eq_12, EV.ev.eq_13, EV.ev.eq_14, EV.ev.eq_15, EV.ev.eq_16, EV.ev.eq_17, EV.ev.eq_18, EV.ev.eq_19, EV.ev.eq_20, EV.ev.eq_21, EV.ev.eq_22, EV.ev.eq_23, EV.ev.eq_24, EV.ev.eq_25, EV.ev.eq_26, EV.runDef, EV.params, EV.runB, EV.enter, EV.slots0, EV.exS.eq_1, EV.exS.eq_2, EV.exS.eq_3, EV.exS.eq_4, EV.exS.eq_5, EV.exS.eq_6, EV.exS.eq_7, EV.exS.eq_8, EV.exS.eq_9, EV.exS.eq_10, EV.exS.eq_11, EV.exS.eq_14, EV.exS.eq_15, EV.exSs, EV.look, EV.stl, EV.isi, EV.tr, EV.leave, EV.frz, EV.lookAll, EV.afterCall, EV.lent, EV.takeO, EV.store, EV.builtin, EV.b_abs, EV.evA, EV.evO, EV.evC, EV.evI, -EV.bind_ok, s4_b2_law, c, isD, isConst, m1, m2, hn, h1, h2]
end
theorem cm_ne_qq (a b c d : Rat) : cmpop .ne (.tuple [q a, q b]) (.tuple [q c, q d]) = some (!(decide (a = c) && decide (b = d))) := by
  have e : cmpop .ne (.tuple [q a, q b]) (.tuple [q c, q d]) = some (!PyData.eqv (.tuple [q a, q b]) (.tuple [q c, q d])) := rfl
  rw [e, eqv_tuple, eqv_cons, eqv_cons, eqv_nil, q, q, q, q, eqv_tuple, eqv_tuple, eqv_cons, eqv_cons, eqv_cons, eqv_cons, eqv_nil, eqv_int, eqv_int, eqv_int, eqv_int, Bool.and_true, Bool.and_true, Bool.and_true, q_eq, q_eq]
theorem bd_sub_int {f : Fr} {t : Rat} (h : f.ok) (ht : Bd 160 t) : Bd 300 (hx f t - f.by') ∧ Bd 300 (hy f t + f.bx) := by
  obtain ⟨h1, h2⟩ := bd_hx h ht
  constructor
  · rw [← sub_eq]
    exact bd_div (den_pos _) (lt2_mono (lt2_sub h1.1 (lt2_mul (lt2_30 h.by') h1.2)) (by decide)) (lt2_mono h1.2 (by decide))
  · rw [← add_eq]
    exact bd_div (den_pos _) (lt2_mono (lt2_add h2.1 (lt2_mul (lt2_30 h.bx) h2.2)) (by decide)) (lt2_mono h2.2 (by decide))
theorem bd_mxy {f g : Fr} {t : Rat} (h : f.ok) (hg : g.ok) (ht : Bd 60 t) (h0 : wh f g ≠ 0) : Bd 300 (mx f g t) ∧ Bd 300 (my f g t) := by
  have hq : lt2 180 ((f.s.den : Int) * t.den * (g.s.den * t.den)) := lt2_mono (lt2_mul (bd_dd h ht) (bd_dd hg ht)) (by decide)
  have hd : (f.s.den : Int) * t.den * (g.s.den * t.den) * wh f g ≠ 0 := by
    have := den_pos f.s
    have := den_pos g.s
    have := den_pos t
    simp [EV.ixD, EV.valsOf, EV.ev.eq_1, EV.ev.eq_2, EV.ev.eq_3, EV.ev.eq_4, EV.ev.eq_5, EV.ev.eq_6, EV.ev.eq_7, EV.ev.eq_8, EV.ev.eq_9, EV.ev.eq_10, EV.ev.eq_11, EV.ev.eq_12, EV.ev.eq_13, EV.ev.eq_14, EV.ev.eq_15, EV.ev.eq_16, EV.ev.eq_17, EV.ev.eq_18, EV.ev.eq_19, EV.ev.eq_20, EV.ev.eq_21, EV.ev.eq_22, EV.ev.eq_23, EV.ev.eq_24, EV.ev.eq_25, EV.ev.eq_26, EV.runDef, EV.params, EV.runB, EV.enter, EV.slots0, EV.exS.eq_1, EV.exS.eq_2, EV.exS.eq_3, EV.exS.eq_4, EV.exS.eq_5, EV.exS.eq_6, EV.exS.eq_7, EV.exS.eq_8, EV.exS.eq_9, EV.exS.eq_10, EV.exS.eq_11, EV.exS.eq_14, EV.exS.eq_15, EV.exSs, EV.look, EV.stl, EV.isi, EV.tr, EV.leave, EV.frz, EV.lookAll, EV.afterCall, EV.lent, EV.takeO, EV.store, EV.builtin, EV.b_abs, EV.evA, EV.evO, EV.evC, EV.evI, -EV.bind_ok, Int.mul_eq_zero]
    omega
  have hl := lt2_mono (lt2_mul hq (bd_wh h hg)) (show 180 + 61 ≤ 300 by decide)
  rw [← mx_eq t h0, ← my_eq t h0, Int.mul_one, Int.mul_one]
  exact ⟨bd_div' hd (bd_x h hg ht) hl, bd_div' hd (bd_y h hg ht) hl⟩
namespace Ctx
variable (c : Ctx)
def Pb2 (sc : D) (x5 : Sl) (ρ : Rho) : Prop := ∃ l a8 a9 a10 a11 a12 a13 a14 a15 a16 a17, Nn l ∧ ρ = L2' sc (encI l) (encF c.f) (encF c.g) (encPs c.ps) x5 c.f.bx c.f.by' a8 a9 a10 a11 a12 a13 a14 a15 a16 a17
theorem turnB (m : Nat) (sc : D) (x5 : Sl) (z : D) {ρ : Rho} (hρ : c.Pb2 sc x5 ρ) : ∃ ρ', forF (cc c.wf (m + 9)) none (.v 13) b2_law z ρ = .ok (.nx, ρ') ∧ c.Pb2 sc x5 ρ' := by
  obtain ⟨l, a8, a9, a10, a11, a12, a13, a14, a15, a16, a17, hl, rfl⟩ := hρ
  have hf := c.hf
  have hg := c.hg
  have hw := c.hw
  obtain ⟨t, l', n', bt, c47⟩ := minute_ok c.wf (m + 7) l hl
  have bt2 := bd_mono bt (show 30 ≤ 160 by decide)
  have bt3 := bd_mono bt (show 30 ≤ 60 by decide)
  have e0 : forF (cc c.wf (m + 9)) none (.v 13) b2_law z (L2' sc (encI l) (encF c.f) (encF c.g) (encPs c.ps) x5 c.f.bx c.f.by' a8 a9 a10 a11 a12 a13 a14 a15 a16 a17) = exSs (cc c.wf (m + 9)) none b2_law (L2' sc (encI l) (encF c.f) (encF c.g) (encPs c.ps) x5 c.f.bx c.f.by' a8 a9 a10 a11 a12 (.f z) a14 a15 a16 a17) := by
    simp [EV.ixD, EV.valsOf, EV.ev.eq_1, EV.ev.eq_2, EV.ev.eq_3, EV.ev.eq_4, EV.ev.eq_5, EV.ev.eq_6, EV.ev.eq_7, EV.ev.eq_8, EV.ev.eq_9, EV.ev.eq_10, EV.ev.eq_11, EV.ev.eq_12, EV.ev.eq_13, EV.ev.eq_14, EV.ev.eq_15, EV.ev.eq_16, EV.ev.eq_17, EV.ev.eq_18, EV.ev.eq_19, EV.ev.eq_20, EV.ev.eq_21, EV.ev.eq_22, EV.ev.eq_23, EV.ev.eq_24, EV.ev.eq_25, EV.ev.eq_26, EV.runDef, EV.params, EV.runB, EV.enter, EV.slots0, EV.exS.eq_1, EV.exS.eq_2, EV.exS.eq_3, EV.exS.eq_4, EV.exS.eq_5, EV.exS.eq_6, EV.exS.eq_7, EV.exS.eq_8, EV.exS.eq_9, EV.exS.eq_10, EV.exS.eq_11, EV.exS.eq_14, EV.exS.eq_15, EV.exSs, EV.look, EV.stl, EV.isi, EV.tr, EV.leave, EV.frz, EV.lookAll, EV.afterCall, EV.lent, EV.takeO, EV.store, EV.builtin, EV.b_abs, EV.evA, EV.evO, EV.evC, EV.evI, -EV.bind_ok, forF]
  have c31 := moved_ok (m + 2) hw hf bt2
  obtain ⟨bx, by1⟩ := bd_hx hf bt2
  obtain ⟨bx2, by2⟩ := bd_sub_int hf bt2
  obtain ⟨r1, hr1, k1⟩ := is_on_ok c.wf (m + 6) hf (bd_mono bx (show 260 ≤ 300 by decide)) (bd_mono by1 (show 260 ≤ 300 by decide)) bt2
  rw [hr1 (on_here c.f t)] at k1
  obtain ⟨r2, hr2, k2⟩ := is_on_ok c.wf (m + 6) hf bx2 by2 bt2
  rw [hr2 (on_side c.f t)] at k2
  have p1 := law_plus_ok c.wf (m + 7) bx (bd_int (lt2_neg (lt2_30 hf.by')) (by decide)) (by decide)
  have p2 := law_plus_ok c.wf (m + 7) by1 (bd_int (lt2_30 hf.bx) (by decide)) (by decide)
  rw [q_int] at p1 p2
  have cc1 := cm_ne_qq (hx c.f t - c.f.by') (hy c.f t + c.f.bx) (hx c.f t + ((-c.f.by' : Int) : Rat)) (hy c.f t + c.f.bx)
  rw [decide_eq_true (show hx c.f t - c.f.by' = hx c.f t + ((-c.f.by' : Int) : Rat) by push_cast; grind), decide_eq_true rfl] at cc1
  have s0 := b2_0 (sc := sc) (P := encPs c.ps) (x5 := x5) (x := c.f.bx) (y := c.f.by') (a8 := a8) (a9 := a9) (a10 := a10) (a11 := a11) (a12 := a12) (a13 := .f z) (a14 := a14) (a15 := a15) (a16 := a16) (a17 := a17) (F := encF c.f) (G := encF c.g) c47
  have s1 := b2_1 (dr := encI l') (sc := sc) (P := encPs c.ps) (x5 := x5) (x := c.f.bx) (y := c.f.by') (a8 := a8) (a10 := a10) (a11 := a11) (a12 := a12) (a13 := .f z) (a14 := a14) (a15 := a15) (a16 := a16) (a17 := a17) (F := encF c.f) (G := encF c.g) c31
  have s2 := b2_2 (dr := encI l') (sc := sc) (P := encPs c.ps) (x5 := x5) (x := c.f.bx) (y := c.f.by') (a8 := a8) (a10 := a10) (a11 := a11) (a12 := a12) (a13 := .f z) (a16 := a16) (a17 := a17) (F := encF c.f) (G := encF c.g) k1 k2 p1 p2 cc1
  by_cases h0 : wh c.f c.g = 0
  · have h0' : wh c.g c.f = 0 := by rw [wh_comm]; omega
    have s3 := b2_3 (dr := encI l') (sc := sc) (P := encPs c.ps) (x5 := x5) (x := c.f.bx) (y := c.f.by') (a8 := a8) (a10 := a10) (a11 := a11) (a12 := a12) (a13 := .f z) (a14 := .f (.tuple [q (hx c.f t), q (hy c.f t)])) (a15 := .f (.tuple [q (hx c.f t - c.f.by'), q (hy c.f t + c.f.bx)])) (a16 := a16) (a17 := a17) (F := encF c.f) (G := encF c.g) (meet_none (m + 1) hw hf hg bt3 h0) (meet_none (m + 1) hw hg hf bt3 h0')
    have m1 := bm (lt2_30 hf.bx) (lt2_30 hg.by') (by decide) (by decide)
    have m2 := bm (lt2_30 hf.by') (lt2_30 hg.bx) (by decide) (by decide)
    have e : c.f.by' * c.g.bx = c.f.bx * c.g.by' := by unfold wh at h0; omega
    rw [e] at m2
    have s4 := b2_4n (wf := c.wf) (m := m + 9) (dr := encI l') (sc := sc) (P := encPs c.ps) (x5 := x5) (a8 := a8) (a9 := .f (q t)) (a10 := a10) (a11 := a11) (a12 := a12) (a13 := .f z) (a14 := .f (.tuple [q (hx c.f t), q (hy c.f t)])) (a15 := .f (.tuple [q (hx c.f t - c.f.by'), q (hy c.f t + c.f.bx)])) (F := encF c.f) (g1 := .tuple [.int c.g.px, .int c.g.py]) (g3 := q c.g.s) m1 m2
    have key : exSs (cc c.wf (m + 9)) none b2_law (L2' sc (encI l) (encF c.f) (encF c.g) (encPs c.ps) x5 c.f.bx c.f.by' a8 a9 a10 a11 a12 (.f z) a14 a15 a16 a17) = .ok (.nx, L2' sc (encI l') (encF c.f) (encF c.g) (encPs c.ps) x5 c.f.bx c.f.by' a8 (.f (q t)) a10 a11 a12 (.f z) (.f (.tuple [q (hx c.f t), q (hy c.f t)])) (.f (.tuple [q (hx c.f t - c.f.by'), q (hy c.f t + c.f.bx)])) (.f .none) (.f .none)) := by
      unfold b2_law
      rw [exSs_nx s0, exSs_nx s1, exSs_nx s2, exSs_nx s3, exSs_nx s4, exSs]
    exact ⟨_, e0.trans key, _, _, _, _, _, _, _, _, _, _, _, n', rfl⟩
  · have h0' : wh c.g c.f ≠ 0 := by rw [wh_comm]; omega
    obtain ⟨mc1, mc2⟩ := meet_comm c.f c.g t h0
    have k3 := meet_some (m + 1) hw hf hg bt3 h0
    have k4 := meet_some (m + 1) hw hg hf bt3 h0'
    rw [mc1, mc2] at k4
    have s3 := b2_3 (dr := encI l') (sc := sc) (P := encPs c.ps) (x5 := x5) (x := c.f.bx) (y := c.f.by') (a8 := a8) (a10 := a10) (a11 := a11) (a12 := a12) (a13 := .f z) (a14 := .f (.tuple [q (hx c.f t), q (hy c.f t)])) (a15 := .f (.tuple [q (hx c.f t - c.f.by'), q (hy c.f t + c.f.bx)])) (a16 := a16) (a17 := a17) (F := encF c.f) (G := encF c.g) k3 k4
    have m1 := bm (lt2_30 hf.bx) (lt2_30 hg.by') (by decide) (by decide)
    have m2 := bm (lt2_30 hf.by') (lt2_30 hg.bx) (by decide) (by decide)
    have hn : c.f.bx * c.g.by' ≠ c.f.by' * c.g.bx := by unfold wh at h0; omega
    obtain ⟨o1, o2⟩ := on_meet c.f c.g t h0
    obtain ⟨bm1, bm2⟩ := bd_mxy hf hg bt3 h0
    obtain ⟨r3, hr3, k5⟩ := is_on_ok c.wf (m + 6) hf bm1 bm2 bt2
    rw [hr3 o1] at k5
    obtain ⟨r4, hr4, k6⟩ := is_on_ok c.wf (m + 6) hg bm1 bm2 bt2
    rw [hr4 o2] at k6
    have cc2 := cm_ne_qq (mx c.f c.g t) (my c.f c.g t) (mx c.f c.g t) (my c.f c.g t)
    rw [decide_eq_true rfl, decide_eq_true rfl] at cc2
    have s4 := b2_4s (dr := encI l') (sc := sc) (P := encPs c.ps) (x5 := x5) (a8 := a8) (a10 := a10) (a11 := a11) (a12 := a12) (a13 := .f z) (a14 := .f (.tuple [q (hx c.f t), q (hy c.f t)])) (a15 := .f (.tuple [q (hx c.f t - c.f.by'), q (hy c.f t + c.f.bx)])) m1 m2 hn cc2 k5 k6
    have key : exSs (cc c.wf (m + 9)) none b2_law (L2' sc (encI l) (encF c.f) (encF c.g) (encPs c.ps) x5 c.f.bx c.f.by' a8 a9 a10 a11 a12 (.f z) a14 a15 a16 a17) = .ok (.nx, L2' sc (encI l') (encF c.f) (encF c.g) (encPs c.ps) x5 c.f.bx c.f.by' a8 (.f (q t)) a10 a11 a12 (.f z) (.f (.tuple [q (hx c.f t), q (hy c.f t)])) (.f (.tuple [q (hx c.f t - c.f.by'), q (hy c.f t + c.f.bx)])) (.f (.tuple [q (mx c.f c.g t), q (my c.f c.g t)])) (.f (.tuple [q (mx c.f c.g t), q (my c.f c.g t)]))) := by
      unfold b2_law
      rw [exSs_nx s0, exSs_nx s1, exSs_nx s2, exSs_nx s3, exSs_nx s4, exSs]
    exact ⟨_, e0.trans key, _, _, _, _, _, _, _, _, _, _, _, n', rfl⟩
end Ctx
end K3
end

section
/-! M24 -/
set_option linter.all false
set_option maxRecDepth 100000
set_option maxHeartbeats 1000000
set_option exponentiation.threshold 5000
namespace K3
open PySem EV
theorem exSs_rt {C : Cfg} {io : Option Nat} {s : S} {ss : Ss} {ρ ρ' : Rho} {o : Opd} (h : exS C io s ρ = .ok (.rt o, ρ')) : exSs C io (.cons s ss) ρ = .ok (.rt o, ρ') := by
  rw [exSs, h]
  rfl
section
variable {wf m : Nat} {sc : D} {l l' l'' : List Int}
theorem w_0 (h : callF defs globs wf m 36 [sc] = .ok ⟨true, encI l, .none⟩) : exS (cc wf m) none s0_law [.f sc, .u, .u, .u, .u, .u, .u, .u, .u, .u, .u, .u, .u, .u, .u, .u, .u, .u, .u, .u] = .ok (.nx, [.f sc, .o (encI l), .u, .u, .u, .u, .u, .u, .u, .u, .u, .u, .u, .u, .u, .u, .u, .u, .u, .u]) := by
  unfold encI at *
  generalize l.map PyData.int = A at *
  simp [EV.ixD, EV.valsOf, EV.ev.eq_1, EV.ev.eq_2, EV.ev.eq_3, EV.ev.eq_4, EV.ev.eq_5, EV.ev.eq_6, EV.ev.eq_7, EV.ev.eq_8, EV.ev.eq_9, EV.ev.eq_10, EV.ev.eq_11, EV.ev.eq_12, EV.ev.eq_13, EV.ev.eq_14, EV.ev.eq_15, EV.ev.eq_16, EV.ev.eq_17, EV.ev.eq_18, EV.ev.eq_19, EV.ev.eq_20, EV.ev.eq_21, EV.ev.eq_22, EV.ev.eq_23, EV.ev.eq_24, EV.ev.eq_25, EV.ev.eq_26, EV.runDef, EV.params, EV.runB, EV.enter, EV.slots0, EV.exS.eq_1, EV.exS.eq_2, EV.exS.eq_3, EV.exS.eq_4, EV.exS.eq_5, EV.exS.eq_6, EV.exS.eq_7, EV.exS.eq_8, EV.exS.eq_9, EV.exS.eq_10, EV.exS.eq_11, EV.exS.eq_14, EV.exS.eq_15, EV.exSs, EV.look, EV.stl, EV.isi, EV.tr, EV.leave, EV.frz, EV.lookAll, EV.afterCall, EV.lent, EV.takeO, EV.store, EV.builtin, EV.b_abs, EV.evA, EV.evO, EV.evC, EV.evI, -EV.bind_ok, s0_law, h]
theorem w_1 {F G : D} (h1 : callF defs globs wf m 44 [encI l, .int 1001] = .ok ⟨false, F, encI l'⟩) (h2 : callF defs globs wf m 44 [encI l', .int 1001] = .ok ⟨false, G, encI l''⟩) : exS (cc wf m) none s1_law [.f sc, .o (encI l), .u, .u, .u, .u, .u, .u, .u, .u, .u, .u, .u, .u, .u, .u, .u, .u, .u, .u] = .ok (.nx, [.f sc, .o (encI l''), .f F, .f G, .u, .u, .u, .u, .u, .u, .u, .u, .u, .u, .u, .u, .u, .u, .u, .u]) := by
  unfold encI at *
  generalize l.map PyData.int = A at *
  generalize l'.map PyData.int = B at *
  generalize l''.map PyData.int = C at *
  simp [EV.ixD, EV.valsOf, EV.ev.eq_1, EV.ev.eq_2, EV.ev.eq_3, EV.ev.eq_4, EV.ev.eq_5, EV.ev.eq_6, EV.ev.eq_7, EV.ev.eq_8, EV.ev.eq_9, EV.ev.eq_10, EV.ev.eq_11, EV.ev.eq_12, EV.ev.eq_13, EV.ev.eq_14, EV.ev.eq_15, EV.ev.eq_16, EV.ev.eq_17, EV.ev.eq_18, EV.ev.eq_19, EV.ev.eq_20, EV.ev.eq_21, EV.ev.eq_22, EV.ev.eq_23, EV.ev.eq_24, EV.ev.eq_25, EV.ev.eq_26, EV.runDef, EV.params, EV.runB, EV.enter, EV.slots0, EV.exS.eq_1, EV.exS.eq_2, EV.exS.eq_3, EV.exS.eq_4, EV.exS.eq_5, EV.exS.eq_6, EV.exS.eq_7, EV.exS.eq_8, EV.exS.eq_9, EV.exS.eq_10, EV.exS.eq_11, EV.exS.eq_14, EV.exS.eq_15, EV.exSs, EV.look, EV.stl, EV.isi, EV.tr, EV.leave, EV.frz, EV.lookAll, EV.afterCall, EV.lent, EV.takeO, EV.store, EV.builtin, EV.b_abs, EV.evA, EV.evO, EV.evC, EV.evI, -EV.bind_ok, s1_law, h1, h2]
theorem w_2 {f1 f3 g1 g2 g3 V : D} {a b : Int} (h : callF defs globs wf m 38 [encI l, .list [.tuple [g1, g2, g3], .tuple [g1, g2, g3], .tuple [g1, .tuple [.int a, .int b], g3], .tuple [g1, .tuple [.int (-a), .int (-b)], g3]]] = .ok ⟨false, V, encI l'⟩) : exS (cc wf m) none s2_law [.f sc, .o (encI l), .f (.tuple [f1, .tuple [.int a, .int b], f3]), .f (.tuple [g1, g2, g3]), .u, .u, .u, .u, .u, .u, .u, .u, .u, .u, .u, .u, .u, .u, .u, .u] = .ok (.nx, [.f sc, .o (encI l'), .f (.tuple [f1, .tuple [.int a, .int b], f3]), .f V, .u, .u, .u, .u, .u, .u, .u, .u, .u, .u, .u, .u, .u, .u, .u, .u]) := by
  unfold encI at *
  generalize l.map PyData.int = A at *
  generalize l'.map PyData.int = B at *
  have e0 : ∀ z : Int, 0 - z = -z := fun z => by omega
  have k4 : (4 : Nat) ≤ sizeLine := by rw [sizeLine_eq]; omega
  simp [EV.ixD, EV.valsOf, EV.ev.eq_1, EV.ev.eq_2, EV.ev.eq_3, EV.ev.eq_4, EV.ev.eq_5, EV.ev.eq_6, EV.ev.eq_7, EV.ev.eq_8, EV.ev.eq_9, EV.ev.eq_10, EV.ev.eq_11, EV.ev.eq_12, EV.ev.eq_13, EV.ev.eq_14, EV.ev.eq_15, EV.ev.eq_16, EV.ev.eq_17, EV.ev.eq_18, EV.ev.eq_19, EV.ev.eq_20, EV.ev.eq_21, EV.ev.eq_22, EV.ev.eq_23, EV.ev.eq_24, EV.ev.eq_25, EV.ev.eq_26, EV.runDef, EV.params, EV.runB, EV.enter, EV.slots0, EV.exS.eq_1, EV.exS.eq_2, EV.exS.eq_3, EV.exS.eq_4, EV.exS.eq_5, EV.exS.eq_6, EV.exS.eq_7, EV.exS.eq_8, EV.exS.eq_9, EV.exS.eq_10, EV.exS.eq_11, EV.exS.eq_14, EV.exS.eq_15, EV.exSs, EV.look, EV.stl, EV.isi, EV.tr, EV.leave, EV.frz, EV.lookAll, EV.afterCall, EV.lent, EV.takeO, EV.store, EV.builtin, EV.b_abs, EV.evA, EV.evO, EV.evC, EV.evI, -EV.bind_ok, s2_law, e0, k4, h]
theorem w_3 {F G : D} {v : Int} {xs rg : List D} (h : callF defs globs wf m 37 [encI l, .int 60] = .ok ⟨false, .int v, encI l'⟩) (s62 : small62 (1 + v) = true) (hr : rngL 0 (1 + v).toNat = rg) (hl : rg.length ≤ sizeLine)
    (lc : lcLoop (itmF (cc wf m) none e0_law (.v 5) .no [5]) rg [.f sc, .o (encI l'), .f F, .f G, .u, .u, .u, .u, .u, .u, .u, .u, .u, .u, .u, .u, .u, .u, .u, .u] = .ok (xs, [.f sc, .o (encI l''), .f F, .f G, .u, .u, .u, .u, .u, .u, .u, .u, .u, .u, .u, .u, .u, .u, .u, .u])) :
    exS (cc wf m) none s3_law [.f sc, .o (encI l), .f F, .f G, .u, .u, .u, .u, .u, .u, .u, .u, .u, .u, .u, .u, .u, .u, .u, .u] = .ok (.nx, [.f sc, .o (encI l''), .f F, .f G, .o (.list xs), .u, .u, .u, .u, .u, .u, .u, .u, .u, .u, .u, .u, .u, .u, .u]) := by
  unfold encI at *
  generalize l.map PyData.int = A at *
  generalize l'.map PyData.int = B at *
  generalize l''.map PyData.int = C at *
  simp [EV.ixD, EV.valsOf, EV.ev.eq_1, EV.ev.eq_2, EV.ev.eq_3, EV.ev.eq_4, EV.ev.eq_5, EV.ev.eq_6, EV.ev.eq_7, EV.ev.eq_8, EV.ev.eq_9, EV.ev.eq_10, EV.ev.eq_11, EV.ev.eq_12, EV.ev.eq_13, EV.ev.eq_14, EV.ev.eq_15, EV.ev.eq_16, EV.ev.eq_17, EV.ev.eq_18, EV.ev.eq_19, EV.ev.eq_20, EV.ev.eq_21, EV.ev.eq_22, EV.ev.eq_23, EV.ev.eq_24, EV.ev.eq_25, EV.ev.eq_26, EV.runDef, EV.params, EV.runB, EV.enter, EV.slots0, EV.exS.eq_1, EV.exS.eq_2, EV.exS.eq_3, EV.exS.eq_4, EV.exS.eq_5, EV.exS.eq_6, EV.exS.eq_7, EV.exS.eq_8, EV.exS.eq_9, EV.exS.eq_10, EV.exS.eq_11, EV.exS.eq_14, EV.exS.eq_15, EV.exSs, EV.look, EV.stl, EV.isi, EV.tr, EV.leave, EV.frz, EV.lookAll, EV.afterCall, EV.lent, EV.takeO, EV.store, EV.builtin, EV.b_abs, EV.evA, EV.evO, EV.evC, EV.evI, -EV.bind_ok, s3_law, h, s62, hr, hl, plainAt_eq, hide, lc, unhide]
theorem w_it {F G d : D} {v w : Int} (h1 : callF defs globs wf m 37 [encI l, .int 1001] = .ok ⟨false, .int v, encI l'⟩) (h2 : callF defs globs wf m 37 [encI l', .int 1001] = .ok ⟨false, .int w, encI l''⟩) : itmF (cc wf m) none e0_law (.v 5) .no [5] d [.f sc, .o (encI l), .f F, .f G, .u, .u, .u, .u, .u, .u, .u, .u, .u, .u, .u, .u, .u, .u, .u, .u] = .ok (some (.tuple [.int v, .int w]), [.f sc, .o (encI l''), .f F, .f G, .u, .u, .u, .u, .u, .u, .u, .u, .u, .u, .u, .u, .u, .u, .u, .u]) := by
  unfold encI at *
  generalize l.map PyData.int = A at *
  generalize l'.map PyData.int = B at *
  generalize l''.map PyData.int = C at *
  simp [EV.ixD, EV.valsOf, EV.ev.eq_1, EV.ev.eq_2, EV.ev.eq_3, EV.ev.eq_4, EV.ev.eq_5, EV.ev.eq_6, EV.ev.eq_7, EV.ev.eq_8, EV.ev.eq_9, EV.ev.eq_10, EV.ev.eq_11, EV.ev.eq_12, EV.ev.eq_13, EV.ev.eq_14, EV.ev.eq_15, EV.ev.eq_16, EV.ev.eq_17, EV.ev.eq_18, EV.ev.eq_19, EV.ev.eq_20, EV.ev.eq_21, EV.ev.eq_22, EV.ev.eq_23, EV.ev.eq_24, EV.ev.eq_25, EV.ev.eq_26, EV.runDef, EV.params, EV.runB, EV.enter, EV.slots0, EV.exS.eq_1, EV.exS.eq_2, EV.exS.eq_3, EV.exS.eq_4, EV.exS.eq_5, EV.exS.eq_6, EV.exS.eq_7, EV.exS.eq_8, EV.exS.eq_9, EV.exS.eq_10, EV.exS.eq_11, EV.exS.eq_14, EV.exS.eq_15, EV.exSs, EV.look, EV.stl, EV.isi, EV.tr, EV.leave, EV.frz, EV.lookAll, EV.afterCall, EV.lent, EV.takeO, EV.store, EV.builtin, EV.b_abs, EV.evA, EV.evO, EV.evC, EV.evI, -EV.bind_ok, itmF, e0_law, h1, h2, hide]
theorem w_4 {F G : D} {xs : List D} (h1 : callF defs globs wf m 9 [F] = val (.bool true)) (h2 : callF defs globs wf m 9 [G] = val (.bool true)) (h3 : callF defs globs wf m 39 [.list [.bool true, .bool true], .list [.bool true, .bool true]] = val (.bool true)) (h4 : callF defs globs wf m 48 [encI l, F, G, .list xs] = .ok ⟨false, .bool true, encI l'⟩) :
    exS (cc wf m) none s4_law [.f sc, .o (encI l), .f F, .f G, .o (.list xs), .u, .u, .u, .u, .u, .u, .u, .u, .u, .u, .u, .u, .u, .u, .u] = .ok (.nx, [.f sc, .o (encI l'), .f F, .f G, .f (.list xs), .u, .u, .u, .u, .u, .u, .u, .u, .u, .u, .u, .u, .u, .u, .u]) := by
  unfold encI at *
  generalize l.map PyData.int = A at *
  generalize l'.map PyData.int = B at *
  have k2 : (2 : Nat) ≤ sizeLine := by rw [sizeLine_eq]; omega
  simp [EV.ixD, EV.valsOf, EV.ev.eq_1, EV.ev.eq_2, EV.ev.eq_3, EV.ev.eq_4, EV.ev.eq_5, EV.ev.eq_6, EV.ev.eq_7, EV.ev.eq_8, EV.ev.eq_9, EV.ev.eq_10, EV.ev.eq_11, EV.ev.eq_12, EV.ev.eq_13, EV.ev.eq_14, EV.ev.eq_15, EV.ev.eq_16, EV.ev.eq_17, EV.ev.eq_18, EV.ev.eq_19, EV.ev.eq_20, EV.ev.eq_21, EV.ev.eq_22, EV.ev.eq_23, EV.ev.eq_24, EV.ev.eq_25, EV.ev.eq_26, EV.runDef, EV.params, EV.runB, EV.enter, EV.slots0, EV.exS.eq_1, EV.exS.eq_2, EV.exS.eq_3, EV.exS.eq_4, EV.exS.eq_5, EV.exS.eq_6, EV.exS.eq_7, EV.exS.eq_8, EV.exS.eq_9, EV.exS.eq_10, EV.exS.eq_11, EV.exS.eq_14, EV.exS.eq_15, EV.exSs, EV.look, EV.stl, EV.isi, EV.tr, EV.leave, EV.frz, EV.lookAll, EV.afterCall, EV.lent, EV.takeO, EV.store, EV.builtin, EV.b_abs, EV.evA, EV.evO, EV.evC, EV.evI, -EV.bind_ok, s4_law, h1, h2, h3, h4, k2]
theorem w_5 {dr f1 f3 G P : D} {a b : Int} : exS (cc wf m) none s5_law [.f sc, .o dr, .f (.tuple [f1, .tuple [.int a, .int b], f3]), .f G, .f P, .u, .u, .u, .u, .u, .u, .u, .u, .u, .u, .u, .u, .u, .u, .u] = .ok (.nx, L1 sc dr (.tuple [f1, .tuple [.int a, .int b], f3]) G P .u a b .u .u .u .u .u) := by
  simp [EV.ixD, EV.valsOf, EV.ev.eq_1, EV.ev.eq_2, EV.ev.eq_3, EV.ev.eq_4, EV.ev.eq_5, EV.ev.eq_6, EV.ev.eq_7, EV.ev.eq_8, EV.ev.eq_9, EV.ev.eq_10, EV.ev.eq_11, EV.ev.eq_12, EV.ev.eq_13, EV.ev.eq_14, EV.ev.eq_15, EV.ev.eq_16, EV.ev.eq_17, EV.ev.eq_18, EV.ev.eq_19, EV.ev.eq_20, EV.ev.eq_21, EV.ev.eq_22, EV.ev.eq_23, EV.ev.eq_24, EV.ev.eq_25, EV.ev.eq_26, EV.runDef, EV.params, EV.runB, EV.enter, EV.slots0, EV.exS.eq_1, EV.exS.eq_2, EV.exS.eq_3, EV.exS.eq_4, EV.exS.eq_5, EV.exS.eq_6, EV.exS.eq_7, EV.exS.eq_8, EV.exS.eq_9, EV.exS.eq_10, EV.exS.eq_11, EV.exS.eq_14, EV.exS.eq_15, EV.exSs, EV.look, EV.stl, EV.isi, EV.tr, EV.leave, EV.frz, EV.lookAll, EV.afterCall, EV.lent, EV.takeO, EV.store, EV.builtin, EV.b_abs, EV.evA, EV.evO, EV.evC, EV.evI, -EV.bind_ok, s5_law]
theorem w_6 {dr F G : D} {xs : List D} {x y : Int} {ρ' : Rho} (h : forLoop (forF (cc wf m) none (.v 8) b1_law) (xs.take 8) (L1 sc dr F G (.list xs) .u x y .u .u .u .u .u) = .ok (.nx, ρ')) : exS (cc wf m) none s6_law (L1 sc dr F G (.list xs) .u x y .u .u .u .u .u) = .ok (.nx, ρ') := by
  have c8 := cut_take xs 8
  rw [show ((8 : Nat) : Int) = 8 from rfl] at c8
  simp [EV.ixD, EV.valsOf, EV.ev.eq_1, EV.ev.eq_2, EV.ev.eq_3, EV.ev.eq_4, EV.ev.eq_5, EV.ev.eq_6, EV.ev.eq_7, EV.ev.eq_8, EV.ev.eq_9, EV.ev.eq_10, EV.ev.eq_11, EV.ev.eq_12, EV.ev.eq_13, EV.ev.eq_14, EV.ev.eq_15, EV.ev.eq_16, EV.ev.eq_17, EV.ev.eq_18, EV.ev.eq_19, EV.ev.eq_20, EV.ev.eq_21, EV.ev.eq_22, EV.ev.eq_23, EV.ev.eq_24, EV.ev.eq_25, EV.ev.eq_26, EV.runDef, EV.params, EV.runB, EV.enter, EV.slots0, EV.exS.eq_1, EV.exS.eq_2, EV.exS.eq_3, EV.exS.eq_4, EV.exS.eq_5, EV.exS.eq_6, EV.exS.eq_7, EV.exS.eq_8, EV.exS.eq_9, EV.exS.eq_10, EV.exS.eq_11, EV.exS.eq_14, EV.exS.eq_15, EV.exSs, EV.look, EV.stl, EV.isi, EV.tr, EV.leave, EV.frz, EV.lookAll, EV.afterCall, EV.lent, EV.takeO, EV.store, EV.builtin, EV.b_abs, EV.evA, EV.evO, EV.evC, EV.evI, -EV.bind_ok, s6_law, slD, c8, h]
theorem w_7 {ρ ρ' : Rho} (h : forLoop (forF (cc wf m) none (.v 13) b2_law) (rngL 0 6) ρ = .ok (.nx, ρ')) : exS (cc wf m) none s7_law ρ = .ok (.nx, ρ') := by
  have e0 : small62 6 = true := by decide
  simp [EV.ixD, EV.valsOf, EV.ev.eq_1, EV.ev.eq_2, EV.ev.eq_3, EV.ev.eq_4, EV.ev.eq_5, EV.ev.eq_6, EV.ev.eq_7, EV.ev.eq_8, EV.ev.eq_9, EV.ev.eq_10, EV.ev.eq_11, EV.ev.eq_12, EV.ev.eq_13, EV.ev.eq_14, EV.ev.eq_15, EV.ev.eq_16, EV.ev.eq_17, EV.ev.eq_18, EV.ev.eq_19, EV.ev.eq_20, EV.ev.eq_21, EV.ev.eq_22, EV.ev.eq_23, EV.ev.eq_24, EV.ev.eq_25, EV.ev.eq_26, EV.runDef, EV.params, EV.runB, EV.enter, EV.slots0, EV.exS.eq_1, EV.exS.eq_2, EV.exS.eq_3, EV.exS.eq_4, EV.exS.eq_5, EV.exS.eq_6, EV.exS.eq_7, EV.exS.eq_8, EV.exS.eq_9, EV.exS.eq_10, EV.exS.eq_11, EV.exS.eq_14, EV.exS.eq_15, EV.exSs, EV.look, EV.stl, EV.isi, EV.tr, EV.leave, EV.frz, EV.lookAll, EV.afterCall, EV.lent, EV.takeO, EV.store, EV.builtin, EV.b_abs, EV.evA, EV.evO, EV.evC, EV.evI, -EV.bind_ok, s7_law, e0, h]
abbrev L3 (sc dr F G P : D) (x5 : Sl) (x y : Int) (a8 a9 a10 a11 a12 a13 a14 a15 a16 a17 : Sl) (W : D) (a19 : Sl) : Rho := [.f sc, .o dr, .f F, .f G, .f P, x5, .f (.int x), .f (.int y), a8, a9, a10, a11, a12, a13, a14, a15, a16, a17, .f W, a19]
variable {dr P : D} {x5 a8 a9 a10 a11 a12 a13 a14 a15 a16 a17 a19 : Sl} {x y : Int}
theorem w_8 {F G W : D} (h : callF defs globs wf m 32 [F, G] = val W) : exS (cc wf m) none s8_law (L2' sc dr F G P x5 x y a8 a9 a10 a11 a12 a13 a14 a15 a16 a17) = .ok (.nx, L3 sc dr F G P x5 x y a8 a9 a10 a11 a12 a13 a14 a15 a16 a17 W .u) := by
  simp [EV.ixD, EV.valsOf, EV.ev.eq_1, EV.ev.eq_2, EV.ev.eq_3, EV.ev.eq_4, EV.ev.eq_5, EV.ev.eq_6, EV.ev.eq_7, EV.ev.eq_8, EV.ev.eq_9, EV.ev.eq_10, EV.ev.eq_11, EV.ev.eq_12, EV.ev.eq_13, EV.ev.eq_14, EV.ev.eq_15, EV.ev.eq_16, EV.ev.eq_17, EV.ev.eq_18, EV.ev.eq_19, EV.ev.eq_20, EV.ev.eq_21, EV.ev.eq_22, EV.ev.eq_23, EV.ev.eq_24, EV.ev.eq_25, EV.ev.eq_26, EV.runDef, EV.params, EV.runB, EV.enter, EV.slots0, EV.exS.eq_1, EV.exS.eq_2, EV.exS.eq_3, EV.exS.eq_4, EV.exS.eq_5, EV.exS.eq_6, EV.exS.eq_7, EV.exS.eq_8, EV.exS.eq_9, EV.exS.eq_10, EV.exS.eq_11, EV.exS.eq_14, EV.exS.eq_15, EV.exSs, EV.look, EV.stl, EV.isi, EV.tr, EV.leave, EV.frz, EV.lookAll, EV.afterCall, EV.lent, EV.takeO, EV.store, EV.builtin, EV.b_abs, EV.evA, EV.evO, EV.evC, EV.evI, -EV.bind_ok, s8_law, h]
theorem w_9n {F G : D} (h : callF defs globs wf m 32 [G, F] = val .none) : exS (cc wf m) none s9_law (L3 sc dr F G P x5 x y a8 a9 a10 a11 a12 a13 a14 a15 a16 a17 .none a19) = .ok (.nx, L3 sc dr F G P x5 x y a8 a9 a10 a11 a12 a13 a14 a15 a16 a17 .none a19) := by
  have c : cmpop .ne .none .none = some false := rfl
  simp [EV.ixD, EV.valsOf, EV.ev.eq_1, EV.ev.eq_2, EV.ev.eq_3, EV.ev.eq_4, EV.ev.eq_5, EV.ev.eq_6, EV.ev.eq_7, EV.ev.eq_8, EV.ev.eq_9, EV.ev.eq_10, EV.ev.eq_11, EV.ev.eq_12, EV.ev.eq_13, EV.ev.eq_14, EV.ev.eq_15, EV.ev.eq_16, EV.ev.eq_17, EV.ev.eq_18, EV.ev.eq_19, EV.ev.eq_20, EV.ev.eq_21, EV.ev.eq_22, EV.ev.eq_23, EV.ev.eq_24, EV.ev.eq_25, EV.ev.eq_26, EV.runDef, EV.params, EV.runB, EV.enter, EV.slots0, EV.exS.eq_1, EV.exS.eq_2, EV.exS.eq_3, EV.exS.eq_4, EV.exS.eq_5, EV.exS.eq_6, EV.exS.eq_7, EV.exS.eq_8, EV.exS.eq_9, EV.exS.eq_10, EV.exS.eq_11, EV.exS.eq_14, EV.exS.eq_15, EV.exSs, EV.look, EV.stl, EV.isi, EV.tr, EV.leave, EV.frz, EV.lookAll, EV.afterCall, EV.lent, EV.takeO, EV.store, EV.builtin, EV.b_abs, EV.evA, EV.evO, EV.evC, EV.evI, -EV.bind_ok, s9_law, h, c, isD, isConst]
theorem w_9s {F g1 g3 : D} {e f u tn td : Int} (h : callF defs globs wf m 32 [.tuple [g1, .tuple [.int e, .int f], g3], F] = val (.tuple [.int tn, .int td])) (c : cmpop .ne (.tuple [.int tn, .int td]) (.tuple [.int tn, .int td]) = some false) (m1 : binop .mul (.int x) (.int f) = some (.val (.int u))) (m2 : binop .mul (.int y) (.int e) = some (.val (.int u))) :
    exS (cc wf m) none s9_law (L3 sc dr F (.tuple [g1, .tuple [.int e, .int f], g3]) P x5 x y a8 a9 a10 a11 a12 a13 a14 a15 a16 a17 (.tuple [.int tn, .int td]) a19) = .ok (.nx, L3 sc dr F (.tuple [g1, .tuple [.int e, .int f], g3]) P x5 x y a8 a9 a10 a11 a12 a13 a14 a15 a16 a17 (.tuple [.int tn, .int td]) a19) := by
  simp [EV.ixD, EV.valsOf, EV.ev.eq_1, EV.ev.eq_2, EV.ev.eq_3, EV.ev.eq_4, EV.ev.eq_5, EV.ev.eq_6, EV.ev.eq_7, EV.ev.eq_8, EV.ev.eq_9, EV.ev.eq_10, EV.ev.eq_11, EV.ev.eq_12, EV.ev.eq_13, EV.ev.eq_14, EV.ev.eq_15, EV.ev.eq_16, EV.ev.eq_17, EV.ev.eq_18, EV.ev.eq_19, EV.ev.eq_20, EV.ev.eq_21, EV.ev.eq_22, EV.ev.eq_23, EV.ev.eq_24, EV.ev.eq_25, EV.ev.eq_26, EV.runDef, EV.params, EV.runB, EV.enter, EV.slots0, EV.exS.eq_1, EV.exS.eq_2, EV.exS.eq_3, EV.exS.eq_4, EV.exS.eq_5, EV.exS.eq_6, EV.exS.eq_7, EV.exS.eq_8, EV.exS.eq_9, EV.exS.eq_10, EV.exS.eq_11, EV.exS.eq_14, EV.exS.eq_15, EV.exSs, EV.look, EV.stl, EV.isi, EV.tr, EV.leave, EV.frz, EV.lookAll, EV.afterCall, EV.lent, EV.takeO, EV.store, EV.builtin, EV.b_abs, EV.evA, EV.evO, EV.evC, EV.evI, -EV.bind_ok, s9_law, h, c, isD, isConst, m1, m2]
theorem w_10n {F G : D} : exS (cc wf m) none s10_law (L3 sc dr F G P x5 x y a8 a9 a10 a11 a12 a13 a14 a15 a16 a17 .none a19) = .ok (.nx, L3 sc dr F G P x5 x y a8 a9 a10 a11 a12 a13 a14 a15 a16 a17 .none a19) := by
  simp [EV.ixD, EV.valsOf, EV.ev.eq_1, EV.ev.eq_2, EV.ev.eq_3, EV.ev.eq_4, EV.ev.eq_5, EV.ev.eq_6, EV.ev.eq_7, EV.ev.eq_8, EV.ev.eq_9, EV.ev.eq_10, EV.ev.eq_11, EV.ev.eq_12, EV.ev.eq_13, EV.ev.eq_14, EV.ev.eq_15, EV.ev.eq_16, EV.ev.eq_17, EV.ev.eq_18, EV.ev.eq_19, EV.ev.eq_20, EV.ev.eq_21, EV.ev.eq_22, EV.ev.eq_23, EV.ev.eq_24, EV.ev.eq_25, EV.ev.eq_26, EV.runDef, EV.params, EV.runB, EV.enter, EV.slots0, EV.exS.eq_1, EV.exS.eq_2, EV.exS.eq_3, EV.exS.eq_4, EV.exS.eq_5, EV.exS.eq_6, EV.exS.eq_7, EV.exS.eq_8, EV.exS.eq_9, EV.exS.eq_10, EV.exS.eq_11, EV.exS.eq_14, EV.exS.eq_15, EV.exSs, EV.look, EV.stl, EV.isi, EV.tr, EV.leave, EV.frz, EV.lookAll, EV.afterCall, EV.lent, EV.takeO, EV.store, EV.builtin, EV.b_abs, EV.evA, EV.evO, EV.evC, EV.evI, -EV.bind_ok, s10_law, isD, isConst]
theorem w_10s {F G H S : D} {tn td : Int} (h : callF defs globs wf m 31 [F, .int tn, .int td] = val (.tuple [H, S])) (h1 : callF defs globs wf m 46 [G, H, .tuple [.int tn, .int td]] = val (.bool true)) (h2 : callF defs globs wf m 46 [G, S, .tuple [.int tn, .int td]] = val (.bool true)) :
    exS (cc wf m) none s10_law (L3 sc dr F G P x5 x y a8 a9 a10 a11 a12 a13 a14 a15 a16 a17 (.tuple [.int tn, .int td]) a19) = .ok (.rt (.val (.bool true)), L3 sc dr F G P x5 x y a8 a9 a10 a11 a12 a13 (.f H) a15 a16 a17 (.tuple [.int tn, .int td]) (.f S)) := by
  simp [EV.ixD, EV.valsOf, EV.ev.eq_1, EV.ev.eq_2, EV.ev.eq_3, EV.ev.eq_4, EV.ev.eq_5, EV.ev.eq_6, EV.ev.eq_7, EV.ev.eq_8, EV.ev.eq_9, EV.ev.eq_10, EV.ev.eq_11, EV.ev.eq_12, EV.ev.eq_13, EV.ev.eq_14, EV.ev.eq_15, EV.ev.eq_16, EV.ev.eq_17, EV.ev.eq_18, EV.ev.eq_19, EV.ev.eq_20, EV.ev.eq_21, EV.ev.eq_22, EV.ev.eq_23, EV.ev.eq_24, EV.ev.eq_25, EV.ev.eq_26, EV.runDef, EV.params, EV.runB, EV.enter, EV.slots0, EV.exS.eq_1, EV.exS.eq_2, EV.exS.eq_3, EV.exS.eq_4, EV.exS.eq_5, EV.exS.eq_6, EV.exS.eq_7, EV.exS.eq_8, EV.exS.eq_9, EV.exS.eq_10, EV.exS.eq_11, EV.exS.eq_14, EV.exS.eq_15, EV.exSs, EV.look, EV.stl, EV.isi, EV.tr, EV.leave, EV.frz, EV.lookAll, EV.afterCall, EV.lent, EV.takeO, EV.store, EV.builtin, EV.b_abs, EV.evA, EV.evO, EV.evC, EV.evI, -EV.bind_ok, s10_law, isD, isConst, h, h1, h2]
theorem w_11a {F g1 g3 W : D} {e f u v : Int} (m1 : binop .mul (.int x) (.int f) = some (.val (.int u))) (m2 : binop .mul (.int y) (.int e) = some (.val (.int v))) (hn : u ≠ v) :
    exS (cc wf m) none s11_law (L3 sc dr F (.tuple [g1, .tuple [.int e, .int f], g3]) P x5 x y a8 a9 a10 a11 a12 a13 a14 a15 a16 a17 W a19) = .ok (.rt (.val (.bool true)), L3 sc dr F (.tuple [g1, .tuple [.int e, .int f], g3]) P x5 x y a8 a9 a10 a11 a12 a13 a14 a15 a16 a17 W a19) := by
  simp [EV.ixD, EV.valsOf, EV.ev.eq_1, EV.ev.eq_2, EV.ev.eq_3, EV.ev.eq_4, EV.ev.eq_5, EV.ev.eq_6, EV.ev.eq_7, EV.ev.eq_8, EV.ev.eq_9, EV.ev.eq_10, EV.ev.eq_11, EV.ev.eq_12, EV.ev.eq_13, EV.ev.eq_14, EV.ev.eq_15, EV.ev.eq_16, EV.ev.eq_17, EV.ev.eq_18, EV.ev.eq_19, EV.ev.eq_20, EV.ev.eq_21, EV.ev.eq_22, EV.ev.eq_23, EV.ev.eq_24, EV.ev.eq_25, EV.ev.eq_26, EV.runDef, EV.params, EV.runB, EV.enter, EV.slots0, EV.exS.eq_1, EV.exS.eq_2, EV.exS.eq_3, EV.exS.eq_4, EV.exS.eq_5, EV.exS.eq_6, EV.exS.eq_7, EV.exS.eq_8, EV.exS.eq_9, EV.exS.eq_10, EV.exS.eq_11, EV.exS.eq_14, EV.exS.eq_15, EV.exSs, EV.look, EV.stl, EV.isi, EV.tr, EV.leave, EV.frz, EV.lookAll, EV.afterCall, EV.lent, EV.takeO, EV.store, EV.builtin, EV.b_abs, EV.evA, EV.evO, EV.evC, EV.evI, -EV.bind_ok, s11_law, m1, m2, hn]
theorem w_11b {f1 g1 W s : D} {e f u : Int} (m1 : binop .mul (.int x) (.int f) = some (.val (.int u))) (m2 : binop .mul (.int y) (.int e) = some (.val (.int u))) (c : cmpop .eq s s = some true) :
    exS (cc wf m) none s11_law (L3 sc dr (.tuple [f1, .tuple [.int e, .int f], s]) (.tuple [g1, .tuple [.int e, .int f], s]) P x5 x y a8 a9 a10 a11 a12 a13 a14 a15 a16 a17 W a19) = .ok (.rt (.val (.bool true)), L3 sc dr (.tuple [f1, .tuple [.int e, .int f], s]) (.tuple [g1, .tuple [.int e, .int f], s]) P x5 x y a8 a9 a10 a11 a12 a13 a14 a15 a16 a17 W a19) := by
  simp [EV.ixD, EV.valsOf, EV.ev.eq_1, EV.ev.eq_2, EV.ev.eq_3, EV.ev.eq_4, EV.ev.eq_5, EV.ev.eq_6, EV.ev.eq_7, EV.ev.eq_8, EV.ev.eq_9, EV.ev.eq_10, EV.ev.eq_11, EV.ev.eq_12, EV.ev.eq_13, EV.ev.eq_14, EV.ev.eq_15, EV.ev.eq_16, EV.ev.eq_17, EV.ev.eq_18, EV.ev.eq_19, EV.ev.eq_20, EV.ev.eq_21, EV.ev.eq_22, EV.ev.eq_23, EV.ev.eq_24, EV.ev.eq_25, EV.ev.eq_26, EV.runDef, EV.params, EV.runB, EV.enter, EV.slots0, EV.exS.eq_1, EV.exS.eq_2, EV.exS.eq_3, EV.exS.eq_4, EV.exS.eq_5, EV.exS.eq_6, EV.exS.eq_7, EV.exS.eq_8, EV.exS.eq_9, EV.exS.eq_10, EV.exS.eq_11, EV.exS.eq_14, EV.exS.eq_15, EV.exSs, EV.look, EV.stl, EV.isi, EV.tr, EV.leave, EV.frz, EV.lookAll, EV.afterCall, EV.lent, EV.takeO, EV.store, EV.builtin, EV.b_abs, EV.evA, EV.evO, EV.evC, EV.evI, -EV.bind_ok, s11_law, m1, m2, c]
end
end K3
end

section
/-! M25 -/
set_option linter.all false
set_option maxRecDepth 100000
set_option maxHeartbeats 1000000
set_option exponentiation.threshold 5000
namespace K3
open PySem EV
theorem loop_all {f : D → Rho → Rs (Fl × Rho)} (P : Rho → Prop) : ∀ {ds : List D} {ρ : Rho}, (∀ d ∈ ds, ∀ ρ, P ρ → ∃ ρ', f d ρ = .ok (.nx, ρ') ∧ P ρ') → P ρ → ∃ ρ', forLoop f ds ρ = .ok (.nx, ρ') ∧ P ρ'
  | [], ρ, _, p => ⟨ρ, rfl, p⟩
  | d :: ds, ρ, h, p => by
    obtain ⟨ρ1, e1, p1⟩ := h d List.mem_cons_self ρ p
    obtain ⟨ρ2, e2, p2⟩ := loop_all P (fun d hd ρ p => h d (List.mem_cons_of_mem _ hd) ρ p) p1
    exact ⟨ρ2, (fl_nx e1).trans e2, p2⟩
theorem pairs_of {xs : List D} (h : ∀ x ∈ xs, ∃ p : Int × Int, okP p ∧ x = encP p) : ∃ ps : List (Int × Int), xs = ps.map encP ∧ ∀ p ∈ ps, okP p := by
  induction xs with
  | nil => exact ⟨[], rfl, by simp⟩
  | cons x xs ih =>
    obtain ⟨ps, rfl, h2⟩ := ih (fun y hy => h y (List.mem_cons_of_mem _ hy))
    obtain ⟨p, hp, rfl⟩ := h x List.mem_cons_self
    refine ⟨p :: ps, rfl, ?_⟩
    intro r hr
    rcases List.mem_cons.mp hr with rfl | hr
    · exact hp
    · exact h2 r hr
theorem neg_ok {f g : Fr} (h : f.ok) (hg : g.ok) : Fr.ok ⟨g.px, g.py, f.bx, f.by', g.s⟩ ∧ Fr.ok ⟨g.px, g.py, -f.bx, -f.by', g.s⟩ := by
  refine ⟨⟨hg.p, h.bx, h.by', h.g, hg.s, hg.sb⟩, ⟨hg.p, ?_, ?_, ?_, hg.s, hg.sb⟩⟩
  · show (-f.bx).natAbs ≤ _
    rw [Int.natAbs_neg]; exact h.bx
  · show (-f.by').natAbs ≤ _
    rw [Int.natAbs_neg]; exact h.by'
  · show Int.gcd (-f.bx) (-f.by') = 1
    rw [Int.gcd_neg, Int.neg_gcd]; exact h.g
/-- the law's own places -/
theorem places_ok (wf m : Nat) (sc F G : D) (l : List Int) (hl : Nn l) (ds : List D) : ∃ (ps : List (Int × Int)) (l' : List Int), Nn l' ∧ (∀ p ∈ ps, okP p) ∧ ps.length = ds.length ∧ lcLoop (itmF (cc wf (m + 1)) none e0_law (.v 5) .no [5]) ds [.f sc, .o (encI l), .f F, .f G, .u, .u, .u, .u, .u, .u, .u, .u, .u, .u, .u, .u, .u, .u, .u, .u] = .ok (ps.map encP, [.f sc, .o (encI l'), .f F, .f G, .u, .u, .u, .u, .u, .u, .u, .u, .u, .u, .u, .u, .u, .u, .u, .u]) := by
  obtain ⟨xs, ρ', e, len, hq, l', nl', rfl⟩ := lc_inv (f := itmF (cc wf (m + 1)) none e0_law (.v 5) .no [5]) (fun ρ => ∃ l, Nn l ∧ ρ = [.f sc, .o (encI l), .f F, .f G, .u, .u, .u, .u, .u, .u, .u, .u, .u, .u, .u, .u, .u, .u, .u, .u]) (fun x => ∃ p : Int × Int, okP p ∧ x = encP p) (ds := ds) (ρ := [.f sc, .o (encI l), .f F, .f G, .u, .u, .u, .u, .u, .u, .u, .u, .u, .u, .u, .u, .u, .u, .u, .u]) (by
    rintro d ρ ⟨l, hl, rfl⟩
    obtain ⟨v, l1, v1, v2, n1, t1⟩ := take_ok wf m l 1001 hl (by omega)
    obtain ⟨w, l2, w1, w2, n2, t2⟩ := take_ok wf m l1 1001 n1 (by omega)
    exact ⟨_, _, w_it t1 t2, ⟨(v, w), ⟨⟨v1, by show v ≤ 1000; omega⟩, w1, by show w ≤ 1000; omega⟩, rfl⟩, l2, n2, rfl⟩) ⟨l, hl, rfl⟩
  obtain ⟨ps, rfl, hp⟩ := pairs_of hq
  exact ⟨ps, l', nl', hp, by simpa using len, e⟩
theorem law_ok (wf M : Nat) (hw : 2 ^ 400 ≤ wf) (ns : List Int) (hn : ns.length ≤ 63) : callF defs globs wf (M + 10) 49 [encI ns] = val (.bool true) := by
  rw [call_def d_law]
  obtain ⟨l0, n0, c36⟩ := draws_ok wf (M + 8) ns hn
  obtain ⟨f, l1, n1, hf, hs, c44⟩ := front_ok wf (M + 6) l0 n0
  obtain ⟨g0, l2, n2, hg0, _, c44'⟩ := front_ok wf (M + 6) l1 n1
  obtain ⟨V, l3, hV, n3, c38⟩ := pick_ok wf (M + 7) l2 [encF g0, encF g0, encF ⟨g0.px, g0.py, f.bx, f.by', g0.s⟩, encF ⟨g0.px, g0.py, -f.bx, -f.by', g0.s⟩] n2 (by simp)
  obtain ⟨g, hg, rfl⟩ : ∃ g : Fr, g.ok ∧ V = encF g := by
    obtain ⟨k1, k2⟩ := neg_ok hf hg0
    rw [List.mem_cons, List.mem_cons, List.mem_cons, List.mem_singleton] at hV
    rcases hV with rfl | rfl | rfl | rfl
    · exact ⟨g0, hg0, rfl⟩
    · exact ⟨g0, hg0, rfl⟩
    · exact ⟨_, k1, rfl⟩
    · exact ⟨_, k2, rfl⟩
  obtain ⟨v, l4, v1, v2, n4, c37⟩ := take_ok wf (M + 8) l3 60 n3 (by omega)
  obtain ⟨k, rfl⟩ := Int.eq_ofNat_of_zero_le v1
  have ek : (1 + (k : Int)) = ((1 + k : Nat) : Int) := by omega
  have hr : (rngL 0 (1 + (k : Int)).toNat).length = 1 + k := by rw [ek, Int.toNat_natCast]; simp [EV.ixD, EV.valsOf, EV.ev.eq_1, EV.ev.eq_2, EV.ev.eq_3, EV.ev.eq_4, EV.ev.eq_5, EV.ev.eq_6, EV.ev.eq_7, EV.ev.eq_8, EV.ev.eq_9, EV.ev.eq_10, EV.ev.eq_11, EV.ev.eq_12, EV.ev.eq_13, EV.ev.eq_14, EV.ev.eq_15, EV.ev.eq_16, EV.ev.eq_17, EV.ev.eq_18, EV.ev.eq_19, EV.ev.eq_20, EV.ev.eq_21, EV.ev.eq_22, EV.ev.eq_23, EV.ev.eq_24, EV.ev.eq_25, EV.ev.eq_26, EV.runDef, EV.params, EV.runB, EV.enter, EV.slots0, EV.exS.eq_1, EV.exS.eq_2, EV.exS.eq_3, EV.exS.eq_4, EV.exS.eq_5, EV.exS.eq_6, EV.exS.eq_7, EV.exS.eq_8, EV.exS.eq_9, EV.exS.eq_10, EV.exS.eq_11, EV.exS.eq_14, EV.exS.eq_15, EV.exSs, EV.look, EV.stl, EV.isi, EV.tr, EV.leave, EV.frz, EV.lookAll, EV.afterCall, EV.lent, EV.takeO, EV.store, EV.builtin, EV.b_abs, EV.evA, EV.evO, EV.evC, EV.evI, -EV.bind_ok, rngL]
  obtain ⟨ps, l5, n5, hps, hlen, lc⟩ := places_ok wf (M + 8) (encI ns) (encF f) (encF g) l4 n4 (rngL 0 (1 + (k : Int)).toNat)
  rw [hr] at hlen
  have hok : okPs ps := ⟨by omega, by omega, hps⟩
  let c : Ctx := ⟨wf, f, g, ps, hw, hf, hg, hok⟩
  obtain ⟨l6, n6, c48⟩ := c.due_ok M l5 n5
  have s0 := w_0 c36
  have s1 := w_1 (sc := encI ns) c44 c44'
  have s2 := w_2 (sc := encI ns) (f1 := .tuple [.int f.px, .int f.py]) (f3 := q f.s) c38
  have s3 := w_3 (sc := encI ns) (F := encF f) (G := encF g) c37 (by rw [ek]; exact s62_nat (by omega)) rfl (by rw [hr, sizeLine_eq]; omega) lc
  have s4 := w_4 (sc := encI ns) (is_front_ok (M + 4) hw hf) (is_front_ok (M + 4) hw hg) (same_trues wf (M + 7)) c48
  have s5 := w_5 (wf := wf) (m := M + 9) (sc := encI ns) (dr := encI l6) (f1 := .tuple [.int f.px, .int f.py]) (a := f.bx) (b := f.by') (f3 := q f.s) (G := encF g) (P := encPs ps)
  obtain ⟨ρA, eA, a8, a9, a10, a11, a12, rfl⟩ := loop_all (f := forF (cc wf (M + 9)) none (.v 8) b1_law) (c.Pa (encI ns) (encI l6) .u) (ds := (ps.map encP).take 8) (ρ := L1 (encI ns) (encI l6) (encF f) (encF g) (encPs ps) .u f.bx f.by' .u .u .u .u .u) (by
    intro d hd ρ hρ
    obtain ⟨p, hp, rfl⟩ := List.mem_map.mp (List.mem_of_mem_take hd)
    exact c.turnA hs M (encI ns) (encI l6) .u (hps p hp) hρ) ⟨.u, .u, .u, .u, .u, rfl⟩
  have s6 := w_6 eA
  obtain ⟨ρB, eB, l7, b8, b9, b10, b11, b12, b13, b14, b15, b16, b17, n7, rfl⟩ := loop_all (f := forF (cc wf (M + 9)) none (.v 13) b2_law) (c.Pb2 (encI ns) .u) (ds := rngL 0 6) (ρ := L1 (encI ns) (encI l6) (encF f) (encF g) (encPs ps) .u f.bx f.by' a8 a9 a10 a11 a12) (by
    intro d hd ρ hρ
    exact c.turnB M (encI ns) .u d hρ) ⟨l6, a8, a9, a10, a11, a12, .u, .u, .u, .u, .u, n6, rfl⟩
  have s7 := w_7 eB
  have s8 := w_8 (sc := encI ns) (dr := encI l7) (P := encPs ps) (x5 := .u) (x := f.bx) (y := f.by') (a8 := b8) (a9 := b9) (a10 := b10) (a11 := b11) (a12 := b12) (a13 := b13) (a14 := b14) (a15 := b15) (a16 := b16) (a17 := b17) (same_line_ok (M + 1) hw hf hg)
  have c32 := same_line_ok (M + 1) hw hg hf
  rw [sl_comm hf hg] at c32
  have m1 := bm (lt2_30 hf.bx) (lt2_30 hg.by') (by decide) (by decide)
  have m2 := bm (lt2_30 hf.by') (lt2_30 hg.bx) (by decide) (by decide)
  have fin : ∃ ρ', exSs (cc wf (M + 9)) none f_law.body [.f (encI ns), .u, .u, .u, .u, .u, .u, .u, .u, .u, .u, .u, .u, .u, .u, .u, .u, .u, .u, .u] = .ok (.rt (.val (.bool true)), ρ') := by
    unfold f_law
    show ∃ ρ', exSs _ none (.cons s0_law (.cons s1_law (.cons s2_law (.cons s3_law (.cons s4_law (.cons s5_law (.cons s6_law (.cons s7_law (.cons s8_law (.cons s9_law (.cons s10_law (.cons s11_law .nil)))))))))))) _ = _
    rw [exSs_nx s0, exSs_nx s1, exSs_nx s2, exSs_nx s3, exSs_nx s4, exSs_nx s5, exSs_nx s6, exSs_nx s7, exSs_nx s8]
    cases e : sl f g with
    | some w =>
      rw [e] at c32
      have h0 := sl_wh e
      have bw := bd_sl hf hg e
      obtain ⟨o1, o2⟩ := sl_on hf hg e
      have c31 := moved_ok (M + 2) hw hf bw
      obtain ⟨bx, by1⟩ := bd_hx hf bw
      obtain ⟨bx2, by2⟩ := bd_sub_int hf bw
      obtain ⟨r1, hr1, k1⟩ := is_on_ok wf (M + 6) hg (bd_mono bx (show 260 ≤ 300 by decide)) (bd_mono by1 (show 260 ≤ 300 by decide)) bw
      rw [hr1 o1] at k1
      obtain ⟨r2, hr2, k2⟩ := is_on_ok wf (M + 6) hg bx2 by2 bw
      rw [hr2 o2] at k2
      have cq := cm_ne_q w w
      rw [decide_eq_true rfl] at cq
      have em : f.by' * g.bx = f.bx * g.by' := by unfold wh at h0; omega
      rw [em] at m2
      have s9 := w_9s (sc := encI ns) (dr := encI l7) (P := encPs ps) (x5 := .u) (a8 := b8) (a9 := b9) (a10 := b10) (a11 := b11) (a12 := b12) (a13 := b13) (a14 := b14) (a15 := b15) (a16 := b16) (a17 := b17) (a19 := .u) c32 cq m1 m2
      have s10 := w_10s (sc := encI ns) (dr := encI l7) (P := encPs ps) (x5 := .u) (x := f.bx) (y := f.by') (a8 := b8) (a9 := b9) (a10 := b10) (a11 := b11) (a12 := b12) (a13 := b13) (a14 := b14) (a15 := b15) (a16 := b16) (a17 := b17) (a19 := .u) c31 k1 k2
      exact ⟨_, (exSs_nx s9).trans (exSs_rt s10)⟩
    | none =>
      rw [e] at c32
      have s9 := w_9n (sc := encI ns) (dr := encI l7) (P := encPs ps) (x5 := .u) (x := f.bx) (y := f.by') (a8 := b8) (a9 := b9) (a10 := b10) (a11 := b11) (a12 := b12) (a13 := b13) (a14 := b14) (a15 := b15) (a16 := b16) (a17 := b17) (a19 := .u) c32
      have s10 := w_10n (wf := wf) (m := M + 9) (F := encF f) (G := encF g) (sc := encI ns) (dr := encI l7) (P := encPs ps) (x5 := .u) (x := f.bx) (y := f.by') (a8 := b8) (a9 := b9) (a10 := b10) (a11 := b11) (a12 := b12) (a13 := b13) (a14 := b14) (a15 := b15) (a16 := b16) (a17 := b17) (a19 := .u)
      by_cases h0 : wh f g = 0
      · obtain ⟨⟨e1, e2⟩, e3⟩ := sl_none hf hg h0 e
        have ce := cm_eq_q f.s f.s
        rw [decide_eq_true rfl] at ce
        have s11 := w_11b (wf := wf) (m := M + 9) (f1 := .tuple [.int f.px, .int f.py]) (g1 := .tuple [.int g.px, .int g.py]) (W := .none) (sc := encI ns) (dr := encI l7) (P := encPs ps) (x5 := .u) (a8 := b8) (a9 := b9) (a10 := b10) (a11 := b11) (a12 := b12) (a13 := b13) (a14 := b14) (a15 := b15) (a16 := b16) (a17 := b17) (a19 := .u) (e := f.bx) (f := f.by') (x := f.bx) (y := f.by') (u := f.bx * f.by') (bm (lt2_30 hf.bx) (lt2_30 hf.by') (by decide) (by decide)) (by rw [Int.mul_comm]; exact bm (lt2_30 hf.by') (lt2_30 hf.bx) (by decide) (by decide)) ce
        have eg : encF g = .tuple [.tuple [.int g.px, .int g.py], .tuple [.int f.bx, .int f.by'], q f.s] := by
          rw [e3, ← e1, ← e2]
        rw [← eg] at s11
        exact ⟨_, (exSs_nx s9).trans ((exSs_nx s10).trans (exSs_rt s11))⟩
      · have hn' : f.bx * g.by' ≠ f.by' * g.bx := by unfold wh at h0; omega
        have s11 := w_11a (wf := wf) (m := M + 9) (F := encF f) (W := .none) (sc := encI ns) (dr := encI l7) (P := encPs ps) (x5 := .u) (a8 := b8) (a9 := b9) (a10 := b10) (a11 := b11) (a12 := b12) (a13 := b13) (a14 := b14) (a15 := b15) (a16 := b16) (a17 := b17) (a19 := .u) (g1 := .tuple [.int g.px, .int g.py]) (g3 := q g.s) m1 m2 hn'
        exact ⟨_, (exSs_nx s9).trans ((exSs_nx s10).trans (exSs_rt s11))⟩
  obtain ⟨ρ', ef⟩ := fin
  have er : runDef (cc wf (M + 9)) f_law [encI ns] = runB (cc wf (M + 9)) f_law [encI ns] := rfl
  have en : enter f_law [encI ns] = [.f (encI ns), .u, .u, .u, .u, .u, .u, .u, .u, .u, .u, .u, .u, .u, .u, .u, .u, .u, .u, .u] := rfl
  rw [er, runB, en, show f_law.io = none from rfl, ef]
  rfl
end K3
end

set_option maxRecDepth 100000 in
set_option maxHeartbeats 8000000 in
theorem PySem.Challenge.cw_fireward_k03_whole_fronts_far_off_holds : PySem.Challenge.rw_fireward_k03_whole_fronts_far_off.Holds := by
  have hd : EvT.tb.map (·.1) = K3.defs := rfl
  have hg : (EvT.gi.map fun q => PySem.PyData.int q.2) = K3.globs := rfl
  obtain ⟨wf, hw⟩ : ∃ wf : Nat, 2 ^ 400 ≤ wf := ⟨_, Nat.le_refl _⟩
  refine end_of wf fun ns hn => ⟨⟨false, .bool true, .none⟩, ?_, rfl⟩
  rw [hd, hg]
  exact K3.law_ok wf 51 hw ns hn
