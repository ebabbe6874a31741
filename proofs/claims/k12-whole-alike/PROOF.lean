import PyProof.Rows.All
import HandS.ForMost
import HandS.ForExc
import KE.SortData
import KE.LtData
import KE.GoesEnum
import HandS.TupAny
import HandS.TupMul
import HandS.Wide
import HandS.Deep
import HandS.Style
import HandS.IsInst
import HandS.Text
import HandS.DictEq
import KE.KDictKeyed
import KE.KEqDict
import KE.DataMinMax
import KE.DataIsa
import KE.DataFind
import PyProof.SumAnyB
import PyProof.TupleOfSeq
import PyProof.ListCopy
import HandS.Conv
import HandS.TupLen
import HandS.More
import HandS.Iter
import HandS.ExcOwn
import HandS.WordsExc
import HandS.EndBits
import PySem.Challenge.RW_staybounds_k12_whole_alike
section Sec_MpA
set_option autoImplicit false
set_option linter.all false
/-! Plain data, a small IR, its interpreter. -/
namespace Mp
open PySem

/-- plain data: texts are their codes; a def is its name -/
inductive D where
  | non | bl (b : Bool) | int (i : Int) | str (x : List Nat)
  | tup (xs : List D) | lst (xs : List D) | dic (kvs : List (D × D)) | fn (x : Str)
  deriving Repr, Inhabited

mutual
/-- Python's == (dicts apart) -/
def D.eqv : D → D → Bool
  | .non, .non => true
  | .bl a, .bl b => a == b
  | .bl a, .int b => decide ((if a = true then (1 : Int) else 0) = b)
  | .int a, .bl b => decide (a = (if b = true then (1 : Int) else 0))
  | .int a, .int b => decide (a = b)
  | .str a, .str b => decide (a = b)
  | .tup a, .tup b => D.eqvs a b
  | .lst a, .lst b => D.eqvs a b
  | _, _ => false
def D.eqvs : List D → List D → Bool
  | [], [] => true
  | x :: xs, y :: ys => D.eqv x y && D.eqvs xs ys
  | _, _ => false
end
mutual
/-- no dict, no def inside -/
def D.flat : D → Bool
  | .tup xs => D.flats xs
  | .lst xs => D.flats xs
  | .dic _ => false
  | .fn _ => false
  | _ => true
def D.flats : List D → Bool
  | [] => true
  | x :: xs => D.flat x && D.flats xs
end
mutual
def D.depth : D → Nat
  | .tup xs => D.depths xs + 1
  | .lst xs => D.depths xs + 1
  | _ => 0
def D.depths : List D → Nat
  | [] => 0
  | x :: xs => Nat.max (D.depth x) (D.depths xs)
end
mutual
/-- comparable by < -/
def D.alike : D → D → Bool
  | .non, .non => true
  | .bl _, .bl _ => true
  | .int _, .int _ => true
  | .str _, .str _ => true
  | .tup a, .tup b => D.alikes a b
  | .lst a, .lst b => D.alikes a b
  | _, _ => false
def D.alikes : List D → List D → Bool
  | x :: xs, y :: ys => D.alike x y && D.alikes xs ys
  | [], _ => true
  | _ :: _, [] => true
end
def ltL : List Nat → List Nat → Bool
  | [], [] => false
  | [], _ :: _ => true
  | _ :: _, [] => false
  | x :: xs, y :: ys => if x = y then ltL xs ys else decide (x < y)
mutual
/-- Python's < of alike data -/
def D.lt : D → D → Bool
  | .bl a, .bl b => !a && b
  | .int a, .int b => decide (a < b)
  | .str a, .str b => ltL a b
  | .tup a, .tup b => D.lts a b
  | .lst a, .lst b => D.lts a b
  | _, _ => false
def D.lts : List D → List D → Bool
  | [], [] => false
  | [], _ :: _ => true
  | _ :: _, [] => false
  | x :: xs, y :: ys => if D.eqv x y = true then D.lts xs ys else D.lt x y
end

/-- a dict's key: an int, a text, a tuple of these -/
def D.isK0 : D → Bool
  | .int _ => true
  | .str _ => true
  | _ => false
def D.isK : D → Bool
  | .tup xs => xs.all D.isK0
  | d => d.isK0

def dfind (kvs : List (D × D)) (k : D) : Option D := (kvs.find? fun p => D.eqv p.1 k).map (·.2)
def dput (kvs : List (D × D)) (k v : D) : List (D × D) :=
  if (dfind kvs k).isSome then kvs.map fun p => if D.eqv p.1 k then (p.1, v) else p else kvs ++ [(k, v)]
/-- keys of one kind: all flat, or all tuples -/
def sameKind (kvs : List (D × D)) (k : D) : Bool := match k with
  | .tup _ => kvs.all fun p => match p.1 with | .tup _ => true | _ => false
  | _ => kvs.all fun p => match p.1 with | .tup _ => false | _ => true

inductive R (α : Type) where
  | ok (a : α) | ex (x : Str) | no
  deriving Repr
def R.bind {α β : Type} (r : R α) (f : α → R β) : R β := match r with
  | .ok a => f a
  | .ex x => .ex x
  | .no => .no
instance : Monad R where
  pure := .ok
  bind := R.bind
def req (b : Bool) : R Unit := if b = true then .ok () else .no

inductive BOp where | add | sub | mul | fdiv | mod | pow deriving Repr, DecidableEq
inductive COp where | eq | ne | lt | le | gt | ge | is_ | isnot | in_ | notin deriving Repr, DecidableEq
inductive Ty where | int | bool | str | tuple | list deriving Repr, DecidableEq
inductive Bi where | len | all | any | sum | max | min | sorted | sortset | minvals | list | tuple | dict | int | str | isi (t : Ty) deriving Repr, DecidableEq
inductive Mth where | get | index | count | join | split | replace deriving Repr, DecidableEq
/-- a loop's target -/
inductive Tg where | nm (i : Nat) | tp (is : List Nat) deriving Repr, DecidableEq

inductive E where
  | var (i : Nat)
  | cst (d : D)
  | bin (op : BOp) (a b : E)
  | neg (a : E)
  | cmp (op : COp) (a b : E)
  | chain (op op' : COp) (a b c : E)
  | and (a b : E) | or (a b : E) | not (a : E)
  | ite (c a b : E)
  | tup (es : List E) | lst (es : List E) | dct (kvs : List (E × E))
  | rep (es : List E) (b : E)   -- a list display, repeated
  | ix (a b : E) | slice (a : E) (lo hi : Option E)
  | call (f : Str) (es : List E)
  | callv (f : E) (es : List E)
  | bi (b : Bi) (es : List E)
  | meth (m : Mth) (o : E) (es : List E)
  | comp (own : List Nat) (g : Tg) (k : Nat) (its : List E) (conds : List E) (elt : E)   -- k: how the source is walked
  deriving Repr, Inhabited

inductive S where
  | fz (is : List Nat) (s : S)
  | set (i : Nat) (e : E)
  | unp (is : List Nat) (e : E)
  | mul (is : List Nat) (es : List E)
  | put (i : Nat) (k e : E)
  | app (i : Nat) (e : E)
  | ext (i : Nat) (e : E)
  | upd (i j : Nat)
  | pop (t i : Nat)
  | exp (e : E)
  | ret (e : E)
  | retV (i : Nat)
  | retO (e : E)
  | raise (x : Str)
  | ite (c : E) (a b : List S)
  | whl (c : E) (b : List S)
  | for_ (g : Tg) (k : Nat) (its : List E) (b : List S)
  deriving Repr, Inhabited

structure Fn where
  name : Str
  np : Nat
  names : List Str
  own : Bool
  body : List S
  deriving Repr, Inhabited

/-! ### values -/
abbrev Slot := Option (D × Bool)
abbrev Env := List Slot
def getv (ρ : Env) (i : Nat) : Slot := (ρ[i]?).join
def wipe (ρ : Env) : List Nat → Env
  | [] => ρ
  | v :: vs => (wipe ρ vs).set v none
def freeze (ρ : Env) : List Nat → Env
  | [] => ρ
  | v :: vs => let ρ' := freeze ρ vs
    match getv ρ' v with
    | some (d, true) => ρ'.set v (some (d, false))
    | _ => ρ'
def bindNs : List Nat → List D → Env → Option Env
  | [], [], ρ => some ρ
  | i :: is, d :: ds, ρ => bindNs is ds (ρ.set i (some (d, false)))
  | _, _, _ => none
def bindT (g : Tg) (d : D) (ρ : Env) : Option Env := match g, d with
  | .nm i, d => some (ρ.set i (some (d, false)))
  | .tp is, .tup ds => bindNs is ds ρ
  | .tp _, _ => none

def line : Nat := sizeLine
def bigOk (a b : Int) : Bool := decide (-(2 ^ 64) < a ∧ a < 2 ^ 64) || decide (-(2 ^ 64) < b ∧ b < 2 ^ 64)
def bin (op : BOp) (a b : D) : R D := match op, a, b with
  | .add, .int i, .int j => .ok (.int (i + j))
  | .add, .str x, .str y => if x.length + y.length ≤ line then .ok (.str (x ++ y)) else .no
  | .add, .lst x, .lst y => if x.length + y.length ≤ line then .ok (.lst (x ++ y)) else .no
  | .add, .tup x, .tup y => if x.length + y.length ≤ line then .ok (.tup (x ++ y)) else .no
  | .sub, .int i, .int j => .ok (.int (i - j))
  | .mul, .int i, .int j => if bigOk i j then .ok (.int (i * j)) else .no
  | .mul, .str x, .int j => if decide (0 ≤ j ∧ j < 2 ^ 62) && decide (x.length * j.toNat ≤ line) then .ok (.str (List.replicate j.toNat x).flatten) else .no
  | .mul, .tup x, .int j => if decide (2 ≤ j ∧ j ≤ 1000) && decide (x.length ≤ 1000) then .ok (.tup (List.replicate j.toNat x).flatten) else .no
  | .fdiv, .int i, .int j => if decide (0 < j ∧ j < 2 ^ 64) then .ok (.int (i / j)) else .no
  | .mod, .int i, .int j => if decide (0 < j) then .ok (.int (i % j)) else .no
  | .pow, .int i, .int j => if decide (0 ≤ j ∧ j ≤ 1000) && decide (i.natAbs < 2 ^ 64) then .ok (.int (i ^ j.toNat)) else .no
  | _, _, _ => .no
def neg (a : D) : R D := match a with
  | .int i => .ok (.int (-i))
  | _ => .no
/-- two data that == can be asked of -/
def eqOk (a b : D) : Bool := a.flat && b.flat && decide (a.depth ≤ 60) && decide (b.depth ≤ 60)
/-- a dict that == can be asked of: keys ints or texts, plain values -/
def dOk (kvs : List (D × D)) : Bool := kvs.all fun p => p.1.isK0 && p.2.flat && decide (p.2.depth ≤ 60)
def eqD (a b : D) : R Bool := match a, b with
  | .dic x, .dic y => if dOk x && dOk y then .ok (decide (x.length = y.length) && x.all fun p => match dfind y p.1 with | some v => D.eqv p.2 v | none => false) else .no
  | a, b => if eqOk a b then .ok (D.eqv a b) else .no
def inD (a b : D) : R Bool := match b with
  | .lst xs => if eqOk a (.lst xs) then .ok (xs.any fun x => D.eqv x a) else .no
  | .tup xs => if eqOk a (.tup xs) then .ok (xs.any fun x => D.eqv x a) else .no
  | .dic kvs => if a.isK && sameKind kvs a then .ok (dfind kvs a).isSome else .no
  | .str y => match a with
    | .str [c] => .ok (y.contains c)
    | _ => .no
  | _ => .no
def isNon : D → Bool
  | .non => true
  | _ => false
def cmp (op : COp) (a b : D) : R D := match op with
  | .eq => do return .bl (← eqD a b)
  | .ne => do return .bl (!(← eqD a b))
  | .in_ => do return .bl (← inD a b)
  | .notin => do return .bl (!(← inD a b))
  | .is_ => match b with
    | .non => .ok (.bl (isNon a))
    | .bl y => match a with
      | .bl x => .ok (.bl (x == y))
      | _ => .no
    | _ => .no
  | .isnot => match b with
    | .non => .ok (.bl (!isNon a))
    | .bl y => match a with
      | .bl x => .ok (.bl (x != y))
      | _ => .no
    | _ => .no
  | .lt => if D.alike a b && eqOk a b && !isNon a then .ok (.bl (D.lt a b)) else .no
  | .le => match a, b with
    | .int x, .int y => .ok (.bl (decide (x ≤ y)))
    | _, _ => .no
  | .gt => match a, b with
    | .int x, .int y => .ok (.bl (decide (y < x)))
    | _, _ => .no
  | .ge => match a, b with
    | .int x, .int y => .ok (.bl (decide (y ≤ x)))
    | _, _ => .no
def ixN (n : Nat) (i : Int) : Option Nat := if 0 ≤ i then (if i < n then some i.toNat else none) else if -(n : Int) ≤ i then some (i + n).toNat else none
def atI {α : Type} (xs : List α) (i : Int) : Option α := (ixN xs.length i).bind fun j => xs[j]?
def ofO {α : Type} : Option α → R α
  | some a => .ok a
  | none => .no
def ix (a b : D) : R D := match a, b with
  | .lst xs, .int i => ofO (atI xs i)
  | .tup xs, .int i => ofO (atI xs i)
  | .str xs, .int i => ofO ((atI xs i).map fun c => .str [c])
  | .dic kvs, k => if k.isK && sameKind kvs k then ofO (dfind kvs k) else .no
  | _, _ => .no
def sIx (n d : Nat) : Option Int → Nat
  | none => d
  | some v => if v < 0 then (v + (n : Int)).toNat else min v.toNat n
def cut {α : Type} (xs : List α) (lo hi : Option Int) : List α := (xs.drop (sIx xs.length 0 lo)).take (sIx xs.length xs.length hi - sIx xs.length 0 lo)
def slice (a : D) (lo hi : Option Int) : R D := match a with
  | .lst xs => .ok (.lst (cut xs lo hi))
  | .tup xs => .ok (.tup (cut xs lo hi))
  | .str xs => .ok (.str (cut xs lo hi))
  | _ => .no
def items (d : D) : Option (List D) := match d with
  | .lst xs => some xs
  | .tup xs => some xs
  | .str xs => some (xs.map fun c => .str [c])
  | .dic kvs => some (kvs.map (·.1))
  | _ => none
def small (i : Int) : Bool := decide (-(2 ^ 62) ≤ i ∧ i < 2 ^ 62)
def isDic : D → Bool
  | .dic _ => true
  | _ => false
def enumD (ds : List D) : List D := (List.range ds.length).zip ds |>.map fun p => .tup [.int p.1, p.2]
def zipD (xs ys : List D) : List D := (xs.zip ys).map fun p => .tup [p.1, p.2]
def rngUp (lo : Int) (n : Nat) : List D := (List.range n).map fun (k : Nat) => .int (lo + k)
def rngBy (lo c : Int) (n : Nat) : List D := (List.range n).map fun (k : Nat) => .int (lo + k * c)
def walk0 : List D → Option (List D)
  | [d] => items d
  | _ => none
def walk1 : List D → Option (List D)
  | [d] => if isDic d then none else (items d).map enumD
  | _ => none
def walk2 : List D → Option (List D)
  | [a, b] => if isDic a || isDic b then none else match items a, items b with
    | some xs, some ys => some (zipD xs ys)
    | _, _ => none
  | _ => none
def walk3 : List D → Option (List D)
  | [.int j] => if small j then some (rngUp 0 j.toNat) else none
  | [.int i, .int j] => if small i && small j then some (rngUp i (j - i).toNat) else none
  | [.int i, .int j, .int c] => if small i && small j then (if c = -1 then some (rngBy i (-1) (i - j).toNat) else none) else none
  | _ => none
/-- what a loop walks. k: 0 the value itself, 1 enumerate, 2 zip, 3 range -/
def walkOf (k : Nat) (ds : List D) : Option (List D) := match k with
  | 0 => walk0 ds
  | 1 => walk1 ds
  | 2 => walk2 ds
  | _ => walk3 ds
def isCont : D → Bool
  | .lst _ => true
  | .dic _ => true
  | _ => false
def boolsD : List D → Option (List Bool)
  | [] => some []
  | .bl b :: r => (boolsD r).map (b :: ·)
  | _ => none
def intsD : List D → Option (List Int)
  | [] => some []
  | .int b :: r => (intsD r).map (b :: ·)
  | .bl b :: r => (intsD r).map ((if b = true then 1 else 0) :: ·)
  | _ => none
def strsD : List D → Option (List (List Nat))
  | [] => some []
  | .str b :: r => (strsD r).map (b :: ·)
  | _ => none
def allAlike (xs : List D) : Bool := xs.all fun a => xs.all fun b => D.alike a b
def sortable (xs : List D) : Bool := xs.all (fun d => match d with | .tup (_ :: _) => true | _ => false) || xs.all fun d => match d with | .tup _ => false | .non => false | _ => true
def ordOk (xs : List D) : Bool := allAlike xs && sortable xs && D.flats xs && decide (D.depths xs ≤ 50)
def sortD (xs : List D) : List D := xs.mergeSort fun a b => !(D.lt b a)
def dedup : List D → List D
  | [] => []
  | x :: xs => x :: (dedup xs).filter fun y => !(D.eqv x y)
def minD : D → List D → D
  | m, [] => m
  | m, x :: xs => minD (if D.lt x m then x else m) xs
def maxD : D → List D → D
  | m, [] => m
  | m, x :: xs => maxD (if D.lt m x then x else m) xs
def pairs : List D → Option (List (D × D))
  | [] => some []
  | .tup [k, v] :: r => (pairs r).map ((k, v) :: ·)
  | _ => none
def putAll (kvs more : List (D × D)) : List (D × D) := more.foldl (fun acc p => dput acc p.1 p.2) kvs
/-- all keys good and of one kind -/
def keysOk (kvs : List (D × D)) : Bool := kvs.all (fun p => p.1.isK0) || kvs.all fun p => match p.1 with | .tup xs => xs.all D.isK0 | _ => false
/-- the figures of a number below 10 ^ 10 -/
def digits (n : Nat) : List Nat := (Nat.toDigits 10 n).map Char.toNat
def splitOn (c : Nat) : List Nat → List (List Nat)
  | [] => [[]]
  | x :: xs => if x = c then [] :: splitOn c xs else match splitOn c xs with
    | [] => [[x]]
    | y :: ys => (x :: y) :: ys
def joinL (sep : List Nat) : List (List Nat) → List Nat
  | [] => []
  | [x] => x
  | x :: y :: r => x ++ sep ++ joinL sep (y :: r)
def isTy (t : Ty) (d : D) : Bool := match t, d with
  | .int, .int _ => true
  | .int, .bl _ => true
  | .bool, .bl _ => true
  | .str, .str _ => true
  | .tuple, .tup _ => true
  | .list, .lst _ => true
  | _, _ => false
def biLen : List D → R D
  | [.lst xs] => .ok (.int xs.length)
  | [.tup xs] => .ok (.int xs.length)
  | [.str xs] => .ok (.int xs.length)
  | [.dic xs] => .ok (.int xs.length)
  | _ => .no
def biAll : List D → R D
  | [.lst xs] => (ofO (boolsD xs)).bind fun bs => .ok (.bl (bs.all id))
  | _ => .no
def biAny : List D → R D
  | [.lst xs] => (ofO (boolsD xs)).bind fun bs => .ok (.bl (bs.any id))
  | _ => .no
def biSum : List D → R D
  | [.lst xs] => (ofO (intsD xs)).bind fun ns => .ok (.int ns.sum)
  | _ => .no
def biMax : List D → R D
  | [.lst (x :: xs)] => if ordOk (x :: xs) && !isCont (maxD x xs) then .ok (maxD x xs) else .no
  | [.int i, .int j] => .ok (.int (if j > i then j else i))
  | _ => .no
def biMin : List D → R D
  | [.lst (x :: xs)] => if ordOk (x :: xs) && !isCont (minD x xs) then .ok (minD x xs) else .no
  | [a, b] => if ordOk [a, b] && !isCont a && !isCont b then .ok (minD a [b]) else .no
  | _ => .no
def biSorted : List D → R D
  | [.lst xs] => if ordOk xs then .ok (.lst (sortD xs)) else .no
  | _ => .no
def biSortset : List D → R D
  | [.lst xs] => if ordOk xs && xs.all D.isK then .ok (.lst (sortD (dedup xs))) else .no
  | _ => .no
def biMinvals : List D → R D
  | [.dic kvs] => match kvs.map (·.2) with
    | [] => .no
    | x :: xs => if ordOk (x :: xs) then .ok (minD x xs) else .no
  | _ => .no
def biList : List D → R D
  | [.lst xs] => .ok (.lst xs)
  | [.tup xs] => .ok (.lst xs)
  | _ => .no
def biTuple : List D → R D
  | [.lst xs] => .ok (.tup xs)
  | _ => .no
def biDict : List D → R D
  | [.lst xs] => match pairs xs with
    | some ps => if ps.all (fun p => p.1.isK0) then .ok (.dic (putAll [] ps)) else .no
    | none => .no
  | _ => .no
def biInt : List D → R D
  | [.int i] => .ok (.int i)
  | _ => .no
def biStr : List D → R D
  | [.int i] => if 0 ≤ i ∧ i < 10 ^ 10 then .ok (.str (digits i.toNat)) else .no
  | _ => .no
def biIsi (t : Ty) : List D → R D
  | [d] => if d.flat then .ok (.bl (isTy t d)) else .no
  | _ => .no
def bi (b : Bi) (ds : List D) : R D := match b with
  | .len => biLen ds
  | .all => biAll ds
  | .any => biAny ds
  | .sum => biSum ds
  | .max => biMax ds
  | .min => biMin ds
  | .sorted => biSorted ds
  | .sortset => .no
  | .minvals => .no
  | .list => biList ds
  | .tuple => biTuple ds
  | .dict => biDict ds
  | .int => biInt ds
  | .str => .no
  | .isi t => biIsi t ds
def findI (x : D) : List D → Nat → Option Nat
  | [], _ => none
  | y :: ys, i => if D.eqv y x then some i else findI x ys (i + 1)
/-- every match of a text of one or more signs -/
def replaceL (a b : List Nat) (n : Nat) (x : List Nat) : List Nat := match n with
  | 0 => x
  | n + 1 => match x with
    | [] => []
    | c :: r => if a.isPrefixOf (c :: r) then b ++ replaceL a b n ((c :: r).drop a.length) else c :: replaceL a b n r
def mGet (o : D) (ds : List D) : R D := match o, ds with
  | .dic kvs, [k] => if k.isK && sameKind kvs k then .ok ((dfind kvs k).getD .non) else .no
  | .dic kvs, [k, x] => if k.isK && sameKind kvs k then .ok ((dfind kvs k).getD x) else .no
  | _, _ => .no
def mIndex (o : D) (ds : List D) : R D := match o, ds with
  | .lst xs, [x] => if eqOk (.lst xs) x then (ofO (findI x xs 0)).bind fun i => .ok (.int i) else .no
  | .str xs, [.str [c]] => if xs.contains c then .ok (.int (xs.findIdx (· == c))) else .no
  | _, _ => .no
def mCount (o : D) (ds : List D) : R D := match o, ds with
  | .lst xs, [x] => if eqOk (.lst xs) x then .ok (.int (xs.countP fun y => D.eqv y x)) else .no
  | _, _ => .no
def mJoin (o : D) (ds : List D) : R D := match o, ds with
  | .str s, [.lst xs] => (ofO (strsD xs)).bind fun ss => if (joinL s ss).length + s.length ≤ line then .ok (.str (joinL s ss)) else .no
  | _, _ => .no
def mSplit (o : D) (ds : List D) : R D := match o, ds with
  | .str s, [.str [c]] => .ok (.lst ((splitOn c s).map D.str))
  | _, _ => .no
def mReplace (o : D) (ds : List D) : R D := match o, ds with
  | .str s, [.str a, .str b] => if a.length = 0 then .no else .ok (.str (replaceL a b s.length s))
  | _, _ => .no
def meth (m : Mth) (o : D) (ds : List D) : R D := match m with
  | .get => mGet o ds
  | .index => .no
  | .count => .no
  | .join => mJoin o ds
  | .split => .no
  | .replace => .no

/-- the receiver a method can have -/
def recvOk (m : Mth) (d : D) : Bool := match m, d with
  | .get, .dic _ => true
  | .index, .lst _ => true
  | .index, .str _ => true
  | .count, .lst _ => true
  | .join, .str _ => true
  | .split, .str _ => true
  | .replace, .str _ => true
  | _, _ => false
def compL (step : D → R (Option D)) : List D → R (List D)
  | [] => .ok []
  | x :: xs => match step x with
    | .ok none => compL step xs
    | .ok (some y) => match compL step xs with
      | .ok ys => .ok (y :: ys)
      | _ => .no
    | _ => .no
def asB : D → R Bool
  | .bl b => .ok b
  | _ => .no
def asI : D → R Int
  | .int i => .ok i
  | _ => .no
def evs (f : E → R D) : List E → R (List D)
  | [] => .ok []
  | e :: es => (f e).bind fun d => (evs f es).bind fun ds => .ok (d :: ds)
def evp (f : E → R D) : List (E × E) → R (List (D × D))
  | [] => .ok []
  | (k, v) :: es => (f k).bind fun d => (f v).bind fun c => (evp f es).bind fun ds => .ok ((d, c) :: ds)
def evo (f : E → R D) : Option E → R (Option Int)
  | none => .ok none
  | some e => (f e).bind fun d => (asI d).bind fun i => .ok (some i)
def conds (f : E → R D) : List E → R Bool
  | [] => .ok true
  | c :: cs => (f c).bind fun d => (asB d).bind fun b => if b = true then conds f cs else .ok false

/-- an expression; tmp: its value is only looked at -/
def ev (cf : Str → List D → R D) : Nat → Bool → E → Env → R D
  | 0, _, _, _ => .no
  | n + 1, tmp, e, ρ => match e with
    | .var i => match getv ρ i with
      | some (d, own) => if own && isCont d && !tmp then .no else .ok d
      | none => .no
    | .cst d => .ok d
    | .bin op a b => (ev cf n true a ρ).bind fun x => (ev cf n true b ρ).bind fun y => bin op x y
    | .neg a => (ev cf n true a ρ).bind neg
    | .cmp op a b => (ev cf n true a ρ).bind fun x => (ev cf n true b ρ).bind fun y => cmp op x y
    | .chain op op' a b c => (ev cf n true a ρ).bind fun x => (ev cf n true b ρ).bind fun y => (cmp op x y).bind fun r => (asB r).bind fun k =>
        if k = true then (ev cf n true c ρ).bind fun z => cmp op' y z else .ok (.bl false)
    | .and a b => (ev cf n true a ρ).bind fun x => (asB x).bind fun k => if k = true then (ev cf n true b ρ).bind fun y => (asB y).bind fun k => .ok (.bl k) else .ok (.bl false)
    | .or a b => (ev cf n true a ρ).bind fun x => (asB x).bind fun k => if k = true then .ok (.bl true) else (ev cf n true b ρ).bind fun y => (asB y).bind fun k => .ok (.bl k)
    | .not a => (ev cf n true a ρ).bind fun x => (asB x).bind fun k => .ok (.bl (!k))
    | .ite c a b => (ev cf n true c ρ).bind fun x => (asB x).bind fun k => if k = true then ev cf n tmp a ρ else ev cf n tmp b ρ
    | .tup es => (evs (ev cf n false · ρ) es).bind fun ds => .ok (.tup ds)
    | .lst es => (evs (ev cf n false · ρ) es).bind fun ds => .ok (.lst ds)
    | .rep es b => (evs (ev cf n false · ρ) es).bind fun ds => (ev cf n true b ρ).bind fun y => match y with
      | .int j => if decide (0 ≤ j ∧ j < 2 ^ 62) && decide (ds.length * j.toNat ≤ line) then .ok (.lst (List.replicate j.toNat ds).flatten) else .no
      | _ => .no
    | .dct kvs => (evp (ev cf n false · ρ) kvs).bind fun ps => if (ps.all fun p => p.1.isK0) && decide (ps.length ≤ 15) then .ok (.dic (putAll [] ps)) else .no
    | .ix a b => (ev cf n true a ρ).bind fun x => (ev cf n true b ρ).bind fun y => ix x y
    | .slice a lo hi => (ev cf n true a ρ).bind fun x => (evo (ev cf n true · ρ) lo).bind fun l => (evo (ev cf n true · ρ) hi).bind fun h => slice x l h
    | .call f es => (evs (ev cf n false · ρ) es).bind fun ds => cf f ds
    | .callv f es => (ev cf n false f ρ).bind fun v => match v with
      | .fn x => (evs (ev cf n false · ρ) es).bind fun ds => cf x ds
      | _ => .no
    | .bi b es => (evs (ev cf n true · ρ) es).bind fun ds => bi b ds
    | .meth m o es => (ev cf n true o ρ).bind fun x => if recvOk m x then (evs (ev cf n false · ρ) es).bind fun ds => meth m x ds else .no
    | .comp own g k its cs elt => (evs (ev cf n false · ρ) its).bind fun ds => match walkOf k ds with
      | some xs => if xs.length ≤ line then (compL (fun x => match bindT g x (wipe ρ own) with
          | some ρ' => (conds (ev cf n true · ρ') cs).bind fun b => if b = true then (ev cf n false elt ρ').bind fun d => .ok (some d) else .ok none
          | none => .no) xs).bind fun ds => .ok (.lst ds) else .no
      | none => .no

inductive Out where
  | nx (ρ : Env) | rt (d : D) | ex (x : Str) (ρ : Env) | no
  deriving Repr
def R.out {α : Type} (r : R α) (ρ : Env) (f : α → Out) : Out := match r with
  | .ok a => f a
  | .ex x => .ex x ρ
  | .no => .no
def Out.bind (o : Out) (f : Env → Out) : Out := match o with
  | .nx ρ => f ρ
  | o => o
/-- a new container of its own (a thing that is no container may be said so, too) -/
def fresh (ow : Str → Bool) : E → Bool
  | .lst _ => true
  | .dct _ => true
  | .comp .. => true
  | .bi .sorted _ => true
  | .bi .sortset _ => true
  | .bi .list _ => true
  | .bi .dict _ => true
  | .bin .add _ _ => true
  | .rep .. => true
  | .slice .. => true
  | .call f _ => ow f
  | .ite _ a b => fresh ow a && fresh ow b
  | _ => false
def setv (ρ : Env) (i : Nat) (d : D) (own : Bool) : Env := ρ.set i (some (d, own))
def unpack : D → Option (List D)
  | .tup ds => some ds
  | _ => none
def putD (ρ : Env) (i : Nat) (k v : D) : Out := match getv ρ i with
  | some (.dic kvs, true) => if k.isK && sameKind kvs k && decide (kvs.length < line) then .nx (setv ρ i (.dic (dput kvs k v)) true) else .no
  | some (.lst xs, true) => match k with
    | .int j => match ixN xs.length j with
      | some j => .nx (setv ρ i (.lst (xs.set j v)) true)
      | none => .no
    | _ => .no
  | _ => .no
def storeP : List Nat → List (D × Bool) → Env → Out
  | [], [], ρ => .nx ρ
  | i :: ts, (d, own) :: ds, ρ => storeP ts ds (setv ρ i d own)
  | _, _, _ => .no
def forL (body : Env → Out) (g : Tg) : List D → Env → Out
  | [], ρ => .nx ρ
  | x :: xs, ρ => match bindT g x ρ with
    | some ρ' => (body ρ').bind fun ρ2 => forL body g xs ρ2
    | none => .no
def blk (f : S → Env → Out) : List S → Env → Out
  | [], ρ => .nx ρ
  | s :: ss, ρ => (f s ρ).bind fun ρ => blk f ss ρ

section
variable (ow : Str → Bool) (cf : Str → List D → R D)
/-- a statement -/
def ex : Nat → S → Env → Out
  | 0, _, _ => .no
  | n + 1, s, ρ => match s with
    | .fz is s => ex n s (freeze ρ is)
    | .set i e => (ev cf n false e ρ).out ρ fun d => .nx (setv ρ i d (fresh ow e))
    | .unp is e => (ev cf n true e ρ).out ρ fun d => match unpack d with
      | some ds => (match bindNs is ds ρ with | some ρ' => .nx ρ' | none => .no)
      | none => .no
    | .mul is es => (evs (ev cf n false · ρ) es).out ρ fun ds => storeP is (ds.zip (es.map (fresh ow))) ρ
    | .put i k e => if (getv ρ i).isSome then (ev cf n false e ρ).out ρ fun d => (ev cf n true k ρ).out ρ fun k => putD ρ i k d else .no
    | .app i e => match getv ρ i with
      | some (.lst xs, true) => (ev cf n false e ρ).out ρ fun d => if xs.length < line then .nx (setv ρ i (.lst (xs ++ [d])) true) else .no
      | _ => .no
    | .ext i e => match getv ρ i with
      | some (.lst xs, true) => (ev cf n true e ρ).out ρ fun d => match d with
        | .lst ys => if xs.length + ys.length ≤ line then .nx (setv ρ i (.lst (xs ++ ys)) true) else .no
        | _ => .no
      | _ => .no
    | .upd i j => match getv ρ i, getv ρ j with
      | some (.dic kvs, true), some (.dic more, _) => if decide (i ≠ j) && kvs.all (fun p => p.1.isK0) && more.all (fun p => p.1.isK0) && !more.isEmpty && decide (kvs.length + more.length ≤ line) then .nx (setv ρ i (.dic (putAll kvs more)) true) else .no
      | _, _ => .no
    | .pop t i => match getv ρ i with
      | some (.lst xs, true) => if t = i then .no else match xs.getLast? with
        | some d => .nx (setv (setv ρ i (.lst xs.dropLast) true) t d false)
        | none => .no
      | _ => .no
    | .exp e => (ev cf n true e ρ).out ρ fun _ => .nx ρ
    | .ret e => (ev cf n false e ρ).out ρ fun d => .rt d
    | .retV i => match getv ρ i with
      | some (d, own) => if own || !isCont d then .rt d else .no
      | none => .no
    | .retO e => (ev cf n false e ρ).out ρ fun d => if fresh ow e || !isCont d then .rt d else .no
    | .raise x => .ex x ρ
    | .ite c a b => (ev cf n true c ρ).out ρ fun d => (asB d).out ρ fun k => if k = true then blk (ex n) a ρ else blk (ex n) b ρ
    | .whl c b => (ev cf n true c ρ).out ρ fun d => (asB d).out ρ fun k => if k = true then (blk (ex n) b ρ).bind fun ρ' => ex n (.whl c b) ρ' else .nx ρ
    | .for_ g k its b => (evs (ev cf n false · ρ) its).out ρ fun ds => match walkOf k ds with
      | some xs => forL (fun ρ => blk (ex n) b ρ) g xs ρ
      | none => .no
end

def fuel : Nat := 100000
def initEnv (n : Nat) (ds : List D) : Env := ds.map (fun d => some (d, false)) ++ List.replicate (n - ds.length) none
/-- a call, k levels deep -/
def callF (F : Str → Option Fn) : Nat → Str → List D → R D
  | 0, _, _ => .no
  | k + 1, f, ds => match F f with
    | none => .no
    | some fn => if ds.length = fn.np then
        match blk (ex (fun x => ((F x).map (·.own)).getD false) (callF F k) fuel) fn.body (initEnv fn.names.length ds) with
        | .rt d => .ok d
        | .nx _ => .ok .non
        | .ex x _ => .ex x
        | .no => .no
      else .no
end Mp

end Sec_MpA
section Sec_MpB
set_option autoImplicit false
set_option linter.all false
/-! The translator: from the model's syntax to the IR. -/
namespace Mp
open PySem

/-- what the module's names are: constants, defs, exception classes. Any other global name is a built-in -/
inductive GV where | con (d : D) | fn | cls
  deriving Repr
structure Tab where
  gv : List (Str × GV)
  own : List Str

def sOf (x : Str) : D := .str x.cps.toList
def idx (N : List Str) (x : Str) : Option Nat := N.findIdx? (· == x)
/-- a name that a frame holds -/
def heldN (sc : Scope) (x : Str) : Bool := sc.names.lookup x == some .local || sc.names.lookup x == some .cell || sc.names.lookup x == some .free
/-- a name of one's own -/
def ownN (sc : Scope) (x : Str) : Bool := sc.names.lookup x == some .local || sc.names.lookup x == some .cell
def slot (N : List Str) (sc : Scope) (x : Str) : Option Nat := if heldN sc x then idx N x else none
def isGl (sc : Scope) (x : Str) : Bool := sc.names.lookup x == some .globalImplicit
def okName (x : Str) : Bool := x != "__debug__" && x != "__classdict__" && x != "__name__"
def constD : Const → Option D
  | .none => some .non
  | .bool b => some (.bl b)
  | .int i => some (.int i)
  | .str s => if s.cps.size ≤ 1000 then some (sOf s) else none
  | _ => none
def bopOf : Operator → Option BOp
  | .Add => some .add | .Sub => some .sub | .Mult => some .mul | .FloorDiv => some .fdiv | .Mod => some .mod | .Pow => some .pow
  | _ => none
def copOf : CmpOp → COp
  | .Eq => .eq | .NotEq => .ne | .Lt => .lt | .LtE => .le | .Gt => .gt | .GtE => .ge | .Is => .is_ | .IsNot => .isnot | .In => .in_ | .NotIn => .notin
def tyOf (x : Str) : Option Ty :=
  if x = "int" then some .int else if x = "bool" then some .bool else if x = "str" then some .str else if x = "tuple" then some .tuple else if x = "list" then some .list else none
def biOf (x : Str) (n : Nat) : Option Bi :=
  if n = 0 then none else
  if x = "len" then some .len else if x = "all" then some .all else if x = "any" then some .any else if x = "sum" then some .sum
  else if x = "max" then some .max else if x = "min" then some .min else if x = "sorted" then some .sorted
  else if x = "list" then some .list else if x = "tuple" then some .tuple else if x = "dict" then some .dict else if x = "int" then some .int else none
def relSc (scope sc : Scope) : Scope :=
  { scope with names := scope.names.map fun (n, k) => if (k == .free && sc.kind == .function && sc.names.lookup n == some .cell) then (n, .cell) else (n, k) }
def isStar : Expr → Bool
  | .Starred .. => true
  | _ => false
def isCall0 : Expr → Bool
  | .Call (.Name _ _) [] [] _ => true
  | _ => false
def isTup : Expr → Bool
  | .Tuple _ _ _ => true
  | _ => false
def isSet : Expr → Bool
  | .Set .. => true
  | _ => false
def isSlice : Expr → Bool
  | .Slice .. => true
  | _ => false
def mapO {α β : Type} (f : α → Option β) : List α → Option (List β)
  | [] => some []
  | x :: xs => (f x).bind fun y => (mapO f xs).bind fun ys => some (y :: ys)
def mapOO {α β : Type} (f : α → Option β) : Option α → Option (Option β)
  | none => some none
  | some x => (f x).bind fun y => some (some y)
def mapP {α β γ : Type} (f : α → Option γ) (g : β → Option γ) : List (Option α) → List β → Option (List (γ × γ))
  | [], [] => some []
  | some k :: ks, v :: vs => (f k).bind fun x => (g v).bind fun y => (mapP f g ks vs).bind fun r => some ((x, y) :: r)
  | _, _ => none
/-- targets; ok: the names that may be stored -/
def namesOf (N : List Str) (ok : Str → Bool) : List Expr → Option (List Nat)
  | [] => some []
  | .Name x _ :: r => if ok x then (idx N x).bind fun i => (namesOf N ok r).bind fun is => some (i :: is) else none
  | _ => none
def tgOf (N : List Str) (ok : Str → Bool) : Expr → Option Tg
  | .Name x _ => if ok x then (idx N x).bind fun i => some (.nm i) else none
  | .Tuple es _ _ => (namesOf N ok es).bind fun is => some (.tp is)
  | _ => none
def listOf (a : Expr) (op : Operator) : Option (List Expr) := match a, op with
  | .List es _, .Mult => some es
  | _, _ => none
/-- the slots of a comprehension's own names -/
def ownOf (N : List Str) (scope : Scope) : Option (List (Str × Nat)) :=
  mapO (fun y => (idx N y.1).bind fun i => some (y.1, i)) (scope.names.filter fun y => y.2 == .local || y.2 == .cell)
def walkName (x : Str) : Option Nat := if x = "enumerate" then some 1 else if x = "zip" then some 2 else if x = "range" then some 3 else none
/-- how an iterable is walked: the kind, its arguments -/
def iterOf (sc : Scope) (T : Tab) (tup : Bool) (e : Expr) : Nat × List Expr := match e with
  | .Call (.Name f _) args [] _ => (match walkName f with
    | some 1 => if tup && isGl sc f && (T.gv.lookup f).isNone && args.length == 1 then (1, args) else (0, [e])
    | some 2 => if tup && isGl sc f && (T.gv.lookup f).isNone && args.length == 2 then (2, args) else (0, [e])
    | some _ => if isGl sc f && (T.gv.lookup f).isNone && (args.length == 1 || args.length == 2 || args.length == 3) then (3, args) else (0, [e])
    | none => (0, [e]))
  | _ => (0, [e])
def blkB (N : List Str) (sc scope : Scope) (own : List (Str × Nat)) : Bool :=
  (match scope.kind with | .function => true | _ => false) && (scope.names.all fun y => decide (scope.names.lookup y.1 = some y.2)) && (own.all fun p => decide (N[p.2]? = some p.1)) &&
    (scope.names.all fun y => match y.2 with
      | .free => (match sc.names.lookup y.1 with | some .cell => true | some .free => true | _ => false)
      | .local => decide (y.1 ∈ own.map (·.1)) || decide (y.1 ∉ N)
      | .cell => decide (y.1 ∈ own.map (·.1)) || decide (y.1 ∉ N)
      | _ => true)
def okArgs (es : List Expr) : Bool := !es.any isStar && decide (es.length ≤ 1000)
def trName (T : Tab) (N : List Str) (sc : Scope) (x : Str) : Option E :=
  if okName x then (if heldN sc x then (idx N x).bind fun i => some (.var i) else if isGl sc x then (match T.gv.lookup x with
    | some (.con d) => some (.cst d)
    | some .fn => some (.cst (.fn x))
    | _ => none) else none) else none
def trCall (T : Tab) (sc : Scope) (f : Expr → Option E) (x : Str) (args : List Expr) : Option E :=
  if okName x && isGl sc x && okArgs args then (match T.gv.lookup x with
    | some .fn => (mapO f args).bind fun xs => some (.call x xs)
    | some _ => none
    | none => if x = "isinstance" then (match args with
        | [a, .Name t _] => if okName t && isGl sc t && (T.gv.lookup t).isNone then (tyOf t).bind fun ty => (f a).bind fun y => some (.bi (.isi ty) [y]) else none
        | _ => none)
      else (biOf x args.length).bind fun b => (mapO f args).bind fun xs => some (.bi b xs)) else none
def trMeth (f : Expr → Option E) (o : Expr) (m : Str) (args : List Expr) (line : Bool) : Option E :=
  if okArgs args && line && !isCall0 o && decide (args.length < 30) then (if m = "get" && decide (0 < args.length) then (f o).bind fun x => (mapO f args).bind fun xs => some (.meth .get x xs)
    else if m = "join" then (match args with
      | [a] => (f o).bind fun x => (f a).bind fun y => some (.meth .join x [y])
      | _ => none)
    else none) else none
def trE (T : Tab) (N : List Str) : Nat → Scope → Expr → Option E
  | 0, _, _ => none
  | n + 1, sc, e => match e with
    | .Name x _ => trName T N sc x
    | .Constant c _ _ => (constD c).bind fun d => some (.cst d)
    | .BinOp a op b _ => (match listOf a op with
      | some es => if okArgs es then (mapO (trE T N n sc) es).bind fun xs => (trE T N n sc b).bind fun y => some (.rep xs y) else none
      | none => (bopOf op).bind fun o => (trE T N n sc a).bind fun x => (trE T N n sc b).bind fun y => some (.bin o x y))
    | .UnaryOp op a _ => (match op with
      | .USub => (trE T N n sc a).bind fun x => some (.neg x)
      | .Not => (trE T N n sc a).bind fun x => some (.not x)
      | _ => none)
    | .BoolOp op es pos => (match es with
      | [] => none
      | [a] => trE T N n sc a
      | a :: b :: r => (trE T N n sc a).bind fun x => (trE T N n sc (.BoolOp op (b :: r) pos)).bind fun y => some (match op with | .And => .and x y | .Or => .or x y))
    | .Compare a ops bs _ => (match ops, bs with
      | [op], [b] => if behindInMarks op b then none else (trE T N n sc a).bind fun x => (trE T N n sc b).bind fun y => some (.cmp (copOf op) x y)
      | [op, op'], [b, c] => if behindInMarks op' c then none else (trE T N n sc a).bind fun x => (trE T N n sc b).bind fun y => (trE T N n sc c).bind fun z => some (.chain (copOf op) (copOf op') x y z)
      | _, _ => none)
    | .IfExp c a b _ => (trE T N n sc c).bind fun x => (trE T N n sc a).bind fun y => (trE T N n sc b).bind fun z => some (.ite x y z)
    | .Tuple es _ _ => if okArgs es then (mapO (trE T N n sc) es).bind fun xs => some (.tup xs) else none
    | .List es _ => if okArgs es then (mapO (trE T N n sc) es).bind fun xs => some (.lst xs) else none
    | .Dict ks vs _ => if ks.length ≤ 15 then (mapP (trE T N n sc) (trE T N n sc) ks vs).bind fun ps => some (.dct ps) else none
    | .Subscript a b _ => (match b with
      | .Slice lo hi none _ => (trE T N n sc a).bind fun x => (mapOO (trE T N n sc) lo).bind fun l => (mapOO (trE T N n sc) hi).bind fun h => some (.slice x l h)
      | b => if isSlice b then none else (trE T N n sc a).bind fun x => (trE T N n sc b).bind fun y => some (.ix x y))
    | .Call f args kws pos => if kws.isEmpty then (match f with
      | .Name x _ => trCall T sc (trE T N n sc) x args
      | .Attribute o m apos => trMeth (trE T N n sc) o m args (apos.endLine == pos.line)
      | _ => none) else none
    | .ListComp elt gs scope _ => (match gs with
      | [⟨tg, iter, ifs, 0⟩] => (ownOf N scope).bind fun own => if blkB N sc scope own && !isSet iter && decide (ifs.length ≤ 1) then
          (tgOf N (ownN scope) tg).bind fun g => (mapO (trE T N n sc) (iterOf sc T (isTup tg) iter).2).bind fun its => (mapO (trE T N n (relSc scope sc)) ifs).bind fun cs =>
            (trE T N n (relSc scope sc) elt).bind fun x => some (.comp (own.map (·.2)) g (iterOf sc T (isTup tg) iter).1 its cs x)
        else none
      | _ => none)
    | _ => none

/-- the slots whose values an expression hands on as they are -/
def esc (tmp : Bool) : Nat → E → List Nat
  | 0, _ => []
  | n + 1, e => match e with
    | .var i => if tmp then [] else [i]
    | .cst _ => []
    | .bin _ a b => esc true n a ++ esc true n b
    | .neg a => esc true n a
    | .cmp _ a b => esc true n a ++ esc true n b
    | .chain _ _ a b c => esc true n a ++ esc true n b ++ esc true n c
    | .and a b => esc true n a ++ esc true n b
    | .or a b => esc true n a ++ esc true n b
    | .not a => esc true n a
    | .ite c a b => esc true n c ++ esc tmp n a ++ esc tmp n b
    | .tup es => (es.map (esc false n)).flatten
    | .lst es => (es.map (esc false n)).flatten
    | .rep es b => (es.map (esc false n)).flatten ++ esc true n b
    | .dct kvs => (kvs.map fun p => esc false n p.1 ++ esc false n p.2).flatten
    | .ix a b => esc true n a ++ esc true n b
    | .slice a lo hi => esc true n a ++ (match lo with | some e => esc true n e | none => []) ++ (match hi with | some e => esc true n e | none => [])
    | .call _ es => (es.map (esc false n)).flatten
    | .callv f es => esc false n f ++ (es.map (esc false n)).flatten
    | .bi _ es => (es.map (esc true n)).flatten
    | .meth _ o es => esc true n o ++ (es.map (esc false n)).flatten
    | .comp own _ _ its cs x => (its.map (esc false n)).flatten ++ ((cs.map (esc true n)).flatten ++ esc false n x).filter fun i => !own.contains i
def escs (tmp : Bool) (es : List E) : List Nat := (es.map (esc tmp 200)).flatten.eraseDups
def fz (is : List Nat) (s : S) : S := if is.isEmpty then s else .fz is s

def isComp : Expr → Bool
  | .ListComp .. => true
  | .SetComp .. => true
  | .DictComp .. => true
  | _ => false
def popOf : Expr → Option (Str × Pos × Pos)
  | .Call (.Attribute (.Name o _) m apos) [] [] pos => if m = "pop" then some (o, apos, pos) else none
  | _ => none
def isName : Expr → Bool
  | .Name _ _ => true
  | _ => false
def trRet (own : Bool) (e : Expr) (x : E) : S := if own then (if isName e then (match x with
  | .var i => .retV i
  | x => .retO x) else fz (esc false 200 x) (.retO x)) else fz (esc false 200 x) (.ret x)
/-- xs.append(a) and its like: the name, the method, the argument -/
def actOf : Expr → Option (Str × Str × Expr × Bool)
  | .Call (.Attribute (.Name o _) m apos) [a] [] pos => some (o, m, a, apos.endLine == pos.line)
  | _ => none
def plainN (sc : Scope) (line : Nat) : Expr → Option Str
  | .Name id pos => if sc.names.lookup id == some .local && pos.line == line then some id else none
  | _ => none
def swapN (sc : Scope) (ts vs : List Expr) : Option (Option (List Str)) :=
  if !(ts.length == 2 || ts.length == 3) || vs.length != ts.length then some none
  else
    let line := (ts.head?.map (·.pos.line)).getD 0
    let names := ts.filterMap (plainN sc line)
    if names.length != ts.length || names.eraseDups.length != names.length then some none
    else if vs.all (foldedForSure 8) then some none
    else if vs.all (constantsAlone 8) then none
    else some (some names)
def nodupB : List Nat → Bool
  | [] => true
  | x :: xs => !xs.contains x && nodupB xs
def trAct (T : Tab) (N : List Str) (sc : Scope) (o m : Str) (a : Expr) (line : Bool) : Option S :=
  if okName o && heldN sc o && !isStar a && line then (idx N o).bind fun i => (trE T N 100 sc a).bind fun x =>
    if m = "append" then some (fz (esc false 200 x) (.app i x)) else if m = "extend" then some (fz (esc true 200 x) (.ext i x)) else if m = "update" then (match a with | .Name y _ => if okName y && heldN sc y then (idx N y).bind fun j => some (.upd i j) else none | _ => none) else none
  else none
def isAct (m : Str) : Bool := m = "append" || m = "extend" || m = "update"
def trAsg (T : Tab) (N : List Str) (sc : Scope) (tg e : Expr) : Option S := match tg with
  | .Name x _ => if ownN sc x then (match popOf e with
    | some (o, apos, pos) => if okName o && heldN sc o && (apos.endLine == pos.line) then (idx N x).bind fun t => (idx N o).bind fun i => some (.pop t i) else none
    | none => (idx N x).bind fun i => (trE T N 100 sc e).bind fun y => some (fz (esc false 200 y) (.set i y))) else none
  | .Subscript (.Name x _) k _ => if okName x && heldN sc x && !isSlice k then (idx N x).bind fun i => (trE T N 100 sc k).bind fun z => (trE T N 100 sc e).bind fun y => some (fz (esc false 200 y ++ esc true 200 z) (.put i z y)) else none
  | .Tuple ts _ _ => (namesOf N (ownN sc) ts).bind fun is => (match e with
    | .Tuple es _ _ => if okArgs es && nodupB is && ts.length == es.length && (swapN sc ts es).isSome then (mapO (trE T N 100 sc) es).bind fun ys => some (fz (escs false ys) (.mul is ys)) else none
    | e => (trE T N 100 sc e).bind fun y => some (fz (esc true 200 y) (.unp is y)))
  | _ => none
def trRaise (T : Tab) (sc : Scope) : Expr → Option S
  | .Call (.Name x _) [.Constant (.str _) _ _] [] _ => if okName x && isGl sc x then (match T.gv.lookup x with | some .cls => some (.raise x) | _ => none) else none
  | _ => none
def trS (T : Tab) (N : List Str) (own : Bool) (sc : Scope) : Nat → Stmt → Option S
  | 0, _ => none
  | n + 1, s => match s with
    | .Return e _ => (match e with
      | none => some (.ret (.cst .non))
      | some e => (trE T N 100 sc e).bind fun x => some (trRet own e x))
    | .Expr e _ => (match actOf e with
      | some (o, m, a, l) => if isAct m then trAct T N sc o m a l else (trE T N 100 sc e).bind fun x => some (fz (esc true 200 x) (.exp x))
      | none => if isComp e then none else (trE T N 100 sc e).bind fun x => some (fz (esc true 200 x) (.exp x)))
    | .Assign ts e _ => (match ts with
      | [tg] => trAsg T N sc tg e
      | _ => none)
    | .If c a b _ => (trE T N 100 sc c).bind fun x => (mapO (trS T N own sc n) a).bind fun p => (mapO (trS T N own sc n) b).bind fun q => some (fz (esc true 200 x) (.ite x p q))
    | .While c b o _ => if o.isEmpty then (trE T N 100 sc c).bind fun x => (mapO (trS T N own sc n) b).bind fun p => if (esc true 200 x).isEmpty then some (.whl x p) else none else none
    | .For tg iter b o _ => if o.isEmpty && !isSet iter then (tgOf N (ownN sc) tg).bind fun g => (mapO (trE T N 100 sc) (iterOf sc T (isTup tg) iter).2).bind fun its => (mapO (trS T N own sc n) b).bind fun p => some (fz (escs false its) (.for_ g (iterOf sc T (isTup tg) iter).1 its p)) else none
    | .Raise e c _ => (match e, c with
      | some e, none => trRaise T sc e
      | _, _ => none)
    | _ => none

def paramsOf (a : Arguments) : List Str := a.args.map (·.arg)
/-- all names of a def: parameters, the others of its scope, then those of its comprehensions -/
def compNames : Nat → Expr → List Str
  | 0, _ => []
  | n + 1, e => match e with
    | .ListComp elt gs scope _ => (scope.names.filter fun y => y.2 == .local || y.2 == .cell).map (·.1) ++ compNames n elt ++ (gs.map fun g => compNames n g.iter ++ (g.ifs.map (compNames n)).flatten).flatten
    | .BinOp a _ b _ => compNames n a ++ compNames n b
    | .UnaryOp _ a _ => compNames n a
    | .BoolOp _ es _ => (es.map (compNames n)).flatten
    | .Compare a _ bs _ => compNames n a ++ (bs.map (compNames n)).flatten
    | .IfExp a b c _ => compNames n a ++ compNames n b ++ compNames n c
    | .Tuple es _ _ => (es.map (compNames n)).flatten
    | .List es _ => (es.map (compNames n)).flatten
    | .Dict ks vs _ => (ks.map fun k => match k with | some k => compNames n k | none => []).flatten ++ (vs.map (compNames n)).flatten
    | .Subscript a b _ => compNames n a ++ compNames n b
    | .Slice a b _ _ => (match a with | some a => compNames n a | none => []) ++ (match b with | some b => compNames n b | none => [])
    | .Call f es _ _ => compNames n f ++ (es.map (compNames n)).flatten
    | .Attribute a _ _ => compNames n a
    | _ => []
def compNamesS : Nat → Stmt → List Str
  | 0, _ => []
  | n + 1, s => match s with
    | .Return (some e) _ => compNames 100 e
    | .Expr e _ => compNames 100 e
    | .Assign ts e _ => (ts.map (compNames 100)).flatten ++ compNames 100 e
    | .If c a b _ => compNames 100 c ++ (a.map (compNamesS n)).flatten ++ (b.map (compNamesS n)).flatten
    | .While c b _ _ => compNames 100 c ++ (b.map (compNamesS n)).flatten
    | .For _ i b _ _ => compNames 100 i ++ (b.map (compNamesS n)).flatten
    | .Try b hs _ _ _ => (b.map (compNamesS n)).flatten ++ (hs.map fun | .ExceptHandler _ _ h _ => (h.map (compNamesS n)).flatten).flatten
    | _ => []
def slotNames (a : Arguments) (sc : Scope) (body : List Stmt) : List Str :=
  (paramsOf a ++ ((sc.names.filter fun y => y.2 == .local || y.2 == .cell).map (·.1)) ++ (body.map (compNamesS 100)).flatten).eraseDups
/-- the module's names -/
def gvOf (cons : List (Str × D)) : List Stmt → List (Str × GV)
  | [] => []
  | .FunctionDef name .. :: r => (name, .fn) :: gvOf cons r
  | .ClassDef name .. :: r => (name, .cls) :: gvOf cons r
  | .Assign [.Name x _] (.Constant c _ _) _ :: r => (match constD c with | some d => [(x, .con d)] | none => []) ++ gvOf cons r
  | .Assign [.Name x _] _ _ :: r => (match cons.lookup x with | some d => [(x, .con d)] | none => []) ++ gvOf cons r
  | _ :: r => gvOf cons r
def trFn (T : Tab) : Stmt → Option Fn
  | .FunctionDef name a body [] _ [] sc none _ _ => if a.posonlyargs.isEmpty && a.vararg.isNone && a.kwonlyargs.isEmpty && a.kwarg.isNone && a.defaults.isEmpty then
      (mapO (trS T (slotNames a sc body) (T.own.contains name) sc 100) body).bind fun b =>
        some { name, np := (paramsOf a).length, names := slotNames a sc body, own := T.own.contains name, body := b } else none
  | _ => none
/-- what the translator refuses, by name -/
def refused (T : Tab) (body : List Stmt) : List Str := body.filterMap fun s => match s with
  | .FunctionDef name .. => if (trFn T s).isSome then none else some name
  | _ => none
end Mp

end Sec_MpB
section Sec_MpC
set_option autoImplicit false
set_option linter.all false
/-! What stands for plain data in the abstract heap. -/
namespace Mp
open PySem PySem.Spec PyProof.Rows L2

def kD : D → Option Key
  | .int i => some (.inl i)
  | .str x => if x.length ≤ line then some (.inr ⟨x.toArray⟩) else none
  | _ => none
def ksD : List D → Option (List Key)
  | [] => some []
  | d :: ds => match kD d, ksD ds with
    | some k, some ks => some (k :: ks)
    | _, _ => none
def ktD : D → Option (List Key)
  | .tup ds => ksD ds
  | _ => none

section
variable (mg : Str → Option Value) (H : Hp)
mutual
/-- v is the datum d: what it leans on is never changed -/
def Rep : D → V → Prop
  | .non, v => v = .non
  | .bl b, v => v = .bl b
  | .int i, v => v = .int i
  | .str x, v => v = .str ⟨x.toArray⟩ ∧ x.length ≤ line
  | .tup ds, v => ∃ a vs, v = .ref a ∧ H a = some (.tup vs) ∧ Reps ds vs
  | .lst ds, v => ∃ a o vs, v = .ref a ∧ H a = some (.frz o (.lst vs)) ∧ Reps ds vs
  | .dic ds, v => ∃ a o, v = .ref a ∧ ((∃ kvs, H a = some (.frz o (.dK kvs)) ∧ RepK ds kvs) ∨ ∃ kvs, H a = some (.frz o (.dT kvs)) ∧ RepT ds kvs)
  | .fn x, v => ∃ f, v = .ref f ∧ mg x = some (.ref f)
def Reps : List D → List V → Prop
  | [], vs => vs = []
  | d :: ds, vs => ∃ v r, vs = v :: r ∧ Rep d v ∧ Reps ds r
def RepK : List (D × D) → List (Key × V) → Prop
  | [], vs => vs = []
  | (d, e) :: ds, vs => ∃ k v r, vs = (k, v) :: r ∧ kD d = some k ∧ Rep e v ∧ RepK ds r
def RepT : List (D × D) → List (List Key × V) → Prop
  | [], vs => vs = []
  | (d, e) :: ds, vs => ∃ k v r, vs = (k, v) :: r ∧ ktD d = some k ∧ Rep e v ∧ RepT ds r
end
/-- .. the container itself may yet be changed -/
def Tmp : D → V → Prop
  | .lst ds, v => ∃ a vs, v = .ref a ∧ Rd H a (.lst vs) ∧ Reps mg H ds vs
  | .dic ds, v => ∃ a, v = .ref a ∧ ((∃ kvs, Rd H a (.dK kvs) ∧ RepK mg H ds kvs) ∨ ∃ kvs, Rd H a (.dT kvs) ∧ RepT mg H ds kvs)
  | d, v => Rep mg H d v
/-- a container of one's own, new since H0 -/
def Own (H0 : Hp) : D → V → Prop
  | .lst ds, v => ∃ a vs, v = .ref a ∧ H0 a = none ∧ H a = some (.lst vs) ∧ Reps mg H ds vs
  | .dic ds, v => ∃ a, v = .ref a ∧ H0 a = none ∧ ((∃ kvs, H a = some (.dK kvs) ∧ RepK mg H ds kvs) ∨ ∃ kvs, H a = some (.dT kvs) ∧ RepT mg H ds kvs)
  | d, v => Rep mg H d v
def Res (H0 : Hp) (own : Bool) (d : D) (v : V) : Prop := if own = true then Own mg H H0 d v else Rep mg H d v
end

/-- what never changes is as it was -/
structure Ke (H H' : Hp) : Prop where
  tu : ∀ b xs, H b = some (.tup xs) → H' b = some (.tup xs)
  fz : ∀ b o u, H b = some (.frz o u) → H' b = some (.frz o u)
theorem Ke.refl (H : Hp) : Ke H H := ⟨fun _ _ h => h, fun _ _ _ h => h⟩
theorem Ke.trans {H H1 H2 : Hp} (a : Ke H H1) (b : Ke H1 H2) : Ke H H2 := ⟨fun c xs h => b.tu c xs (a.tu c xs h), fun c o u h => b.fz c o u (a.fz c o u h)⟩
theorem Ke.of {H H' : Hp} (s : Same H H') : Ke H H' := ⟨fun b _ h => s b _ h, fun b _ _ h => s b _ h⟩
theorem Ke.upd {H : Hp} {a : Addr} {o : HO} (h : H a = none ∨ Mut (H a)) : Ke H (upd H a o) := by
  refine ⟨fun b xs e => ?_, fun b u x e => ?_⟩
  · rw [upd_ne]; exact e
    rintro rfl
    rcases h with h | h
    · rw [e] at h; cases h
    · rw [e] at h; exact h
  · rw [upd_ne]; exact e
    rintro rfl
    rcases h with h | h
    · rw [e] at h; cases h
    · rw [e] at h; exact h
theorem Same.upd {H : Hp} {a : Addr} {o : HO} (h : H a = none) : Same H (upd H a o) := fun b u e => by
  rw [upd_ne (ne_of_none e h)]; exact e

section
variable {mg : Str → Option Value} {H H' H0 : Hp}
mutual
theorem Rep.mono (k : Ke H H') : ∀ (d : D) (v : V), Rep mg H d v → Rep mg H' d v
  | .non, _, h => by simpa only [Rep] using h
  | .bl _, _, h => by simpa only [Rep] using h
  | .int _, _, h => by simpa only [Rep] using h
  | .str _, _, h => by simpa only [Rep] using h
  | .fn _, _, h => by simpa only [Rep] using h
  | .tup ds, v, h => by
    simp only [Rep] at h ⊢
    obtain ⟨a, vs, e, h1, h2⟩ := h
    exact ⟨a, vs, e, k.tu _ _ h1, Reps.mono k ds vs h2⟩
  | .lst ds, v, h => by
    simp only [Rep] at h ⊢
    obtain ⟨a, o, vs, e, h1, h2⟩ := h
    exact ⟨a, o, vs, e, k.fz _ _ _ h1, Reps.mono k ds vs h2⟩
  | .dic ds, v, h => by
    simp only [Rep] at h ⊢
    obtain ⟨a, o, e, h⟩ := h
    refine ⟨a, o, e, ?_⟩
    rcases h with ⟨kvs, h1, h2⟩ | ⟨kvs, h1, h2⟩
    · exact .inl ⟨kvs, k.fz _ _ _ h1, RepK.mono k ds kvs h2⟩
    · exact .inr ⟨kvs, k.fz _ _ _ h1, RepT.mono k ds kvs h2⟩
theorem Reps.mono (k : Ke H H') : ∀ (ds : List D) (vs : List V), Reps mg H ds vs → Reps mg H' ds vs
  | [], vs, h => by simpa only [Reps] using h
  | d :: ds, vs, h => by
    simp only [Reps] at h ⊢
    obtain ⟨v, r, e, h1, h2⟩ := h
    exact ⟨v, r, e, Rep.mono k d v h1, Reps.mono k ds r h2⟩
theorem RepK.mono (k : Ke H H') : ∀ (ds : List (D × D)) (vs : List (Key × V)), RepK mg H ds vs → RepK mg H' ds vs
  | [], vs, h => by simpa only [RepK] using h
  | (d, e) :: ds, vs, h => by
    simp only [RepK] at h ⊢
    obtain ⟨kk, v, r, e1, h0, h1, h2⟩ := h
    exact ⟨kk, v, r, e1, h0, Rep.mono k e v h1, RepK.mono k ds r h2⟩
theorem RepT.mono (k : Ke H H') : ∀ (ds : List (D × D)) (vs : List (List Key × V)), RepT mg H ds vs → RepT mg H' ds vs
  | [], vs, h => by simpa only [RepT] using h
  | (d, e) :: ds, vs, h => by
    simp only [RepT] at h ⊢
    obtain ⟨kk, v, r, e1, h0, h1, h2⟩ := h
    exact ⟨kk, v, r, e1, h0, Rep.mono k e v h1, RepT.mono k ds r h2⟩
end
theorem Rd.mono (s : Same H H') {a : Addr} {u : HO} (h : Rd H a u) : Rd H' a u := by
  rcases h with h | ⟨o, h⟩
  · exact .inl (s _ _ h)
  · exact .inr ⟨o, s _ _ h⟩
theorem Tmp.mono (s : Same H H') {d : D} {v : V} (h : Tmp mg H d v) : Tmp mg H' d v := by
  have k := Ke.of s
  cases d with
  | lst ds => obtain ⟨a, vs, e, h1, h2⟩ := h; exact ⟨a, vs, e, Rd.mono s h1, h2.mono k⟩
  | dic ds =>
    obtain ⟨a, e, h⟩ := h
    refine ⟨a, e, ?_⟩
    rcases h with ⟨kvs, h1, h2⟩ | ⟨kvs, h1, h2⟩
    · exact .inl ⟨kvs, Rd.mono s h1, h2.mono k⟩
    · exact .inr ⟨kvs, Rd.mono s h1, h2.mono k⟩
  | _ => exact Rep.mono k _ _ h
theorem Rep.tmp {d : D} {v : V} (h : Rep mg H d v) : Tmp mg H d v := by
  cases d with
  | lst ds => simp only [Rep] at h; obtain ⟨a, o, vs, e, h1, h2⟩ := h; exact ⟨a, vs, e, .inr ⟨o, h1⟩, h2⟩
  | dic ds =>
    simp only [Rep] at h
    obtain ⟨a, o, e, h⟩ := h
    refine ⟨a, e, ?_⟩
    rcases h with ⟨kvs, h1, h2⟩ | ⟨kvs, h1, h2⟩
    · exact .inl ⟨kvs, .inr ⟨o, h1⟩, h2⟩
    · exact .inr ⟨kvs, .inr ⟨o, h1⟩, h2⟩
  | _ => exact h
theorem Own.tmp {d : D} {v : V} (h : Own mg H H0 d v) : Tmp mg H d v := by
  cases d with
  | lst ds => obtain ⟨a, vs, e, h0, h1, h2⟩ := h; exact ⟨a, vs, e, .inl h1, h2⟩
  | dic ds =>
    obtain ⟨a, e, h0, h⟩ := h
    refine ⟨a, e, ?_⟩
    rcases h with ⟨kvs, h1, h2⟩ | ⟨kvs, h1, h2⟩
    · exact .inl ⟨kvs, .inl h1, h2⟩
    · exact .inr ⟨kvs, .inl h1, h2⟩
  | _ => exact h
theorem Tmp.rep {d : D} {v : V} (h : Tmp mg H d v) (c : isCont d = false) : Rep mg H d v := by
  cases d <;> first | exact h | cases c
theorem Own.rep {d : D} {v : V} (h : Own mg H H0 d v) (c : isCont d = false) : Rep mg H d v := by
  cases d <;> first | exact h | cases c
theorem Rep.own {d : D} {v : V} (h : Rep mg H d v) (c : isCont d = false) : Own mg H H0 d v := by
  cases d <;> first | exact h | cases c
theorem Own.mono (s : Same H H') {d : D} {v : V} (h : Own mg H H0 d v) : Own mg H' H0 d v := by
  have k := Ke.of s
  cases d with
  | lst ds => obtain ⟨a, vs, e, h0, h1, h2⟩ := h; exact ⟨a, vs, e, h0, s _ _ h1, h2.mono k⟩
  | dic ds =>
    obtain ⟨a, e, h0, h⟩ := h
    refine ⟨a, e, h0, ?_⟩
    rcases h with ⟨kvs, h1, h2⟩ | ⟨kvs, h1, h2⟩
    · exact .inl ⟨kvs, s _ _ h1, h2.mono k⟩
    · exact .inr ⟨kvs, s _ _ h1, h2.mono k⟩
  | _ => exact Rep.mono k _ _ h
theorem Own.older {H1 : Hp} (s : Same H0 H1) {d : D} {v : V} (h : Own mg H H1 d v) : Own mg H H0 d v := by
  cases d with
  | lst ds => obtain ⟨a, vs, e, h0, h1⟩ := h; exact ⟨a, vs, e, s.free h0, h1⟩
  | dic ds => obtain ⟨a, e, h0, h⟩ := h; exact ⟨a, e, s.free h0, h⟩
  | _ => exact h
theorem Res.mono (s : Same H H') {own : Bool} {d : D} {v : V} (h : Res mg H H0 own d v) : Res mg H' H0 own d v := by
  unfold Res at h ⊢
  split
  · rename_i e; rw [if_pos e] at h; exact h.mono s
  · rename_i e; rw [if_neg e] at h; exact Rep.mono (Ke.of s) _ _ h
theorem Res.tmp {own : Bool} {d : D} {v : V} (h : Res mg H H0 own d v) : Tmp mg H d v := by
  unfold Res at h
  split at h
  · exact h.tmp
  · exact h.tmp
theorem Res.older {H1 : Hp} (s : Same H0 H1) {own : Bool} {d : D} {v : V} (h : Res mg H H1 own d v) : Res mg H H0 own d v := by
  unfold Res at h ⊢
  split
  · rename_i e; rw [if_pos e] at h; exact h.older s
  · rename_i e; rw [if_neg e] at h; exact h
theorem Res.f {d : D} {v : V} : Res mg H H0 false d v ↔ Rep mg H d v := by unfold Res; simp
theorem Res.t {d : D} {v : V} : Res mg H H0 true d v ↔ Own mg H H0 d v := by unfold Res; simp

/-! lists of data -/
theorem Reps.length : ∀ {ds : List D} {vs : List V}, Reps mg H ds vs → ds.length = vs.length
  | [], _, h => by simp only [Reps] at h; subst h; rfl
  | d :: ds, _, h => by
    simp only [Reps] at h
    obtain ⟨v, r, e, _, h2⟩ := h
    subst e
    simp [Reps.length h2]
theorem Reps.get : ∀ {ds : List D} {vs : List V} {i : Nat} {d : D}, Reps mg H ds vs → ds[i]? = some d → ∃ v, vs[i]? = some v ∧ Rep mg H d v
  | [], _, _, _, _, e => by simp at e
  | d :: ds, _, 0, _, h, e => by
    simp only [Reps] at h
    obtain ⟨v, r, e', h1, h2⟩ := h
    subst e'
    simp at e; subst e
    exact ⟨v, rfl, h1⟩
  | d :: ds, _, i + 1, x, h, e => by
    simp only [Reps] at h
    obtain ⟨v, r, e', h1, h2⟩ := h
    subst e'
    obtain ⟨w, e1, e2⟩ := Reps.get (i := i) (d := x) h2 (by simpa using e)
    exact ⟨w, by simpa using e1, e2⟩
theorem Reps.get' : ∀ {ds : List D} {vs : List V} {i : Nat} {v : V}, Reps mg H ds vs → vs[i]? = some v → ∃ d, ds[i]? = some d ∧ Rep mg H d v
  | [], _, _, _, h, e => by simp only [Reps] at h; subst h; simp at e
  | d :: ds, _, 0, _, h, e => by
    simp only [Reps] at h
    obtain ⟨v, r, e', h1, h2⟩ := h
    subst e'
    simp at e; subst e
    exact ⟨d, rfl, h1⟩
  | d :: ds, _, i + 1, x, h, e => by
    simp only [Reps] at h
    obtain ⟨v, r, e', h1, h2⟩ := h
    subst e'
    obtain ⟨w, e1, e2⟩ := Reps.get' (i := i) (v := x) h2 (by simpa using e)
    exact ⟨w, by simpa using e1, e2⟩
theorem Reps.append : ∀ {ds ds' : List D} {vs vs' : List V}, Reps mg H ds vs → Reps mg H ds' vs' → Reps mg H (ds ++ ds') (vs ++ vs')
  | [], _, _, _, h, h' => by simp only [Reps] at h; subst h; exact h'
  | d :: ds, _, _, _, h, h' => by
    simp only [Reps] at h
    obtain ⟨v, r, e', h1, h2⟩ := h
    subst e'
    simp only [List.cons_append, Reps]
    exact ⟨v, _, rfl, h1, Reps.append h2 h'⟩
theorem Reps.one {d : D} {v : V} (h : Rep mg H d v) : Reps mg H [d] [v] := by simp only [Reps]; exact ⟨v, [], rfl, h, rfl⟩
theorem Reps.nil : Reps mg H [] [] := by simp only [Reps]
theorem Reps.cons {d : D} {v : V} {ds : List D} {vs : List V} (h : Rep mg H d v) (h' : Reps mg H ds vs) : Reps mg H (d :: ds) (v :: vs) := by simp only [Reps]; exact ⟨v, vs, rfl, h, h'⟩
theorem Reps.take : ∀ {ds : List D} {vs : List V} (n : Nat), Reps mg H ds vs → Reps mg H (ds.take n) (vs.take n)
  | _, _, 0, _ => by simp only [List.take_zero]; exact Reps.nil
  | [], _, _ + 1, h => by simp only [Reps] at h; subst h; simp only [List.take_nil]; exact Reps.nil
  | d :: ds, _, n + 1, h => by
    simp only [Reps] at h
    obtain ⟨v, r, e', h1, h2⟩ := h
    subst e'
    exact Reps.cons h1 (Reps.take n h2)
theorem Reps.drop : ∀ {ds : List D} {vs : List V} (n : Nat), Reps mg H ds vs → Reps mg H (ds.drop n) (vs.drop n)
  | _, _, 0, h => h
  | [], _, _ + 1, h => by simp only [Reps] at h; subst h; simp only [List.drop_nil]; exact Reps.nil
  | d :: ds, _, n + 1, h => by
    simp only [Reps] at h
    obtain ⟨v, r, e', h1, h2⟩ := h
    subst e'
    exact Reps.drop n h2
theorem Reps.dropLast {ds : List D} {vs : List V} (h : Reps mg H ds vs) : Reps mg H ds.dropLast vs.dropLast := by
  rw [List.dropLast_eq_take, List.dropLast_eq_take, h.length]
  exact h.take _
theorem Reps.set {d : D} {v : V} (h : Rep mg H d v) : ∀ {ds : List D} {vs : List V} (n : Nat), Reps mg H ds vs → Reps mg H (ds.set n d) (vs.set n v)
  | [], _, _, h' => by simp only [Reps] at h'; subst h'; exact Reps.nil
  | _ :: _, _, 0, h' => by
    simp only [Reps] at h'
    obtain ⟨v, r, e', h1, h2⟩ := h'
    subst e'
    exact Reps.cons h h2
  | _ :: _, _, n + 1, h' => by
    simp only [Reps] at h'
    obtain ⟨v, r, e', h1, h2⟩ := h'
    subst e'
    exact Reps.cons h1 (Reps.set h n h2)
theorem Reps.rep : ∀ {ds : List D} {vs : List V} (n : Nat), Reps mg H ds vs → Reps mg H (List.replicate n ds).flatten (List.replicate n vs).flatten
  | _, _, 0, _ => Reps.nil
  | _, _, n + 1, h => by
    rw [List.replicate_succ, List.replicate_succ, List.flatten_cons, List.flatten_cons]
    exact h.append (Reps.rep n h)
theorem cutV_eq (vs : List V) (lo hi : Option Int) : cutV vs lo hi = cut vs lo hi := by
  have e : ∀ n d o, HT.sIx n d o = sIx n d o := fun n d o => by cases o <;> rfl
  unfold cutV cut
  rw [e, e]
theorem Reps.cut {ds : List D} {vs : List V} (lo hi : Option Int) (h : Reps mg H ds vs) : Reps mg H (cut ds lo hi) (cut vs lo hi) := by
  unfold Mp.cut
  rw [h.length]
  exact (h.drop _).take _
theorem ixN_eq (n : Nat) (i : Int) : L2.ixN n i = ixN n i := rfl
theorem Reps.atI {ds : List D} {vs : List V} {i : Int} {d : D} (h : Reps mg H ds vs) (e : atI ds i = some d) : ∃ v, L2.atI vs i = some v ∧ Rep mg H d v := by
  unfold Mp.atI at e
  unfold L2.atI
  rw [h.length] at e
  show ∃ v, ((ixN vs.length i).bind fun j => vs[j]?) = some v ∧ _
  cases q : ixN vs.length i with
  | none => rw [q] at e; simp at e
  | some j => rw [q] at e; exact h.get (by simpa using e)

/-! what HandS reads -/
theorem Tmp.sql {K : PySem.W.Frag} {ds : List D} {v : V} (h : Tmp mg H (.lst ds) v) : ∃ a vs, v = .ref a ∧ SqL K H a vs ∧ Reps mg H ds vs := by
  obtain ⟨a, vs, e, h1, h2⟩ := h
  exact ⟨a, vs, e, .inl h1, h2⟩
theorem Rep.sqt {K : PySem.W.Frag} {ds : List D} {v : V} (h : Rep mg H (.tup ds) v) : ∃ a vs, v = .ref a ∧ SqT K H a vs ∧ Reps mg H ds vs := by
  simp only [Rep] at h
  obtain ⟨a, vs, e, h1, h2⟩ := h
  exact ⟨a, vs, e, .inl (.inl h1), h2⟩
theorem Tmp.sqt {K : PySem.W.Frag} {ds : List D} {v : V} (h : Tmp mg H (.tup ds) v) : ∃ a vs, v = .ref a ∧ SqT K H a vs ∧ Reps mg H ds vs := Rep.sqt h
end
end Mp

end Sec_MpC
section Sec_MpD
set_option autoImplicit false
set_option linter.all false
set_option maxHeartbeats 1000000
/-! == and < of plain data in the model. -/
namespace Mp
open PySem PySem.Spec PyProof.Rows L2
open PySem.SeqAt (EqAt RcAt RcNeAt pairEq)

mutual
def nd : PyData → Bool
  | .list xs => nds xs
  | .tuple xs => nds xs
  | .dict _ => false
  | _ => true
def nds : List PyData → Bool
  | [] => true
  | x :: xs => nd x && nds xs
end
mutual
theorem nd_one {h : Heap} : ∀ (d d' : PyData) (v : Value) (as as' : List Addr), nd d = true → Reads h v d as → Reads h v d' as' → d = d' := by
  intro d
  cases d with
  | list xs =>
    intro d' v as as' n r r'
    cases r with
    | list a1 a2 a3 a4 =>
      cases r' with
      | list b1 b2 b3 b4 =>
        cases a1.symm.trans b1
        cases a3.symm.trans b3
        exact congrArg _ (nds_one xs _ _ _ _ n a4 b4)
      | tuple b1 b2 => cases a1.symm.trans b1; exact absurd (a2.symm.trans b2) (by simp)
      | dict b1 b2 => cases a1.symm.trans b1; exact absurd (a2.symm.trans b2) (by simp)
  | tuple xs =>
    intro d' v as as' n r r'
    cases r with
    | tuple a1 a2 a3 a4 =>
      cases r' with
      | tuple b1 b2 b3 b4 =>
        cases a1.symm.trans b1
        cases a3.symm.trans b3
        exact congrArg _ (nds_one xs _ _ _ _ n a4 b4)
      | list b1 b2 => cases a1.symm.trans b1; exact absurd (a2.symm.trans b2) (by simp)
      | dict b1 b2 => cases a1.symm.trans b1; exact absurd (a2.symm.trans b2) (by simp)
  | dict _ => intro d' v as as' n; cases n
  | _ => intro d' v as as' _ r r'; cases r; cases r'; rfl
theorem nds_one {h : Heap} : ∀ (xs ys : List PyData) (vs : List Value) (as as' : List Addr), nds xs = true → ReadsAll h vs xs as → ReadsAll h vs ys as' → xs = ys := by
  intro xs
  cases xs with
  | nil => intro ys vs as as' _ r r'; cases r; cases r'; rfl
  | cons x xs =>
    intro ys vs as as' n r r'
    obtain ⟨n1, n2⟩ := Bool.and_eq_true_iff.mp (show (nd x && nds xs) = true from n)
    cases r with
    | cons p q =>
      cases r' with
      | cons p' q' => rw [nd_one x _ _ _ _ n1 p p', nds_one xs _ _ _ _ n2 q q']
end
mutual
theorem eqv_self : ∀ d : PyData, nd d = true → PyData.eqv d d = true := by
  intro d
  cases d with
  | list xs => intro n; simp only [PyData.eqv]; exact eqvs_self xs n
  | tuple xs => intro n; simp only [PyData.eqv]; exact eqvs_self xs n
  | dict _ => intro n; cases n
  | _ => intro _; simp [PyData.eqv]
theorem eqvs_self : ∀ xs : List PyData, nds xs = true → PyData.eqvAll xs xs = true := by
  intro xs
  cases xs with
  | nil => intro _; rfl
  | cons x xs =>
    intro n
    obtain ⟨n1, n2⟩ := Bool.and_eq_true_iff.mp (show (nd x && nds xs) = true from n)
    simp only [PyData.eqvAll, eqv_self x n1, eqvs_self xs n2, Bool.and_self]
end
abbrev Rm (A : Around) (d e : PyData) : Prop := A.units + min d.depth e.depth < cLine
theorem rm0 {u a b : Nat} (h : u + min a b < cLine) : u < cLine := by omega
section
open PySem.SeqAt
theorem eq_mixed {A : Around} {s : Shared} {a b : Value} {d e : PyData} {as bs : List Addr} (ra : Reads s.heap a d as) (rb : Reads s.heap b e bs) (hd : nd d = true) (he : nd e = true) (hu : A.units < cLine)
    (ne : ∀ xs ys, ¬ (d = .list xs ∧ e = .list ys) ∧ ¬ (d = .tuple xs ∧ e = .tuple ys)) : EqAt A s a b (PyData.eqv d e) ∧ RcAt A s a b (PyData.eqv d e) ∧ RcNeAt A s a b (!PyData.eqv d e) := by
  cases ra with
  | none =>
    cases rb with
    | none => exact ⟨EqAt.same _, RcAt.none_none, RcNeAt.none_none⟩
    | bool y => exact ⟨EqAt.none_bool y, RcAt.none_bool y, RcNeAt.none_bool y⟩
    | int y u => exact ⟨EqAt.none_int y u, RcAt.none_int y u, RcNeAt.none_int y u⟩
    | str y u => exact ⟨EqAt.none_str y u, RcAt.none_str y u, RcNeAt.none_str y u⟩
    | list k1 k2 k3 k4 => exact ⟨.none_list ⟨_, k1, k2, _, k3⟩ hu, .none_list ⟨_, k1, k2, _, k3⟩ hu, .none_list ⟨_, k1, k2, _, k3⟩ hu⟩
    | tuple k1 k2 k3 k4 => exact ⟨.none_tuple ⟨_, k1, k2, _, k3⟩ hu, .none_tuple ⟨_, k1, k2, _, k3⟩ hu, .none_tuple ⟨_, k1, k2, _, k3⟩ hu⟩
    | dict => cases he
  | bool x =>
    cases rb with
    | none => exact ⟨.bool_none x, .bool_none x, .bool_none x⟩
    | bool y => exact ⟨.bool_bool x y, .bool_bool x y, .bool_bool x y⟩
    | int y u => exact ⟨.bool_int x y u, .bool_int x y u, .bool_int x y u⟩
    | str y u => exact ⟨.bool_str x y u, .bool_str x y u, .bool_str x y u⟩
    | list k1 k2 k3 k4 => exact ⟨.bool_list x ⟨_, k1, k2, _, k3⟩ hu, .bool_list x ⟨_, k1, k2, _, k3⟩ hu, .bool_list x ⟨_, k1, k2, _, k3⟩ hu⟩
    | tuple k1 k2 k3 k4 => exact ⟨.bool_tuple x ⟨_, k1, k2, _, k3⟩ hu, .bool_tuple x ⟨_, k1, k2, _, k3⟩ hu, .bool_tuple x ⟨_, k1, k2, _, k3⟩ hu⟩
    | dict => cases he
  | int x t =>
    cases rb with
    | none => exact ⟨.int_none x t, .int_none x t, .int_none x t⟩
    | bool y => exact ⟨.int_bool x t y, .int_bool x t y, .int_bool x t y⟩
    | int y u => exact ⟨.int_int x t y u, .int_int x t y u, .int_int x t y u⟩
    | str y u => exact ⟨.int_str x t y u, .int_str x t y u, .int_str x t y u⟩
    | list k1 k2 k3 k4 => exact ⟨.int_list x t ⟨_, k1, k2, _, k3⟩ hu, .int_list x t ⟨_, k1, k2, _, k3⟩ hu, .int_list x t ⟨_, k1, k2, _, k3⟩ hu⟩
    | tuple k1 k2 k3 k4 => exact ⟨.int_tuple x t ⟨_, k1, k2, _, k3⟩ hu, .int_tuple x t ⟨_, k1, k2, _, k3⟩ hu, .int_tuple x t ⟨_, k1, k2, _, k3⟩ hu⟩
    | dict => cases he
  | str x t =>
    cases rb with
    | none => exact ⟨.str_none x t, .str_none x t, .str_none x t⟩
    | bool y => exact ⟨.str_bool x t y, .str_bool x t y, .str_bool x t y⟩
    | int y u => exact ⟨.str_int x t y u, .str_int x t y u, .str_int x t y u⟩
    | str y u => exact ⟨.str_str x t y u, .str_str x t y u, .str_str x t y u⟩
    | list k1 k2 k3 k4 => exact ⟨.str_list x t ⟨_, k1, k2, _, k3⟩ hu, .str_list x t ⟨_, k1, k2, _, k3⟩ hu, .str_list x t ⟨_, k1, k2, _, k3⟩ hu⟩
    | tuple k1 k2 k3 k4 => exact ⟨.str_tuple x t ⟨_, k1, k2, _, k3⟩ hu, .str_tuple x t ⟨_, k1, k2, _, k3⟩ hu, .str_tuple x t ⟨_, k1, k2, _, k3⟩ hu⟩
    | dict => cases he
  | list h1 h2 h3 h4 =>
    have hl := (⟨_, h1, h2, _, h3⟩ : s.heap.IsList _ _)
    cases rb with
    | none => exact ⟨.list_none hl hu, .list_none hl hu, .list_none hl hu⟩
    | bool y => exact ⟨.list_bool y hl hu, .list_bool y hl hu, .list_bool y hl hu⟩
    | int y u => exact ⟨.list_int y u hl hu, .list_int y u hl hu, .list_int y u hl hu⟩
    | str y u => exact ⟨.list_str y u hl hu, .list_str y u hl hu, .list_str y u hl hu⟩
    | list k1 k2 k3 k4 => exact ((ne _ _).1 ⟨rfl, rfl⟩).elim
    | tuple k1 k2 k3 k4 => exact ⟨.list_tuple hl ⟨_, k1, k2, _, k3⟩ hu, .list_tuple hl ⟨_, k1, k2, _, k3⟩ hu, .list_tuple hl ⟨_, k1, k2, _, k3⟩ hu⟩
    | dict => cases he
  | tuple h1 h2 h3 h4 =>
    have hl := (⟨_, h1, h2, _, h3⟩ : s.heap.IsTuple _ _)
    cases rb with
    | none => exact ⟨.tuple_none hl hu, .tuple_none hl hu, .tuple_none hl hu⟩
    | bool y => exact ⟨.tuple_bool y hl hu, .tuple_bool y hl hu, .tuple_bool y hl hu⟩
    | int y u => exact ⟨.tuple_int y u hl hu, .tuple_int y u hl hu, .tuple_int y u hl hu⟩
    | str y u => exact ⟨.tuple_str y u hl hu, .tuple_str y u hl hu, .tuple_str y u hl hu⟩
    | list k1 k2 k3 k4 => exact ⟨.tuple_list hl ⟨_, k1, k2, _, k3⟩ hu, .tuple_list hl ⟨_, k1, k2, _, k3⟩ hu, .tuple_list hl ⟨_, k1, k2, _, k3⟩ hu⟩
    | tuple k1 k2 k3 k4 => exact ((ne _ _).2 ⟨rfl, rfl⟩).elim
    | dict => cases he
  | dict => cases hd

/-- items pairwise equal as told: the whole -/
theorem eq_seqs {A : Around} {s : Shared} {a b : Value} {xs ys : List PyData} {as bs : List Addr} (li : Bool)
    (ra : Reads s.heap a (if li then .list xs else .tuple xs) as) (rb : Reads s.heap b (if li then .list ys else .tuple ys) bs) (hd : nds xs = true) (hu : A.units < cLine)
    (he : ∀ (vs ws : List Value) as bs, ReadsAll s.heap vs xs as → ReadsAll s.heap ws ys bs → ∀ j (h1 : j < vs.length) (h2 : j < ws.length), EqAt A.in1 s vs[j] ws[j] (pairEq xs ys j)) :
    EqAt A s a b (PyData.eqvAll xs ys) ∧ RcAt A s a b (PyData.eqvAll xs ys) ∧ RcNeAt A s a b (!PyData.eqvAll xs ys) := by
  cases li with
  | true =>
    simp only [if_true] at ra rb
    cases ra with
    | @list l o vs n _ as₁ h1 h2 h3 h4 =>
      cases rb with
      | @list l' o' vs' n' _ bs₁ k1 k2 k3 k4 =>
        have hl := (⟨_, h1, h2, _, h3⟩ : s.heap.IsList _ _)
        have hl' := (⟨_, k1, k2, _, k3⟩ : s.heap.IsList _ _)
        have n1 : vs.size = xs.length := by simpa using ReadsAll.length _ _ _ h4
        have n2 : vs'.size = ys.length := by simpa using ReadsAll.length _ _ _ k4
        have hi : ∀ j (j1 : j < vs.size) (j2 : j < vs'.size), EqAt A.in1 s vs[j] vs'[j] (pairEq xs ys j) := fun j j1 j2 => by
          have hq := he _ _ _ _ h4 k4 j (by simpa using j1) (by simpa using j2)
          simpa using hq
        by_cases hsz : vs.size = vs'.size
        · have e : xs.length = ys.length := by omega
          have r : RcAt A s (.ref l) (.ref l') (PyData.eqvAll xs ys) := by
            rw [← eqvAll_same_length e, ← n1]; exact RcAt.lists hl hl' hsz hu hi
          refine ⟨?_, r, by rw [← eqvAll_same_length e, ← n1]; exact RcNeAt.lists hl hl' hsz hu hi⟩
          by_cases hll : l = l'
          · subst hll
            have q := nd_one (.list xs) (.list ys) _ _ _ hd (.list h1 h2 h3 h4) (.list k1 k2 k3 k4)
            cases q
            rw [eqvs_self xs hd]
            exact EqAt.same _
          · exact EqAt.of_refs hll r
        · have e : xs.length ≠ ys.length := by omega
          have hll : l ≠ l' := by
            rintro rfl
            cases h1.symm.trans k1
            cases h3.symm.trans k3
            exact hsz rfl
          rw [eqvAll_other_length e]
          have r := RcAt.lists_lengths hl hl' (by simpa using hsz) hu
          exact ⟨EqAt.of_refs hll r, r, RcNeAt.lists_lengths hl hl' (by simpa using hsz) hu⟩
  | false =>
    simp only [Bool.false_eq_true, if_false] at ra rb
    cases ra with
    | @tuple l o vs n _ as₁ h1 h2 h3 h4 =>
      cases rb with
      | @tuple l' o' vs' n' _ bs₁ k1 k2 k3 k4 =>
        have hl := (⟨_, h1, h2, _, h3⟩ : s.heap.IsTuple _ _)
        have hl' := (⟨_, k1, k2, _, k3⟩ : s.heap.IsTuple _ _)
        have n1 : vs.size = xs.length := by simpa using ReadsAll.length _ _ _ h4
        have n2 : vs'.size = ys.length := by simpa using ReadsAll.length _ _ _ k4
        have hi : ∀ j (j1 : j < vs.size) (j2 : j < vs'.size), EqAt A.in1 s vs[j] vs'[j] (pairEq xs ys j) := fun j j1 j2 => by
          have hq := he _ _ _ _ h4 k4 j (by simpa using j1) (by simpa using j2)
          simpa using hq
        have r : RcAt A s (.ref l) (.ref l') (PyData.eqvAll xs ys) := by
          rw [← eqvAll_eq xs ys, ← n1, ← n2]; exact RcAt.tuples hl hl' hu hi
        refine ⟨?_, r, by rw [← eqvAll_eq xs ys, ← n1, ← n2]; exact RcNeAt.tuples hl hl' hu hi⟩
        by_cases hll : l = l'
        · subst hll
          have q := nd_one (.tuple xs) (.tuple ys) _ _ _ hd (.tuple h1 h2 h3 h4) (.tuple k1 k2 k3 k4)
          cases q
          rw [eqvs_self xs hd]
          exact EqAt.same _
        · exact EqAt.of_refs hll r
end
section
open PySem.SeqAt
mutual
theorem eq3 : ∀ (d e : PyData) (A : Around) (s : Shared) (a b : Value) (as bs : List Addr), Reads s.heap a d as → Reads s.heap b e bs → nd d = true → nd e = true → Rm A d e →
    EqAt A s a b (PyData.eqv d e) ∧ RcAt A s a b (PyData.eqv d e) ∧ RcNeAt A s a b (!PyData.eqv d e)
  | .list xs, e, A, s, a, b, as, bs, ra, rb, hd, he, hu => by
    by_cases q : ∃ ys, e = .list ys
    · obtain ⟨ys, rfl⟩ := q
      simp only [PyData.eqv]
      exact eq_seqs true ra rb hd (rm0 hu) fun vs ws as bs p p' j j1 j2 => eq3s xs ys A.in1 s vs ws as bs p p' hd he (room_in hu) j j1 j2
    · exact eq_mixed ra rb hd he (rm0 hu) fun us ys => ⟨fun z => q ⟨ys, z.2⟩, fun z => (nomatch z.1)⟩
  | .tuple xs, e, A, s, a, b, as, bs, ra, rb, hd, he, hu => by
    by_cases q : ∃ ys, e = .tuple ys
    · obtain ⟨ys, rfl⟩ := q
      simp only [PyData.eqv]
      exact eq_seqs false ra rb hd (rm0 hu) fun vs ws as bs p p' j j1 j2 => eq3s xs ys A.in1 s vs ws as bs p p' hd he (room_in hu) j j1 j2
    · exact eq_mixed ra rb hd he (rm0 hu) fun us ys => ⟨fun z => (nomatch z.1), fun z => q ⟨ys, z.2⟩⟩
  | .none, e, A, s, a, b, as, bs, ra, rb, hd, he, hu => eq_mixed ra rb hd he (rm0 hu) fun us ys => ⟨fun z => (nomatch z.1), fun z => (nomatch z.1)⟩
  | .bool _, e, A, s, a, b, as, bs, ra, rb, hd, he, hu => eq_mixed ra rb hd he (rm0 hu) fun us ys => ⟨fun z => (nomatch z.1), fun z => (nomatch z.1)⟩
  | .int _, e, A, s, a, b, as, bs, ra, rb, hd, he, hu => eq_mixed ra rb hd he (rm0 hu) fun us ys => ⟨fun z => (nomatch z.1), fun z => (nomatch z.1)⟩
  | .str _, e, A, s, a, b, as, bs, ra, rb, hd, he, hu => eq_mixed ra rb hd he (rm0 hu) fun us ys => ⟨fun z => (nomatch z.1), fun z => (nomatch z.1)⟩
  | .dict _, _, _, _, _, _, _, _, _, _, hd, _, _ => nomatch hd
theorem eq3s : ∀ (xs ys : List PyData) (A : Around) (s : Shared) (vs ws : List Value) (as bs : List Addr), ReadsAll s.heap vs xs as → ReadsAll s.heap ws ys bs → nds xs = true → nds ys = true →
    A.units + min (PyData.depthAll xs) (PyData.depthAll ys) < cLine → ∀ j (h1 : j < vs.length) (h2 : j < ws.length), EqAt A s vs[j] ws[j] (pairEq xs ys j)
  | [], _, _, _, _, _, _, _, ra, _, _, _, _, j, h1, _ => by cases ra; cases h1
  | _ :: _, [], _, _, _, _, _, _, _, rb, _, _, _, j, _, h2 => by cases rb; cases h2
  | x :: xs, y :: ys, A, s, _, _, _, _, ra, rb, ha, hb, hu, j, h1, h2 => by
    obtain ⟨n1, n2⟩ := Bool.and_eq_true_iff.mp (show (nd x && nds xs) = true from ha)
    obtain ⟨m1, m2⟩ := Bool.and_eq_true_iff.mp (show (nd y && nds ys) = true from hb)
    cases ra with
    | cons p q =>
      cases rb with
      | cons p' q' =>
        cases j with
        | zero => exact (eq3 x y A s _ _ _ _ p p' n1 m1 (room_head hu)).1
        | succ j => exact eq3s xs ys A s _ _ _ _ q q' n2 m2 (room_tail hu) j (Nat.lt_of_succ_lt_succ h1) (Nat.lt_of_succ_lt_succ h2)
end
end

/-! ### from our data -/
mutual
def toPy : D → PyData
  | .non => .none
  | .bl b => .bool b
  | .int i => .int i
  | .str x => .str ⟨x.toArray⟩
  | .tup xs => .tuple (toPys xs)
  | .lst xs => .list (toPys xs)
  | .dic _ => .none
  | .fn _ => .none
def toPys : List D → List PyData
  | [] => []
  | x :: xs => toPy x :: toPys xs
end
theorem toPys_map : ∀ xs : List D, toPys xs = xs.map toPy
  | [] => rfl
  | x :: xs => by simp only [toPys, toPys_map xs, List.map_cons]
mutual
theorem nd_toPy : ∀ d : D, nd (toPy d) = true
  | .tup xs => by simp only [toPy, nd]; exact nds_toPy xs
  | .lst xs => by simp only [toPy, nd]; exact nds_toPy xs
  | .non => rfl
  | .bl _ => rfl
  | .int _ => rfl
  | .str _ => rfl
  | .dic _ => rfl
  | .fn _ => rfl
theorem nds_toPy : ∀ ds : List D, nds (toPys ds) = true
  | [] => rfl
  | d :: ds => by simp only [toPys, nds, nd_toPy d, nds_toPy ds, Bool.and_self]
end
mutual
theorem depth_toPy : ∀ d : D, (toPy d).depth = d.depth
  | .tup xs => by simp only [toPy, PyData.depth, D.depth, depths_toPy xs]
  | .lst xs => by simp only [toPy, PyData.depth, D.depth, depths_toPy xs]
  | .non => rfl
  | .bl _ => rfl
  | .int _ => rfl
  | .str _ => rfl
  | .dic _ => rfl
  | .fn _ => rfl
theorem depths_toPy : ∀ ds : List D, PyData.depthAll (toPys ds) = D.depths ds
  | [] => rfl
  | d :: ds => by simp only [toPys, PyData.depthAll, D.depths, depth_toPy d, depths_toPy ds]
end
theorem str_beq (x y : List Nat) : ((⟨x.toArray⟩ : Str) == ⟨y.toArray⟩) = decide (x = y) := by
  by_cases h : x = y
  · subst h; simp
  · rw [decide_eq_false h]
    exact beq_eq_false_iff_ne.mpr fun q => h (by injection q with q; simpa using congrArg Array.toList q)
mutual
theorem eqv_toPy : ∀ d e : D, d.flat = true → e.flat = true → PyData.eqv (toPy d) (toPy e) = D.eqv d e
  | .non, e, _, h => by cases e <;> first | rfl | cases h
  | .bl a, e, _, h => by
    cases e <;> first | rfl | cases h
  | .int a, e, _, h => by
    cases e <;> first | rfl | cases h
  | .str a, e, _, h => by
    cases e <;> first | rfl | cases h | skip
    simp only [toPy, PyData.eqv, D.eqv]
    exact str_beq _ _
  | .tup a, e, h', h => by
    cases e <;> first | rfl | cases h | skip
    simp only [toPy, PyData.eqv, D.eqv]
    exact eqvs_toPy _ _ h' h
  | .lst a, e, h', h => by
    cases e <;> first | rfl | cases h | skip
    simp only [toPy, PyData.eqv, D.eqv]
    exact eqvs_toPy _ _ h' h
  | .dic _, _, h, _ => by cases h
  | .fn _, _, h, _ => by cases h
theorem eqvs_toPy : ∀ d e : List D, D.flats d = true → D.flats e = true → PyData.eqvAll (toPys d) (toPys e) = D.eqvs d e
  | [], [], _, _ => rfl
  | [], _ :: _, _, _ => rfl
  | _ :: _, [], _, _ => rfl
  | x :: xs, y :: ys, h, h' => by
    obtain ⟨n1, n2⟩ := Bool.and_eq_true_iff.mp (show (D.flat x && D.flats xs) = true from h)
    obtain ⟨m1, m2⟩ := Bool.and_eq_true_iff.mp (show (D.flat y && D.flats ys) = true from h')
    simp only [toPys, PyData.eqvAll, D.eqvs, eqv_toPy x y n1 m1, eqvs_toPy xs ys n2 m2]
end
mutual
theorem alike_toPy : ∀ d e : D, D.alike d e = true → PySem.W.alike (toPy d) (toPy e) = true ∧ d.flat = true ∧ e.flat = true ∨ (d.flat = false ∨ e.flat = false)
  | .tup a, e, h => by
    cases e <;> first | (cases h; done) | skip
    rename_i b
    simp only [toPy, PySem.W.alike, D.flat]
    exact alikes_toPy a b h
  | .lst a, e, h => by
    cases e <;> first | (cases h; done) | skip
    rename_i b
    simp only [toPy, PySem.W.alike, D.flat]
    exact alikes_toPy a b h
  | .non, e, h => by cases e <;> first | (cases h; done) | exact .inl ⟨rfl, rfl, rfl⟩
  | .bl _, e, h => by cases e <;> first | (cases h; done) | exact .inl ⟨rfl, rfl, rfl⟩
  | .int _, e, h => by cases e <;> first | (cases h; done) | exact .inl ⟨rfl, rfl, rfl⟩
  | .str _, e, h => by cases e <;> first | (cases h; done) | exact .inl ⟨rfl, rfl, rfl⟩
  | .dic _, e, h => by cases h
  | .fn _, e, h => by cases h
theorem alikes_toPy : ∀ d e : List D, D.alikes d e = true → PySem.W.alikeAll (toPys d) (toPys e) = true ∧ D.flats d = true ∧ D.flats e = true ∨ (D.flats d = false ∨ D.flats e = false)
  | [], e, _ => by
    cases q : D.flats e with
    | true => exact .inl ⟨rfl, rfl, rfl⟩
    | false => exact .inr (.inr rfl)
  | x :: xs, [], _ => by
    cases q : D.flats (x :: xs) with
    | true => exact .inl ⟨rfl, rfl, rfl⟩
    | false => exact .inr (.inl rfl)
  | x :: xs, y :: ys, h => by
    obtain ⟨n1, n2⟩ := Bool.and_eq_true_iff.mp (show (D.alike x y && D.alikes xs ys) = true from h)
    simp only [toPys, PySem.W.alikeAll, D.flats]
    rcases alike_toPy x y n1 with ⟨a1, a2, a3⟩ | a | a
    · rcases alikes_toPy xs ys n2 with ⟨b1, b2, b3⟩ | b | b
      · exact .inl (by simp [a1, a2, a3, b1, b2, b3])
      · exact .inr (.inl (by simp [b]))
      · exact .inr (.inr (by simp [b]))
    · exact .inr (.inl (by simp [a]))
    · exact .inr (.inr (by simp [a]))
end
theorem alike_py {d e : D} (h : D.alike d e = true) (hd : d.flat = true) (he : e.flat = true) : PySem.W.alike (toPy d) (toPy e) = true := by
  rcases alike_toPy d e h with h | h | h
  · exact h.1
  · rw [hd] at h; cases h
  · rw [he] at h; cases h
theorem ltL_lex : ∀ x y : List Nat, ltL x y = decide (x < y)
  | [], [] => by simp [ltL]
  | [], _ :: _ => by simp [ltL]
  | _ :: _, [] => by simp [ltL]
  | x :: xs, y :: ys => by
    simp only [ltL, ltL_lex xs ys, List.cons_lt_cons_iff]
    by_cases h : x = y
    · subst h; simp
    · simp [h]
end Mp

end Sec_MpD
section Sec_MpE
set_option autoImplicit false
set_option linter.all false
set_option maxHeartbeats 2000000
/-! Operations by values. -/
namespace Mp
open PySem PySem.Spec PyProof.Rows L2
open PySem.SeqAt (EqAt RcAt RcNeAt pairEq)

abbrev St := L2.St
section
variable {X : Cx} {pins : List (Addr × Obj)} {σ : St} {H : Hp} {s : Shared}
theorem lstR {a : Addr} {xs : List V} (I : L2.Inv X pins σ H s) (h : Rd H a (.lst xs)) : ∃ (its : List Value) (n : Nat), Vals xs its ∧ s.heap.get? a = some { cls := .type "list", data := .seq its.toArray n } ∧ xs.length ≤ sizeLine := by
  obtain ⟨z, its, n, r, e⟩ := h.ok I.hok
  exact ⟨its, n, r, e, z⟩
/-- from plain data to the model's reading -/
theorem strV {x : List Nat} {v : V} {u : Value} (h : Rep X.mg H (.str x) v) (r : RelV v u) : ∃ t, u = .str ⟨x.toArray⟩ t ∧ x.length ≤ line := by
  simp only [Rep] at h
  obtain ⟨rfl, l⟩ := h
  obtain ⟨t, rfl⟩ := r
  exact ⟨t, rfl, l⟩
mutual
theorem Rep.dp : ∀ (d : D) (v : V), d.flat = true → Rep X.mg H d v → Dp X.K H v (toPy d)
  | .non, v, _, h => by simp only [Rep] at h; subst h; exact .non
  | .bl b, v, _, h => by simp only [Rep] at h; subst h; exact .bl b
  | .int b, v, _, h => by simp only [Rep] at h; subst h; exact .int b
  | .str b, v, _, h => by simp only [Rep] at h; obtain ⟨rfl, _⟩ := h; exact .str _
  | .tup ds, v, f, h => by
    simp only [Rep] at h
    obtain ⟨a, vs, rfl, h1, h2⟩ := h
    exact .tup (.inl (.inl h1)) (Reps.dp ds vs f h2)
  | .lst ds, v, f, h => by
    simp only [Rep] at h
    obtain ⟨a, o, vs, rfl, h1, h2⟩ := h
    exact .lst (.inl (.inr ⟨o, h1⟩)) (Reps.dp ds vs f h2)
  | .dic _, v, f, _ => by cases f
  | .fn _, v, f, _ => by cases f
theorem Reps.dp : ∀ (ds : List D) (vs : List V), D.flats ds = true → Reps X.mg H ds vs → DpAll X.K H vs (toPys ds)
  | [], vs, _, h => by simp only [Reps] at h; subst h; exact .nil
  | d :: ds, vs, f, h => by
    simp only [Reps] at h
    obtain ⟨v, r, rfl, h1, h2⟩ := h
    obtain ⟨n1, n2⟩ := Bool.and_eq_true_iff.mp (show (D.flat d && D.flats ds) = true from f)
    exact .cons (Rep.dp d v n1 h1) (Reps.dp ds r n2 h2)
end
theorem Tmp.dp {d : D} {v : V} (f : d.flat = true) (h : Tmp X.mg H d v) : Dp X.K H v (toPy d) := by
  cases d with
  | lst ds => obtain ⟨a, vs, rfl, h1, h2⟩ := h; exact .lst (.inl h1) (Reps.dp ds vs f h2)
  | dic ds => cases f
  | _ => exact Rep.dp _ _ f h
theorem Tmp.reads (I : L2.Inv X pins σ H s) {d : D} {v : V} {u : Value} (f : d.flat = true) (h : Tmp X.mg H d v) (r : RelV v u) : ∃ as, Reads s.heap u (toPy d) as :=
  Dp.reads I _ _ _ (Tmp.dp f h) r
theorem Reps.readsAll (I : L2.Inv X pins σ H s) {ds : List D} {vs : List V} {us : List Value} (f : D.flats ds = true) (h : Reps X.mg H ds vs) (r : Vals vs us) : ∃ as, ReadsAll s.heap us (toPys ds) as :=
  Dp.readsAll I _ _ _ (Reps.dp _ _ f h) r
theorem rm_of {A : Around} {d e : D} (hu : A.units + 64 < cLine) (hd : d.depth ≤ 60) : A.units + min (toPy d).depth (toPy e).depth < cLine := by
  rw [depth_toPy]
  omega
theorem eqOk_iff {a b : D} (h : eqOk a b = true) : a.flat = true ∧ b.flat = true ∧ a.depth ≤ 60 ∧ b.depth ≤ 60 := by
  unfold eqOk at h
  simp only [Bool.and_eq_true, decide_eq_true_eq] at h
  exact ⟨h.1.1.1, h.1.1.2, h.1.2, h.2⟩

/-! ### == and != -/
theorem eq_run (hu : X.A.units + 64 < cLine) (I : L2.Inv X pins σ H s) {d e : D} {x y : V} {v u : Value} (k : eqOk d e = true) (hx : Tmp X.mg H d x) (hy : Tmp X.mg H e y) (rx : RelV x v) (ry : RelV y u) :
    EqAt X.A s v u (D.eqv d e) ∧ RcAt X.A s v u (D.eqv d e) ∧ RcNeAt X.A s v u (!D.eqv d e) := by
  obtain ⟨f1, f2, l1, l2⟩ := eqOk_iff k
  obtain ⟨as, ra⟩ := Tmp.reads I f1 hx rx
  obtain ⟨bs, rb⟩ := Tmp.reads I f2 hy ry
  rw [← eqv_toPy d e f1 f2]
  exact eq3 _ _ X.A s v u as bs ra rb (nd_toPy d) (nd_toPy e) (rm_of hu l1)
end

theorem Tmp.int {mg : Str → Option Value} {H : Hp} {i : Int} {x : V} (h : Tmp mg H (.int i) x) : x = .int i := by
  have h' : Rep mg H (.int i) x := h
  simp only [Rep] at h'
  exact h'
theorem Tmp.bl {mg : Str → Option Value} {H : Hp} {i : Bool} {x : V} (h : Tmp mg H (.bl i) x) : x = .bl i := by
  have h' : Rep mg H (.bl i) x := h
  simp only [Rep] at h'
  exact h'
theorem Tmp.non {mg : Str → Option Value} {H : Hp} {x : V} (h : Tmp mg H .non x) : x = .non := by
  have h' : Rep mg H .non x := h
  simp only [Rep] at h'
  exact h'
theorem Tmp.str {mg : Str → Option Value} {H : Hp} {i : List Nat} {x : V} (h : Tmp mg H (.str i) x) : x = .str ⟨i.toArray⟩ ∧ i.length ≤ line := by
  have h' : Rep mg H (.str i) x := h
  simp only [Rep] at h'
  exact h'
/-- a value that is no container, or a new one -/
def okV (X : Cx) (r : D) (H : Hp) (Q : VK) : Prop := ∀ v H', Same H H' → Own X.mg H' H r v → Q v H'
def okR (X : Cx) (r : D) (H : Hp) (Q : VK) : Prop := ∀ v H', Same H H' → Rep X.mg H' r v → Q v H'
theorem okV.non {X : Cx} {H : Hp} {Q : VK} (h : okV X .non H Q) : Q .non H := h .non H (Same.refl H) (by simp only [Own, Rep])
theorem okV.int {X : Cx} {H : Hp} {Q : VK} {i : Int} (h : okV X (.int i) H Q) : Q (.int i) H := h _ H (Same.refl H) (by simp only [Own, Rep])
theorem okV.bl {X : Cx} {H : Hp} {Q : VK} {i : Bool} (h : okV X (.bl i) H Q) : Q (.bl i) H := h _ H (Same.refl H) (by simp only [Own, Rep])
theorem okV.str {X : Cx} {H : Hp} {Q : VK} {x : List Nat} (h : okV X (.str x) H Q) (l : x.length ≤ line) : Q (.str ⟨x.toArray⟩) H := h _ H (Same.refl H) (by simp only [Own, Rep]; exact ⟨trivial, l⟩)
theorem okV.str' {X : Cx} {H : Hp} {Q : VK} {x : List Nat} {z : Str} (h : okV X (.str x) H Q) (l : x.length ≤ line) (e : z = ⟨x.toArray⟩) : Q (.str z) H := by rw [e]; exact h.str l
theorem okV.lst {X : Cx} {H : Hp} {Q : VK} {ds : List D} {vs : List V} (h : okV X (.lst ds) H Q) (r : Reps X.mg H ds vs) {p : Addr} (hp : H p = none) : Q (.ref p) (upd H p (.lst vs)) :=
  h _ _ (Same.upd hp) ⟨p, vs, rfl, hp, upd_same, r.mono (Ke.upd (.inl hp))⟩
theorem okV.tup {X : Cx} {H : Hp} {Q : VK} {ds : List D} {vs : List V} (h : okV X (.tup ds) H Q) (r : Reps X.mg H ds vs) {p : Addr} (hp : H p = none) : Q (.ref p) (upd H p (.tup vs)) :=
  h _ _ (Same.upd hp) (by simp only [Own, Rep]; exact ⟨p, vs, rfl, upd_same, r.mono (Ke.upd (.inl hp))⟩)
theorem okV.old {X : Cx} {H : Hp} {Q : VK} {d : D} {v : V} (h : okV X d H Q) (r : Rep X.mg H d v) (c : isCont d = false) : Q v H := h v H (Same.refl H) (r.own c)

section
variable {X : Cx}
theorem cat_lst (pins : List (Addr × Obj)) (s : Shared) (σ : St) (H : Hp) (x y : V) (v u : Value) (Q : VK) (I : L2.Inv X pins σ H s) (rx : RelV x v) (ry : RelV y u) {ds es : List D}
    (hx : Tmp X.mg H (.lst ds) x) (hy : Tmp X.mg H (.lst es) y) (l : ds.length + es.length ≤ line) (q : okV X (.lst (ds ++ es)) H Q) : wpAny (model X.prog X.w) X.A (binaryOp .Add v u) (EP X pins σ Q) X.xe s := by
  obtain ⟨a, vs, rfl, h1, h2⟩ := hx
  obtain ⟨b, ws, rfl, k1, k2⟩ := hy
  cases rx
  cases ry
  obtain ⟨its, n, r, e, z⟩ := lstR I h1
  obtain ⟨its2, n2, r2, e2, z2⟩ := lstR I k1
  have l1 := h2.length
  have l2 := k2.length
  have m1 := r.length
  have m2 := r2.length
  have lz : vs.length + ws.length ≤ sizeLine := by rw [← l1, ← l2]; exact l
  refine PySem.P.add_list e e2 ?_ (by rw [List.size_toArray, List.size_toArray]; omega)
  have ea : its.toArray ++ its2.toArray = (its ++ its2).toArray := by simp
  rw [ea]
  exact ⟨.ref _, _, I.lnew (t' := s.toks) (r.append r2) (by rw [List.length_append]; exact lz), rfl, q.lst (h2.append k2) I.fresh⟩

theorem rep_cps (x : List Nat) (k : Nat) : (List.replicate k x.toArray).foldl (· ++ ·) #[] = (List.replicate k x).flatten.toArray := by
  have h : ∀ (m : Nat) (acc : List Nat), (List.replicate m x.toArray).foldl (· ++ ·) acc.toArray = (acc ++ (List.replicate m x).flatten).toArray := by
    intro m
    induction m with
    | zero => intro acc; simp
    | succ m ih =>
      intro acc
      rw [List.replicate_succ, List.foldl_cons]
      have e : acc.toArray ++ x.toArray = (acc ++ x).toArray := by simp
      rw [e, ih, List.replicate_succ, List.flatten_cons, List.append_assoc]
  have := h k []
  simpa using this
theorem len_flat_rep {α : Type} (x : List α) : ∀ k : Nat, (List.replicate k x).flatten.length = x.length * k
  | 0 => by simp
  | k + 1 => by rw [List.replicate_succ, List.flatten_cons, List.length_append, len_flat_rep x k, Nat.mul_succ, Nat.add_comm]
theorem tuple_mul0 (l : Addr) (n : Nat) (dd : Option Addr) (sl : Array (Option Value)) (x : Int) (u : Tok) (c0 : (decide (x < -(2 ^ 63)) || decide (x ≥ 2 ^ 63)) = false) :
    Meets (Builtin.«tuple.__mul__» ⟨[.ref l, .int x u], []⟩) (fun _ R s => s.heap.get? l = some { cls := .type "tuple", dict := dd, data := .seq #[] n, slots := sl } ∧ R (.ok (.ret (Value.ref l))) s) :=
  .of_wp fun prog w A R s h => by
    obtain ⟨hp, g, d, tk, os⟩ := s
    obtain ⟨hl, h⟩ := h
    have f1 := AutoSeq1.idx_int
    wp_walk using wpAny_loadPart' hl
    repeat (first
      | (refine wpAny_ite_false (decide_eq_false (by rw [c0]; exact Bool.false_ne_true)) ?_; wp_walk using wpAny_loadPart' hl))
    exact ⟨_, rfl, h⟩
/-- () * k is () -/
def rRep0 (K : PySem.W.Frag) : R2 := fun x y H Q => ∃ l k, x = .ref l ∧ y = .int k ∧ SqT K H l [] ∧ 2 ≤ k ∧ k ≤ 1000 ∧ Q (.ref l) H
theorem op_rep0 {X : Cx} : OpR X (binaryOp .Mult) (rRep0 X.K) := by
  intro pins s σ H x y v u Q I rx ry h
  obtain ⟨l, k, rfl, rfl, hT, h1, h2, q⟩ := h
  cases rx
  obtain ⟨t, rfl⟩ := ry
  obtain ⟨its, r, ⟨⟨cls, dd, data, sl⟩, ho, hc, n, hd⟩, hs⟩ := I.tuple hT
  simp only at hc hd
  subst hc hd
  have : its = [] := List.eq_nil_of_length_eq_zero r.length.symm
  subst this
  have c0 : (decide (k < -(2 ^ 63)) || decide (k ≥ 2 ^ 63)) = false := by
    rw [decide_eq_false (by omega), decide_eq_false (by omega)] <;> rfl
  refine wpAny_binaryOp_repeat_ref (T := "tuple") (U := "int") (by decide) ⟨_, ho, rfl⟩ (fun s' => typeIs_int s' k t) noFill_tuple_mul F.fills_int_mul F.slot_int_rmul repeat_tuple F.slot_int_index.lookup
    (call_meets F.slot_int_rmul (typeIs_int s k t) F.entry_int_rmul (F.args_int_rmul_2 _ _) (int_rmul_tuple k t l [].toArray n dd sl)
      ⟨ho, rfl, ⟨_, ho, rfl⟩, call_meets F.slot_tuple_mul ⟨_, ho, rfl⟩ F.entry_tuple_mul (F.args_tuple_mul_2 _ _) (tuple_mul0 l n dd sl k t c0) ⟨ho, ?_⟩⟩)
  exact ⟨.ref l, H, I, rfl, q⟩
theorem mul_str_ok {v u : Value} {x : List Nat} {j : Int} {t t' : Tok} {A : Around} {E : Value → Shared → Prop} {s : Shared} {Q : Value → Shared → Prop} (hv : v = .str ⟨x.toArray⟩ t) (hu : u = .int j t') (j0 : 0 ≤ j) (j1 : j < 2 ^ 62) (l : x.length * j.toNat ≤ line)
    (h : ∀ tk t2, Q (.str ⟨(List.replicate j.toNat x).flatten.toArray⟩ t2) { s with toks := tk }) : wpAny (model X.prog X.w) A (binaryOp .Mult v u) Q E s := by
  subst hv hu
  have hlen : (⟨x.toArray⟩ : Str).length = x.length := by show x.toArray.size = _; simp
  have z : (sizeLine : Nat) = 16777216 := sizeLine_eq
  have l' : x.length * j.toNat ≤ 16777216 := by rw [← z]; exact l
  refine PySem.P.mul_str ?_ (fun a1 a2 => ?_) (fun a1 a2 => ?_) ?_
  · rw [decide_eq_false (by omega), decide_eq_false (by omega)]; rfl
  · rw [hlen]
    intro q
    have hj : 0 < j := by omega
    have e1 : ((x.length : Int)) * j ≤ 16777216 := by
      have : ((x.length * j.toNat : Nat) : Int) ≤ 16777216 := by omega
      rw [Int.natCast_mul, Int.toNat_of_nonneg j0] at this
      exact this
    have e2 : j ≤ 16777216 := by
      have hx : 1 ≤ x.length := by
        have q2 : ¬ ((⟨x.toArray⟩ : Str).length == 0) = true := by
          intro q3
          rw [q3, Bool.or_true] at a2
          cases a2
        rw [hlen] at q2
        simp at q2
        cases x with
        | nil => exact absurd rfl q2
        | cons _ _ => simp
      have : j * 1 ≤ j * (x.length : Int) := Int.mul_le_mul_of_nonneg_left (by omega) j0
      rw [Int.mul_comm j (x.length : Int)] at this
      omega
    have e3 : (x.length : Int) ≤ 16777216 := by
      have : (x.length : Int) * 1 ≤ (x.length : Int) * j := Int.mul_le_mul_of_nonneg_left (by omega) (by omega)
      omega
    have e4 : (16777216 : Int) ≤ (2 ^ 63 - 1) / j := by
      rw [Int.le_ediv_iff_mul_le hj]
      have : 16777216 * j ≤ 16777216 * 16777216 := Int.mul_le_mul_of_nonneg_left e2 (by decide)
      omega
    omega
  · rw [hlen]
    unfold Builtin.Str.tooLong
    rw [decide_eq_false]
    rw [z]; omega
  · split
    · rename_i hlt
      have e : j.toNat = 0 := by omega
      have h' := h (s.toks + 1) s.toks
      rw [e] at h'
      exact ⟨by decide, h'⟩
    · split
      · rename_i h1 h2
        have e : (List.replicate j.toNat x).flatten = x := by
          rw [Bool.or_eq_true] at h2
          rcases h2 with h2 | h2
          · have : j = 1 := by simpa using h2
            subst this
            simp
          · rw [hlen] at h2
            have : x = [] := by simpa using h2
            subst this
            simp
        have h' := h s.toks t
        rw [e] at h'
        exact h'
      · have e : (⟨(List.replicate j.toNat (⟨x.toArray⟩ : Str).cps).foldl (· ++ ·) #[]⟩ : Str) = ⟨(List.replicate j.toNat x).flatten.toArray⟩ := by
          show Str.mk _ = Str.mk _
          rw [rep_cps]
        rw [e]
        refine ⟨?_, h _ _⟩
        show (List.replicate j.toNat x).flatten.toArray.size ≤ _
        rw [List.size_toArray, len_flat_rep]
        exact l
def bopTo : BOp → Operator
  | .add => .Add | .sub => .Sub | .mul => .Mult | .fdiv => .FloorDiv | .mod => .Mod | .pow => .Pow
def rBin (X : Cx) (op : BOp) : R2 := fun x y H Q => ∃ d e r, Tmp X.mg H d x ∧ Tmp X.mg H e y ∧ bin op d e = .ok r ∧ okV X r H Q
theorem str_app (x y : List Nat) : ((⟨x.toArray⟩ : Str) ++ ⟨y.toArray⟩) = ⟨(x ++ y).toArray⟩ := by
  show Str.mk _ = Str.mk _
  congr 1
  simp
end
section
variable {X : Cx} {H : Hp}
theorem bin_ok (op : BOp) : OpR X (binaryOp (bopTo op)) (rBin X op) := by
  intro pins s σ H x y v u Q I rx ry h
  obtain ⟨d, e, r, hx, hy, hb, q⟩ := h
  unfold bin at hb
  split at hb
  · rename_i i j
    cases hb
    exact op_add pins s σ H x y v u Q I rx ry ⟨i, j, Tmp.int hx, Tmp.int hy, q.int⟩
  · rename_i a b
    split at hb
    · rename_i l
      cases hb
      obtain ⟨e1, l1⟩ := Tmp.str hx
      obtain ⟨e2, l2⟩ := Tmp.str hy
      refine op_add_str pins s σ H x y v u Q I rx ry ⟨_, _, e1, e2, ?_, q.str' (by rw [List.length_append]; exact l) (str_app a b)⟩
      show a.toArray.size + b.toArray.size ≤ _
      rw [List.size_toArray, List.size_toArray]
      exact l
    · cases hb
  · rename_i a b
    split at hb
    · rename_i l
      cases hb
      exact cat_lst pins s σ H x y v u Q I rx ry hx hy l q
    · cases hb
  · rename_i a b
    split at hb
    · rename_i l
      cases hb
      obtain ⟨p, vs, rfl, h1, h2⟩ := Tmp.sqt (K := X.K) hx
      obtain ⟨p', ws, rfl, k1, k2⟩ := Tmp.sqt (K := X.K) hy
      have l1 := h2.length
      have l2 := k2.length
      refine op_catA pins s σ H _ _ v u Q I rx ry ⟨p, p', vs, ws, rfl, rfl, h1, k1, by rw [← l1, ← l2]; exact l, fun z => ?_, fun z z2 => ?_, fun z z2 p2 hp => q.tup (h2.append k2) hp⟩
      · have ez : a = [] := by
          rw [z] at l1
          exact List.eq_nil_of_length_eq_zero l1
        subst ez
        exact q.old hy rfl
      · have ez : b = [] := by
          rw [z2] at l2
          exact List.eq_nil_of_length_eq_zero l2
        subst ez
        rw [List.append_nil] at q
        exact q.old hx rfl
    · cases hb
  · rename_i i j
    cases hb
    exact op_sub pins s σ H x y v u Q I rx ry ⟨i, j, Tmp.int hx, Tmp.int hy, q.int⟩
  · rename_i i j
    split at hb
    · rename_i l
      cases hb
      refine op_mul pins s σ H x y v u Q I rx ry ⟨i, j, Tmp.int hx, Tmp.int hy, ?_, q.int⟩
      unfold bigOk at l
      rw [Bool.or_eq_true, decide_eq_true_eq, decide_eq_true_eq] at l
      exact l
    · cases hb
  · rename_i a j
    split at hb
    · rename_i l
      cases hb
      rw [Bool.and_eq_true, decide_eq_true_eq, decide_eq_true_eq] at l
      obtain ⟨e1, l1⟩ := Tmp.str hx
      obtain rfl := Tmp.int hy
      subst e1
      obtain ⟨t, rfl⟩ := rx
      obtain ⟨t', rfl⟩ := ry
      refine mul_str_ok rfl rfl l.1.1 l.1.2 l.2 fun tk t2 => ⟨.str _, H, I.tok _, ⟨_, rfl⟩, q.str ?_⟩
      rw [len_flat_rep]
      exact l.2
    · cases hb
  · rename_i a j
    split at hb
    · rename_i l
      cases hb
      simp only [Bool.and_eq_true, decide_eq_true_eq, Bool.not_eq_true'] at l
      obtain ⟨p, vs, rfl, h1, h2⟩ := Tmp.sqt (K := X.K) hx
      obtain rfl := Tmp.int hy
      have l1 := h2.length
      by_cases ne : vs = []
      · subst ne
        have : a = [] := List.eq_nil_of_length_eq_zero l1
        subst this
        have e : (List.replicate j.toNat ([] : List D)).flatten = [] := by
          induction j.toNat with
          | zero => rfl
          | succ n ih => rw [List.replicate_succ, List.flatten_cons, ih]; rfl
        rw [e] at q
        exact op_rep0 pins s σ H _ _ v u Q I rx ry ⟨p, j, rfl, rfl, h1, l.1.1, l.1.2, q.old hx rfl⟩
      · exact op_repT pins s σ H _ _ v u Q I rx ry ⟨p, j, vs, rfl, rfl, h1, ne, l.1.1, l.1.2, by rw [← l1]; exact l.2, fun p2 hp => q.tup (h2.rep _) hp⟩
    · cases hb
  · rename_i i j
    split at hb
    · rename_i l
      cases hb
      rw [decide_eq_true_eq] at l
      refine op_fdivW pins s σ H x y v u Q I rx ry ⟨i, j, Tmp.int hx, Tmp.int hy, wide_div (b := 64) l.1 ?_ (by decide) (by decide), q.int⟩
      omega
    · cases hb
  · rename_i i j
    split at hb
    · rename_i l
      cases hb
      rw [decide_eq_true_eq] at l
      exact op_mod pins s σ H x y v u Q I rx ry ⟨i, j, Tmp.int hx, Tmp.int hy, l, q.int⟩
    · cases hb
  · rename_i i j
    split at hb
    · rename_i l
      cases hb
      rw [Bool.and_eq_true, decide_eq_true_eq, decide_eq_true_eq] at l
      exact op_pow pins s σ H x y v u Q I rx ry ⟨i, j, Tmp.int hx, Tmp.int hy, ⟨l.1.1, by omega, l.2⟩, q.int⟩
    · cases hb
  · cases hb
end
end Mp

end Sec_MpE
section Sec_MpF
set_option autoImplicit false
set_option linter.all false
set_option maxHeartbeats 2000000
/-! Comparisons by values. -/
namespace Mp
open PySem PySem.Spec PyProof.Rows L2
open PySem.SeqAt (EqAt RcAt RcNeAt pairEq)

/-! ### keys -/
theorem kD_str {x : List Nat} {k : Key} (h : kD (.str x) = some k) : x.length ≤ line ∧ k = .inr ⟨x.toArray⟩ := by
  have h : (if x.length ≤ line then some (Sum.inr ⟨x.toArray⟩ : Key) else none) = some k := h
  split at h
  · rename_i l; cases h; exact ⟨l, rfl⟩
  · cases h
theorem kD_int {x : Int} {k : Key} (h : kD (.int x) = some k) : k = .inl x := by cases h; rfl
theorem kD_cases {d : D} {k : Key} (h : kD d = some k) : (∃ i, d = .int i ∧ k = .inl i) ∨ ∃ x, d = .str x ∧ x.length ≤ line ∧ k = .inr ⟨x.toArray⟩ := by
  cases d <;> first | (cases h; done) | skip
  · exact .inl ⟨_, rfl, kD_int h⟩
  · exact .inr ⟨_, rfl, kD_str h⟩
theorem kD_eq {d e : D} {k l : Key} (h : kD d = some k) (h' : kD e = some l) : D.eqv d e = decide (k = l) := by
  rcases kD_cases h with ⟨i, rfl, rfl⟩ | ⟨i, rfl, _, rfl⟩ <;> rcases kD_cases h' with ⟨j, rfl, rfl⟩ | ⟨j, rfl, _, rfl⟩
  · simp only [D.eqv, Sum.inl.injEq]
  · simp [D.eqv]
  · simp [D.eqv]
  · simp only [D.eqv, Sum.inr.injEq, Str.mk.injEq]
    congr 1
    simp
theorem ksD_eq : ∀ {d e : List D} {k l : List Key}, ksD d = some k → ksD e = some l → D.eqvs d e = decide (k = l)
  | [], [], k, l, h, h' => by
    simp only [ksD, Option.some.injEq] at h h'
    subst h h'
    rfl
  | [], y :: ys, k, l, h, h' => by
    simp only [ksD, Option.some.injEq] at h h'
    subst h
    cases q : kD y <;> simp only [q] at h'
    · cases h'
    cases q2 : ksD ys <;> simp only [q2, Option.some.injEq, reduceCtorEq] at h'
    subst h'
    simp [D.eqvs]
  | x :: xs, [], k, l, h, h' => by
    simp only [ksD, Option.some.injEq] at h h'
    subst h'
    cases q : kD x <;> simp only [q] at h
    · cases h
    cases q2 : ksD xs <;> simp only [q2, Option.some.injEq, reduceCtorEq] at h
    subst h
    simp [D.eqvs]
  | x :: xs, y :: ys, k, l, h, h' => by
    simp only [ksD] at h h'
    cases q : kD x <;> simp only [q] at h
    · cases h
    cases q2 : ksD xs <;> simp only [q2, Option.some.injEq, reduceCtorEq] at h
    cases p : kD y <;> simp only [p] at h'
    · cases h'
    cases p2 : ksD ys <;> simp only [p2, Option.some.injEq, reduceCtorEq] at h'
    subst h h'
    simp only [D.eqvs, kD_eq q p, ksD_eq q2 p2, List.cons.injEq]
    rw [Bool.decide_and]
theorem ktD_eq {d e : D} {k l : List Key} (h : ktD d = some k) (h' : ktD e = some l) : D.eqv d e = decide (k = l) := by
  cases d <;> simp only [ktD, reduceCtorEq] at h
  cases e <;> simp only [ktD, reduceCtorEq] at h'
  simp only [D.eqv]
  exact ksD_eq h h'
section
variable {mg : Str → Option Value} {H : Hp}
theorem RepK.find : ∀ {ds : List (D × D)} {kvs : List (Key × V)} {d : D} {k : Key}, RepK mg H ds kvs → kD d = some k →
    (∀ e, dfind ds d = some e → ∃ v, valV kvs k = some v ∧ Rep mg H e v) ∧ (dfind ds d = none → valV kvs k = none)
  | [], kvs, d, k, h, hk => by
    simp only [RepK] at h
    subst h
    exact ⟨fun e z => by simp [dfind] at z, fun _ => rfl⟩
  | (d1, e1) :: ds, kvs, d, k, h, hk => by
    simp only [RepK] at h
    obtain ⟨k1, v1, r, rfl, h1, h2, h3⟩ := h
    have ih := RepK.find (d := d) (k := k) h3 hk
    have e : D.eqv d1 d = decide (k1 = k) := kD_eq h1 hk
    unfold dfind at ih ⊢
    rw [List.find?_cons]
    by_cases q : k1 = k
    · rw [e, decide_eq_true q]
      refine ⟨fun e' z => ?_, fun z => by simp at z⟩
      simp at z
      subst z
      exact ⟨v1, valV_pos q, h2⟩
    · rw [e, decide_eq_false q, valV_neg (p := (k1, v1)) q]
      exact ih
theorem RepT.find : ∀ {ds : List (D × D)} {kvs : List (List Key × V)} {d : D} {k : List Key}, RepT mg H ds kvs → ktD d = some k →
    (∀ e, dfind ds d = some e → ∃ v, valV kvs k = some v ∧ Rep mg H e v) ∧ (dfind ds d = none → valV kvs k = none)
  | [], kvs, d, k, h, hk => by
    simp only [RepT] at h
    subst h
    exact ⟨fun e z => by simp [dfind] at z, fun _ => rfl⟩
  | (d1, e1) :: ds, kvs, d, k, h, hk => by
    simp only [RepT] at h
    obtain ⟨k1, v1, r, rfl, h1, h2, h3⟩ := h
    have ih := RepT.find (d := d) (k := k) h3 hk
    have e : D.eqv d1 d = decide (k1 = k) := ktD_eq h1 hk
    unfold dfind at ih ⊢
    rw [List.find?_cons]
    by_cases q : k1 = k
    · rw [e, decide_eq_true q]
      refine ⟨fun e' z => ?_, fun z => by simp at z⟩
      simp at z
      subst z
      exact ⟨v1, valV_pos q, h2⟩
    · rw [e, decide_eq_false q, valV_neg (p := (k1, v1)) q]
      exact ih
theorem RepK.length : ∀ {ds : List (D × D)} {kvs : List (Key × V)}, RepK mg H ds kvs → ds.length = kvs.length
  | [], _, h => by simp only [RepK] at h; subst h; rfl
  | (_, _) :: ds, _, h => by
    simp only [RepK] at h
    obtain ⟨_, _, r, rfl, _, _, h3⟩ := h
    simp [RepK.length h3]
theorem RepT.length : ∀ {ds : List (D × D)} {kvs : List (List Key × V)}, RepT mg H ds kvs → ds.length = kvs.length
  | [], _, h => by simp only [RepT] at h; subst h; rfl
  | (_, _) :: ds, _, h => by
    simp only [RepT] at h
    obtain ⟨_, _, r, rfl, _, _, h3⟩ := h
    simp [RepT.length h3]
theorem isK0_kD {d : D} {v : V} (h : d.isK0 = true) (r : Rep mg H d v) : ∃ k, kD d = some k := by
  cases d <;> first | (cases h; done) | skip
  · exact ⟨_, rfl⟩
  · simp only [Rep] at r
    exact ⟨_, by simp only [kD]; rw [if_pos r.2]⟩
theorem ksD_some : ∀ {ds : List D} {vs : List V}, ds.all D.isK0 = true → Reps mg H ds vs → ∃ k, ksD ds = some k
  | [], _, _, _ => ⟨[], rfl⟩
  | d :: ds, _, h, r => by
    rw [List.all_cons, Bool.and_eq_true] at h
    simp only [Reps] at r
    obtain ⟨v, r', rfl, h2, h3⟩ := r
    obtain ⟨k, e⟩ := isK0_kD h.1 h2
    obtain ⟨ks, e'⟩ := ksD_some h.2 h3
    exact ⟨k :: ks, by simp only [ksD, e, e']⟩
theorem rep_kV {d : D} {k : Key} {v : V} (h : kD d = some k) (r : Rep mg H d v) : v = kV k := by
  rcases kD_cases h with ⟨i, rfl, rfl⟩ | ⟨i, rfl, _, rfl⟩
  · simp only [Rep] at r; exact r
  · simp only [Rep] at r; exact r.1
theorem reps_kV : ∀ {ds : List D} {ks : List Key} {vs : List V}, ksD ds = some ks → Reps mg H ds vs → vs = ks.map kV
  | [], ks, vs, h, r => by
    simp only [ksD, Option.some.injEq] at h
    subst h
    simp only [Reps] at r
    exact r
  | d :: ds, ks, vs, h, r => by
    simp only [Reps] at r
    obtain ⟨v, r', rfl, h1, h2⟩ := r
    simp only [ksD] at h
    cases q : kD d <;> simp only [q] at h
    · cases h
    cases q2 : ksD ds <;> simp only [q2, Option.some.injEq, reduceCtorEq] at h
    subst h
    rw [List.map_cons, rep_kV q h1, reps_kV q2 h2]
theorem rep_ktV {d : D} {k : List Key} {v : V} (h : ktD d = some k) (r : Rep mg H d v) : ∃ b, v = .ref b ∧ H b = some (.tup (k.map kV)) := by
  cases d <;> simp only [ktD, reduceCtorEq] at h
  simp only [Rep] at r
  obtain ⟨a, vs, rfl, h1, h2⟩ := r
  rw [reps_kV h h2] at h1
  exact ⟨a, rfl, h1⟩
/-- a key as told: flat, or a tuple of flat ones -/
theorem isK_cases {d : D} {v : V} (h : d.isK = true) (r : Rep mg H d v) : (∃ k, kD d = some k) ∨ ∃ k, ktD d = some k := by
  cases d with
  | tup xs =>
    simp only [Rep] at r
    obtain ⟨a, vs, _, _, r⟩ := r
    exact .inr (ksD_some h r)
  | int _ => exact .inl (isK0_kD h r)
  | str _ => exact .inl (isK0_kD h r)
  | _ => cases h
theorem RepK.flat : ∀ {ds : List (D × D)} {kvs : List (Key × V)}, RepK mg H ds kvs → ∀ p ∈ ds, ∃ k, kD p.1 = some k
  | [], _, _ => fun p hp => by cases hp
  | (d, e) :: ds, _, h => by
    simp only [RepK] at h
    obtain ⟨k, _, r, rfl, h1, _, h3⟩ := h
    intro p hp
    rcases List.mem_cons.mp hp with rfl | hp
    · exact ⟨k, h1⟩
    · exact RepK.flat h3 p hp
theorem RepT.tuples : ∀ {ds : List (D × D)} {kvs : List (List Key × V)}, RepT mg H ds kvs → ∀ p ∈ ds, ∃ k, ktD p.1 = some k
  | [], _, _ => fun p hp => by cases hp
  | (d, e) :: ds, _, h => by
    simp only [RepT] at h
    obtain ⟨k, _, r, rfl, h1, _, h3⟩ := h
    intro p hp
    rcases List.mem_cons.mp hp with rfl | hp
    · exact ⟨k, h1⟩
    · exact RepT.tuples h3 p hp
end

section
variable {X : Cx} {pins : List (Addr × Obj)} {σ : St} {H : Hp} {s : Shared}
/-- an empty dict is one of either kind -/
theorem empty_K {P : Program} {w : World} {h : Heap} {a : Addr} (x : ObjOk P w H h a (.dT [])) : ObjOk P w H h a (.dK []) := by
  obtain ⟨z, y, xs, r, o, es, ep, e, ex, d, el, nd⟩ := x
  cases r
  have hes : es = #[] := by simpa using congrArg List.toArray el
  subst hes
  exact ⟨z, y, [], .nil, o, #[], ep, e, ex, d, fun en hen => by simp at hen, .nil, List.nodup_nil⟩
theorem empty_T {P : Program} {w : World} {h : Heap} {a : Addr} (x : ObjOk P w H h a (.dK [])) : ObjOk P w H h a (.dT []) := by
  obtain ⟨z, y, vs, r, o, es, ep, e, ex, d, ke, pr, nd⟩ := x
  cases r
  have hes : es.toList = [] := by
    generalize es.toList = l at pr
    cases pr; rfl
  exact ⟨z, y, [], .nil, o, es, ep, e, ex, d, by simpa using hes, List.nodup_nil⟩
def VO (X : Cx) (H : Hp) : Option D → Option Value → Prop
  | some e, some u => ∃ v, RelV v u ∧ Rep X.mg H e v
  | none, none => True
  | _, _ => False
theorem VO.of {o : Option V} {e : Option D} {u : Option Value} (r : RelO o u) (h1 : ∀ d, e = some d → ∃ v, o = some v ∧ Rep X.mg H d v) (h2 : e = none → o = none) : VO X H e u := by
  cases e with
  | none =>
    rw [h2 rfl] at r
    cases u with
    | none => trivial
    | some _ => exact r.elim
  | some d =>
    obtain ⟨v, rfl, hv⟩ := h1 d rfl
    cases u with
    | none => exact r.elim
    | some u => exact ⟨v, r, hv⟩
/-- what a dict says of a key, in the heap itself -/
theorem dict_raw (I : L2.Inv X pins σ H s) {kvs : List (D × D)} {d : D} {x y : V} (hx : Tmp X.mg H (.dic kvs) x) (hy : Rep X.mg H d y) (k : d.isK = true) (sk : sameKind kvs d = true) :
    ∃ a, x = .ref a ∧ (a == sysModules) = false ∧
      ((∃ kk vs, y = kV kk ∧ s.heap.DictOf (mixKind X.prog X.w) a vs ∧ VO X H (dfind kvs d) (valueAt vs kk)) ∨
        ∃ b kk xs, y = .ref b ∧ (tupleKind (mixKind X.prog X.w)).is s.heap kk b ∧ s.heap.DictOfH (tupleKind (mixKind X.prog X.w)) a xs ∧ VO X H (dfind kvs d) ((atKey xs kk).map (·.2))) := by
  obtain ⟨a, rfl, h⟩ := hx
  refine ⟨a, rfl, ?_⟩
  by_cases ne : kvs = []
  · subst ne
    have both : ObjOk X.prog X.w H s.heap a (.dK []) ∧ ObjOk X.prog X.w H s.heap a (.dT []) := by
      rcases h with ⟨kv, h1, h2⟩ | ⟨kv, h1, h2⟩
      · simp only [RepK] at h2; subst h2
        exact ⟨h1.ok I.hok, empty_T (h1.ok I.hok)⟩
      · simp only [RepT] at h2; subst h2
        exact ⟨empty_K (h1.ok I.hok), h1.ok I.hok⟩
    obtain ⟨⟨_, hd, vs, r, dd⟩, ⟨_, _, xs, r', o, es, ep, e1, e2, e3, e4, e5⟩⟩ := both
    refine ⟨hd, ?_⟩
    rcases isK_cases k hy with ⟨kk, e⟩ | ⟨kk, e⟩
    · cases r
      exact .inl ⟨kk, [], rep_kV e hy, dd, trivial⟩
    · obtain ⟨b, rfl, hb⟩ := rep_ktV e hy
      cases r'
      exact .inr ⟨b, kk, [], rfl, key_of I.hok hb, ⟨o, es, ep, e1, e2, e3, e4, fun x hx => by (cases hx), e5⟩, trivial⟩
  · obtain ⟨p0, hp0⟩ : ∃ p, p ∈ kvs := by
      cases kvs with
      | nil => exact absurd rfl ne
      | cons p _ => exact ⟨p, List.mem_cons_self⟩
    rcases h with ⟨kv, h1, h2⟩ | ⟨kv, h1, h2⟩
    · obtain ⟨_, hd, vs, r, dd⟩ := dk_rd I.hok h1
      refine ⟨hd, ?_⟩
      rcases isK_cases k hy with ⟨kk, e⟩ | ⟨kk, e⟩
      · obtain ⟨f1, f2⟩ := RepK.find (d := d) h2 e
        exact .inl ⟨kk, vs, rep_kV e hy, dd, .of (r.val kk) f1 f2⟩
      · exfalso
        obtain ⟨k0, e0⟩ := h2.flat p0 hp0
        cases d <;> simp only [ktD, reduceCtorEq] at e
        unfold sameKind at sk
        have := List.all_eq_true.mp sk p0 hp0
        cases q : p0.1 <;> rw [q] at this e0 <;> first | (cases this; done) | (cases e0; done)
    · obtain ⟨_, hd, xs, r, dd⟩ := dt_rd I.hok h1
      refine ⟨hd, ?_⟩
      rcases isK_cases k hy with ⟨kk, e⟩ | ⟨kk, e⟩
      · exfalso
        obtain ⟨k0, e0⟩ := h2.tuples p0 hp0
        have : (match p0.1 with | .tup _ => false | _ => true) = true := by
          cases d <;> first | (cases e; done) | skip
          · exact List.all_eq_true.mp sk p0 hp0
          · exact List.all_eq_true.mp sk p0 hp0
        cases q : p0.1 <;> rw [q] at this e0 <;> first | (cases this; done) | (cases e0; done)
      · obtain ⟨f1, f2⟩ := RepT.find (d := d) h2 e
        obtain ⟨b, rfl, hb⟩ := rep_ktV e hy
        exact .inr ⟨b, kk, xs, rfl, key_of I.hok hb, dd, .of (r.val kk) f1 f2⟩
theorem VO.some_eq {e : Option D} {u : Option Value} (h : VO X H e u) : u.isSome = e.isSome := by
  cases e <;> cases u <;> first | rfl | exact h.elim
theorem tmp_key {d : D} {y : V} (h : Tmp X.mg H d y) (k : d.isK = true) : Rep X.mg H d y := h.rep (by cases d <;> first | rfl | cases k)
theorem in_dict (hu : X.A.units + 64 < cLine) (I : L2.Inv X pins σ H s) {kvs : List (D × D)} {d : D} {x y : V} {u v : Value} (hx : Tmp X.mg H (.dic kvs) x) (hy : Tmp X.mg H d y) (k : d.isK = true) (sk : sameKind kvs d = true) (rx : RelV x u) (ry : RelV y v)
    {Q : Value → Shared → Prop} {E : Value → Shared → Prop} (neg : Bool) (q : ∀ s', L2.Inv X pins σ H s' → Q (.bool (if neg then !(dfind kvs d).isSome else (dfind kvs d).isSome)) s') :
    wpAny (model X.prog X.w) X.A (compareOp (if neg then .NotIn else .In) v u) Q E s := by
  obtain ⟨a, rfl, hd, h⟩ := dict_raw I hx (tmp_key hy k) k sk
  cases rx
  rcases h with ⟨kk, vs, rfl, dd, vo⟩ | ⟨b, kk, xs, rfl, hk, dd, vo⟩
  · rw [← vo.some_eq] at q
    cases neg with
    | false => exact wpAny_in_of (kV_is ry) hd dd.mapOf (q _ (I.tok _))
    | true => exact wpAny_notIn_of (kV_is ry) hd dd.mapOf (q _ (I.tok _))
  · cases ry
    rw [← vo.some_eq, Option.isSome_map] at q
    have hr : X.A.units + 1 < cLine := by omega
    cases neg with
    | false => exact wpAny_in_heap (tupleKind_room_in1 hr) hk hd dd (q _ (I.tok _))
    | true =>
      show wpAny _ _ (do return .bool (!(← contains (.ref a) (.ref b)))) Q E s
      exact wpAny_bind (wpAny_contains_heap (tupleKind_room_in1 hr) hk hd dd (wpAny_pure (q _ (I.tok _))))
end
end Mp

end Sec_MpF
section Sec_MpG
set_option autoImplicit false
set_option linter.all false
set_option maxHeartbeats 2000000
/-! Comparisons by values, further. -/
namespace Mp
open PySem PySem.Spec PyProof.Rows L2
open PySem.SeqAt (EqAt RcAt RcNeAt pairEq)

/-! ### < -/
theorem alikes_cons {x y : D} {xs ys : List D} (h : D.alikes (x :: xs) (y :: ys) = true) : D.alike x y = true ∧ D.alikes xs ys = true := Bool.and_eq_true_iff.mp h
theorem flats_cons {x : D} {xs : List D} (h : D.flats (x :: xs) = true) : D.flat x = true ∧ D.flats xs = true := Bool.and_eq_true_iff.mp h
mutual
theorem lt_toPy : ∀ d e : D, D.alike d e = true → d.flat = true → e.flat = true → PySem.W.dataLt (toPy d) (toPy e) = D.lt d e
  | .tup a, e, h, f, g => by
    cases e <;> first | (cases h; done) | skip
    simp only [toPy, PySem.W.dataLt_tuple, D.lt]
    exact lts_toPy _ _ h f g
  | .lst a, e, h, f, g => by
    cases e <;> first | (cases h; done) | skip
    simp only [toPy, PySem.W.dataLt_list, D.lt]
    exact lts_toPy _ _ h f g
  | .non, e, h, f, g => by
    cases e <;> first | (cases h; done) | rfl
  | .bl a, e, h, f, g => by
    cases e <;> first | (cases h; done) | skip
    rename_i b
    cases a <;> cases b <;> rfl
  | .int a, e, h, f, g => by
    cases e <;> first | (cases h; done) | skip
    simp only [toPy, PySem.W.dataLt_int, D.lt]
  | .str a, e, h, f, g => by
    cases e <;> first | (cases h; done) | skip
    simp only [toPy, PySem.W.dataLt_str, D.lt, ltL_lex]
  | .dic _, _, h, _, _ => by cases h
  | .fn _, _, h, _, _ => by cases h
theorem lts_toPy : ∀ d e : List D, D.alikes d e = true → D.flats d = true → D.flats e = true → PyProof.Rows.lexLt itemOrd (PySem.W.keyToksAll (toPys d)) (PySem.W.keyToksAll (toPys e)) = D.lts d e
  | [], [], _, _, _ => rfl
  | [], _ :: _, _, _, _ => rfl
  | _ :: _, [], _, _, _ => rfl
  | x :: xs, y :: ys, h, f, g => by
    obtain ⟨h1, h2⟩ := alikes_cons h
    obtain ⟨f1, f2⟩ := flats_cons f
    obtain ⟨g1, g2⟩ := flats_cons g
    simp only [toPys, D.lts]
    rw [PySem.W.dataLt_cons (alike_py h1 f1 g1), eqv_toPy x y f1 g1, lts_toPy xs ys h2 f2 g2, lt_toPy x y h1 f1 g1]
end

section
variable {X : Cx} {pins : List (Addr × Obj)} {σ : St} {H : Hp} {s : Shared}
theorem in1_units (A : Around) : A.in1.units = A.units + 1 := rfl
/-- an item's answer, read off the value -/
noncomputable def ansOf (h : Heap) (d : PyData) (u : Value) : Bool := by
  classical
  exact if q : ∃ e as, nd e = true ∧ Reads h u e as then PyData.eqv q.choose d else false
theorem ansOf_eq {h : Heap} {d e : PyData} {u : Value} {as : List Addr} (n : nd e = true) (r : Reads h u e as) : ansOf h d u = PyData.eqv e d := by
  have q : ∃ e as, nd e = true ∧ Reads h u e as := ⟨e, as, n, r⟩
  unfold ansOf
  rw [dif_pos q]
  obtain ⟨bs, m, r'⟩ := q.choose_spec
  rw [nd_one _ _ _ _ _ m r' r]
theorem depths_le {x : D} : ∀ {xs : List D}, x ∈ xs → x.depth ≤ D.depths xs
  | [], h => by cases h
  | y :: ys, h => by
    simp only [D.depths]
    rcases List.mem_cons.mp h with rfl | h
    · exact Nat.le_max_left _ _
    · exact Nat.le_trans (depths_le h) (Nat.le_max_right _ _)
theorem flats_mem {x : D} : ∀ {xs : List D}, D.flats xs = true → x ∈ xs → x.flat = true
  | [], _, h => by cases h
  | y :: ys, f, h => by
    obtain ⟨f1, f2⟩ := flats_cons f
    rcases List.mem_cons.mp h with rfl | h
    · exact f1
    · exact flats_mem f2 h
theorem items_ans (hu : X.A.units + 64 < cLine) (I : L2.Inv X pins σ H s) {d : D} {y : V} {v : Value} (hy : Tmp X.mg H d y) (ry : RelV y v) (fd : d.flat = true) (ld : d.depth ≤ 60) :
    ∀ {ds : List D} {vs : List V} {us : List Value}, Reps X.mg H ds vs → Vals vs us → D.flats ds = true → D.depths ds ≤ 60 →
      (∀ u ∈ us, EqAt X.A.in1 s u v (ansOf s.heap (toPy d) u)) ∧ us.any (ansOf s.heap (toPy d)) = ds.any fun x => D.eqv x d
  | [], vs, us, h, r, _, _ => by
    simp only [Reps] at h; subst h
    cases r
    exact ⟨fun u hu' => (by cases hu'), rfl⟩
  | e :: ds, vs, us, h, r, f, l => by
    simp only [Reps] at h
    obtain ⟨x, vr, rfl, h1, h2⟩ := h
    cases r with
    | cons r1 r2 =>
      obtain ⟨f1, f2⟩ := flats_cons f
      have l1 : e.depth ≤ 60 := Nat.le_trans (Nat.le_max_left _ _) l
      have l2 : D.depths ds ≤ 60 := Nat.le_trans (Nat.le_max_right _ _) l
      obtain ⟨ih1, ih2⟩ := items_ans hu I hy ry fd ld h2 r2 f2 l2
      obtain ⟨as, ra⟩ := Tmp.reads I f1 h1.tmp r1
      obtain ⟨bs, rb⟩ := Tmp.reads I fd hy ry
      have ea := ansOf_eq (d := toPy d) (nd_toPy e) ra
      refine ⟨fun u hu' => ?_, ?_⟩
      · rcases List.mem_cons.mp hu' with rfl | hu'
        · rw [ea]
          exact (eq3 _ _ X.A.in1 s _ _ as bs ra rb (nd_toPy e) (nd_toPy d) (by
            show X.A.in1.units + _ < _
            rw [in1_units, depth_toPy]
            omega)).1
        · exact ih1 u hu'
      · rw [List.any_cons, List.any_cons, ih2, ea, eqv_toPy e d f1 fd]
theorem in_seq (hu : X.A.units + 64 < cLine) (I : L2.Inv X pins σ H s) {ds : List D} {d : D} {x y : V} {u v : Value} (li : Bool) (hx : Tmp X.mg H (if li then .lst ds else .tup ds) x) (hy : Tmp X.mg H d y) (k : eqOk d (.lst ds) = true) (rx : RelV x u) (ry : RelV y v)
    {Q : Value → Shared → Prop} {E : Value → Shared → Prop} (neg : Bool) (q : Q (.bool (if neg then !(ds.any fun x => D.eqv x d) else ds.any fun x => D.eqv x d)) s) :
    wpAny (model X.prog X.w) X.A (compareOp (if neg then .NotIn else .In) v u) Q E s := by
  obtain ⟨fd, fs, ld, ls⟩ := eqOk_iff k
  have fs' : D.flats ds = true := fs
  have ls' : D.depths ds ≤ 60 := by
    have : (D.lst ds).depth = D.depths ds + 1 := by simp only [D.depth]
    omega
  cases li with
  | true =>
    obtain ⟨a, vs, rfl, h1, h2⟩ := hx
    cases rx
    obtain ⟨its, n, r, e, z⟩ := lstR I h1
    obtain ⟨p1, p2⟩ := items_ans hu I hy ry fd ld h2 r fs' ls'
    have hl : s.heap.IsList a its.toArray := ⟨_, e, rfl, n, rfl⟩
    rw [← p2] at q
    have q' : Q (.bool (if neg then !its.toArray.any (ansOf s.heap (toPy d)) else its.toArray.any (ansOf s.heap (toPy d)))) s := by
      rw [show its.toArray.any (ansOf s.heap (toPy d)) = its.any (ansOf s.heap (toPy d)) by simp]
      exact q
    cases neg with
    | false => exact SeqAt.in_listAt _ hl (fun w hw => p1 w (by simpa using hw)) q'
    | true => exact SeqAt.notIn_listAt _ hl (fun w hw => p1 w (by simpa using hw)) q'
  | false =>
    obtain ⟨a, vs, rfl, h1, h2⟩ := Tmp.sqt (K := X.K) hx
    cases rx
    obtain ⟨its, r, pl, z⟩ := I.tuple h1
    obtain ⟨p1, p2⟩ := items_ans hu I hy ry fd ld h2 r fs' ls'
    rw [← p2] at q
    have q' : Q (.bool (if neg then !its.toArray.any (ansOf s.heap (toPy d)) else its.toArray.any (ansOf s.heap (toPy d)))) s := by
      rw [show its.toArray.any (ansOf s.heap (toPy d)) = its.any (ansOf s.heap (toPy d)) by simp]
      exact q
    cases neg with
    | false => exact SeqAt.in_tupleAt _ pl (fun w hw => p1 w (by simpa using hw)) q'
    | true => exact SeqAt.notIn_tupleAt _ pl (fun w hw => p1 w (by simpa using hw)) q'

/-! ### two dicts -/
theorem dOk_K {x : List (D × D)} {v : V} (I : L2.Inv X pins σ H s) (h : Tmp X.mg H (.dic x) v) (k : dOk x = true) : ∃ a kv vs, v = .ref a ∧ (a == sysModules) = false ∧ RepK X.mg H x kv ∧ KV kv vs ∧ s.heap.DictOf (mixKind X.prog X.w) a vs := by
  obtain ⟨a, rfl, h⟩ := h
  rcases h with ⟨kv, h1, h2⟩ | ⟨kv, h1, h2⟩
  · obtain ⟨_, hd, vs, r, dd⟩ := dk_rd I.hok h1
    exact ⟨a, kv, vs, rfl, hd, h2, r, dd⟩
  · cases x with
    | nil =>
      simp only [RepT] at h2; subst h2
      obtain ⟨_, hd, vs, r, dd⟩ := empty_K (h1.ok I.hok)
      exact ⟨a, [], vs, rfl, hd, by simp only [RepK], r, dd⟩
    | cons p r =>
      exfalso
      obtain ⟨k0, e0⟩ := h2.tuples p List.mem_cons_self
      have := List.all_eq_true.mp k p List.mem_cons_self
      simp only [Bool.and_eq_true] at this
      cases q : p.1 <;> rw [q] at this e0 <;> first | (cases e0; done) | (cases this.1.1; done)
theorem hits_of (hu : X.A.units + 64 < cLine) (I : L2.Inv X pins σ H s) {y : List (D × D)} {kvy : List (Key × V)} {vsy : List (Key × Value)} (hy : RepK X.mg H y kvy) (ry : KV kvy vsy) (ky : dOk y = true) :
    ∀ {x : List (D × D)} {kv : List (Key × V)} {vs : List (Key × Value)}, RepK X.mg H x kv → KV kv vs → dOk x = true →
      PySem.W.KeqHits X.A.in1 s vsy vs (x.all fun p => match dfind y p.1 with | some v => D.eqv p.2 v | none => false)
  | [], kv, vs, h, r, _ => by
    simp only [RepK] at h; subst h
    cases r
    exact .nil
  | (d, e) :: x, kv, vs, h, r, k => by
    simp only [RepK] at h
    obtain ⟨kk, v, kr, rfl, h1, h2, h3⟩ := h
    cases r with
    | @cons _ b _ vr r1 r2 =>
      obtain ⟨e1, e2⟩ := r1
      obtain ⟨bk, bu⟩ := b
      cases e1
      have k0 := Bool.and_eq_true_iff.mp (show (((d, e).1.isK0 && (d, e).2.flat && decide ((d, e).2.depth ≤ 60)) && dOk x) = true from k)
      have ih := hits_of hu I hy ry ky h3 r2 k0.2
      have ke := k0.1
      simp only [Bool.and_eq_true, decide_eq_true_eq] at ke
      obtain ⟨f1, f2⟩ := RepK.find (d := d) hy h1
      rw [List.all_cons]
      cases q : dfind y d with
      | none =>
        simp only [Bool.false_and]
        have z := f2 q
        have rv := ry.val kk
        rw [z] at rv
        refine .miss ?_
        cases q2 : valueAt vsy kk with
        | none => rfl
        | some _ => rw [q2] at rv; exact rv.elim
      | some e' =>
        obtain ⟨v', z, hv'⟩ := f1 e' q
        have rv := ry.val kk
        rw [z] at rv
        cases q2 : valueAt vsy kk with
        | none => rw [q2] at rv; exact rv.elim
        | some u' =>
          rw [q2] at rv
          refine .hit q2 ?_ ih
          have hm : ∃ p ∈ y, p.2 = e' := by
            unfold dfind at q
            obtain ⟨p, hp, hp2⟩ := Option.map_eq_some_iff.mp q
            exact ⟨p, List.mem_of_find?_eq_some hp, hp2⟩
          obtain ⟨p, hp, hp2⟩ := hm
          have kp := List.all_eq_true.mp ky p hp
          simp only [Bool.and_eq_true, decide_eq_true_eq, hp2] at kp
          obtain ⟨as, ra⟩ := Tmp.reads I ke.1.2 h2.tmp e2
          obtain ⟨bs, rb⟩ := Tmp.reads I kp.1.2 hv'.tmp rv
          show EqAt X.A.in1 s bu u' (D.eqv e e')
          rw [← eqv_toPy e e' ke.1.2 kp.1.2]
          exact (eq3 _ _ X.A.in1 s _ _ as bs ra rb (nd_toPy e) (nd_toPy e') (by
            show X.A.in1.units + _ < _
            rw [in1_units, depth_toPy, depth_toPy]
            omega)).1
theorem eq_dicts (hu : X.A.units + 64 < cLine) (I : L2.Inv X pins σ H s) {x y : List (D × D)} {a b : V} {u v : Value} (hx : Tmp X.mg H (.dic x) a) (hy : Tmp X.mg H (.dic y) b) (kx : dOk x = true) (ky : dOk y = true) (ra : RelV a u) (rb : RelV b v)
    {Q : Value → Shared → Prop} {E : Value → Shared → Prop} (neg : Bool) {r : Bool} (er : r = (decide (x.length = y.length) && x.all fun p => match dfind y p.1 with | some v => D.eqv p.2 v | none => false)) (q : Q (.bool (if neg then !r else r)) s) :
    wpAny (model X.prog X.w) X.A (compareOp (if neg then .NotEq else .Eq) u v) Q E s := by
  obtain ⟨p, kv, vs, rfl, hd, hk, rk, dd⟩ := dOk_K I hx kx
  obtain ⟨p', kv', vs', rfl, hd', hk', rk', dd'⟩ := dOk_K I hy ky
  cases ra
  cases rb
  have l1 := hk.length
  have l2 := hk'.length
  have l3 := rk.length
  have l4 := rk'.length
  have e : decide (x.length = y.length) = (vs.length == vs'.length) := by
    rw [l1, l2, l3, l4]
    exact (Bool.beq_eq_decide_eq _ _).symm
  rw [e] at er
  subst er
  have hit := hits_of hu I hk' rk' ky hk rk kx
  cases neg with
  | false => exact PySem.W.keq_eq hd hd' dd dd' (by omega) (fun _ => hit) q
  | true => exact PySem.W.keq_ne hd hd' dd dd' (by omega) (fun _ => hit) q
end

theorem isNon_of {K : PySem.W.Frag} {mg : Str → Option Value} {H : Hp} {d : D} {x : V} (hx : Tmp mg H d x) : decide (x = V.non) = isNon d := by
  cases d with
  | non => rw [Tmp.non hx]; rfl
  | bl _ => rw [Tmp.bl hx]; rfl
  | int _ => rw [Tmp.int hx]; rfl
  | str _ => rw [(Tmp.str hx).1]; rfl
  | tup _ => obtain ⟨a, vs, rfl, _⟩ := Tmp.sqt (K := K) hx; rfl
  | lst _ => obtain ⟨a, vs, rfl, _⟩ := hx; rfl
  | dic _ => obtain ⟨a, rfl, _⟩ := hx; rfl
  | fn _ =>
    have hx' : Rep mg H (.fn _) x := hx
    simp only [Rep] at hx'
    obtain ⟨f, rfl, _⟩ := hx'
    rfl
def copTo : COp → CmpOp
  | .eq => .Eq | .ne => .NotEq | .lt => .Lt | .le => .LtE | .gt => .Gt | .ge => .GtE | .is_ => .Is | .isnot => .IsNot | .in_ => .In | .notin => .NotIn
theorem copTo_of (op : CmpOp) : copTo (copOf op) = op := by cases op <;> rfl
def rCmp (X : Cx) (op : COp) : R2 := fun x y H Q => ∃ d e b, Tmp X.mg H d x ∧ Tmp X.mg H e y ∧ cmp op d e = .ok (.bl b) ∧ Q (.bl b) H
theorem bind_ok {α β : Type} {r : R α} {f : α → R β} {b : β} (h : r.bind f = .ok b) : ∃ a, r = .ok a ∧ f a = .ok b := by
  cases r with
  | ok a => exact ⟨a, rfl, h⟩
  | ex _ => cases h
  | no => cases h
theorem cmp_bl {op : COp} {a b r : D} (h : cmp op a b = .ok r) : ∃ k, r = .bl k := by
  cases op <;> simp only [cmp] at h
  · obtain ⟨k, _, e⟩ := bind_ok h; cases e; exact ⟨_, rfl⟩
  · obtain ⟨k, _, e⟩ := bind_ok h; cases e; exact ⟨_, rfl⟩
  · split at h <;> first | (cases h; done) | (cases h; exact ⟨_, rfl⟩)
  · split at h <;> first | (cases h; done) | (cases h; exact ⟨_, rfl⟩)
  · split at h <;> first | (cases h; done) | (cases h; exact ⟨_, rfl⟩)
  · split at h <;> first | (cases h; done) | (cases h; exact ⟨_, rfl⟩)
  · split at h <;> first | (cases h; done) | (cases h; exact ⟨_, rfl⟩) | (split at h <;> first | (cases h; done) | (cases h; exact ⟨_, rfl⟩))
  · split at h <;> first | (cases h; done) | (cases h; exact ⟨_, rfl⟩) | (split at h <;> first | (cases h; done) | (cases h; exact ⟨_, rfl⟩))
  · obtain ⟨k, _, e⟩ := bind_ok h; cases e; exact ⟨_, rfl⟩
  · obtain ⟨k, _, e⟩ := bind_ok h; cases e; exact ⟨_, rfl⟩
section
variable {X : Cx}
theorem eqD_run (hu : X.A.units + 64 < cLine) {pins : List (Addr × Obj)} {σ : St} {H : Hp} {s : Shared} (I : L2.Inv X pins σ H s) {d e : D} {x y : V} {v u : Value} (hx : Tmp X.mg H d x) (hy : Tmp X.mg H e y) (rx : RelV x v) (ry : RelV y u)
    {Q : Value → Shared → Prop} {E : Value → Shared → Prop} (neg : Bool) {b : Bool} (h : eqD d e = .ok b) (q : Q (.bool (if neg then !b else b)) s) : wpAny (model X.prog X.w) X.A (compareOp (if neg then .NotEq else .Eq) v u) Q E s := by
  unfold eqD at h
  split at h
  · split at h
    · rename_i k
      rw [Bool.and_eq_true] at k
      cases h
      exact eq_dicts hu I hx hy k.1 k.2 rx ry neg rfl q
    · cases h
  · split at h
    · rename_i k
      cases h
      obtain ⟨_, h2, h3⟩ := eq_run hu I k hx hy rx ry
      cases neg with
      | false => exact h2 _ _ _ _ q
      | true => exact h3 _ _ _ _ q
    · cases h
theorem inD_run (hu : X.A.units + 64 < cLine) {pins : List (Addr × Obj)} {σ : St} {H : Hp} {s : Shared} (I : L2.Inv X pins σ H s) {d e : D} {x y : V} {v u : Value} (hx : Tmp X.mg H d x) (hy : Tmp X.mg H e y) (rx : RelV x v) (ry : RelV y u)
    {Q : VK} (neg : Bool) {b : Bool} (h : inD d e = .ok b) (q : Q (.bl (if neg then !b else b)) H) : wpAny (model X.prog X.w) X.A (compareOp (if neg then .NotIn else .In) v u) (EP X pins σ Q) X.xe s := by
  have fin : ∀ s', L2.Inv X pins σ H s' → EP X pins σ Q (.bool (if neg then !b else b)) s' := fun s' I' => ⟨.bl _, H, I', rfl, q⟩
  unfold inD at h
  split at h
  · split at h
    · rename_i k
      cases h
      exact in_seq hu I true hy hx k ry rx neg (fin s I)
    · cases h
  · split at h
    · rename_i k
      cases h
      have k' : eqOk d (.lst _) = true := k
      exact in_seq hu I false hy hx k' ry rx neg (fin s I)
    · cases h
  · split at h
    · rename_i k
      rw [Bool.and_eq_true] at k
      cases h
      exact in_dict hu I hy hx k.1 k.2 ry rx neg fin
    · cases h
  · split at h
    · cases h
      rename_i z _ c
      obtain ⟨e1, _⟩ := Tmp.str hx
      obtain ⟨e2, _⟩ := Tmp.str hy
      have e3 : ∀ c, decide (c ∈ (⟨z.toArray⟩ : Str).cps.toList) = z.contains c := fun c => by
        show decide (c ∈ z.toArray.toList) = _
        simp [List.contains_eq_mem]
      cases neg with
      | false => exact op_in_sign pins s σ H x y v u Q I rx ry ⟨c, _, e1, e2, by rw [e3]; exact q⟩
      | true => exact op_notIn_sign pins s σ H x y v u Q I rx ry ⟨c, _, e1, e2, by rw [e3]; exact q⟩
    · cases h
  · cases h
theorem cmp_ok (hu : X.A.units + 64 < cLine) (op : COp) : OpR X (compareOp (copTo op)) (rCmp X op) := by
  intro pins s σ H x y v u Q I rx ry h
  obtain ⟨d, e, b, hx, hy, hc, q⟩ := h
  cases op <;> simp only [cmp] at hc
  · obtain ⟨k, hk, e2⟩ := bind_ok hc
    cases e2
    exact eqD_run hu I hx hy rx ry false hk ⟨.bl _, H, I, rfl, q⟩
  · obtain ⟨k, hk, e2⟩ := bind_ok hc
    cases e2
    exact eqD_run hu I hx hy rx ry true hk ⟨.bl _, H, I, rfl, q⟩
  · split at hc
    · rename_i k
      cases hc
      rw [Bool.and_eq_true, Bool.and_eq_true] at k
      obtain ⟨⟨k1, k2⟩, k3⟩ := k
      obtain ⟨f1, f2, l1, l2⟩ := eqOk_iff k2
      obtain ⟨as, ra⟩ := Tmp.reads I f1 hx rx
      obtain ⟨bs, rb⟩ := Tmp.reads I f2 hy ry
      have := PySem.W.rcLt_alike _ _ X.A s v u as bs ra rb (alike_py k1 f1 f2) (by cases d <;> first | (cases k3; done) | (cases f1; done) | (simp [toPy])) (rm_of hu l1)
      rw [lt_toPy d e k1 f1 f2] at this
      exact this _ _ _ _ ⟨.bl _, H, I, rfl, q⟩
    · cases hc
  · split at hc
    · cases hc
      exact op_le pins s σ H x y v u Q I rx ry ⟨_, _, Tmp.int hx, Tmp.int hy, q⟩
    · cases hc
  · split at hc
    · cases hc
      exact op_gt pins s σ H x y v u Q I rx ry ⟨_, _, Tmp.int hx, Tmp.int hy, q⟩
    · cases hc
  · split at hc
    · cases hc
      exact op_ge pins s σ H x y v u Q I rx ry ⟨_, _, Tmp.int hx, Tmp.int hy, q⟩
    · cases hc
  · split at hc
    · cases hc
      refine op_isN pins s σ H x y v u Q I rx ry ⟨Tmp.non hy, ?_⟩
      have e1 := isNon_of (K := X.K) hx
      rw [e1]
      exact q
    · split at hc
      · cases hc
        refine op_isBl pins s σ H x y v u Q I rx ry ⟨_, _, Tmp.bl hx, Tmp.bl hy, ?_⟩
        rename_i a b
        rw [← Bool.beq_eq_decide_eq]
        exact q
      · cases hc
    · cases hc
  · split at hc
    · cases hc
      refine op_notN pins s σ H x y v u Q I rx ry ⟨Tmp.non hy, ?_⟩
      have e1 := isNon_of (K := X.K) hx
      rw [e1]
      exact q
    · split at hc
      · cases hc
        refine op_notBl pins s σ H x y v u Q I rx ry ⟨_, _, Tmp.bl hx, Tmp.bl hy, ?_⟩
        rename_i a b
        rw [← Bool.beq_eq_decide_eq]
        exact q
      · cases hc
    · cases hc
  · obtain ⟨k, hk, e2⟩ := bind_ok hc
    cases e2
    exact inD_run hu I hx hy rx ry false hk q
  · obtain ⟨k, hk, e2⟩ := bind_ok hc
    cases e2
    exact inD_run hu I hx hy rx ry true hk q
end
end Mp

end Sec_MpG
section Sec_MpH
set_option autoImplicit false
set_option linter.all false
set_option maxHeartbeats 2000000
/-! Subscripts, slices, built-ins by values. -/
namespace Mp
open PySem PySem.Spec PyProof.Rows L2
open PySem.SeqAt (EqAt RcAt RcNeAt pairEq)

section
variable {X : Cx}
theorem ofO_ok {α : Type} {o : Option α} {a : α} (h : ofO o = .ok a) : o = some a := by
  cases o with
  | none => cases h
  | some b => cases h; rfl
theorem Rep.okV {H H' : Hp} {d : D} {v : V} (h : Rep X.mg H d v) : Res X.mg H H' false d v := Res.f.mpr h
/-- a subscript -/
def rIxD (X : Cx) : R2 := fun x y H Q => ∃ d e r, Tmp X.mg H d x ∧ Tmp X.mg H e y ∧ ix d e = .ok r ∧ ∀ v, Rep X.mg H r v → Q v H
theorem ixD_ok (hu : X.A.units + 64 < cLine) : IxR X (rIxD X) := by
  intro value slice pins s σ H x y v u Q I rx ry h hs
  obtain ⟨d, e, r, hx, hy, hi, q⟩ := h
  unfold ix at hi
  split at hi
  · obtain ⟨a, vs, rfl, h1, h2⟩ := Tmp.sql (K := X.K) hx
    obtain ⟨w, e1, e2⟩ := h2.atI (ofO_ok hi)
    exact ix_list value slice pins s σ H _ y v u Q I rx ry ⟨a, vs, _, w, rfl, Tmp.int hy, h1, e1, q w e2⟩ hs
  · obtain ⟨a, vs, rfl, h1, h2⟩ := Tmp.sqt (K := X.K) hx
    obtain ⟨w, e1, e2⟩ := h2.atI (ofO_ok hi)
    exact ix_tup value slice pins s σ H _ y v u Q I rx ry ⟨a, vs, _, w, rfl, Tmp.int hy, h1, e1, q w e2⟩ hs
  · rename_i xs i
    obtain ⟨e1, l⟩ := Tmp.str hx
    obtain ⟨c, hc, rfl⟩ := Option.map_eq_some_iff.mp (ofO_ok hi)
    refine ix_str value slice pins s σ H x y v u Q I rx ry ⟨_, i, c, e1, Tmp.int hy, ?_, ?_, ?_⟩ hs
    · show xs.toArray.size ≤ _
      rw [List.size_toArray]; exact l
    · exact hc
    · exact q _ (by simp only [Rep]; exact ⟨trivial, (by show 1 ≤ sizeLine; decide)⟩)
  · split at hi
    · rename_i kvs k'
      rw [Bool.and_eq_true] at k'
      obtain ⟨a, rfl, hd, h⟩ := dict_raw I hx (tmp_key hy k'.1) k'.1 k'.2
      cases rx
      have ho := ofO_ok hi
      have hr : X.A.units + 1 < cLine := by omega
      rcases h with ⟨kk, vs, rfl, dd, vo⟩ | ⟨b, kk, xs, rfl, hk, dd, vo⟩
      · rw [ho] at vo
        cases q2 : valueAt vs kk with
        | none => rw [q2] at vo; exact vo.elim
        | some u' =>
          rw [q2] at vo
          obtain ⟨w, rw', hw⟩ := vo
          exact tail_any dd.typeIs PySem.F.slot_dict_getitem.lookup (wpAny_getItem_of (kV_is ry) dd.mapOf q2 ⟨w, H, I.tok _, rw', q w hw⟩) hs
      · cases ry
        rw [ho] at vo
        cases q2 : (atKey xs kk).map (·.2) with
        | none => rw [q2] at vo; exact vo.elim
        | some u' =>
          rw [q2] at vo
          obtain ⟨w, rw', hw⟩ := vo
          obtain ⟨p, hp, hp2⟩ := Option.map_eq_some_iff.mp q2
          refine tail_any dd.typeIs PySem.F.slot_dict_getitem.lookup (wpAny_getItem_heap (tupleKind_room_in1 hr) hk dd hp ?_) hs
          rw [hp2]
          exact ⟨w, H, I.tok _, rw', q w hw⟩
    · cases hi
  · cases hi
/-- a slice -/
def rSlD (X : Cx) : V → Option Int → Option Int → Hp → VK → Prop := fun x lo hi H Q => ∃ d r, Tmp X.mg H d x ∧ slice d lo hi = .ok r ∧ okV X r H Q
theorem slD_ok : SlR X (rSlD X) := by
  intro pins s σ H x v vl vu lo hi sl Q I rx hs pl pu h
  obtain ⟨d, r, hx, hr, q⟩ := h
  unfold Mp.slice at hr
  split at hr
  · cases hr
    obtain ⟨a, vs, rfl, h1, h2⟩ := Tmp.sql (K := X.K) hx
    refine sl_list pins s σ H _ v vl vu lo hi sl Q I rx hs pl pu ⟨a, vs, rfl, h1, fun p hp => ?_⟩
    rw [cutV_eq]
    exact q.lst (h2.cut lo hi) hp
  · cases hr
    obtain ⟨a, vs, rfl, h1, h2⟩ := Tmp.sqt (K := X.K) hx
    refine sl_tupA pins s σ H _ v vl vu lo hi sl Q I rx hs pl pu ⟨a, vs, rfl, h1, fun hw => ?_, fun hw p hp => ?_⟩
    · have e : ∀ n d o, HT.sIx n d o = sIx n d o := fun n d o => by cases o <;> rfl
      rw [e, e] at hw
      rename_i xs
      have e2 : cut xs lo hi = xs := by
        unfold cut
        rw [h2.length, hw.1, hw.2, List.drop_zero, Nat.sub_zero, ← h2.length, List.take_length]
      rw [e2] at q
      exact q.old hx rfl
    · rw [cutV_eq]
      exact q.tup (h2.cut lo hi) hp
  · cases hr
    rename_i xs
    obtain ⟨e1, l⟩ := Tmp.str hx
    refine sl_str pins s σ H x v vl vu lo hi sl Q I rx hs pl pu ⟨_, e1, ?_, ?_⟩
    · show xs.toArray.size ≤ _
      rw [List.size_toArray]; exact l
    · refine q.str' ?_ ?_
      · unfold cut
        rw [List.length_take, List.length_drop]
        omega
      · have e : ∀ n d o, HT.sIx n d o = sIx n d o := fun n d o => by cases o <;> rfl
        unfold cutS cut
        simp [e, Str.length]
  · cases hr

/-! ### built-ins -/
def Tmps (X : Cx) (H : Hp) : List D → List V → Prop
  | [], vs => vs = []
  | d :: ds, vs => ∃ v r, vs = v :: r ∧ Tmp X.mg H d v ∧ Tmps X H ds r
theorem Tmps.one {H : Hp} {d : D} {vs : List V} (h : Tmps X H [d] vs) : ∃ v, vs = [v] ∧ Tmp X.mg H d v := by
  obtain ⟨v, r, rfl, h1, h2⟩ := h
  have h2' : r = [] := h2
  subst h2'
  exact ⟨v, rfl, h1⟩
theorem Tmps.two {H : Hp} {d e : D} {vs : List V} (h : Tmps X H [d, e] vs) : ∃ v u, vs = [v, u] ∧ Tmp X.mg H d v ∧ Tmp X.mg H e u := by
  obtain ⟨v, r, rfl, h1, h2⟩ := h
  obtain ⟨u, rfl, h3⟩ := Tmps.one h2
  exact ⟨v, u, rfl, h1, h3⟩
theorem Tmps.mono {H H' : Hp} (s : Same H H') : ∀ {ds : List D} {vs : List V}, Tmps X H ds vs → Tmps X H' ds vs
  | [], _, h => h
  | _ :: _, _, h => by
    obtain ⟨v, r, rfl, h1, h2⟩ := h
    exact ⟨v, r, rfl, h1.mono s, Tmps.mono s h2⟩
def biTo : Bi → Value
  | .len => .builtin "len" | .all => .builtin "all" | .any => .builtin "any" | .sum => .builtin "sum" | .max => .builtin "max" | .min => .builtin "min" | .sorted => .builtin "sorted"
  | .list => .type "list" | .tuple => .type "tuple" | .dict => .type "dict" | .int => .type "int" | .str => .type "str"
  | _ => .none
def rBi (X : Cx) (b : Bi) : List V → Hp → VK → Prop := fun vs H Q => ∃ ds r, Tmps X H ds vs ∧ bi b ds = .ok r ∧ okV X r H Q
theorem vals1' {x : V} {us : List Value} (r : Vals [x] us) : ∃ u, us = [u] ∧ RelV x u := by
  cases r with
  | cons h t => cases t; exact ⟨_, rfl, h⟩
theorem vals2' {x y : V} {us : List Value} (r : Vals [x, y] us) : ∃ u w, us = [u, w] ∧ RelV x u ∧ RelV y w := by
  cases r with
  | cons h t =>
    obtain ⟨w, rfl, h'⟩ := vals1' t
    exact ⟨_, w, rfl, h, h'⟩
theorem bools_vals {H : Hp} : ∀ {xs : List D} {bs : List Bool} {vs : List V}, boolsD xs = some bs → Reps X.mg H xs vs → vs = bs.map V.bl
  | [], bs, vs, h, r => by
    simp only [boolsD, Option.some.injEq] at h
    subst h
    simp only [Reps] at r
    exact r
  | d :: ds, bs, vs, h, r => by
    cases d <;> simp only [boolsD, reduceCtorEq] at h
    obtain ⟨b', h1, rfl⟩ := Option.map_eq_some_iff.mp h
    simp only [Reps] at r
    obtain ⟨v, r', rfl, h2, h3⟩ := r
    simp only [Rep] at h2
    rw [List.map_cons, h2, bools_vals h1 h3]
theorem ints_num {H : Hp} : ∀ {xs : List D} {ns : List Int} {vs : List V} {us : List Value}, intsD xs = some ns → Reps X.mg H xs vs → Vals vs us → us.length = ns.length ∧ ∀ i u, us[i]? = some u → NumOf (ns.getD i 0) u
  | [], ns, vs, us, h, r, rv => by
    simp only [intsD, Option.some.injEq] at h
    subst h
    simp only [Reps] at r
    subst r
    cases rv
    exact ⟨rfl, fun i u e => by simp at e⟩
  | d :: ds, ns, vs, us, h, r, rv => by
    simp only [Reps] at r
    obtain ⟨v, r', rfl, h2, h3⟩ := r
    cases rv with
    | cons q1 q2 =>
      cases d <;> simp only [intsD, reduceCtorEq] at h
      · obtain ⟨b', h1, rfl⟩ := Option.map_eq_some_iff.mp h
        obtain ⟨l, ih⟩ := ints_num h1 h3 q2
        refine ⟨by simp [l], fun i u e => ?_⟩
        simp only [Rep] at h2
        subst h2
        cases i with
        | zero =>
          simp at e; subst e
          cases q1
          exact .inr ⟨_, rfl, rfl⟩
        | succ i => exact ih i u (by simpa using e)
      · obtain ⟨b', h1, rfl⟩ := Option.map_eq_some_iff.mp h
        obtain ⟨l, ih⟩ := ints_num h1 h3 q2
        refine ⟨by simp [l], fun i u e => ?_⟩
        simp only [Rep] at h2
        subst h2
        cases i with
        | zero =>
          simp at e; subst e
          obtain ⟨t, rfl⟩ := q1
          exact .inl ⟨t, rfl⟩
        | succ i => exact ih i u (by simpa using e)
theorem preSum_getD (ns : List Int) : preSum (fun i => ns.getD i 0) ns.length = ns.sum := by
  have h : ∀ k, k ≤ ns.length → preSum (fun i => ns.getD i 0) k = (ns.take k).sum := by
    intro k
    induction k with
    | zero => intro _; simp [preSum]
    | succ k ih =>
      intro hk
      have e := PyProof.Rows.take_sum_succ ns k (by omega)
      rw [e, ← ih (by omega)]
      rfl
  have := h ns.length (Nat.le_refl _)
  rwa [List.take_length] at this
theorem sum_run (hc : X.calm = true) {pins : List (Addr × Obj)} {s : Shared} {σ : St} {H : Hp} {Q : VK} (I : L2.Inv X pins σ H s) {xs : List D} {ns : List Int} {v : V} {u : Value} (hx : Tmp X.mg H (.lst xs) v) (rv : RelV v u) (h : intsD xs = some ns) (q : Q (.int ns.sum) H) :
    wpAny (model X.prog X.w) X.A (call (.builtin "sum") [u]) (EP X pins σ Q) X.xe s := by
  obtain ⟨a, vs, rfl, h1, h2⟩ := hx
  cases rv
  obtain ⟨its, n, r, e, z⟩ := lstR I h1
  obtain ⟨l, num⟩ := ints_num h h2 r
  have hl : s.heap.IsList a its.toArray := ⟨_, e, rfl, n, rfl⟩
  refine call_sum_walkAnyB (PySem.W.iter_listW (I.ok.hd hc) hl fun s₂ e2 W st hfp hw hk => ?_)
  refine ⟨_, _, _, _, _, _, _, fun i => ns.getD i 0, rfl, W, st, hfp, fun i u' hu' => num i u' (by simpa using hu'), fun s' t' m => ?_⟩
  obtain ⟨h', tk, rfl, hk'⟩ := PySem.W.moved_old e2 rfl m
  have es : preSum (fun i => ns.getD i 0) its.toArray.size = ns.sum := by
    rw [List.size_toArray, l]
    exact preSum_getD ns
  rw [es]
  exact ⟨.int _, H, I.kept hk', ⟨_, rfl⟩, q⟩
end
end Mp

end Sec_MpH
section Sec_MpI
set_option autoImplicit false
set_option linter.all false
set_option maxHeartbeats 2000000
/-! Built-ins by values, further. -/
namespace Mp
open PySem PySem.Spec PyProof.Rows L2
open PySem.SeqAt (EqAt RcAt RcNeAt pairEq)

mutual
theorem toPy_inj : ∀ d e : D, d.flat = true → e.flat = true → toPy d = toPy e → d = e
  | .tup a, e, f, g, h => by
    cases e <;> simp only [toPy, reduceCtorEq] at h
    rw [PyData.tuple.injEq] at h
    rw [toPys_inj _ _ f g h]
  | .lst a, e, f, g, h => by
    cases e <;> simp only [toPy, reduceCtorEq] at h
    rw [PyData.list.injEq] at h
    rw [toPys_inj _ _ f g h]
  | .non, e, f, g, h => by
    cases e <;> simp only [toPy, reduceCtorEq] at h <;> first | rfl | cases g
  | .bl a, e, f, g, h => by
    cases e <;> simp only [toPy, reduceCtorEq] at h
    rw [PyData.bool.injEq] at h
    rw [h]
  | .int a, e, f, g, h => by
    cases e <;> simp only [toPy, reduceCtorEq] at h
    rw [PyData.int.injEq] at h
    rw [h]
  | .str a, e, f, g, h => by
    cases e <;> simp only [toPy, reduceCtorEq] at h
    rw [PyData.str.injEq, Str.mk.injEq] at h
    have := congrArg Array.toList h
    simp at this
    rw [this]
  | .dic _, _, f, _, _ => by cases f
  | .fn _, _, f, _, _ => by cases f
theorem toPys_inj : ∀ d e : List D, D.flats d = true → D.flats e = true → toPys d = toPys e → d = e
  | [], [], _, _, _ => rfl
  | [], _ :: _, _, _, h => by simp only [toPys, reduceCtorEq] at h
  | _ :: _, [], _, _, h => by simp only [toPys, reduceCtorEq] at h
  | x :: xs, y :: ys, f, g, h => by
    simp only [toPys, List.cons.injEq] at h
    obtain ⟨f1, f2⟩ := flats_cons f
    obtain ⟨g1, g2⟩ := flats_cons g
    rw [toPy_inj x y f1 g1 h.1, toPys_inj xs ys f2 g2 h.2]
end
theorem ordOk_iff {xs : List D} (h : ordOk xs = true) : (∀ x ∈ xs, ∀ y ∈ xs, D.alike x y = true) ∧ sortable xs = true ∧ D.flats xs = true ∧ D.depths xs ≤ 50 := by
  unfold ordOk at h
  simp only [Bool.and_eq_true, decide_eq_true_eq] at h
  refine ⟨fun x hx y hy => ?_, h.1.1.2, h.1.2, h.2⟩
  have := List.all_eq_true.mp h.1.1.1 x hx
  exact List.all_eq_true.mp this y hy
theorem sort_non {xs : List D} (h : sortable xs = true) : ∀ x ∈ xs, x ≠ .non := by
  intro x hx e
  subst e
  unfold sortable at h
  rw [Bool.or_eq_true] at h
  rcases h with h | h
  · have := List.all_eq_true.mp h _ hx
    cases this
  · have := List.all_eq_true.mp h _ hx
    cases this
theorem ord_alike {xs : List D} (h : ordOk xs = true) : PySem.W.AlikeAll (toPys xs) := by
  obtain ⟨h1, h2, h3, h4⟩ := ordOk_iff h
  have hn := sort_non h2
  rw [toPys_map]
  refine ⟨fun x hx y hy => ?_, fun x hx e => ?_⟩
  · obtain ⟨a, ha, rfl⟩ := List.mem_map.mp hx
    obtain ⟨b, hb, rfl⟩ := List.mem_map.mp hy
    exact alike_py (h1 a ha b hb) (flats_mem h3 ha) (flats_mem h3 hb)
  · obtain ⟨a, ha, rfl⟩ := List.mem_map.mp hx
    have f := flats_mem h3 ha
    have n := hn a ha
    cases a <;> simp only [toPy, reduceCtorEq] at e
    · exact n rfl
    · cases f
    · cases f
theorem minD_py : ∀ (xs : List D) (x : D), (∀ a ∈ x :: xs, ∀ b ∈ x :: xs, D.alike a b = true) → D.flats (x :: xs) = true → PySem.W.minD (toPy x) (toPys xs) = toPy (minD x xs) ∧ minD x xs ∈ x :: xs
  | [], x, _, _ => ⟨rfl, List.mem_cons_self⟩
  | y :: ys, x, h, f => by
    obtain ⟨f1, f2⟩ := flats_cons f
    obtain ⟨f3, f4⟩ := flats_cons f2
    have e : PySem.W.dataLt (toPy y) (toPy x) = D.lt y x := lt_toPy y x (h y (by simp) x (by simp)) f3 f1
    have ih := minD_py ys (if D.lt y x then y else x)
      (fun a ha b hb => by
        have ha' : a ∈ x :: y :: ys := by
          rcases List.mem_cons.mp ha with rfl | ha
          · split <;> simp
          · simp [ha]
        have hb' : b ∈ x :: y :: ys := by
          rcases List.mem_cons.mp hb with rfl | hb
          · split <;> simp
          · simp [hb]
        exact h a ha' b hb')
      (by
        show (D.flat _ && D.flats ys) = true
        rw [f4]
        split <;> simp [f1, f3])
    refine ⟨?_, ?_⟩
    · show List.foldl _ _ (toPy y :: toPys ys) = _
      rw [List.foldl_cons, e]
      have e2 : (if D.lt y x = true then toPy y else toPy x) = toPy (if D.lt y x = true then y else x) := by split <;> rfl
      rw [e2]
      exact ih.1
    · have h3 : minD x (y :: ys) = minD (if D.lt y x = true then y else x) ys := rfl
      rw [h3]
      rcases List.mem_cons.mp ih.2 with q | q
      · rw [q]; split <;> simp
      · simp [q]
theorem maxD_py : ∀ (xs : List D) (x : D), (∀ a ∈ x :: xs, ∀ b ∈ x :: xs, D.alike a b = true) → D.flats (x :: xs) = true → PySem.W.maxD (toPy x) (toPys xs) = toPy (maxD x xs) ∧ maxD x xs ∈ x :: xs
  | [], x, _, _ => ⟨rfl, List.mem_cons_self⟩
  | y :: ys, x, h, f => by
    obtain ⟨f1, f2⟩ := flats_cons f
    obtain ⟨f3, f4⟩ := flats_cons f2
    have e : PySem.W.dataLt (toPy x) (toPy y) = D.lt x y := lt_toPy x y (h x (by simp) y (by simp)) f1 f3
    have ih := maxD_py ys (if D.lt x y then y else x)
      (fun a ha b hb => by
        have ha' : a ∈ x :: y :: ys := by
          rcases List.mem_cons.mp ha with rfl | ha
          · split <;> simp
          · simp [ha]
        have hb' : b ∈ x :: y :: ys := by
          rcases List.mem_cons.mp hb with rfl | hb
          · split <;> simp
          · simp [hb]
        exact h a ha' b hb')
      (by
        show (D.flat _ && D.flats ys) = true
        rw [f4]
        split <;> simp [f1, f3])
    refine ⟨?_, ?_⟩
    · show List.foldl _ _ (toPy y :: toPys ys) = _
      rw [List.foldl_cons, e]
      have e2 : (if D.lt x y = true then toPy y else toPy x) = toPy (if D.lt x y = true then y else x) := by split <;> rfl
      rw [e2]
      exact ih.1
    · have h3 : maxD x (y :: ys) = maxD (if D.lt x y = true then y else x) ys := rfl
      rw [h3]
      rcases List.mem_cons.mp ih.2 with q | q
      · rw [q]; split <;> simp
      · simp [q]
section
variable {X : Cx} {pins : List (Addr × Obj)} {s : Shared} {σ : St} {H : Hp} {Q : VK}
/-- the item that was found, as plain data -/
theorem item_of (I : L2.Inv X pins σ H s) {ds : List D} {vs : List V} {its : List Value} {m : D} {i : Nat} {v : Value} {h' : Heap} {bs : List Addr} (f : D.flats ds = true) (r : Reps X.mg H ds vs) (rv : Vals vs its) (hi : its[i]? = some v) (hm : m ∈ ds)
    (rd : Reads h' v (toPy m) bs) (hk : ∀ b o, s.heap.get? b = some o → h'.get? b = some o) : ∃ x, RelV x v ∧ Rep X.mg H m x := by
  have hl := rv.length
  have : i < vs.length := by
    rw [hl]
    exact (List.getElem?_eq_some_iff.mp hi).1
  obtain ⟨u, e1, e2⟩ := rv.get (List.getElem?_eq_getElem this)
  rw [hi] at e1
  cases e1
  obtain ⟨d, e3, e4⟩ := r.get' (List.getElem?_eq_getElem this)
  have hd : d ∈ ds := List.mem_of_getElem? e3
  obtain ⟨as, ra⟩ := Tmp.reads I (flats_mem f hd) e4.tmp e2
  have := nd_one _ _ _ _ _ (nd_toPy d) (Reads.keeps hk ra) rd
  have e5 := toPy_inj d m (flats_mem f hd) (flats_mem f hm) this
  subst e5
  exact ⟨_, e2, e4⟩
theorem min_run (hc : X.calm = true) (hu : X.A.units + 64 < cLine) (I : L2.Inv X pins σ H s) {d : D} {ds : List D} {v : V} {u : Value} (hx : Tmp X.mg H (.lst (d :: ds)) v) (rv : RelV v u) (k : ordOk (d :: ds) = true) (q : ∀ x, Rep X.mg H (minD d ds) x → Q x H) :
    wpAny (model X.prog X.w) X.A (call (.builtin "min") [u]) (EP X pins σ Q) X.xe s := by
  obtain ⟨a, vs, rfl, h1, h2⟩ := hx
  cases rv
  obtain ⟨its, n, r, e, z⟩ := lstR I h1
  obtain ⟨k1, k2, k3, k4⟩ := ordOk_iff k
  obtain ⟨as, ra⟩ := Reps.readsAll I k3 h2 r
  have hl : s.heap.IsList a its.toArray := ⟨_, e, rfl, n, rfl⟩
  obtain ⟨m1, m2⟩ := minD_py ds d k1 k3
  refine PySem.W.min_list_data (I.ok.hd hc) hl (x := toPy d) (xs := toPys ds) (show ReadsAll s.heap its.toArray.toList (toPys (d :: ds)) as by simpa using ra) (ord_alike k) (by
    show X.A.units + 1 + PyData.depthAll (toPys (d :: ds)) < cLine
    rw [depths_toPy]; omega) fun i w h' tk bs hi rd hk => ?_
  rw [m1] at rd
  obtain ⟨x, rx, hx⟩ := item_of I k3 h2 r (by simpa using hi) m2 rd hk
  exact ⟨x, H, I.kept hk, rx, q x hx⟩
theorem max_run (hc : X.calm = true) (hu : X.A.units + 64 < cLine) (I : L2.Inv X pins σ H s) {d : D} {ds : List D} {v : V} {u : Value} (hx : Tmp X.mg H (.lst (d :: ds)) v) (rv : RelV v u) (k : ordOk (d :: ds) = true) (q : ∀ x, Rep X.mg H (maxD d ds) x → Q x H) :
    wpAny (model X.prog X.w) X.A (call (.builtin "max") [u]) (EP X pins σ Q) X.xe s := by
  obtain ⟨a, vs, rfl, h1, h2⟩ := hx
  cases rv
  obtain ⟨its, n, r, e, z⟩ := lstR I h1
  obtain ⟨k1, k2, k3, k4⟩ := ordOk_iff k
  obtain ⟨as, ra⟩ := Reps.readsAll I k3 h2 r
  have hl : s.heap.IsList a its.toArray := ⟨_, e, rfl, n, rfl⟩
  obtain ⟨m1, m2⟩ := maxD_py ds d k1 k3
  refine PySem.W.max_list_data (I.ok.hd hc) hl (x := toPy d) (xs := toPys ds) (show ReadsAll s.heap its.toArray.toList (toPys (d :: ds)) as by simpa using ra) (ord_alike k) (by
    show X.A.units + 1 + PyData.depthAll (toPys (d :: ds)) < cLine
    rw [depths_toPy]; omega) fun i w h' tk bs hi rd hk => ?_
  rw [m1] at rd
  obtain ⟨x, rx, hx⟩ := item_of I k3 h2 r (by simpa using hi) m2 rd hk
  exact ⟨x, H, I.kept hk, rx, q x hx⟩
/-! the lesser of two -/
theorem min_two_raw {A : Around} {E : Value → Shared → Prop} {a b : Value} {Q : Value → Shared → Prop} {da db : PyData} {as bs : List Addr} (hh : A.handled = none) (ra : Reads s.heap a da as) (rb : Reads s.heap b db bs)
    (al : PySem.W.AlikeAll [da, db]) (hu : A.units + 1 + PyData.depthAll [da, db] < cLine)
    (h : ∀ h' tk, (∀ c o, s.heap.get? c = some o → h'.get? c = some o) → Q (if PySem.W.dataLt db da then b else a) { s with heap := h', toks := tk }) : wpAny (model X.prog X.w) A (call (.builtin "min") [a, b]) Q E s := by
  have nm : (toString "min" ++ toString ".loop" : String) = "min.loop" := by decide
  refine call_function_tree
    F.kind_min F.plain_min F.entry_min (F.args_min2 _ _) ?_
  show wpAny _ A.in1 (Builtin.Builtins.bindParams "min" ["key", "default"] 0 { } >>= _) _ _ s
  refine wpAny_bind (wpAny_of_eq
    (show Builtin.Builtins.bindParams "min" ["key", "default"] 0 { } = pure [none, none] from rfl) ?_)
  show wpAny _ A.in1 (newTuple [a, b] >>= _) _ _ s
  refine wpAny_bind (wpAny_newObj_type ?_)
  let H0 : Heap := s.heap.push { cls := .type "tuple", data := .seq #[a, b] }
  have k0 : ∀ c o, s.heap.get? c = some o → H0.get? c = some o := fun c o e => Heap.get?_push_of_some _ e
  have ht : H0.IsTuple s.heap.objs.size #[a, b] := ⟨_, Heap.get?_push_size _ rfl, rfl, 0, rfl⟩
  have rr : ReadsAll H0 (#[a, b] : Array Value).toList [da, db] (as ++ (bs ++ [])) := .cons (Reads.keeps k0 ra) (.cons (Reads.keeps k0 rb) .nil)
  refine wpAny_bind (PySem.W.iter_tupleW (s := { s with heap := H0 }) (A := A.in1) hh ht fun s₂ e2 W st hfp hw hk => ?_)
  refine wpAny_bind (wpAny_newObj_type ?_)
  have cmp := PySem.W.cmpIn_lt (prog := X.prog) (w := X.w) (A := A.in1) (s := { s with heap := H0 }) rr al hu
  have hSf : s₂.heap.objs.size ∉ [H0.objs.size, s.heap.objs.size] := fun hm => Nat.lt_irrefl _ (hfp _ hm)
  rw [nm]
  refine wpAny_pure ⟨plainId_quiet F.plain_min_loop _,
    codeAny_min_loop_firstH W H0 hw _ cmp s₂.heap.objs.size hSf (fresh_in hk) _ (by show 0 < 2; decide) (fun c o e => Heap.get?_push_of_some _ (hk c o e))
      (W.frame 0 s₂ _ s₂.toks st (Nat.le_refl _) fun c _ o e => Heap.get?_push_of_some _ e) (Heap.get?_push_size _ rfl) fun v s' hP hm => ?_⟩
  have mv := Moved.drop_new (tk := s₂.toks) hm (Nat.le_refl _)
  obtain ⟨h', tk, rfl, hk'⟩ := PySem.W.moved_old e2 rfl mv
  have hv : v = if PySem.W.dataLt db da then b else a := by
    have hP' : (#[a, b] : Array Value)[argBest (fun i j => PySem.W.dataLt ([da, db].getD i .none) ([da, db].getD j .none)) 1]? = some v := hP
    have e3 : argBest (fun i j => PySem.W.dataLt ([da, db].getD i .none) ([da, db].getD j .none)) 1 = if PySem.W.dataLt db da then 1 else 0 := rfl
    rw [e3] at hP'
    split at hP'
    · rename_i q; rw [if_pos q]; simpa using hP'.symm
    · rename_i q; rw [if_neg q]; simpa using hP'.symm
  subst hv
  exact h h' tk fun c o e => hk' c o (k0 c o e)
theorem min2_run (hc : X.calm = true) (hu : X.A.units + 64 < cLine) (I : L2.Inv X pins σ H s) {d e : D} {x y : V} {u v : Value} (hx : Tmp X.mg H d x) (hy : Tmp X.mg H e y) (rx : RelV x u) (ry : RelV y v) (k : ordOk [d, e] = true) (q1 : ∀ z, Tmp X.mg H (minD d [e]) z → Q z H) :
    wpAny (model X.prog X.w) X.A (call (.builtin "min") [u, v]) (EP X pins σ Q) X.xe s := by
  obtain ⟨k1, k2, k3, k4⟩ := ordOk_iff k
  have f1 := flats_mem k3 (x := d) (by simp)
  have f2 := flats_mem k3 (x := e) (by simp)
  obtain ⟨as, ra⟩ := Tmp.reads I f1 hx rx
  obtain ⟨bs, rb⟩ := Tmp.reads I f2 hy ry
  refine min_two_raw (I.ok.hd hc) ra rb (ord_alike k) (by
    show X.A.units + 1 + PyData.depthAll (toPys [d, e]) < cLine
    rw [depths_toPy]; omega) fun h' tk hk => ?_
  rw [lt_toPy e d (k1 e (by simp) d (by simp)) f2 f1]
  have e1 : minD d [e] = if D.lt e d then e else d := rfl
  rw [e1] at q1
  split
  · rename_i z
    rw [if_pos z] at q1
    exact ⟨y, H, I.kept hk, ry, q1 y hy⟩
  · rename_i z
    rw [if_neg z] at q1
    exact ⟨x, H, I.kept hk, rx, q1 x hx⟩
end
end Mp

end Sec_MpI
section Sec_MpJ
set_option autoImplicit false
set_option linter.all false
set_option maxHeartbeats 2000000
/-! sorted; the rest of the built-ins. -/
namespace Mp
open PySem PySem.Spec PyProof.Rows L2
open PySem.SeqAt (EqAt RcAt RcNeAt pairEq)

section
variable {X : Cx} {pins : List (Addr × Obj)} {s : Shared} {σ : St} {H : Hp} {Q : VK}
abbrev SR (X : Cx) (H : Hp) (u : Value) (p : D × V) : Prop := RelV p.2 u ∧ Rep X.mg H p.1 p.2 ∧ p.1.flat = true
theorem each_of : ∀ {ds : List D} {vs : List V} {us : List Value}, D.flats ds = true → Reps X.mg H ds vs → Vals vs us → PySem.W.EachIs (SR X H) us (ds.zip vs)
  | [], _, _, _, h, r => by
    simp only [Reps] at h; subst h
    cases r
    exact .nil
  | d :: ds, _, _, f, h, r => by
    simp only [Reps] at h
    obtain ⟨v, vr, rfl, h1, h2⟩ := h
    obtain ⟨f1, f2⟩ := flats_cons f
    cases r with
    | cons r1 r2 => exact .cons ⟨r1, h1, f1⟩ (each_of f2 h2 r2)
theorem of_each : ∀ {us : List Value} {ps : List (D × V)}, PySem.W.EachIs (SR X H) us ps → Reps X.mg H (ps.map (·.1)) (ps.map (·.2)) ∧ Vals (ps.map (·.2)) us
  | _, _, .nil => ⟨Reps.nil, .nil⟩
  | _, _, .cons h t => by
    obtain ⟨a, b⟩ := of_each t
    exact ⟨Reps.cons h.2.1 a, .cons h.1 b⟩
theorem zip_fst {α β : Type} : ∀ {xs : List α} {ys : List β}, xs.length = ys.length → (xs.zip ys).map (·.1) = xs
  | [], _, _ => by simp
  | x :: xs, [], h => by cases h
  | x :: xs, y :: ys, h => by simp only [List.zip_cons_cons, List.map_cons]; rw [zip_fst (by simpa using h)]
theorem ord_sort {xs : List D} (h : ordOk xs = true) : PySem.W.AllAlike (xs.map toPy) ∧ PySem.W.Sortable (xs.map toPy) := by
  obtain ⟨h1, h2, h3, h4⟩ := ordOk_iff h
  refine ⟨fun x hx y hy => ?_, ?_⟩
  · obtain ⟨a, ha, rfl⟩ := List.mem_map.mp hx
    obtain ⟨b, hb, rfl⟩ := List.mem_map.mp hy
    exact alike_py (h1 a ha b hb) (flats_mem h3 ha) (flats_mem h3 hb)
  · unfold sortable at h2
    rw [Bool.or_eq_true] at h2
    rcases h2 with h2 | h2
    · refine .inl fun x hx => ?_
      obtain ⟨a, ha, rfl⟩ := List.mem_map.mp hx
      have := List.all_eq_true.mp h2 a ha
      cases a with
      | tup ys =>
        cases ys with
        | nil => cases this
        | cons y r => exact ⟨_, _, rfl⟩
      | _ => cases this
    · refine .inr fun x hx => ?_
      obtain ⟨a, ha, rfl⟩ := List.mem_map.mp hx
      have := List.all_eq_true.mp h2 a ha
      have f := flats_mem h3 ha
      cases a <;> first | (cases f; done) | (cases this; done) | (simp only [toPy]; exact ⟨by simp, fun xs e => by cases e⟩)
/-- the sorted pairs -/
theorem sort_pairs {ds : List D} {vs : List V} (k : ordOk ds = true) (l : ds.length = vs.length) : (((ds.zip vs).mergeSort (PySem.W.dataLe false fun p : D × V => toPy p.1)).map (·.1)) = sortD ds := by
  obtain ⟨h1, h2, h3, h4⟩ := ordOk_iff k
  unfold sortD
  conv => rhs; rw [← zip_fst l]
  refine List.map_mergeSort fun a ha b hb => ?_
  have ma : a.1 ∈ ds := (List.of_mem_zip ha).1
  have mb : b.1 ∈ ds := (List.of_mem_zip hb).1
  show (!PySem.W.dataLt (toPy b.1) (toPy a.1)) = _
  rw [lt_toPy _ _ (h1 _ mb _ ma) (flats_mem h3 mb) (flats_mem h3 ma)]
theorem sorted_run (hu : X.A.units + 64 < cLine) (I : L2.Inv X pins σ H s) {ds : List D} {v : V} {u : Value} (hx : Tmp X.mg H (.lst ds) v) (rv : RelV v u) (k : ordOk ds = true) (q : okV X (.lst (sortD ds)) H Q) :
    wpAny (model X.prog X.w) X.A (call (.builtin "sorted") [u]) (EP X pins σ Q) X.xe s := by
  obtain ⟨a, vs, rfl, h1, h2⟩ := hx
  cases rv
  obtain ⟨its, n, r, e, z⟩ := lstR I h1
  obtain ⟨k1, k2, k3, k4⟩ := ordOk_iff k
  have hl : s.heap.IsList a its.toArray := ⟨_, e, rfl, n, rfl⟩
  have ll := h2.length
  have ez : (ds.zip vs).length = ds.length := by rw [List.length_zip, ll, Nat.min_self]
  have em : (ds.zip vs).map (fun p => toPy p.1) = ds.map toPy := by
    have e2 : (ds.zip vs).map (fun p => toPy p.1) = ((ds.zip vs).map (·.1)).map toPy := by rw [List.map_map]; rfl
    rw [e2, zip_fst ll]
  have E := each_of k3 h2 r
  refine PySem.W.sorted_data (enc := fun p : D × V => toPy p.1) hl E (E.mono fun w p hp => Tmp.reads I hp.2.2 hp.2.1.tmp hp.1) ?_ ?_ (by rw [ez, ll]; exact z) (fun p hp => ?_) fun out lo ho => ?_
  · rw [em]; exact (ord_sort k).1
  · rw [em]; exact (ord_sort k).2
  · have hd := depths_le (List.of_mem_zip hp).1
    show X.A.units + 2 + (toPy p.1).depth < cLine
    rw [depth_toPy]; omega
  · obtain ⟨o1, o2⟩ := of_each ho
    rw [sort_pairs k ll] at o1
    obtain ⟨c, hc⟩ := sortedAll_at s.heap its (List.toArray out)
    have lz : ((((ds.zip vs).mergeSort (PySem.W.dataLe false fun p : D × V => toPy p.1)).map (·.2)).length) ≤ sizeLine := by
      rw [List.length_map, List.length_mergeSort, ez, ll]; exact z
    exact ⟨.ref _, _, I.laid (t' := s.toks) (fun b ob q => sortedAll_old q) (Nat.le_succ _) (o := .lst _) ⟨lz, out, c, o2, hc⟩, rfl, q.lst o1 (I.hok.fresh (Nat.le_succ _))⟩

theorem len_run (I : L2.Inv X pins σ H s) {ds : List D} {r : D} {vs : List V} {us : List Value} (h : Tmps X H ds vs) (rv : Vals vs us) (k : biLen ds = .ok r) (q : okV X r H Q) :
    wpAny (model X.prog X.w) X.A (call (.builtin "len") us) (EP X pins σ Q) X.xe s := by
  unfold biLen at k
  split at k <;> first | (cases k; done) | skip
  · cases k
    obtain ⟨v, rfl, hv⟩ := Tmps.one h
    obtain ⟨a, ws, rfl, h1, h2⟩ := Tmp.sql (K := X.K) hv
    refine call_len_seq pins s σ H _ us Q I rv ⟨a, ws, rfl, .inl h1, ?_⟩
    rw [← h2.length]; exact q.int
  · cases k
    obtain ⟨v, rfl, hv⟩ := Tmps.one h
    obtain ⟨a, ws, rfl, h1, h2⟩ := Tmp.sqt (K := X.K) hv
    refine call_len_seq pins s σ H _ us Q I rv ⟨a, ws, rfl, .inr h1, ?_⟩
    rw [← h2.length]; exact q.int
  · cases k
    obtain ⟨v, rfl, hv⟩ := Tmps.one h
    obtain ⟨rfl, l⟩ := Tmp.str hv
    rename_i xs
    have e : (⟨List.toArray xs⟩ : Str).length = xs.length := by show xs.toArray.size = _; simp
    refine call_len_str pins s σ H _ us Q I rv ⟨_, rfl, by rw [e]; exact l, ?_⟩
    rw [e]; exact q.int
  · cases k
    obtain ⟨v, rfl, hv⟩ := Tmps.one h
    obtain ⟨u, rfl, ru⟩ := vals1' rv
    obtain ⟨a, rfl, hv⟩ := hv
    cases ru
    rcases hv with ⟨kv, h1, h2⟩ | ⟨kv, h1, h2⟩
    · refine d_len I h1 fun t s' I' => ⟨.int _, H, I', ⟨t, rfl⟩, ?_⟩
      rw [← h2.length]; exact q.int
    · obtain ⟨z, hd, ys, rel, dd⟩ := dt_rd I.hok h1
      have hl : kv.length = ys.length := Paired.length rel
      refine call_len_dictH hd dd (by rw [← hl]; rw [sizeLine_eq] at z; omega) ?_
      rw [← hl, ← h2.length]
      exact ⟨.int _, H, I.tok _, ⟨_, rfl⟩, q.int⟩
theorem isi_run (I : L2.Inv X pins σ H s) {t : Ty} {d : D} {v : V} {u : Value} (hx : Tmp X.mg H d v) (rv : RelV v u) (f : d.flat = true) (q : Q (.bl (isTy t d)) H) :
    wpAny (model X.prog X.w) X.A (call (.builtin "isinstance") [u, .type (match t with | .int => "int" | .bool => "bool" | .str => "str" | .tuple => "tuple" | .list => "list")]) (EP X pins σ Q) X.xe s := by
  obtain ⟨as, ra⟩ := Tmp.reads I f hx rv
  have fin : ∀ (b : Bool) tk, b = isTy t d → EP X pins σ Q (.bool b) { s with toks := tk } := fun b tk e => ⟨.bl _, H, I.tok tk, rfl, by rw [e]; exact q⟩
  cases t with
  | int => exact PySem.W.isinstance_int_data ra fun tk _ => fin _ tk (by cases d <;> first | rfl | cases f)
  | bool => exact PySem.W.isinstance_bool_data ra fun tk _ => fin _ tk (by cases d <;> first | rfl | cases f)
  | str => exact PySem.W.isinstance_str_data ra fun tk _ => fin _ tk (by cases d <;> first | rfl | cases f)
  | tuple => exact PySem.W.isinstance_tuple_data ra fun tk _ => fin _ tk (by cases d <;> first | rfl | cases f)
  | list => exact PySem.W.isinstance_list_data ra fun tk _ => fin _ tk (by cases d <;> first | rfl | cases f)
/-- list(xs), tuple(xs) -/
theorem seq_of (I : L2.Inv X pins σ H s) {xs : List D} {v : V} {u : Value} (li : Bool) (hx : Tmp X.mg H (if li then .lst xs else .tup xs) v) (rv : RelV v u) :
    ∃ (a : Addr) (vs : List V) (its : List Value) (o : Obj) (n : Nat), u = .ref a ∧ Reps X.mg H xs vs ∧ Vals vs its ∧ vs.length ≤ sizeLine ∧ s.heap.get? a = some o ∧ o.cls = .type (if li then "list" else "tuple") ∧ o.data = .seq its.toArray n := by
  cases li with
  | true =>
    obtain ⟨a, vs, rfl, h1, h2⟩ := hx
    cases rv
    obtain ⟨its, n, r, e, z⟩ := lstR I h1
    exact ⟨a, vs, its, _, n, rfl, h2, r, z, e, rfl, rfl⟩
  | false =>
    obtain ⟨a, vs, rfl, h1, h2⟩ := Tmp.sqt (K := X.K) hx
    cases rv
    obtain ⟨its, r, ⟨o, e, c, n, d⟩, z⟩ := I.tuple h1
    exact ⟨a, vs, its, o, n, rfl, h2, r, z, e, c, d⟩
theorem list_run (I : L2.Inv X pins σ H s) {xs : List D} {v : V} {u : Value} (li : Bool) (hx : Tmp X.mg H (if li then .lst xs else .tup xs) v) (rv : RelV v u) (q : okV X (.lst xs) H Q) :
    wpAny (model X.prog X.w) X.A (call (.type "list") [u]) (EP X pins σ Q) X.xe s := by
  obtain ⟨a, vs, its, o, n, rfl, h2, r, z, e, c, d⟩ := seq_of I li hx rv
  refine call_list_seq (T := if li then "list" else "tuple") (hsz := by rw [List.size_toArray, ← r.length]; exact z) a (by cases li <;> simp) e c d fun h' c' hk hD => ?_
  exact ⟨.ref _, _, I.laid (t' := s.toks) hk (Nat.le_refl _) (o := .lst _) ⟨z, its, c', r, hD⟩, rfl, q.lst h2 I.fresh⟩
theorem tuple_run (I : L2.Inv X pins σ H s) {xs : List D} {v : V} {u : Value} (hx : Tmp X.mg H (.lst xs) v) (rv : RelV v u) (q : okV X (.tup xs) H Q) :
    wpAny (model X.prog X.w) X.A (call (.type "tuple") [u]) (EP X pins σ Q) X.xe s := by
  obtain ⟨a, vs, rfl, h1, h2⟩ := hx
  cases rv
  obtain ⟨its, n, r, e, z⟩ := lstR I h1
  refine call_tuple_list (hsz := by rw [List.size_toArray, ← r.length]; exact z) (⟨_, e, rfl, n, rfl⟩ : s.heap.IsList a its.toArray) fun h' hk => ?_
  have I1 : L2.Inv X pins σ H { s with heap := h' } := I.kept (t' := s.toks) hk
  exact ⟨.ref _, _, I1.laid (t' := s.toks) (fun b ob q => Heap.get?_push_of_some _ q) (Nat.le_refl _) (o := .tup _) ⟨z, its, r, IsTup.new _ _⟩, rfl, q.tup h2 (I1.hok.fresh (Nat.le_refl _))⟩
end
end Mp

end Sec_MpJ
section Sec_MpK
set_option autoImplicit false
set_option linter.all false
set_option maxHeartbeats 2000000
/-! The built-ins, joined; the methods. -/
namespace Mp
open PySem PySem.Spec PyProof.Rows L2
open PySem.SeqAt (EqAt RcAt RcNeAt pairEq)

section
variable {X : Cx} {pins : List (Addr × Obj)} {s : Shared} {σ : St} {H : Hp} {Q : VK}
theorem ofO_bind {α β : Type} {o : Option α} {f : α → R β} {r : β} (h : (ofO o).bind f = .ok r) : ∃ a, o = some a ∧ f a = .ok r := by
  cases o with
  | none => cases h
  | some a => exact ⟨a, rfl, h⟩
theorem bls_sql {H : Hp} {xs : List D} {bs : List Bool} {v : V} (hx : Tmp X.mg H (.lst xs) v) (h : boolsD xs = some bs) : ∃ a, v = .ref a ∧ SqL X.K H a (bs.map V.bl) := by
  obtain ⟨a, vs, rfl, h1, h2⟩ := Tmp.sql (K := X.K) hx
  have := bools_vals h h2
  subst this
  exact ⟨a, rfl, h1⟩
theorem pairs_paired {H : Hp} : ∀ {xs : List D} {ps : List (D × D)} {vs : List V}, pairs xs = some ps → Reps X.mg H xs vs → ps.all (fun p => p.1.isK0) = true →
    ∃ (as : List Addr) (kvs : List (Key × V)), vs = as.map V.ref ∧ Paired (fun p kv => SqT X.K H p [kV kv.1, kv.2]) as kvs ∧ RepK X.mg H ps kvs
  | [], ps, vs, h, r, _ => by
    simp only [pairs, Option.some.injEq] at h
    subst h
    simp only [Reps] at r
    subst r
    exact ⟨[], [], rfl, .nil, by simp only [RepK]⟩
  | d :: ds, ps, vs, h, r, k => by
    simp only [Reps] at r
    obtain ⟨v, r', rfl, h2, h3⟩ := r
    unfold pairs at h
    split at h
    · rename_i heq; cases heq
    · rename_i kd e r0 heq
      cases heq
      obtain ⟨ps', h1, rfl⟩ := Option.map_eq_some_iff.mp h
      rw [List.all_cons, Bool.and_eq_true] at k
      obtain ⟨as, kvs, rfl, h4, h5⟩ := pairs_paired h1 h3 k.2
      obtain ⟨a, ws, rfl, q1, q2⟩ := Rep.sqt (K := X.K) h2
      simp only [Reps] at q2
      obtain ⟨w1, _, rfl, q3, w2, _, rfl, q4, rfl⟩ := q2
      obtain ⟨kk, hk⟩ := isK0_kD k.1 q3
      refine ⟨a :: as, (kk, w2) :: kvs, rfl, .cons ?_ h4, ?_⟩
      · rw [rep_kV hk q3] at q1
        exact q1
      · simp only [RepK]
        exact ⟨kk, w2, kvs, rfl, hk, q4, h5⟩
    · cases h
theorem RepK.map_put {H : Hp} {d e : D} {k : Key} {v : V} (hk : kD d = some k) (hv : Rep X.mg H e v) : ∀ {ds : List (D × D)} {kvs : List (Key × V)}, RepK X.mg H ds kvs →
    RepK X.mg H (ds.map fun p => if D.eqv p.1 d then (p.1, e) else p) (kvs.map fun kv => if kv.1 = k then (kv.1, v) else kv)
  | [], _, h => by simp only [RepK] at h; subst h; simp only [List.map_nil, RepK]
  | (a, b) :: ds, _, h => by
    simp only [RepK] at h
    obtain ⟨kk, w, r, rfl, h1, h2, h3⟩ := h
    have ih := RepK.map_put hk hv h3
    rw [List.map_cons, List.map_cons]
    have e1 : D.eqv a d = decide (kk = k) := kD_eq h1 hk
    simp only [e1, decide_eq_true_eq]
    by_cases q : kk = k
    · rw [if_pos q, if_pos q]
      simp only [RepK]
      exact ⟨kk, v, _, rfl, h1, hv, ih⟩
    · rw [if_neg q, if_neg q]
      simp only [RepK]
      exact ⟨kk, w, _, rfl, h1, h2, ih⟩
theorem RepT.map_put {H : Hp} {d e : D} {k : List Key} {v : V} (hk : ktD d = some k) (hv : Rep X.mg H e v) : ∀ {ds : List (D × D)} {kvs : List (List Key × V)}, RepT X.mg H ds kvs →
    RepT X.mg H (ds.map fun p => if D.eqv p.1 d then (p.1, e) else p) (kvs.map fun kv => if kv.1 = k then (kv.1, v) else kv)
  | [], _, h => by simp only [RepT] at h; subst h; simp only [List.map_nil, RepT]
  | (a, b) :: ds, _, h => by
    simp only [RepT] at h
    obtain ⟨kk, w, r, rfl, h1, h2, h3⟩ := h
    have ih := RepT.map_put hk hv h3
    rw [List.map_cons, List.map_cons]
    have e1 : D.eqv a d = decide (kk = k) := ktD_eq h1 hk
    simp only [e1, decide_eq_true_eq]
    by_cases q : kk = k
    · rw [if_pos q, if_pos q]
      simp only [RepT]
      exact ⟨kk, v, _, rfl, h1, hv, ih⟩
    · rw [if_neg q, if_neg q]
      simp only [RepT]
      exact ⟨kk, w, _, rfl, h1, h2, ih⟩
theorem RepK.append {H : Hp} : ∀ {ds es : List (D × D)} {vs ws : List (Key × V)}, RepK X.mg H ds vs → RepK X.mg H es ws → RepK X.mg H (ds ++ es) (vs ++ ws)
  | [], _, _, _, h, h' => by simp only [RepK] at h; subst h; exact h'
  | (a, b) :: ds, _, _, _, h, h' => by
    simp only [RepK] at h
    obtain ⟨kk, w, r, rfl, h1, h2, h3⟩ := h
    simp only [List.cons_append, RepK]
    exact ⟨kk, w, _, rfl, h1, h2, RepK.append h3 h'⟩
theorem RepT.append {H : Hp} : ∀ {ds es : List (D × D)} {vs ws : List (List Key × V)}, RepT X.mg H ds vs → RepT X.mg H es ws → RepT X.mg H (ds ++ es) (vs ++ ws)
  | [], _, _, _, h, h' => by simp only [RepT] at h; subst h; exact h'
  | (a, b) :: ds, _, _, _, h, h' => by
    simp only [RepT] at h
    obtain ⟨kk, w, r, rfl, h1, h2, h3⟩ := h
    simp only [List.cons_append, RepT]
    exact ⟨kk, w, _, rfl, h1, h2, RepT.append h3 h'⟩
theorem RepK.put {H : Hp} {d e : D} {k : Key} {v : V} (hk : kD d = some k) (hv : Rep X.mg H e v) {ds : List (D × D)} {kvs : List (Key × V)} (h : RepK X.mg H ds kvs) : RepK X.mg H (dput ds d e) (putK kvs k v) := by
  obtain ⟨f1, f2⟩ := RepK.find h hk
  unfold dput putK
  rw [valV_any]
  cases q : dfind ds d with
  | some x =>
    obtain ⟨w, e1, _⟩ := f1 x q
    rw [e1]
    simp only [Option.isSome_some, if_true]
    exact RepK.map_put hk hv h
  | none =>
    rw [f2 q]
    simp only [Option.isSome_none, Bool.false_eq_true, if_false]
    exact h.append (by simp only [RepK]; exact ⟨k, v, [], rfl, hk, hv, rfl⟩)
theorem RepT.put {H : Hp} {d e : D} {k : List Key} {v : V} (hk : ktD d = some k) (hv : Rep X.mg H e v) {ds : List (D × D)} {kvs : List (List Key × V)} (h : RepT X.mg H ds kvs) : RepT X.mg H (dput ds d e) (putK kvs k v) := by
  obtain ⟨f1, f2⟩ := RepT.find h hk
  unfold dput putK
  rw [valV_any]
  cases q : dfind ds d with
  | some x =>
    obtain ⟨w, e1, _⟩ := f1 x q
    rw [e1]
    simp only [Option.isSome_some, if_true]
    exact RepT.map_put hk hv h
  | none =>
    rw [f2 q]
    simp only [Option.isSome_none, Bool.false_eq_true, if_false]
    exact h.append (by simp only [RepT]; exact ⟨k, v, [], rfl, hk, hv, rfl⟩)
theorem RepK.putAll {H : Hp} : ∀ {more ds : List (D × D)} {ms kvs : List (Key × V)}, RepK X.mg H more ms → RepK X.mg H ds kvs → RepK X.mg H (putAll ds more) (mergeK kvs ms)
  | [], _, _, _, h, h' => by simp only [RepK] at h; subst h; exact h'
  | (a, b) :: more, ds, _, kvs, h, h' => by
    simp only [RepK] at h
    obtain ⟨kk, w, r, rfl, h1, h2, h3⟩ := h
    show RepK X.mg H (Mp.putAll (dput ds a b) more) (mergeK (putK kvs kk w) r)
    exact RepK.putAll h3 (h'.put h1 h2)
theorem okV.dK {ds : List (D × D)} {kvs : List (Key × V)} (h : okV X (.dic ds) H Q) (r : RepK X.mg H ds kvs) {p : Addr} (hp : H p = none) : Q (.ref p) (upd H p (.dK kvs)) :=
  h _ _ (Same.upd hp) ⟨p, rfl, hp, .inl ⟨kvs, upd_same, r.mono (Ke.upd (.inl hp))⟩⟩
theorem okV.dT {ds : List (D × D)} {kvs : List (List Key × V)} (h : okV X (.dic ds) H Q) (r : RepT X.mg H ds kvs) {p : Addr} (hp : H p = none) : Q (.ref p) (upd H p (.dT kvs)) :=
  h _ _ (Same.upd hp) ⟨p, rfl, hp, .inr ⟨kvs, upd_same, r.mono (Ke.upd (.inl hp))⟩⟩
theorem tup_self {xs : List D} {v : V} (h : Tmp X.mg H (.tup xs) v) (q : okV X (.tup xs) H Q) : Q v H := q.old h rfl

theorem max2_run (hc : X.calm = true) (I : L2.Inv X pins σ H s) {i j : Int} {t t' : Tok} (q : okV X (.int (if j > i then j else i)) H Q) :
    wpAny (model X.prog X.w) X.A (call (.builtin "max") [.int i t, .int j t']) (EP X pins σ Q) X.xe s := by
  refine max_two_ints (I.ok.hd hc) fun h' tk hk => ?_
  by_cases z : j > i
  · rw [if_pos z] at q ⊢
    exact ⟨.int j, H, I.kept hk, ⟨_, rfl⟩, q.int⟩
  · rw [if_neg z] at q ⊢
    exact ⟨.int i, H, I.kept hk, ⟨_, rfl⟩, q.int⟩
theorem fin_item {d : D} (q : okV X d H Q) (c : isCont d = false) : ∀ x, Rep X.mg H d x → Q x H := fun x hx => q.old hx c
end

section
variable {X : Cx}
/-- a built-in's value may be an older thing: what is handed on is read, or new -/
theorem bi_ok (hc : X.calm = true) (hu : X.A.units + 64 < cLine) (b : Bi) (ho : b ≠ .sortset ∧ b ≠ .minvals ∧ ∀ t, b ≠ .isi t) : CallR X (biTo b) (rBi X b) := by
  intro pins s σ H vs us Q I rv h
  obtain ⟨ds, r, ht, hb, q⟩ := h
  cases b with
  | len => exact len_run I ht rv hb q
  | all =>
    have hb : biAll ds = .ok r := hb
    unfold biAll at hb
    split at hb
    · obtain ⟨bs, h1, h2⟩ := ofO_bind hb
      cases h2
      obtain ⟨v, rfl, hv⟩ := Tmps.one ht
      obtain ⟨a, rfl, h3⟩ := bls_sql hv h1
      exact cr_all hc pins s σ H _ us Q I rv ⟨a, bs, rfl, h3, q.bl⟩
    · cases hb
  | any =>
    have hb : biAny ds = .ok r := hb
    unfold biAny at hb
    split at hb
    · obtain ⟨bs, h1, h2⟩ := ofO_bind hb
      cases h2
      obtain ⟨v, rfl, hv⟩ := Tmps.one ht
      obtain ⟨a, rfl, h3⟩ := bls_sql hv h1
      exact cr_any hc pins s σ H _ us Q I rv ⟨a, bs, rfl, h3, q.bl⟩
    · cases hb
  | sum =>
    have hb : biSum ds = .ok r := hb
    unfold biSum at hb
    split at hb
    · obtain ⟨ns, h1, h2⟩ := ofO_bind hb
      cases h2
      obtain ⟨v, rfl, hv⟩ := Tmps.one ht
      obtain ⟨u, rfl, ru⟩ := vals1' rv
      exact sum_run hc I hv ru h1 q.int
    · cases hb
  | max =>
    have hb : biMax ds = .ok r := hb
    unfold biMax at hb
    split at hb
    · split at hb
      · rename_i k
        cases hb
        rw [Bool.and_eq_true] at k
        obtain ⟨v, rfl, hv⟩ := Tmps.one ht
        obtain ⟨u, rfl, ru⟩ := vals1' rv
        exact max_run hc hu I hv ru k.1 (fin_item q (by simpa using k.2))
      · cases hb
    · cases hb
      obtain ⟨v, w, rfl, hv, hw⟩ := Tmps.two ht
      obtain ⟨u, u', rfl, ru, ru'⟩ := vals2' rv
      have e1 := Tmp.int hv
      have e2 := Tmp.int hw
      subst e1 e2
      obtain ⟨t, rfl⟩ := ru
      obtain ⟨t', rfl⟩ := ru'
      exact max2_run hc I q
    · cases hb
  | min =>
    have hb : biMin ds = .ok r := hb
    unfold biMin at hb
    split at hb
    · split at hb
      · rename_i k
        cases hb
        rw [Bool.and_eq_true] at k
        obtain ⟨v, rfl, hv⟩ := Tmps.one ht
        obtain ⟨u, rfl, ru⟩ := vals1' rv
        exact min_run hc hu I hv ru k.1 (fin_item q (by simpa using k.2))
      · cases hb
    · split at hb
      · rename_i a b _ k
        cases hb
        rw [Bool.and_eq_true, Bool.and_eq_true] at k
        obtain ⟨v, w, rfl, hv, hw⟩ := Tmps.two ht
        obtain ⟨u, u', rfl, ru, ru'⟩ := vals2' rv
        have c : isCont (minD a [b]) = false := by
          show isCont (if D.lt b a then b else a) = false
          have c1 : isCont a = false := by simpa using k.1.2
          have c2 : isCont b = false := by simpa using k.2
          split <;> assumption
        exact min2_run hc hu I hv hw ru ru' k.1.1 fun z hz => q.old (hz.rep c) c
      · cases hb
    · cases hb
  | sorted =>
    have hb : biSorted ds = .ok r := hb
    unfold biSorted at hb
    split at hb
    · split at hb
      · rename_i k
        cases hb
        obtain ⟨v, rfl, hv⟩ := Tmps.one ht
        obtain ⟨u, rfl, ru⟩ := vals1' rv
        exact sorted_run hu I hv ru k q
      · cases hb
    · cases hb
  | sortset => exact absurd rfl ho.1
  | minvals => exact absurd rfl ho.2.1
  | list =>
    have hb : biList ds = .ok r := hb
    unfold biList at hb
    split at hb
    · cases hb
      obtain ⟨v, rfl, hv⟩ := Tmps.one ht
      obtain ⟨u, rfl, ru⟩ := vals1' rv
      exact list_run I true hv ru q
    · cases hb
      obtain ⟨v, rfl, hv⟩ := Tmps.one ht
      obtain ⟨u, rfl, ru⟩ := vals1' rv
      exact list_run I false hv ru q
    · cases hb
  | tuple =>
    have hb : biTuple ds = .ok r := hb
    unfold biTuple at hb
    split at hb
    · cases hb
      obtain ⟨v, rfl, hv⟩ := Tmps.one ht
      obtain ⟨u, rfl, ru⟩ := vals1' rv
      exact tuple_run I hv ru q
    · cases hb
  | dict =>
    have hb : biDict ds = .ok r := hb
    unfold biDict at hb
    split at hb
    · split at hb
      · rename_i ps hp
        split at hb
        · rename_i k
          cases hb
          obtain ⟨v, rfl, hv⟩ := Tmps.one ht
          obtain ⟨a, ws, rfl, h1, h2⟩ := Tmp.sql (K := X.K) hv
          obtain ⟨as, kvs, rfl, h3, h4⟩ := pairs_paired hp h2 k
          exact call_dictP hc pins s σ H _ us Q I rv ⟨a, as, kvs, rfl, h1, h3, fun p hp => q.dK (RepK.putAll h4 (by simp only [RepK])) hp⟩
        · cases hb
      · cases hb
    · cases hb
  | int =>
    have hb : biInt ds = .ok r := hb
    unfold biInt at hb
    split at hb
    · cases hb
      obtain ⟨v, rfl, hv⟩ := Tmps.one ht
      obtain ⟨u, rfl, ru⟩ := vals1' rv
      have e1 := Tmp.int hv
      subst e1
      obtain ⟨t, rfl⟩ := ru
      exact call_int_int ⟨.int _, H, I, ⟨_, rfl⟩, q.int⟩
    · cases hb
  | str => cases hb
  | isi t => exact absurd rfl (ho.2.2 t)
end
end Mp

end Sec_MpK
section Sec_MpL
set_option autoImplicit false
set_option linter.all false
set_option maxHeartbeats 2000000
set_option maxRecDepth 100000
/-! Walks over frozen things: enumerate, zip. -/
namespace Mp
open PySem PySem.Spec PyProof.Rows L2
open Sem (wp)

/-! ### enumerate(v) begins -/
theorem enum1_new {v : Value} {o : Obj} {Hh : Heap → Prop} (Bg : Begins v o Hh) :
    Meets (Builtin.«enumerate.__new__» ⟨[.type "enumerate", v], []⟩) (fun _ R s => Hh s.heap ∧
      R (.ok (.ret (.ref (s.heap.objs.size + 1)))) { s with heap := (s.heap.push o).push { cls := .type "enumerate", data := .fields #[.none, .bool false, .ref s.heap.objs.size, rawInt 0, .none, .none] } }) :=
  .of_wp fun prog w A R s hh => by
    obtain ⟨hp, g0, d0, tk, os0⟩ := s
    obtain ⟨b1, hR⟩ := hh
    have esz : (hp.push o).objs.size = hp.objs.size + 1 := Heap.size_push ..
    have hR' : R (.ok (.ret (.ref (hp.push o).objs.size))) ⟨(hp.push o).push { cls := .type "enumerate", data := .fields #[.none, .bool false, .ref hp.objs.size, rawInt 0, .none, .none] }, g0, d0, tk, os0⟩ := by rw [esz]; exact hR
    have hsub := sub_enumerate
    have qi : ∀ {A1 : Around} {E1 : Value → Shared → Prop} {Q1 : Value → Shared → Prop}, Q1 (.ref hp.objs.size) ⟨hp.push o, g0, d0, tk, os0⟩ → wpAny (model prog w) A1 (pyIter v) Q1 E1 ⟨hp, g0, d0, tk, os0⟩ :=
      fun z => Bg.iter prog w _ _ ⟨hp, g0, d0, tk, os0⟩ _ b1 z
    wp_walk using qi
    refine wpAny_stack_any fun stk => wpAny_pure ?_
    split
    · rename_i c _ _ _ _ _
      cases (c == Value.type "enumerate")
      · wp_walk using qi
        exact ⟨_, rfl, hR'⟩
      · wp_walk using qi
        exact ⟨_, rfl, hR'⟩
    · wp_walk using qi
      exact ⟨_, rfl, hR'⟩
theorem enum1_call {prog : Program} {w : World} {A : Around} {E : Value → Shared → Prop} {s : Shared} {v : Value} {o : Obj} {Hh : Heap → Prop} {Q : Value → Shared → Prop} (Bg : Begins v o Hh) (h1 : Hh s.heap)
    (hQ : ∀ h', IsEnum h' (s.heap.objs.size + 1) s.heap.objs.size 0 .none → h'.get? s.heap.objs.size = some o → (∀ b ob, s.heap.get? b = some ob → h'.get? b = some ob) → Q (.ref (s.heap.objs.size + 1)) { s with heap := h' }) :
    wpAny (model prog w) A (call (.type "enumerate") [v]) Q E s := by
  refine callType_new F.called_enumerate (by decide) (F.typeCall_enumerate_1 v) (F.newCall_enumerate_1 v) (fun ob => F.args_object_init_2 ob v) F.entry_enumerate_new (enum1_new Bg) ⟨h1, ?_⟩
  have esz : (s.heap.push o).objs.size = s.heap.objs.size + 1 := Heap.size_push ..
  have ie : IsEnum ((s.heap.push o).push { cls := .type "enumerate", data := .fields #[.none, .bool false, .ref s.heap.objs.size, rawInt 0, .none, .none] }) (s.heap.objs.size + 1) s.heap.objs.size 0 .none := by
    rw [← esz]
    exact Heap.get?_push_size (s.heap.push o) (o := { cls := .type "enumerate", data := .fields #[.none, .bool false, .ref s.heap.objs.size, rawInt 0, .none, .none] }) rfl
  refine ⟨⟨_, ie, rfl⟩, hQ _ ie (Heap.get?_push_of_some _ (Heap.get?_push_size _ Bg.free)) fun b ob z => Heap.get?_push_of_some _ (Heap.get?_push_of_some _ z)⟩

/-! ### a source: a frozen list, a tuple, a text -/
structure Sc (mg : Str → Option Value) (ds : List D) (B : Hp → Prop) (it : Addr) (sn : Nat → Heap → Prop) : Prop where
  live : ∀ i h, sn i h → ∃ o, h.get? it = some o ∧ ∀ v, o.data ≠ .cell v
  keep : ∀ i h h', sn i h → (∀ o, h.get? it = some o → h'.get? it = some o) → sn i h'
  dr : ∀ (X : Cx), X.calm = true → ∀ (i : Nat) (pins : List (Addr × Obj)) (s : Shared) (σ : St) (H : Hp), L2.Inv X pins σ H s → B H → H it = none → sn i s.heap →
    ∃ (fp : List Addr) (Pv : Nat → Value → Prop) (Sn : Nat → Heap → Prop), Draws X.prog X.w X.A.in1 it fp ds.length Pv Sn ∧ Sn i s.heap ∧ (∀ i h, Sn i h → sn i h) ∧ it ∈ fp ∧ (∀ b ∈ fp, b = it ∨ H b ≠ none) ∧
      ∀ j u, Pv j u → ∃ d v, ds[j]? = some d ∧ RelV v u ∧ Rep mg H d v
section
variable {X : Cx} {pins : List (Addr × Obj)} {s : Shared} {σ : St} {H : Hp}
theorem src_of (I : L2.Inv X pins σ H s) {d : D} {ds : List D} {v : V} {u : Value} (r : Rep X.mg H d v) (rv : RelV v u) (e : items d = some ds) (nd : isDic d = false) :
    ∃ (o : Obj) (Hh : Heap → Prop) (B : Hp → Prop), Begins u o Hh ∧ Hh s.heap ∧ B H ∧ (∀ H H', Ke H H' → B H → B H') ∧ ∀ it, ∃ sn, Sc X.mg ds B it sn ∧ ∀ h, h.get? it = some o → sn 0 h := by
  cases d with
  | lst xs =>
    cases e
    simp only [Rep] at r
    obtain ⟨a, o, vs, rfl, h1, h2⟩ := r
    cases rv
    obtain ⟨its, n, rv, e, z⟩ := lstR I (.inr ⟨o, h1⟩)
    refine ⟨_, _, fun H => ∃ vs, H a = some (.frz o (.lst vs)) ∧ Reps X.mg H ds vs, begins_list a its.toArray, ⟨_, e, rfl, n, rfl⟩, ⟨vs, h1, h2⟩, fun H H' k ⟨vs, h1, h2⟩ => ⟨vs, k.fz _ _ _ h1, h2.mono k⟩, fun it => ⟨fun i h => h.IsListIter it a i, ⟨fun i h st => ?_, fun i h h' st k => st.at k, ?_⟩, fun h e => ⟨_, e, rfl, rfl⟩⟩⟩
    · obtain ⟨ob, e, c, dd⟩ := st
      exact ⟨ob, e, fun v z => by rw [dd] at z; cases z⟩
    · intro X2 hc i pins s σ H I ⟨vs, h1, h2⟩ hn st
      obtain ⟨its, n, rv, e, z⟩ := lstR I (.inr ⟨o, h1⟩)
      have hl := rv.length
      have hr := h2.length
      have ne : a ≠ it := fun q => by rw [q, hn] at h1; cases h1
      have D0 := Draws.list (prog := X2.prog) (w := X2.w) (A := X2.A.in1) (I.ok.hd hc) it a ne its.toArray
      have es : its.toArray.size = ds.length := by simp; omega
      rw [es] at D0
      refine ⟨_, _, _, D0, ⟨st, ⟨_, e, rfl, n, rfl⟩⟩, fun i h q => q.1, by simp, fun b hb => ?_, fun j u q => ?_⟩
      · have hb' : b = it ∨ b = a := by simpa using hb
        rcases hb' with rfl | rfl
        · exact .inl rfl
        · exact .inr (by rw [h1]; simp)
      · have q : its[j]? = some u := by simpa using q
        have hj : j < its.length := (List.getElem?_eq_some_iff.mp q).1
        obtain ⟨u', e1, e2⟩ := rv.get (List.getElem?_eq_getElem (by omega : j < vs.length))
        rw [q] at e1; cases e1
        obtain ⟨d, e3, e4⟩ := h2.get' (List.getElem?_eq_getElem (by omega : j < vs.length))
        exact ⟨d, _, e3, e2, e4⟩
  | tup xs =>
    cases e
    simp only [Rep] at r
    obtain ⟨a, vs, rfl, h1, h2⟩ := r
    cases rv
    obtain ⟨its, rv, p, z⟩ := I.tuple (.inl (.inl h1))
    refine ⟨_, _, fun H => ∃ vs, H a = some (.tup vs) ∧ Reps X.mg H ds vs, begins_tuple a its.toArray, p, ⟨vs, h1, h2⟩, fun H H' k ⟨vs, h1, h2⟩ => ⟨vs, k.tu _ _ h1, h2.mono k⟩, fun it => ⟨fun i h => h.IsTupleIter it a i, ⟨fun i h st => ?_, fun i h h' st k => st.at k, ?_⟩, fun h e => ⟨_, e, rfl, rfl⟩⟩⟩
    · obtain ⟨ob, e, c, dd⟩ := st
      exact ⟨ob, e, fun v z => by rw [dd] at z; cases z⟩
    · intro X2 hc i pins s σ H I ⟨vs, h1, h2⟩ hn st
      obtain ⟨its, rv, p, z⟩ := I.tuple (.inl (.inl h1))
      have hl := rv.length
      have hr := h2.length
      have ne : a ≠ it := fun q => by rw [q, hn] at h1; cases h1
      have D0 := Draws.tuple (prog := X2.prog) (w := X2.w) (A := X2.A.in1) (I.ok.hd hc) it a ne its.toArray
      have es : its.toArray.size = ds.length := by simp; omega
      rw [es] at D0
      refine ⟨_, _, _, D0, ⟨st, p⟩, fun i h q => q.1, by simp, fun b hb => ?_, fun j u q => ?_⟩
      · have hb' : b = it ∨ b = a := by simpa using hb
        rcases hb' with rfl | rfl
        · exact .inl rfl
        · exact .inr (by rw [h1]; simp)
      · have q : its[j]? = some u := by simpa using q
        have hj : j < its.length := (List.getElem?_eq_some_iff.mp q).1
        obtain ⟨u', e1, e2⟩ := rv.get (List.getElem?_eq_getElem (by omega : j < vs.length))
        rw [q] at e1; cases e1
        obtain ⟨d, e3, e4⟩ := h2.get' (List.getElem?_eq_getElem (by omega : j < vs.length))
        exact ⟨d, _, e3, e2, e4⟩
  | str x =>
    cases e
    simp only [Rep] at r
    obtain ⟨rfl, l⟩ := r
    obtain ⟨t, rfl⟩ := rv
    refine ⟨_, _, fun _ => True, begins_text ⟨x.toArray⟩ t, trivial, trivial, fun _ _ _ _ => trivial, fun it => ⟨fun i h => h.IsStrIter it (strIterType ⟨x.toArray⟩) ⟨x.toArray⟩ t i, ⟨fun i h st => ?_, fun i h h' st k => ?_, ?_⟩, fun h e => ⟨_, e, rfl, rfl⟩⟩⟩
    · obtain ⟨ob, e, c, dd⟩ := st
      exact ⟨ob, e, fun v z => by rw [dd] at z; cases z⟩
    · obtain ⟨ob, e, r⟩ := st
      exact ⟨ob, k ob e, r⟩
    · intro X2 hc i pins s σ H I _ hn st
      have D0 := Draws.text (prog := X2.prog) (w := X2.w) (A := X2.A.in1) (I.ok.hd hc) it ⟨x.toArray⟩ t
      have es : (⟨x.toArray⟩ : Str).cps.size = (x.map fun c => D.str [c]).length := by simp
      rw [es] at D0
      refine ⟨_, _, _, D0, st, fun i h q => q, by simp, fun b hb => .inl (by simpa using hb), fun j u ⟨c, t', q, eu⟩ => ?_⟩
      subst eu
      have q : x[j]? = some c := by simpa using q
      refine ⟨.str [c], .str ⟨#[c]⟩, by simp [q], ⟨t', rfl⟩, ?_⟩
      simp only [Rep]
      exact ⟨trivial, by show 1 ≤ sizeLine; decide⟩
  | dic _ => cases nd
  | _ => cases e
end
end Mp

end Sec_MpL
section Sec_MpM
set_option autoImplicit false
set_option linter.all false
set_option maxHeartbeats 2000000
set_option maxRecDepth 100000
namespace Mp
open PySem PySem.Spec PyProof.Rows L2

/-- an iterator that hands out ds while B stands -/
structure Wk (mg : Str → Option Value) (ds : List D) (J : It) (B : Hp → Prop) : Prop where
  ke : ∀ H H', Ke H H' → B H → B H'
  go : ∀ i H, B H → i < ds.length → J.go i H
  yld : ∀ i H v H', B H → i < ds.length → J.yld i H v H' → Same H H' ∧ ∃ d, ds[i]? = some d ∧ Rep mg H' d v
  stop : ∀ H, B H → J.stop ds.length H
/-- new pairs -/
def ItP (mg : Str → Option Value) (ds : List D) (B : Hp → Prop) : It :=
  ⟨fun i H => B H ∧ i < ds.length, fun i H v H' => ∃ T vs dd, v = .ref T ∧ H T = none ∧ H' = upd H T (.tup vs) ∧ ds[i]? = some (.tup dd) ∧ Reps mg H dd vs, fun i H => B H ∧ i = ds.length⟩
theorem wk_P {mg : Str → Option Value} {ds : List D} {B : Hp → Prop} (k : ∀ H H', Ke H H' → B H → B H') : Wk mg ds (ItP mg ds B) B where
  ke := k
  go := fun i H b l => ⟨b, l⟩
  yld := fun i H v H' b _ ⟨T, vs, dd, e, n, e2, e3, r⟩ => by
    subst e e2
    refine ⟨Same.upd n, _, e3, ?_⟩
    simp only [Rep]
    exact ⟨T, vs, rfl, upd_same, r.mono (Ke.upd (.inl n))⟩
  stop := fun H b => ⟨b, rfl⟩
theorem turn_P {P : Program} {w : World} {K : PySem.W.Frag} {elts : List Expr} {kk : Nat} {tpos : Pos} {mg : Str → Option Value} {ds : List D} {B : Hp → Prop} {fp : List Addr} {it : Addr} {tn : Nat → Heap → Prop} (mem : it ∈ fp)
    (obj : ∀ i h, tn i h → ∀ b ∈ fp, ∃ o, h.get? b = some o ∧ ∀ v, o.data ≠ .cell v) (keep : ∀ i h h', tn i h → (∀ b ∈ fp, ∀ o, h.get? b = some o → h'.get? b = some o) → tn i h')
    (self : ∀ (A : Around) (i : Nat) (s : Shared) (Q : Value → Shared → Prop) (E : Value → Shared → Prop), tn i s.heap → Q (.ref it) s → wpAny (model P w) A (pyIter (.ref it)) Q E s)
    (run : ∀ (X : Cx), X.calm = true → ∀ (i : Nat) (pins : List (Addr × Obj)) (s : Shared) (σ : St) (H : Hp), L2.Inv X pins σ H s → (∀ b ∈ fp, FpOk X pins H b) → B H → tn i s.heap →
      ∃ (fp' wr : List Addr) (Pt : Nat → Array Value → Prop) (Sn : Nat → Heap → Prop) (Mid : Nat → Addr → Heap → Prop), WalksT X.prog X.w X.A it fp' wr ds.length Pt Sn Mid ∧ (∀ b ∈ wr, b ∈ fp) ∧ Sn i s.heap ∧ (∀ i h, Sn i h → tn i h) ∧
        ∀ j vals, Pt j vals → ∃ dd vs, ds[j]? = some (.tup dd) ∧ Vals vs vals.toList ∧ Reps mg H dd vs ∧ vs.length ≤ sizeLine) :
    Turn P w K (.Tuple elts kk tpos) (ItP mg ds B) fp it tn where
  mem := mem
  obj := obj
  keep := keep
  item := by
    intro X hP hw hK hc i pins s σ H E I hf st hg
    subst hP hw hK
    obtain ⟨b, hi⟩ := hg
    obtain ⟨fp', wr, Pt, Sn, Mid, W, hwr, hs, hst, hpt⟩ := run X hc i pins s σ H I hf b st
    refine W.item i s _ _ hi hs fun T vals h' tk hv hT hI hM hk => ?_
    refine ⟨_, rfl, W.go elts kk tpos i T { s with heap := h', toks := tk } _ _ hM fun h'' hs' hk' => ?_⟩
    obtain ⟨dd, vs, e, rv, rr, z⟩ := hpt i vals hv
    have hT2 : IsTup h'' T vals := by
      obtain ⟨o, e1, r⟩ := hI
      exact ⟨o, hk' T o (W.apart i T h' hM) e1, r⟩
    have new : ObjOk X.prog X.w (upd H T (.tup vs)) h'' T (.tup vs) := ⟨z, vals.toList, rv, by simpa using hT2⟩
    have I1 : L2.Inv X pins σ (upd H T (.tup vs)) { s with heap := h'', toks := tk } :=
      I.turnedNew (ch := fp) (fun c o hb q => hk' c o (fun m => hb (hwr c m)) (hk c o (fun m => hb (hwr c m)) q)) hf hT new
    refine ⟨.ref T, _, I1, rfl, ⟨T, vs, dd, rfl, I.hok.fresh hT, rfl, e, rr⟩, hst _ _ hs', fun c hc2 => ?_⟩
    obtain ⟨o, q, _⟩ := obj i _ st c hc2
    rw [upd_ne (fun z => by rw [z] at q; exact absurd (Heap.lt_size q) (Nat.not_lt.mpr hT))]
    exact (hf c hc2).1
  done := by
    intro X hP hw hK hc i pins s σ H E I hf st hg
    subst hP hw hK
    obtain ⟨b, rfl⟩ := hg
    obtain ⟨fp', wr, Pt, Sn, Mid, W, hwr, hs, hst, hpt⟩ := run X hc _ pins s σ H I hf b st
    exact W.done s _ _ hs fun h' tk hk => ⟨rfl, I.turnedL (t' := tk) (ch := fp) (fun c o hb q => hk c o (fun m => hb (hwr c m)) q) hf⟩
  self := self

section
variable {X : Cx} {pins : List (Addr × Obj)} {s : Shared} {σ : St} {H : Hp}
theorem enumD_len (ds : List D) : (enumD ds).length = ds.length := by simp [enumD]
theorem enumD_get {ds : List D} {i : Nat} {d : D} (h : ds[i]? = some d) : (enumD ds)[i]? = some (.tup [.int i, d]) := by
  have hi : i < ds.length := (List.getElem?_eq_some_iff.mp h).1
  have e : ((List.range ds.length).zip ds)[i]? = some (i, d) := by
    rw [List.getElem?_zip_eq_some]
    exact ⟨by simp [hi], h⟩
  unfold enumD
  rw [List.getElem?_map, e]
  rfl
theorem enum_run {E : Value → Shared → Prop} {elts : List Expr} {kk : Nat} {tpos : Pos} {R : It → Hp → Prop} (I : L2.Inv X pins σ H s) {d : D} {ds : List D} {v : V} {u : Value} (r : Rep X.mg H d v) (rv : RelV v u) (e : items d = some ds) (nd : isDic d = false)
    (q : ∀ J B, Wk X.mg (enumD ds) J B → B H → R J H) :
    wpAny (model X.prog X.w) X.A (call (.type "enumerate") [u]) (fun v s1 => wpAny (model X.prog X.w) X.A (pyIter v) (PIE X pins σ (.Tuple elts kk tpos) R) E s1) E s := by
  obtain ⟨o, Hh, B, Bg, hh, hB, hk, src⟩ := src_of I r rv e nd
  refine enum1_call Bg hh fun h' ie eo hkp => wpAny_pyIter_enum ie ?_
  obtain ⟨sn, S, s0⟩ := src s.heap.objs.size
  have I2 : L2.Inv X pins σ H { s with heap := h' } := I.kept (t' := s.toks) hkp
  have ne : s.heap.objs.size + 1 ≠ s.heap.objs.size := Nat.succ_ne_self _
  generalize hit : s.heap.objs.size = it at *
  refine ⟨it + 1, [it + 1, it], fun i h => (∃ old, IsEnum h (it + 1) it ((i : Nat) : Int) old) ∧ sn i h, ItP X.mg (enumD ds) B, H, rfl, I2, ?_, ⟨⟨.none, ie⟩, s0 _ eo⟩, fun b hb => ?_, q _ _ (wk_P hk) hB⟩
  · refine turn_P (by simp) (fun i h st b hb => ?_) (fun i h h' st k => ?_) (fun A i s Q E st hq => ?_) fun X2 hc i pins s σ H I hf b st => ?_
    · obtain ⟨⟨old, he⟩, st2⟩ := st
      have e' : b = it + 1 ∨ b = it := by simpa using hb
      rcases e' with rfl | rfl
      · exact ⟨_, he, fun v q => nomatch q⟩
      · exact S.live _ _ st2
    · obtain ⟨⟨old, he⟩, st2⟩ := st
      exact ⟨⟨old, k _ (by simp) _ he⟩, S.keep _ _ _ st2 fun o z => k it (by simp) o z⟩
    · obtain ⟨⟨old, he⟩, st2⟩ := st
      exact wpAny_pyIter_enum he hq
    · obtain ⟨he, st2⟩ := st
      have hn := (hf it (by simp)).1
      have hn1 := (hf (it + 1) (by simp)).1
      obtain ⟨fp, Pv, Sn, D0, hs, hst, m, fpo, pv⟩ := S.dr X2 hc i pins s σ H I b hn st2
      have W := WalksT.enumerateD D0 (it + 1) ne (fun z => by
        rcases fpo _ z with q | q
        · exact ne q
        · exact q hn1) m
      rw [← enumD_len ds] at W
      refine ⟨_, _, _, _, _, W, fun b hb => hb, ⟨he, hs⟩, fun i h q => ⟨q.1, hst _ _ q.2⟩, fun j vals ⟨t, x, px, ev⟩ => ?_⟩
      obtain ⟨d, v, e1, e2, e3⟩ := pv j x px
      subst ev
      refine ⟨_, [.int j, v], enumD_get e1, .cons ⟨t, rfl⟩ (.cons e2 .nil), Reps.cons (by simp only [Rep]) (Reps.one e3), by show 2 ≤ sizeLine; decide⟩
  · have e' : b = it + 1 ∨ b = it := by simpa using hb
    have hle : it ≤ b := by rcases e' with rfl | rfl <;> omega
    rw [← hit] at hle
    exact I.fpOk hle (I.hok.fresh hle)
theorem zipD_len (xs ys : List D) : (zipD xs ys).length = min xs.length ys.length := by simp [zipD]
theorem zipD_get {xs ys : List D} {i : Nat} {d e : D} (h : xs[i]? = some d) (h' : ys[i]? = some e) : (zipD xs ys)[i]? = some (.tup [d, e]) := by
  have q : (xs.zip ys)[i]? = some (d, e) := by
    rw [List.getElem?_zip_eq_some]
    exact ⟨h, h'⟩
  unfold zipD
  rw [List.getElem?_map, q]
  rfl
theorem zip_run {E : Value → Shared → Prop} {elts : List Expr} {kk : Nat} {tpos : Pos} {R : It → Hp → Prop} (I : L2.Inv X pins σ H s) {d d' : D} {ds ds' : List D} {v v' : V} {u u' : Value} (r : Rep X.mg H d v) (rv : RelV v u) (e : items d = some ds) (nd : isDic d = false)
    (r' : Rep X.mg H d' v') (rv' : RelV v' u') (e' : items d' = some ds') (nd' : isDic d' = false) (q : ∀ J B, Wk X.mg (zipD ds ds') J B → B H → R J H) :
    wpAny (model X.prog X.w) X.A (call (.type "zip") [u, u']) (fun v s1 => wpAny (model X.prog X.w) X.A (pyIter v) (PIE X pins σ (.Tuple elts kk tpos) R) E s1) E s := by
  obtain ⟨o, Hh, B, Bg, hh, hB, hk, src⟩ := src_of I r rv e nd
  obtain ⟨o', Hh', B', Bg', hh', hB', hk', src'⟩ := src_of I r' rv' e' nd'
  refine zip_begins2 Bg Bg' hh hh' fun h' iz iT iO e1 e2 hsz hkp => wpAny_pyIter_zip iz ?_
  obtain ⟨sn, S, s0⟩ := src s.heap.objs.size
  obtain ⟨sn', S', s0'⟩ := src' (s.heap.objs.size + 1)
  have I2 : L2.Inv X pins σ H { s with heap := h' } := I.kept (t' := s.toks) hkp
  generalize hit : s.heap.objs.size = it at *
  refine ⟨it + 4, [it + 4, it + 2, it + 3, it, it + 1], fun i h => IsZip h (it + 4) (it + 2) (it + 3) .none ∧ IsTupOf2 h (it + 2) (.ref it) (.ref (it + 1)) ∧ (∃ x y, IsTupOf2 h (it + 3) x y) ∧ sn i h ∧ sn' i h,
    ItP X.mg (zipD ds ds') (fun H => B H ∧ B' H), H, rfl, I2, ?_, ⟨iz, iT, ⟨_, _, iO⟩, s0 _ e1, s0' _ e2⟩, fun b hb => ?_, q _ _ (wk_P fun H H' k z => ⟨hk _ _ k z.1, hk' _ _ k z.2⟩) ⟨hB, hB'⟩⟩
  · refine turn_P (by simp) (fun i h st b hb => ?_) (fun i h h' st k => ?_) (fun A i s Q E st hq => ?_) fun X2 hc i pins s σ H I hf b st => ?_
    · obtain ⟨h1, h2, ⟨x, y, h3⟩, h4, h5⟩ := st
      have e' : b = it + 4 ∨ b = it + 2 ∨ b = it + 3 ∨ b = it ∨ b = it + 1 := by simpa using hb
      rcases e' with rfl | rfl | rfl | rfl | rfl
      · exact ⟨_, h1, fun v q => nomatch q⟩
      · exact ⟨_, h2, fun v q => nomatch q⟩
      · exact ⟨_, h3, fun v q => nomatch q⟩
      · exact S.live _ _ h4
      · exact S'.live _ _ h5
    · obtain ⟨h1, h2, ⟨x, y, h3⟩, h4, h5⟩ := st
      exact ⟨k _ (by simp) _ h1, k _ (by simp) _ h2, ⟨x, y, k _ (by simp) _ h3⟩, S.keep _ _ _ h4 fun o z => k _ (by simp) o z, S'.keep _ _ _ h5 fun o z => k _ (by simp) o z⟩
    · exact wpAny_pyIter_zip st.1 hq
    · obtain ⟨h1, h2, h3, h4, h5⟩ := st
      have n0 := (hf it (by simp)).1
      have n1 := (hf (it + 1) (by simp)).1
      have n2 := (hf (it + 2) (by simp)).1
      have n3 := (hf (it + 3) (by simp)).1
      have n4 := (hf (it + 4) (by simp)).1
      obtain ⟨fp, Pv, Sn, D0, hs, hst, m, fpo, pv⟩ := S.dr X2 hc i pins s σ H I b.1 n0 h4
      obtain ⟨fp', Pv', Sn', D1, hs', hst', m', fpo', pv'⟩ := S'.dr X2 hc i pins s σ H I b.2 n1 h5
      have f0 : ∀ c, c ≠ it → H c = none → c ∉ fp := fun c hc hn z => by
        rcases fpo _ z with q | q
        · exact hc q
        · exact q hn
      have f1 : ∀ c, c ≠ it + 1 → H c = none → c ∉ fp' := fun c hc hn z => by
        rcases fpo' _ z with q | q
        · exact hc q
        · exact q hn
      have a1 : (it + 2 : Nat) ≠ it + 4 := by omega
      have a2 : (it + 3 : Nat) ≠ it + 4 := by omega
      have a3 : (it + 2 : Nat) ≠ it + 3 := by omega
      have a4 : (it + 2 : Nat) ≠ it := by omega
      have a5 : (it + 2 : Nat) ≠ it + 1 := by omega
      have W := WalksT.zipD2 (z := it + 4) (TI := it + 2) (TO := it + 3) (i1 := it) (i2 := it + 1) ⟨a1, a2, a3, a4, m, f0 _ (by omega) n4, f0 _ (by omega) n3, a5, m', f1 _ (by omega) n4, f1 _ (by omega) n3, f1 _ (by omega) n0, f0 _ (by omega) n1⟩ D0 D1
      rw [← zipD_len ds ds'] at W
      refine ⟨_, _, _, _, _, W, fun b hb => ?_, ⟨h1, h2, h3, hs, hs'⟩, fun i h q => ⟨q.1, q.2.1, q.2.2.1, hst _ _ q.2.2.2.1, hst' _ _ q.2.2.2.2⟩, fun j vals ⟨x, y, px, py, ev⟩ => ?_⟩
      · have e' : b = it + 4 ∨ b = it + 3 ∨ b = it ∨ b = it + 1 := by simpa using hb
        rcases e' with rfl | rfl | rfl | rfl <;> simp
      · obtain ⟨d, v, e1, e2, e3⟩ := pv j x px
        obtain ⟨d', v', e1', e2', e3'⟩ := pv' j y py
        subst ev
        exact ⟨_, [v, v'], zipD_get e1 e1', .cons e2 (.cons e2' .nil), Reps.cons e3 (Reps.one e3'), by show 2 ≤ sizeLine; decide⟩
  · have e' : b = it + 4 ∨ b = it + 2 ∨ b = it + 3 ∨ b = it ∨ b = it + 1 := by simpa using hb
    have hle : it ≤ b := by rcases e' with rfl | rfl | rfl | rfl | rfl <;> omega
    rw [← hit] at hle
    exact I.fpOk hle (I.hok.fresh hle)
end
end Mp

end Sec_MpM
section Sec_MpN
set_option autoImplicit false
set_option linter.all false
set_option maxHeartbeats 2000000
set_option maxRecDepth 100000
namespace Mp
open PySem PySem.Spec PyProof.Rows L2

/-! ### what a result asks -/
def Rw {α : Type} (r : R α) (P : α → Prop) (E : Str → Prop) : Prop := match r with
  | .ok a => P a
  | .ex c => E c
  | .no => False
theorem Rw.mono {α : Type} {r : R α} {P P' : α → Prop} {E E' : Str → Prop} (h : Rw r P E) (k : ∀ a, r = .ok a → P a → P' a) (e : ∀ c, E c → E' c) : Rw r P' E' := by
  cases r with
  | ok a => exact k a rfl h
  | ex c => exact e c h
  | no => exact h
theorem Rw.bind {α β : Type} {r : R α} {f : α → R β} {P : β → Prop} {E : Str → Prop} : Rw (r.bind f) P E ↔ Rw r (fun a => Rw (f a) P E) E := by
  cases r <;> exact Iff.rfl
theorem Rw.ok {α : Type} {a : α} {P : α → Prop} {E : Str → Prop} (h : P a) : Rw (.ok a) P E := h

section
variable (mg : Str → Option Value)
/-- the slots -/
def SRE (ρ : Env) (σ : St) (H : Hp) : Prop := ∀ i d own, getv ρ i = some (d, own) → ∃ v, σ[i]? = some (some v) ∧ Tmp mg H d v ∧ (own = false → Rep mg H d v)
def Md (tmp fr : Bool) (H0 H : Hp) (d : D) (v : V) : Prop := if tmp = true then Tmp mg H d v else if fr = true then Own mg H H0 d v else Rep mg H d v
def exW (W : WX) (σ : St) (H : Hp) (c : Str) : Prop := ∀ C H', mg c = some (.ref C) → Same H H' → W (.ref C) none σ H'
def tE (W : WX) (cf : Str → List D → R D) (ow : Str → Bool) (n : Nat) (tmp : Bool) (x : E) : TE := fun σ H Q => ∃ ρ, SRE mg ρ σ H ∧ Rw (ev cf n tmp x ρ) (fun d => ∀ v H', Same H H' → Md mg tmp (fresh ow x) H H' d v → Q v H') (exW mg W σ H)
/-- .. whose value is new, or no container -/
def tV (W : WX) (cf : Str → List D → R D) (n : Nat) (tmp : Bool) (x : E) : TE := fun σ H Q => ∃ ρ, SRE mg ρ σ H ∧ Rw (ev cf n tmp x ρ) (fun d => ∀ v H', Same H H' → Own mg H' H d v → Q v H') (exW mg W σ H)
/-- .. whose value is old -/
def tR (W : WX) (cf : Str → List D → R D) (n : Nat) (tmp : Bool) (x : E) : TE := fun σ H Q => ∃ ρ, SRE mg ρ σ H ∧ Rw (ev cf n tmp x ρ) (fun d => ∀ v H', Same H H' → Rep mg H' d v → Q v H') (exW mg W σ H)
def tA (W : WX) (cf : Str → List D → R D) (n : Nat) (tmp : Bool) (xs : List E) : TA := fun σ H Q => ∃ ρ, SRE mg ρ σ H ∧ Rw (evs (ev cf n tmp · ρ) xs) (fun ds => ∀ vs H', Same H H' → (if tmp = true then TmpsM mg H' ds vs else Reps mg H' ds vs) → Q vs H') (exW mg W σ H)
where TmpsM (mg : Str → Option Value) (H : Hp) : List D → List V → Prop
  | [], vs => vs = []
  | d :: ds, vs => ∃ v r, vs = v :: r ∧ Tmp mg H d v ∧ TmpsM mg H ds r
/-- a test -/
def tT (W : WX) (cf : Str → List D → R D) (n : Nat) (x : E) : TT := fun σ H Q => ∃ ρ, SRE mg ρ σ H ∧ Rw ((ev cf n true x ρ).bind asB) (fun b => ∀ H', Same H H' → Q b H') (exW mg W σ H)
end
section
variable {mg : Str → Option Value} {W : WX} {ρ : Env} {σ : St} {H H' : Hp}
theorem SRE.mono (s : Same H H') (h : SRE mg ρ σ H) : SRE mg ρ σ H' := fun i d own e => by
  obtain ⟨v, h1, h2, h3⟩ := h i d own e
  exact ⟨v, h1, h2.mono s, fun z => (h3 z).mono (Ke.of s)⟩
theorem exW.mono (s : Same H H') {c : Str} (h : exW mg W σ H c) : exW mg W σ H' c := fun C H2 m s2 => h C H2 m (s.trans s2)
end
section
variable {X : Cx} {pins : List (Addr × Obj)} {s : Shared} {σ : St} {H : Hp} {Q : VK}
/-- a new container is locked -/
theorem lock_own {H0 : Hp} {d : D} {v : V} (I : L2.Inv X pins σ H s) (s0 : Same H0 H) (h : Own X.mg H H0 d v) : ∃ H', L2.Inv X pins σ H' s ∧ Same H0 H' ∧ Ke H H' ∧ Rep X.mg H' d v := by
  cases d with
  | lst ds =>
    obtain ⟨a, vs, rfl, h0, h1, h2⟩ := h
    obtain ⟨od, J⟩ := I.lock h1 trivial
    refine ⟨_, J, fun b o e => ?_, Ke.upd (.inr (by rw [h1]; trivial)), ?_⟩
    · rw [upd_ne (ne_of_none e h0)]; exact s0 b o e
    · simp only [Rep]
      exact ⟨a, od, vs, rfl, upd_same, h2.mono (Ke.upd (.inr (by rw [h1]; trivial)))⟩
  | dic ds =>
    obtain ⟨a, rfl, h0, ⟨kvs, h1, h2⟩ | ⟨kvs, h1, h2⟩⟩ := h
    · obtain ⟨od, J⟩ := I.lock h1 trivial
      refine ⟨_, J, fun b o e => ?_, Ke.upd (.inr (by rw [h1]; trivial)), ?_⟩
      · rw [upd_ne (ne_of_none e h0)]; exact s0 b o e
      · simp only [Rep]
        exact ⟨a, od, rfl, .inl ⟨kvs, upd_same, h2.mono (Ke.upd (.inr (by rw [h1]; trivial)))⟩⟩
    · obtain ⟨od, J⟩ := I.lock h1 trivial
      refine ⟨_, J, fun b o e => ?_, Ke.upd (.inr (by rw [h1]; trivial)), ?_⟩
      · rw [upd_ne (ne_of_none e h0)]; exact s0 b o e
      · simp only [Rep]
        exact ⟨a, od, rfl, .inr ⟨kvs, upd_same, h2.mono (Ke.upd (.inr (by rw [h1]; trivial)))⟩⟩
  | _ => exact ⟨H, I, s0, Ke.refl H, h⟩
theorem EP.lock {d : D} {u : Value} {H0 : Hp} (h : EP X pins σ (fun v H' => Same H0 H' ∧ Own X.mg H' H0 d v) u s) (q : ∀ v H', Same H0 H' → Rep X.mg H' d v → Q v H') : EP X pins σ Q u s := by
  obtain ⟨v, H', I, r, s0, o⟩ := h
  obtain ⟨H2, J, s2, _, rr⟩ := lock_own I s0 o
  exact ⟨v, H2, J, r, q v H2 s2 rr⟩
theorem PE.of_V {e : Expr} {W : WX} {cf : Str → List D → R D} {ow : Str → Bool} {n : Nat} {tmp : Bool} {x : E} (h : PE X e (tV X.mg W cf n tmp x)) : PE X e (tE X.mg W cf ow n tmp x) := by
  refine ⟨fun pins s σ H Q I ⟨ρ, sr, w⟩ => ?_⟩
  cases q : ev cf n tmp x ρ with
  | no => rw [q] at w; exact w.elim
  | ex c =>
    rw [q] at w
    exact h.run pins s σ H Q I ⟨ρ, sr, by rw [q]; exact w⟩
  | ok d =>
    rw [q] at w
    refine thn (h.run pins s σ H (fun v H' => Same H H' ∧ Own X.mg H' H d v) I ⟨ρ, sr, by rw [q]; exact fun v H' s o => ⟨s, o⟩⟩) fun u s1 hh => ?_
    cases tmp with
    | true =>
      obtain ⟨v, H', J, r, s0, o⟩ := hh
      exact ⟨v, H', J, r, w v H' s0 (show (if true = true then _ else _) by rw [if_pos rfl]; exact o.tmp)⟩
    | false =>
      by_cases f : fresh ow x = true
      · obtain ⟨v, H', J, r, s0, o⟩ := hh
        refine ⟨v, H', J, r, w v H' s0 ?_⟩
        unfold Md
        rw [if_neg (by simp), if_pos f]
        exact o
      · refine EP.lock hh fun v H' s0 rr => w v H' s0 ?_
        unfold Md
        rw [if_neg (by simp), if_neg f]
        exact rr
theorem PE.of_R {e : Expr} {W : WX} {cf : Str → List D → R D} {ow : Str → Bool} {n : Nat} {tmp : Bool} {x : E} (f : fresh ow x = false) (h : PE X e (tR X.mg W cf n tmp x)) : PE X e (tE X.mg W cf ow n tmp x) := by
  refine ⟨fun pins s σ H Q I ⟨ρ, sr, w⟩ => h.run pins s σ H Q I ⟨ρ, sr, w.mono (fun d _ k v H' s0 r => k v H' s0 ?_) fun _ z => z⟩⟩
  unfold Md
  split
  · exact r.tmp
  · rw [if_neg (by rw [f]; simp)]
    exact r
theorem peI {e : Expr} {t t' : TE} (h : PE X e t) (k : ∀ σ H Q, t' σ H Q → t σ H Q) : PE X e t' := ⟨fun pins s σ H Q I q => h.run pins s σ H Q I (k σ H Q q)⟩
theorem ptI {e : Expr} {t t' : TT} (h : PT X e t) (k : ∀ σ H Q, t' σ H Q → t σ H Q) : PT X e t' := ⟨fun pins s σ H Q I q => h.run pins s σ H Q I (k σ H Q q)⟩
end

/-! ### a good reading -/
structure Gd (X : Cx) (W : WX) (cf : Str → List D → R D) (ow : Str → Bool) (e : Expr) (x : E) : Prop where
  pe : ∀ n tmp, PE X e (tE X.mg W cf ow n tmp x)
  pt : ∀ n, PT X e (tT X.mg W cf n x)
  pw : ∀ n op es pos, e = .BoolOp op es pos → PW X e (tT X.mg W cf n x)
  asg : ∀ (n i : Nat) (y : Str) (py spos : Pos), X.N.Nodup → X.N[i]? = some y → Loc X.env.scope y → (X.fn y = true ∨ X.env.scope.names.lookup y = some .local) → PS X (.Assign [.Name y py] e spos) (tAsg (tE X.mg W cf ow n false x) (gName i))
def plainT : Expr → Bool
  | .UnaryOp .Not _ _ => false
  | .BoolOp .. => false
  | .IfExp .. => false
  | .Compare .. => false
  | _ => true
section
variable {X : Cx} {W : WX} {cf : Str → List D → R D} {ow : Str → Bool} {e a b c : Expr} {x y z : E} {pos : Pos}
/-- a value that is looked at -/
theorem Gd.tmp (h : Gd X W cf ow e x) (n : Nat) : PE X e (fun σ H Q => ∃ ρ, SRE X.mg ρ σ H ∧ Rw (ev cf n true x ρ) (fun d => ∀ v H', Same H H' → Tmp X.mg H' d v → Q v H') (exW X.mg W σ H)) := h.pe n true
theorem pt_of (hp : plainT e = true) (h : ∀ n tmp, PE X e (tE X.mg W cf ow n tmp x)) (n : Nat) : PT X e (tT X.mg W cf n x) := by
  refine ptI (pt_val (h n true) (fun whole => ?_)) fun σ H Q ⟨ρ, sr, w⟩ => ⟨ρ, sr, ?_⟩
  · cases e <;> first | rfl | (cases hp; done) | skip
    rename_i op _ _
    cases op <;> first | rfl | cases hp
  · rw [Rw.bind] at w
    refine w.mono (fun d _ k v H' s0 r => ?_) fun _ z => z
    cases d <;> first | exact k.elim | skip
    exact ⟨_, Tmp.bl (show Tmp X.mg H' (.bl _) v from r), k H' s0⟩
theorem asg_of (hc : isComp e = false) (h : ∀ n tmp, PE X e (tE X.mg W cf ow n tmp x)) (n i : Nat) (y : Str) (py spos : Pos) (hN : X.N.Nodup) (hi : X.N[i]? = some y) (hx : Loc X.env.scope y) (hf : X.fn y = true ∨ X.env.scope.names.lookup y = some .local) :
    PS X (.Assign [.Name y py] e spos) (tAsg (tE X.mg W cf ow n false x) (gName i)) :=
  ps_set hN hi hx (h n false) (by cases e <;> first | rfl | cases hc) hf
theorem Gd.mk' (hp : plainT e = true) (h : ∀ n tmp, PE X e (tE X.mg W cf ow n tmp x)) (hc : isComp e = false := by rfl) : Gd X W cf ow e x := ⟨h, pt_of hp h, fun n op es pos q => (by rw [q] at hp; cases hp), asg_of hc h⟩
theorem Gd.mk3 (pe : ∀ n tmp, PE X e (tE X.mg W cf ow n tmp x)) (pt : ∀ n, PT X e (tT X.mg W cf n x)) (pw : ∀ n op es pos, e = .BoolOp op es pos → PW X e (tT X.mg W cf n x)) (hc : isComp e = false := by rfl) : Gd X W cf ow e x := ⟨pe, pt, pw, asg_of hc pe⟩
/-- a value as a test's answer -/
theorem step2 {n : Nat} {σ : St} {H : Hp} {ρ : Env} {β : Type} {k : D → D → R β} {P : β → Hp → Prop} (sr : SRE X.mg ρ σ H) (w : Rw ((ev cf n true x ρ).bind fun d => (ev cf n true y ρ).bind fun e => k d e) (fun r => ∀ H', Same H H' → P r H') (exW X.mg W σ H)) :
    tE X.mg W cf ow n true x σ H fun v H1 => tE X.mg W cf ow n true y σ H1 fun u H2 => Same H H2 ∧ ∃ d e, Tmp X.mg H2 d v ∧ Tmp X.mg H2 e u ∧ Rw (k d e) (fun r => ∀ H', Same H2 H' → P r H') (exW X.mg W σ H2) := by
  rw [Rw.bind] at w
  refine ⟨ρ, sr, w.mono (fun d _ w1 v H1 s1 t1 => ?_) fun _ z => z⟩
  rw [Rw.bind] at w1
  refine ⟨ρ, sr.mono s1, w1.mono (fun e _ w2 u H2 s2 t2 => ?_) fun _ z => z.mono s1⟩
  have s3 := s1.trans s2
  exact ⟨s3, d, e, Tmp.mono s2 (show Tmp X.mg H1 d v from t1), t2, w2.mono (fun r _ k H' s' => k H' (s3.trans s')) fun _ z => z.mono s3⟩
theorem bin_noex {op : BOp} {d e : D} {q : Str} : bin op d e ≠ .ex q := by
  unfold bin
  split <;> first | (intro h; cases h; done) | skip
  all_goals (split <;> (intro h; cases h))
theorem asB_bl {r : R D} {b : Bool} (h : r.bind asB = .ok b) : r = .ok (.bl b) := by
  cases r with
  | ok d => cases d <;> first | (cases h; rfl) | cases h
  | _ => cases h
/-- a + b and its like -/
theorem gd_bin {op : BOp} (ga : Gd X W cf ow a x) (gb : Gd X W cf ow b y) : Gd X W cf ow (.BinOp a (bopTo op) b pos) (.bin op x y) := by
  refine .mk' rfl fun n tmp => PE.of_V ?_
  cases n with
  | zero => exact ⟨fun _ _ _ _ _ _ ⟨ρ, _, w⟩ => w.elim⟩
  | succ n =>
    refine peI (pe_op (bin_ok op) (ga.pe n true) (gb.pe n true)) fun σ H Q ⟨ρ, sr, w⟩ => ?_
    have w' : Rw ((ev cf n true x ρ).bind fun d => (ev cf n true y ρ).bind fun e => bin op d e) (fun r => ∀ H', Same H H' → ∀ v, Own X.mg H' H r v → Q v H') (exW X.mg W σ H) := by
      refine Rw.mono (show Rw ((ev cf n true x ρ).bind fun d => (ev cf n true y ρ).bind fun e => bin op d e) _ _ from w) (fun r _ k H' s0 v o => k v H' s0 o) fun _ z => z
    obtain ⟨ρ1, sr1, q1⟩ := step2 (ow := ow) sr w'
    refine ⟨ρ1, sr1, q1.mono (fun d _ k v H1 s1 t1 => ?_) fun _ z => z⟩
    obtain ⟨ρ2, sr2, q2⟩ := k v H1 s1 t1
    refine ⟨ρ2, sr2, q2.mono (fun e _ k2 u H2 s2 t2 => ?_) fun _ z => z⟩
    obtain ⟨s3, d', e', td, te, w3⟩ := k2 u H2 s2 t2
    cases hb : bin op d' e' with
    | no => rw [hb] at w3; exact w3.elim
    | ex q => exact absurd hb bin_noex
    | ok r =>
      rw [hb] at w3
      exact ⟨d', e', r, td, te, hb, fun v' H' s' o => w3 H' s' v' (o.older s3)⟩
end
end Mp

end Sec_MpN
section Sec_MpO
set_option autoImplicit false
set_option linter.all false
set_option maxHeartbeats 2000000
set_option maxRecDepth 100000
namespace Mp
open PySem PySem.Spec PyProof.Rows L2

section
variable {X : Cx} {W : WX} {cf : Str → List D → R D} {ow : Str → Bool} {e a b c : Expr} {x y z : E} {pos : Pos}
theorem zero_V {e : Expr} {tmp : Bool} : PE X e (tV X.mg W cf 0 tmp x) := ⟨fun _ _ _ _ _ _ ⟨ρ, _, w⟩ => w.elim⟩
theorem zero_R {e : Expr} {tmp : Bool} : PE X e (tR X.mg W cf 0 tmp x) := ⟨fun _ _ _ _ _ _ ⟨ρ, _, w⟩ => w.elim⟩
theorem zero_T {e : Expr} : PT X e (tT X.mg W cf 0 x) := ⟨fun _ _ _ _ _ _ ⟨ρ, _, w⟩ => w.elim⟩
/-- a name of a slot -/
theorem gd_var {i : Nat} {s : Str} (hN : X.N[i]? = some s) (hv : Vis X.env.scope s) (hd : (s == ("__debug__" : Str)) = false) (hcd : (s == ("__classdict__" : Str)) = false) : Gd X W cf ow (.Name s pos) (.var i) := by
  refine .mk' rfl fun n tmp => ?_
  cases n with
  | zero => exact ⟨fun _ _ _ _ _ _ ⟨ρ, _, w⟩ => w.elim⟩
  | succ n =>
    refine peI (pe_var (i := i) hN hv hd hcd) fun σ H Q ⟨ρ, sr, w⟩ => ?_
    have w : Rw (match getv ρ i with | some (d, own) => if own && isCont d && !tmp then .no else .ok d | none => .no) (fun d => ∀ v H', Same H H' → Md X.mg tmp false H H' d v → Q v H') (exW X.mg W σ H) := w
    cases q : getv ρ i with
    | none => rw [q] at w; exact w.elim
    | some p =>
      obtain ⟨d, own⟩ := p
      rw [q] at w
      simp only at w
      obtain ⟨v, h1, h2, h3⟩ := sr i d own q
      by_cases k : (own && isCont d && !tmp) = true
      · rw [if_pos k] at w; exact w.elim
      · rw [if_neg k] at w
        refine ⟨v, h1, w v H (Same.refl H) ?_⟩
        unfold Md
        split
        · exact h2
        · rename_i ht
          rw [if_neg (by simp)]
          cases own with
          | false => exact h3 rfl
          | true =>
            refine h2.rep ?_
            cases tmp with
            | true => exact absurd rfl ht
            | false => simpa using k
/-- a constant -/
theorem gd_cst {d : D} {v : V} (h : PE X e (tC v)) (hp : plainT e = true) (r : ∀ H, Rep X.mg H d v) (hc : isComp e = false := by rfl) : Gd X W cf ow e (.cst d) := by
  refine Gd.mk' hp (fun n tmp => PE.of_R rfl ?_) hc
  cases n with
  | zero => exact zero_R
  | succ n =>
    refine peI h fun σ H Q ⟨ρ, sr, w⟩ => ?_
    have w : Rw (.ok d) (fun d => ∀ v H', Same H H' → Rep X.mg H' d v → Q v H') (exW X.mg W σ H) := w
    exact w v H (Same.refl H) (r H)
theorem neg_ok' {d r : D} (h : neg d = .ok r) : ∃ i, d = .int i ∧ r = .int (-i) := by
  cases d <;> first | (cases h; done) | skip
  cases h
  exact ⟨_, rfl, rfl⟩
theorem neg_noex {d : D} {q : Str} : neg d ≠ .ex q := by cases d <;> (intro h; cases h)
theorem gd_neg (ga : Gd X W cf ow a x) : Gd X W cf ow (.UnaryOp .USub a pos) (.neg x) := by
  refine .mk' rfl fun n tmp => PE.of_V ?_
  cases n with
  | zero => exact zero_V
  | succ n =>
    refine peI (pe_un un_neg (ga.pe n true)) fun σ H Q ⟨ρ, sr, w⟩ => ?_
    have w : Rw ((ev cf n true x ρ).bind neg) _ _ := w
    rw [Rw.bind] at w
    refine ⟨ρ, sr, w.mono (fun d _ k v H1 s1 t1 => ?_) fun _ z => z⟩
    cases hb : neg d with
    | no => rw [hb] at k; exact k.elim
    | ex q => exact absurd hb neg_noex
    | ok r =>
      rw [hb] at k
      obtain ⟨i, rfl, rfl⟩ := neg_ok' hb
      have e1 := Tmp.int (show Tmp X.mg H1 (.int i) v from t1)
      subst e1
      exact ⟨i, rfl, k _ _ s1 (by simp only [Own, Rep])⟩
theorem eqD_noex {d e : D} {q : Str} : eqD d e ≠ .ex q := by
  unfold eqD
  split <;> split <;> (intro h; cases h)
theorem inD_noex {d e : D} {q : Str} : inD d e ≠ .ex q := by
  unfold inD
  split
  · split <;> (intro h; cases h)
  · split <;> (intro h; cases h)
  · split <;> (intro h; cases h)
  · split <;> (intro h; cases h)
  · intro h; cases h
theorem cmp_noex {op : COp} {d e : D} {q : Str} : cmp op d e ≠ .ex q := by
  have m : ∀ (r : R Bool) (f : Bool → D), (∀ c, r ≠ .ex c) → (r.bind fun b => .ok (f b)) ≠ .ex q := fun r f h => by
    cases r with
    | ok b => intro k; cases k
    | no => intro k; cases k
    | ex c => exact absurd rfl (h c)
  cases op with
  | eq => exact m _ (fun b => .bl b) fun c => eqD_noex
  | ne => exact m _ (fun b => .bl (!b)) fun c => eqD_noex
  | in_ => exact m _ (fun b => .bl b) fun c => inD_noex
  | notin => exact m _ (fun b => .bl (!b)) fun c => inD_noex
  | is_ => cases e <;> first | (intro h; cases h; done) | (cases d <;> (intro h; cases h))
  | isnot => cases e <;> first | (intro h; cases h; done) | (cases d <;> (intro h; cases h))
  | lt => unfold cmp; simp only; split <;> (intro h; cases h)
  | le => cases d <;> first | (intro h; cases h; done) | (cases e <;> (intro h; cases h))
  | gt => cases d <;> first | (intro h; cases h; done) | (cases e <;> (intro h; cases h))
  | ge => cases d <;> first | (intro h; cases h; done) | (cases e <;> (intro h; cases h))
theorem cmp_isbl {op : COp} {d e r : D} (h : cmp op d e = .ok r) : ∃ k, r = .bl k := by
  have m : ∀ (q : R Bool) (f : Bool → D), (q.bind fun k => .ok (f k)) = .ok r → ∃ k, r = f k := fun q f h => by
    cases q <;> cases h
    exact ⟨_, rfl⟩
  cases op with
  | eq => exact m _ (fun b => .bl b) h
  | ne => obtain ⟨k, hk⟩ := m _ (fun b => .bl (!b)) h; exact ⟨_, hk⟩
  | in_ => exact m _ (fun b => .bl b) h
  | notin => obtain ⟨k, hk⟩ := m _ (fun b => .bl (!b)) h; exact ⟨_, hk⟩
  | is_ => cases e <;> first | (cases h; exact ⟨_, rfl⟩) | (cases h; done) | (cases d <;> first | (cases h; exact ⟨_, rfl⟩) | cases h)
  | isnot => cases e <;> first | (cases h; exact ⟨_, rfl⟩) | (cases h; done) | (cases d <;> first | (cases h; exact ⟨_, rfl⟩) | cases h)
  | lt =>
    unfold cmp at h
    simp only at h
    split at h <;> cases h
    exact ⟨_, rfl⟩
  | le => cases d <;> first | (cases h; done) | (cases e <;> first | (cases h; exact ⟨_, rfl⟩) | cases h)
  | gt => cases d <;> first | (cases h; done) | (cases e <;> first | (cases h; exact ⟨_, rfl⟩) | cases h)
  | ge => cases d <;> first | (cases h; done) | (cases e <;> first | (cases h; exact ⟨_, rfl⟩) | cases h)
/-- the wish of a comparison -/
theorem cmp_at {op : COp} {σ : St} {H1 : Hp} {d e : D} {v u : V} {P : D → Hp → Prop} {E : Str → Prop} {Q : VK} (td : Tmp X.mg H1 d v) (te : Tmp X.mg H1 e u) (w : Rw (cmp op d e) (fun r => ∀ H', Same H1 H' → P r H') E)
    (hq : ∀ k, P (.bl k) H1 → Q (.bl k) H1) : rCmp X op v u H1 Q := by
  cases hb : cmp op d e with
  | no => rw [hb] at w; exact w.elim
  | ex q => exact absurd hb cmp_noex
  | ok r =>
    rw [hb] at w
    obtain ⟨k, rfl⟩ := cmp_isbl hb
    exact ⟨d, e, k, td, te, hb, hq k (w H1 (Same.refl H1))⟩
theorem cmp_step {op : COp} {n : Nat} {σ : St} {H : Hp} {ρ : Env} {P : D → Hp → Prop} (sr : SRE X.mg ρ σ H) (w : Rw ((ev cf n true x ρ).bind fun d => (ev cf n true y ρ).bind fun e => cmp op d e) (fun r => ∀ H', Same H H' → P r H') (exW X.mg W σ H)) {Q : VK}
    (hq : ∀ k H', Same H H' → P (.bl k) H' → Q (.bl k) H') : tOp (rCmp X op) (tE X.mg W cf ow n true x) (tE X.mg W cf ow n true y) σ H Q := by
  obtain ⟨ρ1, sr1, q1⟩ := step2 (ow := ow) sr w
  refine ⟨ρ1, sr1, q1.mono (fun d _ k v H1 s1 t1 => ?_) fun _ z => z⟩
  obtain ⟨ρ2, sr2, q2⟩ := k v H1 s1 t1
  refine ⟨ρ2, sr2, q2.mono (fun e _ k2 u H2 s2 t2 => ?_) fun _ z => z⟩
  obtain ⟨s3, d', e', td, te, w3⟩ := k2 u H2 s2 t2
  exact cmp_at (σ := σ) td te w3 fun k p => hq k H2 s3 p
theorem gd_cmp (hu : X.A.units + 64 < cLine) {op : COp} (hm : behindInMarks (copTo op) b = false) (ga : Gd X W cf ow a x) (gb : Gd X W cf ow b y) : Gd X W cf ow (.Compare a [copTo op] [b] pos) (.cmp op x y) := by
  refine .mk3 (fun n tmp => PE.of_V ?_) (fun n => ?_) fun n op es pos q => by cases q
  · cases n with
    | zero => exact zero_V
    | succ n =>
      refine peI (pe_cmpR (cmp_ok hu op) (ga.pe n true) (gb.pe n true) hm) fun σ H Q ⟨ρ, sr, w⟩ => ?_
      refine cmp_step (P := fun r H' => ∀ v, Own X.mg H' H r v → Q v H') sr ?_ fun k H' s0 p => p _ (by simp only [Own, Rep])
      exact Rw.mono (show Rw ((ev cf n true x ρ).bind fun d => (ev cf n true y ρ).bind fun e => cmp op d e) _ _ from w) (fun r _ k H' s0 v o => k v H' s0 o) fun _ z => z
  · cases n with
    | zero => exact zero_T
    | succ n =>
      refine ptI (pt_cmpR (cmp_ok hu op) (ga.pe n true) (gb.pe n true) hm) fun σ H Q ⟨ρ, sr, w⟩ => ?_
      refine cmp_step (P := fun r H' => ∀ k, r = .bl k → Q k H') sr ?_ fun k H' s0 p => ⟨k, rfl, p k rfl⟩
      have w : Rw (((ev cf n true x ρ).bind fun d => (ev cf n true y ρ).bind fun e => cmp op d e).bind asB) _ _ := w
      rw [Rw.bind] at w
      refine w.mono (fun r _ k H' s0 k' e => ?_) fun _ z => z
      subst e
      exact k H' s0
end
end Mp

end Sec_MpO
section Sec_MpP
set_option autoImplicit false
set_option linter.all false
set_option maxHeartbeats 2000000
set_option maxRecDepth 100000
namespace Mp
open PySem PySem.Spec PyProof.Rows L2

section
variable {X : Cx} {W : WX} {cf : Str → List D → R D} {ow : Str → Bool} {e a b c : Expr} {x y z : E} {pos : Pos}
theorem gd_chain (hu : X.A.units + 64 < cLine) {op op' : COp} (hm : behindInMarks (copTo op') c = false) (ga : Gd X W cf ow a x) (gb : Gd X W cf ow b y) (gc : Gd X W cf ow c z) : Gd X W cf ow (.Compare a [copTo op, copTo op'] [b, c] pos) (.chain op op' x y z) := by
  have hl : lastMarks [copTo op, copTo op'] [b, c] = false := hm
  have main : ∀ (n : Nat) (σ : St) (H : Hp) (ρ : Env) (P : D → Hp → Prop) (Q : VK), SRE X.mg ρ σ H → Rw (ev cf (n + 1) true (.chain op op' x y z) ρ) (fun r => ∀ H', Same H H' → P r H') (exW X.mg W σ H) →
      (∀ k H', P (.bl k) H' → Q (.bl k) H') → tChain (rCmp X op) (rCmp X op') (tE X.mg W cf ow n true x) (tE X.mg W cf ow n true y) (tE X.mg W cf ow n true z) σ H Q := by
    intro n σ H ρ P Q sr w hq
    have w : Rw ((ev cf n true x ρ).bind fun d => (ev cf n true y ρ).bind fun e => (cmp op d e).bind fun r => (asB r).bind fun k => if k = true then (ev cf n true z ρ).bind fun f => cmp op' e f else .ok (.bl false)) (fun r => ∀ H', Same H H' → P r H') (exW X.mg W σ H) := w
    obtain ⟨ρ1, sr1, q1⟩ := step2 (ow := ow) sr w
    refine ⟨ρ1, sr1, q1.mono (fun d _ k v H1 s1 t1 => ?_) fun _ z => z⟩
    obtain ⟨ρ2, sr2, q2⟩ := k v H1 s1 t1
    refine ⟨ρ2, sr2, q2.mono (fun e _ k2 u H2 s2 t2 => ?_) fun _ z => z⟩
    obtain ⟨s3, d', e', td, te, w3⟩ := k2 u H2 s2 t2
    rw [Rw.bind] at w3
    refine cmp_at (σ := σ) (P := fun r H' => Rw ((asB r).bind fun k => if k = true then (ev cf n true z ρ).bind fun f => cmp op' e' f else .ok (.bl false)) (fun r => ∀ H', Same H2 H' → P r H') (exW X.mg W σ H2)) (H1 := H2) (E := exW X.mg W σ H2) td te (w3.mono (fun r _ k H' s' => k) fun _ z => z) fun k p => ?_
    refine ⟨k, rfl, ?_⟩
    have p : Rw (if k = true then (ev cf n true z ρ).bind fun f => cmp op' e' f else .ok (.bl false)) (fun r => ∀ H', Same H2 H' → P r H') (exW X.mg W σ H2) := p
    cases k with
    | false => exact hq false H2 (p H2 (Same.refl H2))
    | true =>
      rw [if_pos rfl] at p ⊢
      rw [Rw.bind] at p
      refine ⟨ρ, sr.mono s3, p.mono (fun f _ k3 v3 H3 s4 t3 => ?_) fun _ z => z⟩
      exact cmp_at (σ := σ) (P := P) (te.mono s4) (show Tmp X.mg H3 f v3 from t3) (k3.mono (fun r _ k H' s' => k H' (s4.trans s')) fun _ z => z) fun k p => hq k H3 p
  refine .mk3 (fun n tmp => PE.of_V ?_) (fun n => ?_) fun n op es pos q => by cases q
  · cases n with
    | zero => exact zero_V
    | succ n =>
      refine peI (pe_chain (cmp_ok hu op) (cmp_ok hu op') (ga.pe n true) (gb.pe n true) (gc.pe n true) hl) fun σ H Q ⟨ρ, sr, w⟩ => ?_
      exact main n σ H ρ (fun r H' => ∀ v, Own X.mg H' H r v → Q v H') Q sr (w.mono (fun r _ k H' s0 v o => k v H' s0 o) fun _ z => z) fun k H' p => p _ (by simp only [Own, Rep])
  · cases n with
    | zero => exact zero_T
    | succ n =>
      refine ptI (pt_chain (cmp_ok hu op) (cmp_ok hu op') (ga.pe n true) (gb.pe n true) (gc.pe n true) hl) fun σ H Q ⟨ρ, sr, w⟩ => ?_
      refine main n σ H ρ (fun r H' => ∀ k, r = .bl k → Q k H') _ sr ?_ fun k H' p => ⟨k, rfl, p k rfl⟩
      rw [Rw.bind] at w
      refine w.mono (fun r _ k H' s0 k' e => ?_) fun _ z => z
      subst e
      exact k H' s0
/-- a bool of a reading -/
theorem bl_of {H : Hp} {d : D} {v : V} {P : Bool → Prop} {E : Str → Prop} (t : Tmp X.mg H d v) (w : Rw (asB d) P E) : ∃ k, d = .bl k ∧ v = .bl k ∧ P k := by
  cases d <;> first | exact w.elim | skip
  exact ⟨_, rfl, Tmp.bl t, w⟩
def bopE (op : BoolOp) (x y : E) : E := match op with | .And => .and x y | .Or => .or x y
theorem gd_bop {op : BoolOp} {r : List Expr} (ga : Gd X W cf ow a x) (gb : Gd X W cf ow (.BoolOp op (b :: r) pos) y) : Gd X W cf ow (.BoolOp op (a :: b :: r) pos) (bopE op x y) := by
  have hw : ∀ n, PW X (.BoolOp op (a :: b :: r) pos) (tT X.mg W cf n (bopE op x y)) := by
    intro n
    cases n with
    | zero => exact ⟨fun _ _ _ _ _ _ _ ⟨ρ, _, w⟩ => by cases op <;> exact w.elim⟩
    | succ n =>
      refine ⟨fun wh pins s σ H Q I ⟨ρ, sr, w⟩ => ?_⟩
      cases op with
      | And =>
        have w : Rw (((ev cf n true x ρ).bind fun x => (asB x).bind fun k => if k = true then (ev cf n true y ρ).bind fun y => (asB y).bind fun k => .ok (.bl k) else .ok (.bl false)).bind asB) _ _ := w
        rw [Rw.bind, Rw.bind] at w
        refine (pw_and (ga.pt n) (gb.pw n _ _ _ rfl)).run wh pins s σ H Q I ⟨ρ, sr, Rw.bind.mpr (w.mono (fun d _ k => ?_) fun _ z => z)⟩
        cases d <;> first | exact k.elim | skip
        rename_i kk _
        show Rw (.ok kk) _ _
        intro H' s0
        cases kk with
        | false => exact k H' s0
        | true =>
          rw [if_pos rfl]
          have k : Rw ((ev cf n true y ρ).bind fun y => (asB y).bind fun k => .ok (.bl k)) (fun r => Rw (asB r) (fun b => ∀ H', Same H H' → Q b H') (exW X.mg W σ H)) (exW X.mg W σ H) := k
          rw [Rw.bind] at k
          refine ⟨ρ, sr.mono s0, Rw.bind.mpr (k.mono (fun d _ k2 => ?_) fun _ z => z.mono s0)⟩
          cases d <;> first | exact k2.elim | skip
          exact fun H2 s2 => k2 H2 (s0.trans s2)
      | Or =>
        have w : Rw (((ev cf n true x ρ).bind fun x => (asB x).bind fun k => if k = true then .ok (.bl true) else (ev cf n true y ρ).bind fun y => (asB y).bind fun k => .ok (.bl k)).bind asB) _ _ := w
        rw [Rw.bind, Rw.bind] at w
        refine (pw_or (ga.pt n) (gb.pw n _ _ _ rfl)).run wh pins s σ H Q I ⟨ρ, sr, Rw.bind.mpr (w.mono (fun d _ k => ?_) fun _ z => z)⟩
        cases d <;> first | exact k.elim | skip
        rename_i kk _
        show Rw (.ok kk) _ _
        intro H' s0
        cases kk with
        | true => exact k H' s0
        | false =>
          rw [if_neg (by simp)]
          have k : Rw ((ev cf n true y ρ).bind fun y => (asB y).bind fun k => .ok (.bl k)) (fun r => Rw (asB r) (fun b => ∀ H', Same H H' → Q b H') (exW X.mg W σ H)) (exW X.mg W σ H) := k
          rw [Rw.bind] at k
          refine ⟨ρ, sr.mono s0, Rw.bind.mpr (k.mono (fun d _ k2 => ?_) fun _ z => z.mono s0)⟩
          cases d <;> first | exact k2.elim | skip
          exact fun H2 s2 => k2 H2 (s0.trans s2)
  refine .mk3 (fun n tmp => PE.of_V ?_) (fun n => (hw n).pt) fun n op' es pos' q => hw n
  cases n with
  | zero => exact ⟨fun _ _ _ _ _ _ ⟨ρ, _, w⟩ => by cases op <;> exact w.elim⟩
  | succ n =>
    cases op with
    | And =>
      refine peI (pe_and (ga.pe n true) (gb.pe n true)) fun σ H Q ⟨ρ, sr, w⟩ => ?_
      have w : Rw ((ev cf n true x ρ).bind fun x => (asB x).bind fun k => if k = true then (ev cf n true y ρ).bind fun y => (asB y).bind fun k => .ok (D.bl k) else .ok (D.bl false)) _ _ := w
      rw [Rw.bind] at w
      refine ⟨ρ, sr, w.mono (fun d _ k v H1 s1 t1 => ?_) fun _ z => z⟩
      rw [Rw.bind] at k
      obtain ⟨kk, rfl, rfl, k⟩ := bl_of (show Tmp X.mg H1 d v from t1) k
      refine ⟨kk, rfl, ?_⟩
      cases kk with
      | false => exact k _ H1 s1 (by simp only [Own, Rep])
      | true =>
        rw [if_pos rfl] at k ⊢
        rw [Rw.bind] at k
        refine ⟨ρ, sr.mono s1, k.mono (fun d _ k2 v2 H2 s2 t2 => ?_) fun _ z => z.mono s1⟩
        rw [Rw.bind] at k2
        obtain ⟨k3, rfl, rfl, k2⟩ := bl_of (show Tmp X.mg H2 d v2 from t2) k2
        exact k2 _ H2 (s1.trans s2) (by simp only [Own, Rep])
    | Or =>
      refine peI (pe_or (ga.pe n true) (gb.pe n true)) fun σ H Q ⟨ρ, sr, w⟩ => ?_
      have w : Rw ((ev cf n true x ρ).bind fun x => (asB x).bind fun k => if k = true then .ok (D.bl true) else (ev cf n true y ρ).bind fun y => (asB y).bind fun k => .ok (D.bl k)) _ _ := w
      rw [Rw.bind] at w
      refine ⟨ρ, sr, w.mono (fun d _ k v H1 s1 t1 => ?_) fun _ z => z⟩
      rw [Rw.bind] at k
      obtain ⟨kk, rfl, rfl, k⟩ := bl_of (show Tmp X.mg H1 d v from t1) k
      refine ⟨kk, rfl, ?_⟩
      cases kk with
      | true => exact k _ H1 s1 (by simp only [Own, Rep])
      | false =>
        rw [if_neg (by simp)] at k ⊢
        rw [Rw.bind] at k
        refine ⟨ρ, sr.mono s1, k.mono (fun d _ k2 v2 H2 s2 t2 => ?_) fun _ z => z.mono s1⟩
        rw [Rw.bind] at k2
        obtain ⟨k3, rfl, rfl, k2⟩ := bl_of (show Tmp X.mg H2 d v2 from t2) k2
        exact k2 _ H2 (s1.trans s2) (by simp only [Own, Rep])
theorem pw_one {op : BoolOp} (ga : Gd X W cf ow a x) (n : Nat) : PW X (.BoolOp op [a] pos) (tT X.mg W cf n x) := by
  cases op with
  | And => exact pw_and1 (ga.pt n)
  | Or => exact pw_or1 (ga.pt n)
theorem gd_bop1 {op : BoolOp} (ga : Gd X W cf ow a x) : Gd X W cf ow (.BoolOp op [a] pos) x :=
  .mk3 (fun n tmp => pe_one (ga.pe n tmp)) (fun n => (pw_one ga n).pt) fun n op' es pos' q => pw_one ga n
theorem gd_not (ga : Gd X W cf ow a x) : Gd X W cf ow (.UnaryOp .Not a pos) (.not x) := by
  refine .mk3 (fun n tmp => PE.of_V ?_) (fun n => ?_) fun n op es pos q => by cases q
  · cases n with
    | zero => exact zero_V
    | succ n =>
      refine peI (pe_not (ga.pe n true)) fun σ H Q ⟨ρ, sr, w⟩ => ?_
      have w : Rw ((ev cf n true x ρ).bind fun x => (asB x).bind fun k => .ok (D.bl (!k))) _ _ := w
      rw [Rw.bind] at w
      refine ⟨ρ, sr, w.mono (fun d _ k v H1 s1 t1 => ?_) fun _ z => z⟩
      rw [Rw.bind] at k
      obtain ⟨kk, rfl, rfl, k⟩ := bl_of (show Tmp X.mg H1 d v from t1) k
      exact ⟨kk, rfl, k _ H1 s1 (by simp only [Own, Rep])⟩
  · cases n with
    | zero => exact zero_T
    | succ n =>
      refine ptI (pt_not (ga.pt n)) fun σ H Q ⟨ρ, sr, w⟩ => ⟨ρ, sr, Rw.bind.mpr ?_⟩
      have w : Rw (((ev cf n true x ρ).bind fun x => (asB x).bind fun k => .ok (.bl (!k))).bind asB) _ _ := w
      rw [Rw.bind, Rw.bind] at w
      refine w.mono (fun d _ k => ?_) fun _ z => z
      cases d <;> first | exact k.elim | skip
      exact fun H' s0 => k H' s0
/-- a reading's value, said to be no new thing -/
theorem pe_weak {n : Nat} {tmp fr : Bool} (h : PE X e (tE X.mg W cf ow n tmp x)) (hf : fr = true → fresh ow x = true) :
    PE X e (fun σ H Q => ∃ ρ, SRE X.mg ρ σ H ∧ Rw (ev cf n tmp x ρ) (fun d => ∀ v H', Same H H' → Md X.mg tmp fr H H' d v → Q v H') (exW X.mg W σ H)) := by
  refine ⟨fun pins s σ H Q I ⟨ρ, sr, w⟩ => ?_⟩
  cases q : ev cf n tmp x ρ with
  | no => rw [q] at w; exact w.elim
  | ex c =>
    rw [q] at w
    exact h.run pins s σ H Q I ⟨ρ, sr, by rw [q]; exact w⟩
  | ok d =>
    rw [q] at w
    have w : ∀ v H', Same H H' → Md X.mg tmp fr H H' d v → Q v H' := w
    cases tmp with
    | true => exact h.run pins s σ H Q I ⟨ρ, sr, by rw [q]; exact fun v H' s0 m => w v H' s0 m⟩
    | false =>
      cases fr with
      | true =>
        exact h.run pins s σ H Q I ⟨ρ, sr, by
          rw [q]
          refine fun v H' s0 m => w v H' s0 ?_
          rw [hf rfl] at m
          exact m⟩
      | false =>
        by_cases f : fresh ow x = true
        · refine thn (h.run pins s σ H (fun v H' => Same H H' ∧ Own X.mg H' H d v) I ⟨ρ, sr, ?_⟩) fun u s1 hh => EP.lock (d := d) (H0 := H) hh fun v H' s0 r => w v H' s0 r
          rw [q]
          refine fun v H' s0 m => ⟨s0, ?_⟩
          rw [f] at m
          exact m
        · refine h.run pins s σ H Q I ⟨ρ, sr, ?_⟩
          rw [q]
          refine fun v H' s0 m => w v H' s0 ?_
          have f' : fresh ow x = false := by simpa using f
          rw [f'] at m
          exact m
/-- a if c else b -/
theorem gd_ite (gc : Gd X W cf ow c z) (ga : Gd X W cf ow a x) (gb : Gd X W cf ow b y) : Gd X W cf ow (.IfExp c a b pos) (.ite z x y) := by
  refine .mk3 (fun n tmp => ?_) (fun n => ?_) fun n op es pos q => by cases q
  · cases n with
    | zero => exact ⟨fun _ _ _ _ _ _ ⟨ρ, _, w⟩ => w.elim⟩
    | succ n =>
      have pa := pe_weak (fr := fresh ow x && fresh ow y) (ga.pe n tmp) (fun h => (Bool.and_eq_true_iff.mp h).1)
      have pb := pe_weak (fr := fresh ow x && fresh ow y) (gb.pe n tmp) (fun h => (Bool.and_eq_true_iff.mp h).2)
      refine peI (pe_ifExp (gc.pt n) pa pb) fun σ H Q ⟨ρ, sr, w⟩ => ?_
      have w : Rw ((ev cf n true z ρ).bind fun x' => (asB x').bind fun k => if k = true then ev cf n tmp x ρ else ev cf n tmp y ρ) (fun d => ∀ v H', Same H H' → Md X.mg tmp (fresh ow x && fresh ow y) H H' d v → Q v H') (exW X.mg W σ H) := w
      rw [Rw.bind] at w
      refine ⟨ρ, sr, Rw.bind.mpr (w.mono (fun d _ k => ?_) fun _ z => z)⟩
      rw [Rw.bind] at k
      refine k.mono (fun kk _ k2 H1 s1 => ?_) fun _ z => z
      have fin : ∀ d : D, (∀ v H', Same H H' → Md X.mg tmp (fresh ow x && fresh ow y) H H' d v → Q v H') → ∀ v H', Same H1 H' → Md X.mg tmp (fresh ow x && fresh ow y) H1 H' d v → Q v H' := fun d k v H' s2 m => k v H' (s1.trans s2) (by
        unfold Md at m ⊢
        split
        · rename_i ht; rw [if_pos ht] at m; exact m
        · rename_i ht
          rw [if_neg ht] at m
          split
          · rename_i hf; rw [if_pos hf] at m; exact m.older s1
          · rename_i hf; rw [if_neg hf] at m; exact m)
      cases kk with
      | true => exact (⟨ρ, sr.mono s1, Rw.mono (show Rw (ev cf n tmp x ρ) _ _ from k2) (fun d _ k => fin d k) fun _ z => z.mono s1⟩ : ∃ ρ, SRE X.mg ρ σ H1 ∧ Rw (ev cf n tmp x ρ) (fun d => ∀ v H', Same H1 H' → Md X.mg tmp (fresh ow x && fresh ow y) H1 H' d v → Q v H') (exW X.mg W σ H1))
      | false => exact (⟨ρ, sr.mono s1, Rw.mono (show Rw (ev cf n tmp y ρ) _ _ from k2) (fun d _ k => fin d k) fun _ z => z.mono s1⟩ : ∃ ρ, SRE X.mg ρ σ H1 ∧ Rw (ev cf n tmp y ρ) (fun d => ∀ v H', Same H1 H' → Md X.mg tmp (fresh ow x && fresh ow y) H1 H' d v → Q v H') (exW X.mg W σ H1))
  · cases n with
    | zero => exact zero_T
    | succ n =>
      refine ⟨fun pins s σ H Q I ⟨ρ, sr, w⟩ => ?_⟩
      have w : Rw (((ev cf n true z ρ).bind fun x' => (asB x').bind fun k => if k = true then ev cf n true x ρ else ev cf n true y ρ).bind asB) (fun b => ∀ H', Same H H' → Q b H') (exW X.mg W σ H) := w
      rw [Rw.bind, Rw.bind] at w
      show wpAny _ _ (do if ← isTrue c X.env (eval c X.env) then isTrue a X.env (eval a X.env) else isTrue b X.env (eval b X.env)) _ _ s
      refine wpAny_bind (thn ((gc.pt n).run pins s σ H (fun kk H1 => Same H H1 ∧ Rw ((if kk = true then ev cf n true x ρ else ev cf n true y ρ).bind asB) (fun b => ∀ H', Same H H' → Q b H') (exW X.mg W σ H)) I ⟨ρ, sr, Rw.bind.mpr (w.mono (fun d _ k => ?_) fun _ z => z)⟩) fun kk s1 ⟨H1, I1, s0, k⟩ => ?_)
      · rw [Rw.bind] at k
        exact k.mono (fun kk _ k2 H1 s1 => ⟨s1, Rw.bind.mpr k2⟩) fun _ z => z
      · cases kk with
        | true =>
          rw [if_pos rfl] at k ⊢
          exact (ga.pt n).run pins s1 σ H1 Q I1 ⟨ρ, sr.mono s0, k.mono (fun b _ k2 H2 s2 => k2 H2 (s0.trans s2)) fun _ z => z.mono s0⟩
        | false =>
          rw [if_neg (by simp)] at k ⊢
          exact (gb.pt n).run pins s1 σ H1 Q I1 ⟨ρ, sr.mono s0, k.mono (fun b _ k2 H2 s2 => k2 H2 (s0.trans s2)) fun _ z => z.mono s0⟩
end
end Mp

end Sec_MpP
section Sec_MpQ
set_option autoImplicit false
set_option linter.all false
set_option maxHeartbeats 2000000
set_option maxRecDepth 100000
namespace Mp
open PySem PySem.Spec PyProof.Rows L2

inductive Gds (X : Cx) (W : WX) (cf : Str → List D → R D) (ow : Str → Bool) : List Expr → List E → Prop where
  | nil : Gds X W cf ow [] []
  | cons {e : Expr} {x : E} {es : List Expr} {xs : List E} (h : Gd X W cf ow e x) (s : isStar e = false) (t : Gds X W cf ow es xs) : Gds X W cf ow (e :: es) (x :: xs)
theorem star_plain {e : Expr} {es : List Expr} {env : PySem.Env} (h : isStar e = false) : starEach (e :: es) env = (false, eval e env) :: starEach es env := by
  cases e <;> first | rfl | cases h
section
variable {X : Cx} {W : WX} {cf : Str → List D → R D} {ow : Str → Bool} {e a b c : Expr} {x y z : E} {pos : Pos} {es : List Expr} {xs : List E}
theorem Gds.len (h : Gds X W cf ow es xs) : es.length = xs.length := by
  induction h with
  | nil => rfl
  | cons _ _ _ ih => simp [ih]
theorem Gds.plain (h : Gds X W cf ow es xs) {env : PySem.Env} : (starEach es env).any (·.1) = false := by
  induction h with
  | nil => rfl
  | cons h s t ih => rw [star_plain s, List.any_cons, ih]; rfl
theorem backTo_any {pos : Pos} : ∀ {l : List (Bool × Sem Value)}, (backTo pos l).any (·.1) = l.any (·.1) := by
  intro l
  induction l with
  | nil => rfl
  | cons p r ih =>
    obtain ⟨q, t⟩ := p
    show (q || (backTo pos r).any (·.1)) = (q || r.any (·.1))
    rw [ih]
theorem Gds.plainB (h : Gds X W cf ow es xs) {pos : Pos} {env : PySem.Env} : (backTo pos (starEach es env)).any (·.1) = false := by
  rw [backTo_any, h.plain]
theorem evs_len {f : E → R D} : ∀ {xs : List E} {ds : List D}, evs f xs = .ok ds → ds.length = xs.length
  | [], ds, h => by cases h; rfl
  | x :: xs, ds, h => by
    unfold evs at h
    cases q : f x with
    | no => rw [q] at h; cases h
    | ex _ => rw [q] at h; cases h
    | ok d =>
      rw [q] at h
      have h : ((evs f xs).bind fun ds => .ok (d :: ds)) = .ok ds := h
      cases q2 : evs f xs with
      | no => rw [q2] at h; cases h
      | ex _ => rw [q2] at h; cases h
      | ok ds' =>
        rw [q2] at h
        cases h
        simp [evs_len q2]
theorem tmpsM_X {H : Hp} : ∀ {ds : List D} {vs : List V}, tA.TmpsM X.mg H ds vs → Tmps X H ds vs
  | [], _, h => h
  | _ :: _, _, ⟨v, r, e, h1, h2⟩ => ⟨v, r, e, h1, tmpsM_X h2⟩
theorem pa_gd (h : Gds X W cf ow es xs) (n : Nat) (tmp : Bool) : PA X es (tA X.mg W cf n tmp xs) := by
  induction h with
  | nil =>
    refine ⟨fun pos pins s σ H Q I ⟨ρ, sr, w⟩ => pa_nil.run pos pins s σ H Q I ?_⟩
    have w : ∀ vs H', Same H H' → (if tmp = true then tA.TmpsM X.mg H' [] vs else Reps X.mg H' [] vs) → Q vs H' := w
    refine w [] H (Same.refl H) ?_
    split
    · rfl
    · exact Reps.nil
  | cons g st t ih =>
    rename_i e x es xs
    refine ⟨fun pos pins s σ H Q I ⟨ρ, sr, w⟩ => (pa_cons (pe_weak (fr := false) (g.pe n tmp) (by simp)) ih (star_plain st)).run pos pins s σ H Q I ?_⟩
    have w : Rw ((ev cf n tmp x ρ).bind fun d => (evs (ev cf n tmp · ρ) xs).bind fun ds => .ok (d :: ds)) (fun ds => ∀ vs H', Same H H' → (if tmp = true then tA.TmpsM X.mg H' ds vs else Reps X.mg H' ds vs) → Q vs H') (exW X.mg W σ H) := w
    rw [Rw.bind] at w
    refine ⟨ρ, sr, w.mono (fun d _ k v H1 s1 t1 => ?_) fun _ z => z⟩
    rw [Rw.bind] at k
    refine ⟨ρ, sr.mono s1, k.mono (fun ds _ k2 vs H2 s2 t2 => ?_) fun _ z => z.mono s1⟩
    have k2 : ∀ vs H', Same H H' → (if tmp = true then tA.TmpsM X.mg H' (d :: ds) vs else Reps X.mg H' (d :: ds) vs) → Q vs H' := k2
    refine k2 (v :: vs) H2 (s1.trans s2) ?_
    cases tmp with
    | true =>
      rw [if_pos rfl] at t2 ⊢
      exact ⟨v, vs, rfl, Tmp.mono s2 (show Tmp X.mg H1 d v from t1), t2⟩
    | false =>
      rw [if_neg (by simp)] at t2 ⊢
      exact Reps.cons (Rep.mono (Ke.of s2) _ _ (show Rep X.mg H1 d v from t1)) t2
/-- tuples and lists that are written out -/
theorem gd_tup {k : Nat} (h : Gds X W cf ow es xs) (l : es.length ≤ sizeLine) : Gd X W cf ow (.Tuple es k pos) (.tup xs) := by
  refine .mk' rfl fun n tmp => PE.of_V ?_
  cases n with
  | zero => exact zero_V
  | succ n =>
    refine peI (pe_tup (pa_gd h n false)) fun σ H Q ⟨ρ, sr, w⟩ => ?_
    have w : Rw ((evs (ev cf n false · ρ) xs).bind fun ds => .ok (D.tup ds)) (fun d => ∀ v H', Same H H' → Own X.mg H' H d v → Q v H') (exW X.mg W σ H) := w
    rw [Rw.bind] at w
    refine ⟨ρ, sr, w.mono (fun ds q k vs H1 s1 t1 => ?_) fun _ z => z⟩
    have t1 : Reps X.mg H1 ds vs := t1
    refine ⟨by rw [← t1.length, evs_len q, ← h.len]; exact l, fun p hp => ?_⟩
    exact okV.tup (X := X) (H := H1) (fun v H' s' o => k v H' (s1.trans s') (o.older s1)) t1 hp
theorem gd_lst (h : Gds X W cf ow es xs) (l : es.length ≤ sizeLine) : Gd X W cf ow (.List es pos) (.lst xs) := by
  refine .mk' rfl fun n tmp => PE.of_V ?_
  cases n with
  | zero => exact zero_V
  | succ n =>
    refine peI (pe_lst (pa_gd h n false)) fun σ H Q ⟨ρ, sr, w⟩ => ?_
    have w : Rw ((evs (ev cf n false · ρ) xs).bind fun ds => .ok (D.lst ds)) (fun d => ∀ v H', Same H H' → Own X.mg H' H d v → Q v H') (exW X.mg W σ H) := w
    rw [Rw.bind] at w
    refine ⟨ρ, sr, w.mono (fun ds q k vs H1 s1 t1 => ?_) fun _ z => z⟩
    have t1 : Reps X.mg H1 ds vs := t1
    refine ⟨by rw [← t1.length, evs_len q, ← h.len]; exact l, fun p hp => ?_⟩
    exact okV.lst (X := X) (H := H1) (fun v H' s' o => k v H' (s1.trans s') (o.older s1)) t1 hp
/-- [..] * n -/
theorem gd_rep (h : Gds X W cf ow es xs) (l : es.length ≤ sizeLine) {p2 : Pos} (gb : Gd X W cf ow b y) : Gd X W cf ow (.BinOp (.List es p2) .Mult b pos) (.rep xs y) := by
  refine .mk' rfl fun n tmp => PE.of_V ?_
  cases n with
  | zero => exact zero_V
  | succ n =>
    refine peI (pe_op op_rep (pe_lst (pa_gd h n false)) (gb.pe n true)) fun σ H Q ⟨ρ, sr, w⟩ => ?_
    have w : Rw ((evs (ev cf n false · ρ) xs).bind fun ds => (ev cf n true y ρ).bind fun y => match y with | .int j => if decide (0 ≤ j ∧ j < 2 ^ 62) && decide (ds.length * j.toNat ≤ line) then .ok (D.lst (List.replicate j.toNat ds).flatten) else .no | _ => .no)
      (fun d => ∀ v H', Same H H' → Own X.mg H' H d v → Q v H') (exW X.mg W σ H) := w
    rw [Rw.bind] at w
    refine ⟨ρ, sr, w.mono (fun ds q k vs H1 s1 t1 => ?_) fun _ z => z⟩
    have t1 : Reps X.mg H1 ds vs := t1
    refine ⟨by rw [← t1.length, evs_len q, ← h.len]; exact l, fun p hp => ?_⟩
    rw [Rw.bind] at k
    have s1' := s1.trans (Same.upd (o := .lst vs) hp)
    refine ⟨ρ, sr.mono s1', k.mono (fun d _ k2 v H2 s2 t2 => ?_) fun _ z => z.mono s1'⟩
    cases d <;> first | exact k2.elim | skip
    rename_i j _
    have e1 := Tmp.int (show Tmp X.mg H2 (.int j) v from t2)
    subst e1
    simp only at k2
    split at k2
    · rename_i c
      simp only [Bool.and_eq_true, decide_eq_true_eq] at c
      have k2 : ∀ v H', Same H H' → Own X.mg H' H (D.lst (List.replicate j.toNat ds).flatten) v → Q v H' := k2
      have t3 : Reps X.mg H2 ds vs := (t1.mono (Ke.upd (.inl hp))).mono (Ke.of s2)
      refine ⟨p, j, vs, rfl, rfl, s2 _ _ upd_same, by have := c.1.1; omega, by have := c.1.2; omega, by rw [← t1.length]; exact c.2, fun p' hp' => ?_⟩
      exact okV.lst (X := X) (H := H2) (fun v H' s' o => k2 v H' ((s1'.trans s2).trans s') (o.older (s1'.trans s2))) (t3.rep _) hp'
    · exact k2.elim
theorem ix_noex {d e : D} {q : Str} : ix d e ≠ .ex q := by
  have m : ∀ (o : Option D), ofO o ≠ .ex q := fun o => by cases o <;> (intro h; cases h)
  unfold ix
  split
  · exact m _
  · exact m _
  · exact m _
  · split
    · exact m _
    · intro h; cases h
  · intro h; cases h
theorem slice_noex {d : D} {l h : Option Int} {q : Str} : slice d l h ≠ .ex q := by cases d <;> (intro h; cases h)
/-- a[b] -/
theorem gd_ix (hu : X.A.units + 64 < cLine) (hs : PlainIx b) (ga : Gd X W cf ow a x) (gb : Gd X W cf ow b y) : Gd X W cf ow (.Subscript a b pos) (.ix x y) := by
  refine .mk' rfl fun n tmp => PE.of_R rfl ?_
  cases n with
  | zero => exact zero_R
  | succ n =>
    refine peI (pe_ix (ixD_ok hu) (ga.pe n true) (gb.pe n true) hs) fun σ H Q ⟨ρ, sr, w⟩ => ?_
    have w' : Rw ((ev cf n true x ρ).bind fun d => (ev cf n true y ρ).bind fun e => ix d e) (fun r => ∀ H', Same H H' → ∀ v, Rep X.mg H' r v → Q v H') (exW X.mg W σ H) := by
      refine Rw.mono (show Rw ((ev cf n true x ρ).bind fun d => (ev cf n true y ρ).bind fun e => ix d e) _ _ from w) (fun r _ k H' s0 v o => k v H' s0 o) fun _ z => z
    obtain ⟨ρ1, sr1, q1⟩ := step2 (ow := ow) sr w'
    refine ⟨ρ1, sr1, q1.mono (fun d _ k v H1 s1 t1 => ?_) fun _ z => z⟩
    obtain ⟨ρ2, sr2, q2⟩ := k v H1 s1 t1
    refine ⟨ρ2, sr2, q2.mono (fun e _ k2 u H2 s2 t2 => ?_) fun _ z => z⟩
    obtain ⟨s3, d', e', td, te, w3⟩ := k2 u H2 s2 t2
    cases hb : ix d' e' with
    | no => rw [hb] at w3; exact w3.elim
    | ex q => exact absurd hb ix_noex
    | ok r =>
      rw [hb] at w3
      exact ⟨d', e', r, td, te, hb, fun v' o => w3 H2 (Same.refl H2) v' o⟩
/-- a part of a slice -/
inductive Gdo (X : Cx) (W : WX) (cf : Str → List D → R D) (ow : Str → Bool) : Option Expr → Option E → Prop where
  | none : Gdo X W cf ow none none
  | some {e : Expr} {x : E} (h : Gd X W cf ow e x) : Gdo X W cf ow (some e) (some x)
def tO (mg : Str → Option Value) (W : WX) (cf : Str → List D → R D) (n : Nat) (o : Option E) : TO := fun σ H Q => ∃ ρ, SRE mg ρ σ H ∧ Rw (evo (ev cf n true · ρ) o) (fun i => ∀ H', Same H H' → Q i H') (exW mg W σ H)
theorem po_gd {oe : Option Expr} {ox : Option E} (h : Gdo X W cf ow oe ox) (n : Nat) : PO X oe (tO X.mg W cf n ox) := by
  cases h with
  | none =>
    refine ⟨fun pins s σ H Q I ⟨ρ, sr, w⟩ => po_none.run pins s σ H Q I ?_⟩
    exact (show ∀ H', Same H H' → Q none H' from w) H (Same.refl H)
  | some g =>
    rename_i e x
    refine ⟨fun pins s σ H Q I ⟨ρ, sr, w⟩ => (po_some (g.pe n true)).run pins s σ H Q I ?_⟩
    have w : Rw ((ev cf n true x ρ).bind fun d => (asI d).bind fun i => .ok (some i)) (fun i => ∀ H', Same H H' → Q i H') (exW X.mg W σ H) := w
    rw [Rw.bind] at w
    refine ⟨ρ, sr, w.mono (fun d _ k v H1 s1 t1 => ?_) fun _ z => z⟩
    cases d <;> first | exact k.elim | skip
    rename_i i _
    have e1 := Tmp.int (show Tmp X.mg H1 (.int i) v from t1)
    exact ⟨i, e1, k H1 s1⟩
theorem gd_slice {lo hi : Option Expr} {lx hx : Option E} {p2 : Pos} (ga : Gd X W cf ow a x) (gl : Gdo X W cf ow lo lx) (gh : Gdo X W cf ow hi hx) : Gd X W cf ow (.Subscript a (.Slice lo hi none p2) pos) (.slice x lx hx) := by
  refine .mk' rfl fun n tmp => PE.of_V ?_
  cases n with
  | zero => exact zero_V
  | succ n =>
    refine peI (pe_slice slD_ok (ga.pe n true) (po_gd gl n) (po_gd gh n)) fun σ H Q ⟨ρ, sr, w⟩ => ?_
    have w : Rw ((ev cf n true x ρ).bind fun d => (evo (ev cf n true · ρ) lx).bind fun l => (evo (ev cf n true · ρ) hx).bind fun h => Mp.slice d l h) (fun d => ∀ v H', Same H H' → Own X.mg H' H d v → Q v H') (exW X.mg W σ H) := w
    rw [Rw.bind] at w
    refine ⟨ρ, sr, w.mono (fun d _ k v H1 s1 t1 => ?_) fun _ z => z⟩
    rw [Rw.bind] at k
    refine ⟨ρ, sr.mono s1, k.mono (fun l _ k H2 s2 => ?_) fun _ z => z.mono s1⟩
    rw [Rw.bind] at k
    have s3 := s1.trans s2
    refine ⟨ρ, sr.mono s3, k.mono (fun h _ k H3 s4 => ?_) fun _ z => z.mono s3⟩
    cases hb : Mp.slice d l h with
    | no => rw [hb] at k; exact k.elim
    | ex q => exact absurd hb slice_noex
    | ok r =>
      rw [hb] at k
      have s5 := s3.trans s4
      exact ⟨d, r, Tmp.mono (s2.trans s4) (show Tmp X.mg H1 d v from t1), hb, fun v' H' s' o => k v' H' (s5.trans s') (o.older s5)⟩
end
end Mp

end Sec_MpQ
section Sec_MpR
set_option autoImplicit false
set_option linter.all false
set_option maxHeartbeats 2000000
set_option maxRecDepth 100000
namespace Mp
open PySem PySem.Spec PyProof.Rows L2

section
variable {X : Cx} {W : WX} {cf : Str → List D → R D} {ow : Str → Bool} {e a b c : Expr} {x y z : E} {pos : Pos} {es : List Expr} {xs : List E}
theorem bind_noex {α β : Type} {r : R α} {f : α → R β} {q : Str} (h1 : ∀ c, r ≠ .ex c) (h2 : ∀ a c, f a ≠ .ex c) : r.bind f ≠ .ex q := by
  cases r with
  | ok a => exact h2 a q
  | ex c => exact absurd rfl (h1 c)
  | no => intro h; cases h
theorem ofO_noex {α : Type} {o : Option α} {q : Str} : ofO o ≠ .ex q := by cases o <;> (intro h; cases h)
theorem bi_noex {t : Bi} {ds : List D} {q : Str} : bi t ds ≠ .ex q := by
  cases t with
  | len => unfold bi biLen; simp only; split <;> (intro h; cases h)
  | all => unfold bi biAll; simp only; split <;> first | exact bind_noex (fun c => ofO_noex) (fun a c h => by cases h) | (intro h; cases h)
  | any => unfold bi biAny; simp only; split <;> first | exact bind_noex (fun c => ofO_noex) (fun a c h => by cases h) | (intro h; cases h)
  | sum => unfold bi biSum; simp only; split <;> first | exact bind_noex (fun c => ofO_noex) (fun a c h => by cases h) | (intro h; cases h)
  | max => unfold bi biMax; simp only; split <;> first | (intro h; cases h; done) | (split <;> (intro h; cases h))
  | min => unfold bi biMin; simp only; split <;> first | (intro h; cases h; done) | (split <;> (intro h; cases h))
  | sorted => unfold bi biSorted; simp only; split <;> first | (intro h; cases h; done) | (split <;> (intro h; cases h))
  | sortset => intro h; cases h
  | minvals => intro h; cases h
  | list => unfold bi biList; simp only; split <;> (intro h; cases h)
  | tuple => unfold bi biTuple; simp only; split <;> (intro h; cases h)
  | dict =>
    unfold bi biDict
    simp only
    split
    · split
      · split <;> (intro h; cases h)
      · intro h; cases h
    · intro h; cases h
  | int => unfold bi biInt; simp only; split <;> (intro h; cases h)
  | str => intro h; cases h
  | isi t => unfold bi biIsi; simp only; split <;> first | (intro h; cases h; done) | (split <;> (intro h; cases h))
/-- a call of a built-in -/
theorem pe_callV {r : List V → Hp → VK → Prop} {u : Value} {f : Str} {t : TA} {p : Pos} (hc : CallR X u r) (hk : (∃ id, u = .builtin id) ∨ ∃ T, u = .type T) (hg : Gl X f) (hm : X.mg f = none) (hv : bootBuiltins f = some u) (hn : f ≠ "__name__") (hdb : (f == ("__debug__" : Str)) = false)
    (ha : PA X (e :: es) t) (he : starEach (e :: es) X.env = (false, eval e X.env) :: starEach es X.env) (hpl : (backTo pos (starEach es X.env)).any (·.1) = false) : PE X (.Call (.Name f p) (e :: es) [] pos) (tCB r t) := by
  rcases hk with ⟨id, rfl⟩ | ⟨T, rfl⟩
  · exact pe_callB hc hg hm hv ha hn hdb he hpl
  · exact pe_callTy hc hg hm hv ha hn hdb he hpl
theorem gd_bi (hc : X.calm = true) (hu : X.A.units + 64 < cLine) {t : Bi} (ho : t ≠ .sortset ∧ t ≠ .minvals ∧ ∀ k, t ≠ .isi k) {f : Str} {p : Pos} (hg : Gl X f) (hm : X.mg f = none) (hv : bootBuiltins f = some (biTo t)) (hn : f ≠ "__name__") (hdb : (f == ("__debug__" : Str)) = false)
    (h : Gds X W cf ow (e :: es) xs) : Gd X W cf ow (.Call (.Name f p) (e :: es) [] pos) (.bi t xs) := by
  refine .mk' rfl fun n tmp => PE.of_V ?_
  cases n with
  | zero => exact zero_V
  | succ n =>
    cases h with
    | cons g st tl =>
      rename_i x0 xs0
      have hk : (∃ id, biTo t = .builtin id) ∨ ∃ T, biTo t = .type T := by
        cases t <;> first | exact .inl ⟨_, rfl⟩ | exact .inr ⟨_, rfl⟩ | exact absurd rfl ho.1 | exact absurd rfl ho.2.1 | exact absurd rfl (ho.2.2 _)
      refine peI (pe_callV (bi_ok hc hu t ho) hk hg hm hv hn hdb (pa_gd (.cons g st tl) n true) (star_plain st) tl.plainB) fun σ H Q ⟨ρ, sr, w⟩ => ?_
      have w : Rw ((evs (ev cf n true · ρ) (x0 :: xs0)).bind fun ds => bi t ds) (fun d => ∀ v H', Same H H' → Own X.mg H' H d v → Q v H') (exW X.mg W σ H) := w
      rw [Rw.bind] at w
      refine ⟨ρ, sr, w.mono (fun ds _ k vs H1 s1 t1 => ?_) fun _ z => z⟩
      cases hb : bi t ds with
      | no => rw [hb] at k; exact k.elim
      | ex q => exact absurd hb bi_noex
      | ok r =>
        rw [hb] at k
        exact ⟨ds, r, tmpsM_X t1, hb, fun v H' s' o => k v H' (s1.trans s') (o.older s1)⟩
def tyName : Ty → String
  | .int => "int" | .bool => "bool" | .str => "str" | .tuple => "tuple" | .list => "list"
theorem cr_isi : CallR X (.builtin "isinstance") (fun vs H Q => ∃ v t d, vs = [v, .ty (tyName t)] ∧ Tmp X.mg H d v ∧ d.flat = true ∧ Q (.bl (isTy t d)) H) := by
  intro pins s σ H vs us Q I rv ⟨v, t, d, e, hx, f, q⟩
  subst e
  obtain ⟨u, u', rfl, ru, ru'⟩ := vals2' rv
  have e2 : u' = .type (tyName t) := ru'
  subst e2
  have := isi_run (t := t) I hx ru f q
  cases t <;> exact this
theorem gd_isi {t : Ty} {p p2 : Pos} {f T : Str} (hg : Gl X f) (hm : X.mg f = none) (hv : bootBuiltins f = some (.builtin "isinstance")) (hn : f ≠ "__name__") (hdb : (f == ("__debug__" : Str)) = false)
    (hg2 : Gl X T) (hm2 : X.mg T = none) (hv2 : bootBuiltins T = some (.type (tyName t))) (hn2 : T ≠ "__name__") (hdb2 : (T == ("__debug__" : Str)) = false) (ga : Gd X W cf ow a x) (st : isStar a = false) : Gd X W cf ow (.Call (.Name f p) [a, .Name T p2] [] pos) (.bi (.isi t) [x]) := by
  refine .mk' rfl fun n tmp => PE.of_V ?_
  cases n with
  | zero => exact zero_V
  | succ n =>
    have pt : PE X (.Name T p2) (tC (.ty (tyName t))) := pe_bltn hg2 hm2 hv2 rfl hn2 hdb2
    refine peI (pe_callB cr_isi hg hm hv (pa_cons (ga.pe n true) (pa_cons pt pa_nil) (star_plain st)) hn hdb (star_plain st)) fun σ H Q ⟨ρ, sr, w⟩ => ?_
    have w : Rw ((evs (ev cf n true · ρ) [x]).bind fun ds => bi (.isi t) ds) (fun d => ∀ v H', Same H H' → Own X.mg H' H d v → Q v H') (exW X.mg W σ H) := w
    have w : Rw (((ev cf n true x ρ).bind fun d => .ok [d]).bind fun ds => bi (.isi t) ds) (fun d => ∀ v H', Same H H' → Own X.mg H' H d v → Q v H') (exW X.mg W σ H) := w
    rw [Rw.bind, Rw.bind] at w
    refine ⟨ρ, sr, w.mono (fun d _ k v H1 s1 t1 => ?_) fun _ z => z⟩
    have k : Rw (if d.flat = true then .ok (D.bl (isTy t d)) else .no) (fun d => ∀ v H', Same H H' → Own X.mg H' H d v → Q v H') (exW X.mg W σ H) := k
    by_cases f : d.flat = true
    · rw [if_pos f] at k
      exact ⟨v, t, d, rfl, t1, f, k _ H1 s1 (by simp only [Own, Rep])⟩
    · rw [if_neg f] at k; exact k.elim

/-! ### calls of defs -/
def spF (mg : Str → Option Value) (cf : Str → List D → R D) (ow : Str → Bool) (f : Str) : Sp := fun vs H Q E => ∃ ds, Reps mg H ds vs ∧
  Rw (cf f ds) (fun d => ∀ v H', Same H H' → (if ow f = true then Own mg H' H d v else Rep mg H' d v) → Q v H') (fun c => ∀ C H', mg c = some (.ref C) → Same H H' → E (.ref C) none H')
/-- a def that can be called -/
def CallOk (X : Cx) (cf : Str → List D → R D) (ow : Str → Bool) (f : Str) : Prop := ∃ (k : Nat) (fa : Addr) (fd : FuncData) (ps : List Str), X.mg f = some (.ref fa) ∧ PySem.W.keepIn X.K (.ref fa) = true ∧
  FnOk X.prog X.w X.K X.mg X.base (L2.CX X.prog X.w) k fa fd ps (spF X.mg cf ow f) ∧ Binds X.K fd ps [] ∧ Room k X.A
theorem gd_call (tk : L2.Takes X W) {f : Str} {p : Pos} (ck : CallOk X cf ow f) (hg : Gl X f) (hdb : (f == ("__debug__" : Str)) = false) (h : Gds X W cf ow es xs) : Gd X W cf ow (.Call (.Name f p) es [] pos) (.call f xs) := by
  obtain ⟨k, fa, fd, ps, hm, hk, F, hb, hr⟩ := ck
  have run : ∀ n tmp, PE X (.Call (.Name f p) es [] pos) (fun σ H Q => ∃ ρ, SRE X.mg ρ σ H ∧ Rw (ev cf (n + 1) tmp (.call f xs) ρ) (fun d => ∀ v H', Same H H' → (if ow f = true then Own X.mg H' H d v else Rep X.mg H' d v) → Q v H') (exW X.mg W σ H)) := by
    intro n tmp
    have go : ∀ (σ : St) (H : Hp) (Q : VK) (ρ : Env), SRE X.mg ρ σ H → Rw (ev cf (n + 1) tmp (.call f xs) ρ) (fun d => ∀ v H', Same H H' → (if ow f = true then Own X.mg H' H d v else Rep X.mg H' d v) → Q v H') (exW X.mg W σ H) →
        tA X.mg W cf n false xs σ H fun vs H1 => spF X.mg cf ow f vs H1 Q (WE W σ) := by
      intro σ H Q ρ sr w
      have w : Rw ((evs (ev cf n false · ρ) xs).bind fun ds => cf f ds) (fun d => ∀ v H', Same H H' → (if ow f = true then Own X.mg H' H d v else Rep X.mg H' d v) → Q v H') (exW X.mg W σ H) := w
      rw [Rw.bind] at w
      refine ⟨ρ, sr, w.mono (fun ds _ k vs H1 s1 t1 => ⟨ds, t1, k.mono (fun d _ q v H' s' r => q v H' (s1.trans s') ?_) fun c z C H' hC s' => z C H' hC (s1.trans s')⟩) fun _ z => z⟩
      split
      · rename_i o
        rw [if_pos o] at r
        exact r.older s1
      · rename_i o
        rw [if_neg o] at r
        exact r
    cases h with
    | nil =>
      refine ⟨fun pins s σ H Q I ⟨ρ, sr, w⟩ => ?_⟩
      refine wpAny_Call_Name_kw (ld_glob I hg hm ?_ hdb)
      have q := go σ H Q ρ sr w
      obtain ⟨ρ', sr', q⟩ := q
      have q : ∀ vs H', Same H H' → Reps X.mg H' [] vs → spF X.mg cf ow f vs H' Q (WE W σ) := q
      exact PySem.W.callWith_K0 I.kIn hk (run_fnS (us := []) F hr hb (passAt tk σ) I .nil (q [] H (Same.refl H) Reps.nil))
    | cons g st tl => exact peI (pe_callS F hr hg hm hk hb (fun σ => passAt tk σ) (pa_gd (.cons g st tl) n false) hdb (star_plain st) tl.plainB) fun σ H Q ⟨ρ, sr, w⟩ => go σ H Q ρ sr w
  refine .mk' rfl fun n tmp => ?_
  by_cases o : ow f = true
  · refine PE.of_V ?_
    cases n with
    | zero => exact zero_V
    | succ n =>
      refine peI (run n tmp) fun σ H Q ⟨ρ, sr, w⟩ => ⟨ρ, sr, w.mono (fun d _ k v H' s0 r => k v H' s0 ?_) fun _ z => z⟩
      rw [if_pos o] at r
      exact r
  · refine PE.of_R (show ow f = false by simpa using o) ?_
    cases n with
    | zero => exact zero_R
    | succ n =>
      refine peI (run n tmp) fun σ H Q ⟨ρ, sr, w⟩ => ⟨ρ, sr, w.mono (fun d _ k v H' s0 r => k v H' s0 ?_) fun _ z => z⟩
      rw [if_neg o] at r
      exact r
end
end Mp

end Sec_MpR
section Sec_MpS
set_option autoImplicit false
set_option linter.all false
set_option maxHeartbeats 2000000
set_option maxRecDepth 100000
namespace Mp
open PySem PySem.Spec PyProof.Rows L2

section
variable {X : Cx} {pins : List (Addr × Obj)} {s : Shared} {σ : St} {H : Hp} {Q : VK}
theorem VO.getD {e : Option D} {u : Option Value} {x : D} {y : V} {w : Value} (h : VO X H e u) (rx : Rep X.mg H x y) (rw' : RelV y w) : ∃ v, RelV v (u.getD w) ∧ Rep X.mg H (e.getD x) v := by
  cases e <;> cases u <;> first | exact h.elim | skip
  · exact ⟨y, rw', rx⟩
  · exact h
theorem dic_isD {kvs : List (D × D)} {v : V} (h : Tmp X.mg H (.dic kvs) v) : ∃ a, v = .ref a ∧ IsD H a := by
  obtain ⟨a, rfl, ⟨kv, h1, _⟩ | ⟨kv, h1, _⟩⟩ := h
  · exact ⟨a, rfl, .inl ⟨kv, h1⟩⟩
  · exact ⟨a, rfl, .inr ⟨kv, h1⟩⟩
/-- d.get(k) -/
theorem get_run (hu : X.A.units + 64 < cLine) (I : L2.Inv X pins σ H s) {kvs : List (D × D)} {d : D} {x y : V} {u v : Value} (hx : Tmp X.mg H (.dic kvs) x) (hy : Rep X.mg H d y) (k : d.isK = true) (sk : sameKind kvs d = true) (rx : RelV x u) (ry : RelV y v)
    (q : ∀ v, Rep X.mg H ((dfind kvs d).getD .non) v → Q v H) : wpAny (model X.prog X.w) X.A (call (.builtin "dict.get") [u, v]) (EP X pins σ Q) X.xe s := by
  obtain ⟨a, rfl, hd, hh⟩ := dict_raw I hx hy k sk
  cases rx
  have rn : Rep X.mg H .non .non := by simp only [Rep]
  have fin : ∀ (o : Option Value) (n : Nat), VO X H (dfind kvs d) o → EP X pins σ Q (o.getD .none) { s with toks := n } := fun o n h => by
    obtain ⟨w, r1, r2⟩ := h.getD rn (show RelV .non .none from rfl)
    exact ⟨w, H, I.tok n, r1, q w r2⟩
  rcases hh with ⟨kk, vs, rfl, dd, vo⟩ | ⟨b, kk, ys, rfl, hk, dd, vo⟩
  · exact call_meetsIn PySem.F.slot_dict_get dd.typeIs PySem.F.entry_dict_get (PySem.F.args_dict_get_2 _ v) (meets_dict_get (mixKind X.prog X.w) a (kV_is ry) hd) ⟨_, dd.mapOf, fin _ _ vo⟩
  · cases ry
    exact call_meetsIn PySem.F.slot_dict_get dd.typeIs PySem.F.entry_dict_get (PySem.F.args_dict_get_2 _ (.ref b)) (meetsH_dict_get (tupleKind (mixKind X.prog X.w)) a b hd) ⟨tupleKind_room_in1 (by omega), kk, ys, hk, dd, fin _ _ vo⟩
theorem get_run2 (hu : X.A.units + 64 < cLine) (I : L2.Inv X pins σ H s) {kvs : List (D × D)} {d e : D} {x y z : V} {u v w : Value} (hx : Tmp X.mg H (.dic kvs) x) (hy : Rep X.mg H d y) (hz : Rep X.mg H e z) (k : d.isK = true) (sk : sameKind kvs d = true) (rx : RelV x u) (ry : RelV y v) (rz : RelV z w)
    (q : ∀ v, Rep X.mg H ((dfind kvs d).getD e) v → Q v H) : wpAny (model X.prog X.w) X.A (call (.builtin "dict.get") [u, v, w]) (EP X pins σ Q) X.xe s := by
  obtain ⟨a, rfl, hd, hh⟩ := dict_raw I hx hy k sk
  cases rx
  have fin : ∀ (o : Option Value) (n : Nat), VO X H (dfind kvs d) o → EP X pins σ Q (o.getD w) { s with toks := n } := fun o n h => by
    obtain ⟨w', r1, r2⟩ := h.getD hz rz
    exact ⟨w', H, I.tok n, r1, q w' r2⟩
  rcases hh with ⟨kk, vs, rfl, dd, vo⟩ | ⟨b, kk, ys, rfl, hk, dd, vo⟩
  · exact call_meetsIn PySem.F.slot_dict_get dd.typeIs PySem.F.entry_dict_get (PySem.F.args_dict_get_3 _ v w) (meets_dict_get_default (mixKind X.prog X.w) a (kV_is ry) hd w) ⟨_, dd.mapOf, fin _ _ vo⟩
  · cases ry
    exact call_meetsIn PySem.F.slot_dict_get dd.typeIs PySem.F.entry_dict_get (PySem.F.args_dict_get_3 _ (.ref b) w) (meetsH_dict_get_default (tupleKind (mixKind X.prog X.w)) a b hd w) ⟨tupleKind_room_in1 (by omega), kk, ys, hk, dd, fin _ _ vo⟩
end

section
variable {X : Cx} {W : WX} {cf : Str → List D → R D} {ow : Str → Bool} {e a b c o : Expr} {x y z : E} {pos apos : Pos} {es : List Expr} {xs : List E}
theorem base_ok {m : Str} (h : isCall0 o = false) : attributeBase o m X.env (eval o X.env) = eval o X.env := by
  unfold attributeBase
  split
  · cases h
  · rfl
theorem Gds.allP (h : Gds X W cf ow es xs) {pos : Pos} : (backTo pos (starEach es X.env)).all (fun z => !z.1) = true := by
  have : ∀ {l : List (Bool × Sem Value)}, l.any (·.1) = false → l.all (fun z => !z.1) = true := fun {l} h => by
    induction l with
    | nil => rfl
    | cons p r ih =>
      rw [List.any_cons, Bool.or_eq_false_iff] at h
      rw [List.all_cons, h.1, ih h.2]; rfl
  exact this h.plainB
theorem Gds.few (h : Gds X W cf ow es xs) {pos : Pos} (l : es.length < 30) : ((backTo pos (starEach es X.env)).all (fun z => !z.1) && (backToKw pos (keywordEach [] X.env)).all (fun z => z.1.isSome) && decide (es.length + ([] : List Keyword).length + (if ([] : List Keyword).isEmpty then 0 else 1) < 30)) = true := by
  rw [h.allP]
  have : decide (es.length + ([] : List Keyword).length + (if ([] : List Keyword).isEmpty then 0 else 1) < 30) = true := by simpa using l
  rw [this]
  rfl
theorem mget_noex {d : D} {ds : List D} {q : Str} : mGet d ds ≠ .ex q := by
  unfold mGet
  split
  · split <;> (intro h; cases h)
  · split <;> (intro h; cases h)
  · intro h; cases h
theorem mget_cases {d r : D} {ds : List D} (h : mGet d ds = .ok r) : ∃ kvs, d = .dic kvs ∧ ((∃ k, ds = [k] ∧ k.isK = true ∧ sameKind kvs k = true ∧ r = (dfind kvs k).getD .non) ∨ ∃ k e, ds = [k, e] ∧ k.isK = true ∧ sameKind kvs k = true ∧ r = (dfind kvs k).getD e) := by
  unfold mGet at h
  split at h
  · split at h
    · rename_i k
      cases h
      rw [Bool.and_eq_true] at k
      exact ⟨_, rfl, .inl ⟨_, rfl, k.1, k.2, rfl⟩⟩
    · cases h
  · split at h
    · rename_i k
      cases h
      rw [Bool.and_eq_true] at k
      exact ⟨_, rfl, .inr ⟨_, _, rfl, k.1, k.2, rfl⟩⟩
    · cases h
  · cases h
theorem recv_dic {d : D} (h : recvOk .get d = true) : ∃ kvs, d = .dic kvs := by
  cases d <;> first | exact ⟨_, rfl⟩ | cases h
theorem recv_str {d : D} (h : recvOk .join d = true) : ∃ t, d = .str t := by
  cases d <;> first | exact ⟨_, rfl⟩ | cases h
theorem gd_get (hu : X.A.units + 64 < cLine) (h0 : isCall0 o = false) (hl : (apos.endLine == pos.line) = true) (go : Gd X W cf ow o x) (h : Gds X W cf ow (e :: es) xs) (l : (e :: es).length < 30) : Gd X W cf ow (.Call (.Attribute o "get" apos) (e :: es) [] pos) (.meth .get x xs) := by
  refine .mk' rfl fun n tmp => PE.of_R rfl ?_
  cases n with
  | zero => exact zero_R
  | succ n =>
    refine ⟨fun pins s σ H Q I ⟨ρ, sr, w⟩ => ?_⟩
    have w : Rw ((ev cf n true x ρ).bind fun d => if recvOk .get d then (evs (ev cf n false · ρ) xs).bind fun ds => mGet d ds else .no) (fun d => ∀ v H', Same H H' → Rep X.mg H' d v → Q v H') (exW X.mg W σ H) := w
    rw [Rw.bind] at w
    refine wpAny_Call_method (T := "dict") (id := "dict.get") (base_ok h0) (h.few l) hl PySem.F.plainAttrs_dict PySem.F.slot_dict_get PySem.F.type_dict_get ?_
    refine thn ((go.tmp n).run pins s σ H (fun v H1 => ∃ kvs, Same H H1 ∧ Tmp X.mg H1 (.dic kvs) v ∧ Rw ((evs (ev cf n false · ρ) xs).bind fun ds => mGet (.dic kvs) ds) (fun d => ∀ v H', Same H H' → Rep X.mg H' d v → Q v H') (exW X.mg W σ H)) I ⟨ρ, sr, w.mono (fun d _ k v H1 s1 t1 => ?_) fun _ z => z⟩) fun u s1 ⟨v, H1, I1, rv, kvs, s0, td, k⟩ => ?_
    · by_cases rc : recvOk .get d = true
      · rw [if_pos rc] at k
        obtain ⟨kvs, rfl⟩ := recv_dic rc
        exact ⟨kvs, s1, t1, k⟩
      · rw [if_neg rc] at k; exact k.elim
    · obtain ⟨a, rfl, isd⟩ := dic_isD td
      obtain ⟨t1, t2, _⟩ := isD_at I1 isd
      cases rv
      have hst : starEach (e :: es) X.env = (false, eval e X.env) :: starEach es X.env := by
        cases h with
        | cons _ st _ => exact star_plain st
      have hpl := h.plainB (pos := pos) (env := X.env)
      have hA := (pa_gd h n false).run pos
      rw [hst] at hpl hA ⊢
      refine ⟨t1, t2, Calls.callWith_builtin hpl (Calls.evalArgs_plain ?_)⟩
      rw [Rw.bind] at k
      refine thn (hA pins s1 σ H1 (fun vs H2 => Same H1 H2 ∧ ∃ ds, Reps X.mg H2 ds vs ∧ Rw (mGet (.dic kvs) ds) (fun d => ∀ v H', Same H H' → Rep X.mg H' d v → Q v H') (exW X.mg W σ H)) I1 ⟨ρ, sr.mono s0, k.mono (fun ds _ k2 vs H2 s2 t2 => ⟨s2, ds, t2, k2⟩) fun _ z => z.mono s0⟩) fun us s2 ⟨vs, H2, I2, rs, s2', ds, reps, k2⟩ => ?_
      cases hb : mGet (.dic kvs) ds with
      | no => rw [hb] at k2; exact k2.elim
      | ex q => exact absurd hb mget_noex
      | ok r =>
        rw [hb] at k2
        have k2 : ∀ v H', Same H H' → Rep X.mg H' r v → Q v H' := k2
        have td2 := td.mono s2'
        obtain ⟨kvs', e0, hh⟩ := mget_cases hb
        cases e0
        rcases hh with ⟨d1, rfl, kk, sk, rfl⟩ | ⟨d1, e1, rfl, kk, sk, rfl⟩
        · simp only [Reps] at reps
          obtain ⟨v1, _, rfl, r1, rfl⟩ := reps
          obtain ⟨u1, rfl, ru⟩ := vals1' rs
          exact get_run hu I2 td2 r1 kk sk rfl ru fun v rv => k2 v H2 (s0.trans s2') rv
        · simp only [Reps] at reps
          obtain ⟨v1, _, rfl, r1, v2, _, rfl, r2, rfl⟩ := reps
          obtain ⟨u1, u2, rfl, ru, ru2⟩ := vals2' rs
          exact get_run2 hu I2 td2 r1 r2 kk sk rfl ru ru2 fun v rv => k2 v H2 (s0.trans s2') rv
/-- sep.join(list) -/
theorem strs_vals {H : Hp} : ∀ {xs : List D} {ss : List (List Nat)} {vs : List V}, strsD xs = some ss → Reps X.mg H xs vs → vs = (ss.map fun t => (⟨t.toArray⟩ : Str)).map V.str
  | [], ss, vs, h, r => by
    simp only [strsD, Option.some.injEq] at h
    subst h
    simp only [Reps] at r
    exact r
  | d :: ds, ss, vs, h, r => by
    cases d <;> simp only [strsD, reduceCtorEq] at h
    obtain ⟨b', h1, rfl⟩ := Option.map_eq_some_iff.mp h
    simp only [Reps] at r
    obtain ⟨v, r', rfl, h2, h3⟩ := r
    simp only [Rep] at h2
    rw [List.map_cons, List.map_cons, h2.1, strs_vals h1 h3]
theorem join_S (sep : List Nat) : ∀ ss : List (List Nat), Txt.join ⟨sep.toArray⟩ (ss.map fun t => (⟨t.toArray⟩ : Str)) = ⟨(joinL sep ss).toArray⟩ := by
  intro ss
  rw [TL.join_eq]
  induction ss with
  | nil => rfl
  | cons a r ih =>
    cases r with
    | nil => rfl
    | cons b r =>
      show (⟨a.toArray⟩ : Str) ++ ⟨sep.toArray⟩ ++ Str.join ⟨sep.toArray⟩ ((b :: r).map fun t => (⟨t.toArray⟩ : Str)) = _
      rw [ih, str_app, str_app]
      rfl
theorem joinL_len (sep : List Nat) : ∀ ss : List (List Nat), (ss.map List.length).sum + ss.length * sep.length ≤ (joinL sep ss).length + sep.length
  | [] => by simp
  | [a] => by simp [joinL]
  | a :: b :: r => by
    have ih := joinL_len sep (b :: r)
    have e : (joinL sep (a :: b :: r)).length = a.length + sep.length + (joinL sep (b :: r)).length := by simp [joinL, Nat.add_assoc]
    rw [e]
    simp only [List.map_cons, List.sum_cons, List.length_cons, Nat.succ_mul] at ih ⊢
    omega
theorem mjoin_noex {d : D} {ds : List D} {q : Str} : mJoin d ds ≠ .ex q := by
  unfold mJoin
  split
  · refine bind_noex (fun c => ofO_noex) fun a c => ?_
    split <;> (intro h; cases h)
  · intro h; cases h
theorem mjoin_cases {t : List Nat} {ds : List D} {r : D} (h : mJoin (.str t) ds = .ok r) : ∃ xs ss, ds = [.lst xs] ∧ strsD xs = some ss ∧ (joinL t ss).length + t.length ≤ line ∧ r = .str (joinL t ss) := by
  match ds, h with
  | [.lst xs], h =>
    have h : ((ofO (strsD xs)).bind fun ss => if (joinL t ss).length + t.length ≤ line then .ok (D.str (joinL t ss)) else .no) = .ok r := h
    obtain ⟨ss, h1, h2⟩ := ofO_bind h
    split at h2
    · rename_i l
      cases h2
      exact ⟨xs, ss, rfl, h1, l, rfl⟩
    · cases h2
theorem gd_join (h0 : isCall0 o = false) (hl : (apos.endLine == pos.line) = true) (go : Gd X W cf ow o x) (ga : Gd X W cf ow a y) (st : isStar a = false) : Gd X W cf ow (.Call (.Attribute o "join" apos) [a] [] pos) (.meth .join x [y]) := by
  refine .mk' rfl fun n tmp => PE.of_V ?_
  cases n with
  | zero => exact zero_V
  | succ n =>
    have h : Gds X W cf ow [a] [y] := .cons ga st .nil
    refine peI (pe_bm (T := "str") PySem.F.plainAttrs_str PySem.F.slot_str_join PySem.F.type_str_join mt_join (go.pe n true) (pa_gd h n false) (base_ok h0) (h.few (by show 1 < 30; decide)) hl (star_plain st) rfl) fun σ H Q ⟨ρ, sr, w⟩ => ?_
    have w : Rw ((ev cf n true x ρ).bind fun d => if recvOk .join d then (evs (ev cf n false · ρ) [y]).bind fun ds => mJoin d ds else .no) (fun d => ∀ v H', Same H H' → Own X.mg H' H d v → Q v H') (exW X.mg W σ H) := w
    rw [Rw.bind] at w
    refine ⟨ρ, sr, w.mono (fun d _ k v H1 s1 t1 => ?_) fun _ z => z⟩
    by_cases rc : recvOk .join d = true
    · rw [if_pos rc] at k
      obtain ⟨t, rfl⟩ := recv_str rc
      obtain ⟨rfl, lt⟩ := Tmp.str (show Tmp X.mg H1 (.str t) v from t1)
      refine ⟨rfl, ?_⟩
      rw [Rw.bind] at k
      refine ⟨ρ, sr.mono s1, k.mono (fun ds _ k2 vs H2 s2 t2 => ?_) fun _ z => z.mono s1⟩
      have t2 : Reps X.mg H2 ds vs := t2
      cases hb : mJoin (.str t) ds with
      | no => rw [hb] at k2; exact k2.elim
      | ex q => exact absurd hb mjoin_noex
      | ok r =>
        rw [hb] at k2
        have k2 : ∀ v H', Same H H' → Own X.mg H' H r v → Q v H' := k2
        obtain ⟨xs', ss, rfl, h1, hlen, rfl⟩ := mjoin_cases hb
        simp only [Reps] at t2
        obtain ⟨v1, _, rfl, r1, rfl⟩ := t2
        obtain ⟨p, ws, rfl, hs, hr⟩ := Tmp.sql (K := X.K) r1.tmp
        have e1 := strs_vals h1 hr
        subst e1
        refine ⟨_, p, _, rfl, rfl, .inl hs, ?_, ?_⟩
        · have hj := joinL_len t ss
          have e2 : ((ss.map fun t => (⟨t.toArray⟩ : Str)).map (·.length)).sum = (ss.map List.length).sum := by
            rw [List.map_map]
            congr 1
          have e3 : (⟨t.toArray⟩ : Str).length = t.length := by show t.toArray.size = _; simp
          rw [e2, e3, List.length_map]
          have : line = 16777216 := rfl
          omega
        · rw [join_S]
          exact k2 _ _ (s1.trans s2) (by simp only [Own, Rep]; exact ⟨trivial, by omega⟩)
    · rw [if_neg rc] at k; exact k.elim
end
end Mp

end Sec_MpS
section Sec_MpT
set_option autoImplicit false
set_option linter.all false
set_option maxHeartbeats 2000000
set_option maxRecDepth 100000
namespace Mp
open PySem PySem.Spec PyProof.Rows L2

/-! ### what the iterators hand out -/
section
variable {mg : Str → Option Value} {K : PySem.W.Frag}
theorem wk_list {a : Addr} {o : Obj} {ds : List D} : Wk mg ds (Itl K a) (fun H => ∃ vs, H a = some (.frz o (.lst vs)) ∧ Reps mg H ds vs) where
  ke := fun H H' k ⟨vs, h1, h2⟩ => ⟨vs, k.fz _ _ _ h1, h2.mono k⟩
  go := fun i H ⟨vs, h1, h2⟩ hi => by
    obtain ⟨d, hd⟩ : ∃ d, ds[i]? = some d := ⟨_, List.getElem?_eq_getElem hi⟩
    obtain ⟨v, hv, _⟩ := h2.get hd
    exact ⟨vs, v, .inl (.inr ⟨o, h1⟩), hv⟩
  yld := fun i H v H' ⟨vs, h1, h2⟩ hi ⟨e, y⟩ => by
    subst e
    obtain ⟨d, hd, r⟩ := h2.get' (y vs (.inl (.inr ⟨o, h1⟩)))
    exact ⟨Same.refl _, d, hd, r⟩
  stop := fun H ⟨vs, h1, h2⟩ => ⟨vs, .inl (.inr ⟨o, h1⟩), by rw [← h2.length]; exact Nat.le_refl _⟩
theorem wk_tup {a : Addr} {ds : List D} : Wk mg ds (Itt K a) (fun H => ∃ vs, H a = some (.tup vs) ∧ Reps mg H ds vs) where
  ke := fun H H' k ⟨vs, h1, h2⟩ => ⟨vs, k.tu _ _ h1, h2.mono k⟩
  go := fun i H ⟨vs, h1, h2⟩ hi => by
    obtain ⟨d, hd⟩ : ∃ d, ds[i]? = some d := ⟨_, List.getElem?_eq_getElem hi⟩
    obtain ⟨v, hv, _⟩ := h2.get hd
    exact ⟨vs, v, .inl (.inl h1), hv⟩
  yld := fun i H v H' ⟨vs, h1, h2⟩ hi ⟨e, y⟩ => by
    subst e
    obtain ⟨d, hd, r⟩ := h2.get' (y vs (.inl (.inl h1)))
    exact ⟨Same.refl _, d, hd, r⟩
  stop := fun H ⟨vs, h1, h2⟩ => ⟨vs, .inl (.inl h1), by rw [← h2.length]; exact Nat.le_refl _⟩
theorem wk_str {x : List Nat} : Wk mg (x.map fun c => D.str [c]) (Its ⟨x.toArray⟩) (fun _ => True) where
  ke := fun _ _ _ _ => trivial
  go := fun i H _ hi => by
    show i < x.toArray.size
    simpa using hi
  yld := fun i H v H' _ hi ⟨e, c, hc, ev⟩ => by
    subst e ev
    have hc : x[i]? = some c := by simpa using hc
    refine ⟨Same.refl _, .str [c], by simp [hc], ?_⟩
    simp only [Rep]
    exact ⟨trivial, by show 1 ≤ sizeLine; decide⟩
  stop := fun H _ => by
    show x.toArray.size ≤ _
    simp
theorem RepK.at {H : Hp} : ∀ {ds : List (D × D)} {kvs : List (Key × V)} {i : Nat} {k : Key} {v : V}, RepK mg H ds kvs → kvs[i]? = some (k, v) → ∃ d e, ds[i]? = some (d, e) ∧ kD d = some k
  | [], _, _, _, _, h, q => by simp only [RepK] at h; subst h; simp at q
  | (d, e) :: ds, _, 0, _, _, h, q => by
    simp only [RepK] at h
    obtain ⟨k', v', r, rfl, h1, _, _⟩ := h
    simp at q
    obtain ⟨rfl, rfl⟩ := q
    exact ⟨d, e, rfl, h1⟩
  | (d, e) :: ds, _, i + 1, _, _, h, q => by
    simp only [RepK] at h
    obtain ⟨k', v', r, rfl, h1, _, h3⟩ := h
    obtain ⟨d', e', z1, z2⟩ := RepK.at (i := i) h3 (by simpa using q)
    exact ⟨d', e', by simpa using z1, z2⟩
theorem RepT.at {H : Hp} : ∀ {ds : List (D × D)} {kvs : List (List Key × V)} {i : Nat} {k : List Key} {v : V}, RepT mg H ds kvs → kvs[i]? = some (k, v) → ∃ d e, ds[i]? = some (d, e) ∧ ktD d = some k
  | [], _, _, _, _, h, q => by simp only [RepT] at h; subst h; simp at q
  | (d, e) :: ds, _, 0, _, _, h, q => by
    simp only [RepT] at h
    obtain ⟨k', v', r, rfl, h1, _, _⟩ := h
    simp at q
    obtain ⟨rfl, rfl⟩ := q
    exact ⟨d, e, rfl, h1⟩
  | (d, e) :: ds, _, i + 1, _, _, h, q => by
    simp only [RepT] at h
    obtain ⟨k', v', r, rfl, h1, _, h3⟩ := h
    obtain ⟨d', e', z1, z2⟩ := RepT.at (i := i) h3 (by simpa using q)
    exact ⟨d', e', by simpa using z1, z2⟩
theorem kD_rep {H : Hp} {d : D} {k : Key} (h : kD d = some k) : Rep mg H d (kV k) := by
  rcases kD_cases h with ⟨i, rfl, rfl⟩ | ⟨x, rfl, l, rfl⟩
  · simp only [Rep]; rfl
  · simp only [Rep]; exact ⟨rfl, l⟩
theorem ksD_rep {H : Hp} : ∀ {ds : List D} {ks : List Key}, ksD ds = some ks → Reps mg H ds (ks.map kV)
  | [], ks, h => by simp only [ksD, Option.some.injEq] at h; subst h; exact Reps.nil
  | d :: ds, ks, h => by
    simp only [ksD] at h
    cases q : kD d <;> simp only [q] at h
    · cases h
    cases q2 : ksD ds <;> simp only [q2, Option.some.injEq, reduceCtorEq] at h
    subst h
    exact Reps.cons (kD_rep q) (ksD_rep q2)
theorem ktD_rep {H : Hp} {d : D} {k : List Key} {q : Addr} (h : ktD d = some k) (e : H q = some (.tup (k.map kV))) : Rep mg H d (.ref q) := by
  cases d <;> simp only [ktD, reduceCtorEq] at h
  simp only [Rep]
  exact ⟨q, _, rfl, e, ksD_rep h⟩
theorem wk_keys {a : Addr} {o : Obj} {ds : List (D × D)} {kvs : List (Key × V)} : Wk mg (ds.map (·.1)) (Itk a o kvs) (fun H => H a = some (.frz o (.dK kvs)) ∧ RepK mg H ds kvs) where
  ke := fun H H' k ⟨h1, h2⟩ => ⟨k.fz _ _ _ h1, RepK.mono k _ _ h2⟩
  go := fun i H ⟨h1, h2⟩ hi => ⟨h1, by rw [← h2.length]; simpa using hi⟩
  yld := fun i H v H' ⟨h1, h2⟩ hi ⟨e, k, w, hk, ev⟩ => by
    subst e ev
    obtain ⟨d, e, z1, z2⟩ := h2.at hk
    exact ⟨Same.refl _, d, by simp [z1], kD_rep z2⟩
  stop := fun H ⟨h1, h2⟩ => ⟨h1, by rw [← h2.length]; simp⟩
theorem wk_keysT {a : Addr} {o : Obj} {ds : List (D × D)} {kvs : List (List Key × V)} : Wk mg (ds.map (·.1)) (Itkt a o kvs) (fun H => H a = some (.frz o (.dT kvs)) ∧ RepT mg H ds kvs) where
  ke := fun H H' k ⟨h1, h2⟩ => ⟨k.fz _ _ _ h1, RepT.mono k _ _ h2⟩
  go := fun i H ⟨h1, h2⟩ hi => ⟨h1, by rw [← h2.length]; simpa using hi⟩
  yld := fun i H v H' ⟨h1, h2⟩ hi ⟨e, k, w, q, hk, ev, hq⟩ => by
    subst e ev
    obtain ⟨d, e, z1, z2⟩ := h2.at hk
    exact ⟨Same.refl _, d, by simp [z1], ktD_rep z2 hq⟩
  stop := fun H ⟨h1, h2⟩ => ⟨h1, by rw [← h2.length]; simp⟩
theorem wk_up {lo : Int} {n : Nat} : Wk mg (rngUp lo n) (Itr lo n) (fun _ => True) where
  ke := fun _ _ _ _ => trivial
  go := fun i H _ hi => by
    show i < n
    simpa [rngUp] using hi
  yld := fun i H v H' _ hi ⟨e, ev⟩ => by
    subst e ev
    have hn : i < n := by simpa [rngUp] using hi
    refine ⟨Same.refl _, .int (lo + i), ?_, by simp only [Rep]⟩
    simp [rngUp, hn]
  stop := fun H _ => by
    show n ≤ _
    simp [rngUp]
theorem wk_by {lo c : Int} {n : Nat} : Wk mg (rngBy lo c n) (Itc lo c n) (fun _ => True) where
  ke := fun _ _ _ _ => trivial
  go := fun i H _ hi => by
    show i < n
    simpa [rngBy] using hi
  yld := fun i H v H' _ hi ⟨e, ev⟩ => by
    subst e ev
    have hn : i < n := by simpa [rngBy] using hi
    refine ⟨Same.refl _, .int (lo + i * c), ?_, by simp only [Rep]⟩
    simp [rngBy, hn]
  stop := fun H _ => by
    show n ≤ _
    simp [rngBy]
end

/-! ### a walk's start -/
def oR {α : Type} : Option α → R α
  | some a => .ok a
  | none => .no
def tI (mg : Str → Option Value) (W : WX) (cf : Str → List D → R D) (n k : Nat) (its : List E) : TI := fun σ H R => ∃ ρ, SRE mg ρ σ H ∧ Rw ((evs (ev cf n false · ρ) its).bind fun ds => oR (walkOf k ds)) (fun xs => ∀ J B H', Same H H' → Wk mg xs J B → B H' → R J H') (exW mg W σ H)
section
variable {X : Cx} {W : WX} {cf : Str → List D → R D} {ow : Str → Bool} {e a b c : Expr} {x y z : E} {pos : Pos} {es : List Expr} {xs : List E} {tg : Expr}
theorem oR_some {α : Type} {o : Option α} {P : α → Prop} {E : Str → Prop} (w : Rw (oR o) P E) : ∃ a, o = some a ∧ P a := by
  cases o with
  | none => exact w.elim
  | some a => exact ⟨a, rfl, w⟩
theorem pi_0 (g : Gd X W cf ow e x) (n : Nat) : PI X tg e (tI X.mg W cf n 0 [x]) := by
  have pe := pe_weak (fr := false) (g.pe n false) (by simp)
  refine ⟨fun pins s σ H R I ⟨ρ, sr, w⟩ => ?_⟩
  have w : Rw (((ev cf n false x ρ).bind fun d => .ok [d]).bind fun ds => oR (walkOf 0 ds)) (fun xs => ∀ J B H', Same H H' → Wk X.mg xs J B → B H' → R J H') (exW X.mg W σ H) := w
  rw [Rw.bind, Rw.bind] at w
  have w : Rw (ev cf n false x ρ) (fun d => Rw (oR (items d)) (fun xs => ∀ J B H', Same H H' → Wk X.mg xs J B → B H' → R J H') (exW X.mg W σ H)) (exW X.mg W σ H) := w
  cases q : ev cf n false x ρ with
  | no => rw [q] at w; exact w.elim
  | ex c =>
    rw [q] at w
    exact (pi_list pe).run pins s σ H R I ⟨ρ, sr, by rw [q]; exact w⟩
  | ok d =>
    rw [q] at w
    obtain ⟨ys, hy, w⟩ := oR_some w
    cases d <;> first | (cases hy; done) | skip
    · -- a text
      cases hy
      refine (pi_str pe).run pins s σ H R I ⟨ρ, sr, ?_⟩
      rw [q]
      intro v H1 s1 r
      have r : Rep X.mg H1 (.str _) v := r
      simp only [Rep] at r
      exact ⟨_, r.1, w _ _ H1 s1 wk_str trivial⟩
    · cases hy
      refine (pi_tup pe).run pins s σ H R I ⟨ρ, sr, ?_⟩
      rw [q]
      intro v H1 s1 r
      have r : Rep X.mg H1 (.tup _) v := r
      simp only [Rep] at r
      obtain ⟨a, vs, rfl, h1, h2⟩ := r
      exact ⟨a, rfl, ⟨vs, .inl (.inl h1)⟩, w _ _ H1 s1 wk_tup ⟨vs, h1, h2⟩⟩
    · cases hy
      refine (pi_list pe).run pins s σ H R I ⟨ρ, sr, ?_⟩
      rw [q]
      intro v H1 s1 r
      have r : Rep X.mg H1 (.lst _) v := r
      simp only [Rep] at r
      obtain ⟨a, o, vs, rfl, h1, h2⟩ := r
      exact ⟨a, rfl, ⟨vs, .inl (.inr ⟨o, h1⟩)⟩, w _ _ H1 s1 wk_list ⟨vs, h1, h2⟩⟩
    · cases hy
      refine (pi_keys pe).run pins s σ H R I ⟨ρ, sr, ?_⟩
      rw [q]
      intro v H1 s1 r
      have r : Rep X.mg H1 (.dic _) v := r
      simp only [Rep] at r
      obtain ⟨a, o, rfl, ⟨kvs, h1, h2⟩ | ⟨kvs, h1, h2⟩⟩ := r
      · exact ⟨a, o, rfl, .inl ⟨kvs, h1, w _ _ H1 s1 wk_keys ⟨h1, h2⟩⟩⟩
      · exact ⟨a, o, rfl, .inr ⟨kvs, h1, w _ _ H1 s1 wk_keysT ⟨h1, h2⟩⟩⟩
theorem pi_1 {p : Pos} (hg : Gl X "enumerate") (hm : X.mg "enumerate" = none) (ht : isTup tg = true) (g : Gds X W cf ow [e] xs) (n : Nat) : PI X tg (.Call (.Name "enumerate" p) [e] [] pos) (tI X.mg W cf n 1 xs) := by
  refine ⟨fun pins s σ H R I ⟨ρ, sr, w⟩ => ?_⟩
  have st : isStar e = false := by
    cases g with
    | cons _ s _ => exact s
  rw [Rw.bind] at w
  refine Call_ (ld_blt I hg hm boot_enumerate (callWith_type1 (thn ((pa_gd g n false).run pos pins s σ H (fun vs H1 => ∃ ds, Same H H1 ∧ Reps X.mg H1 ds vs ∧ Rw (oR (walkOf 1 ds)) (fun xs => ∀ J B H', Same H H' → Wk X.mg xs J B → B H' → R J H') (exW X.mg W σ H)) I
    ⟨ρ, sr, w.mono (fun ds _ k vs H1 s1 t1 => ⟨ds, s1, t1, k⟩) fun _ z => z⟩) fun us s1 ⟨vs, H1, I1, r1, ds, s0, reps, k⟩ => ?_) (star_plain st) rfl))
  obtain ⟨ys, hy, k⟩ := oR_some k
  have hy : walk1 ds = some ys := hy
  unfold walk1 at hy
  split at hy
  · rename_i d _
    simp only [Reps] at reps
    obtain ⟨v, _, rfl, r, rfl⟩ := reps
    obtain ⟨u, rfl, ru⟩ := vals1' r1
    by_cases nd : isDic d = true
    · rw [if_pos nd] at hy; cases hy
    · rw [if_neg nd] at hy
      obtain ⟨zs, hz, rfl⟩ := Option.map_eq_some_iff.mp hy
      cases tg <;> first | (cases ht; done) | skip
      exact enum_run I1 r ru hz (by simpa using nd) fun J B wk hB => k J B H1 s0 wk hB
  · cases hy
theorem pi_2 {p : Pos} (hg : Gl X "zip") (hm : X.mg "zip" = none) (ht : isTup tg = true) (g : Gds X W cf ow [a, b] xs) (n : Nat) : PI X tg (.Call (.Name "zip" p) [a, b] [] pos) (tI X.mg W cf n 2 xs) := by
  refine ⟨fun pins s σ H R I ⟨ρ, sr, w⟩ => ?_⟩
  have st : isStar a = false ∧ Gds X W cf ow [b] xs.tail := by
    cases g with
    | cons _ s t => exact ⟨s, t⟩
  rw [Rw.bind] at w
  refine Call_ (ld_blt I hg hm PyProof.Rows.boot_zip (callWith_type1 (thn ((pa_gd g n false).run pos pins s σ H (fun vs H1 => ∃ ds, Same H H1 ∧ Reps X.mg H1 ds vs ∧ Rw (oR (walkOf 2 ds)) (fun xs => ∀ J B H', Same H H' → Wk X.mg xs J B → B H' → R J H') (exW X.mg W σ H)) I
    ⟨ρ, sr, w.mono (fun ds _ k vs H1 s1 t1 => ⟨ds, s1, t1, k⟩) fun _ z => z⟩) fun us s1 ⟨vs, H1, I1, r1, ds, s0, reps, k⟩ => ?_) (star_plain st.1) st.2.plainB))
  obtain ⟨ys, hy, k⟩ := oR_some k
  have hy : walk2 ds = some ys := hy
  unfold walk2 at hy
  split at hy
  · rename_i d d' _
    simp only [Reps] at reps
    obtain ⟨v, _, rfl, r, v', _, rfl, r', rfl⟩ := reps
    obtain ⟨u, u', rfl, ru, ru'⟩ := vals2' r1
    by_cases nd : (isDic d || isDic d') = true
    · rw [if_pos nd] at hy; cases hy
    · rw [if_neg nd] at hy
      rw [Bool.or_eq_true, not_or] at nd
      split at hy
      · rename_i zs zs' hz hz'
        cases hy
        cases tg <;> first | (cases ht; done) | skip
        exact zip_run I1 r ru hz (by simpa using nd.1) r' ru' hz' (by simpa using nd.2) fun J B wk hB => k J B H1 s0 wk hB
      · cases hy
  · cases hy
theorem pi_3 {p : Pos} (hg : Gl X "range") (hm : X.mg "range" = none) (g : Gds X W cf ow es xs) (l : es.length = 1 ∨ es.length = 2 ∨ es.length = 3) (n : Nat) : PI X tg (.Call (.Name "range" p) es [] pos) (tI X.mg W cf n 3 xs) := by
  have pa := pa_gd g n false
  have key : ∀ (pins : List (Addr × Obj)) (s : Shared) (σ : St) (H : Hp) (R : It → Hp → Prop), tI X.mg W cf n 3 xs σ H R → tA X.mg W cf n false xs σ H fun vs H1 => ∃ ds ys, Same H H1 ∧ Reps X.mg H1 ds vs ∧ walk3 ds = some ys ∧ ∀ J B, Wk X.mg ys J B → B H1 → R J H1 := by
    intro pins s σ H R ⟨ρ, sr, w⟩
    rw [Rw.bind] at w
    refine ⟨ρ, sr, w.mono (fun ds _ k vs H1 s1 t1 => ?_) fun _ z => z⟩
    obtain ⟨ys, hy, k⟩ := oR_some k
    exact ⟨ds, ys, s1, t1, hy, fun J B wk hB => k J B H1 s1 wk hB⟩
  have sm : ∀ {i : Int}, small i = true → -(2 ^ 62) ≤ i ∧ i < 2 ^ 62 := fun h => by simpa [small] using h
  match es, g, l with
  | [a], g, _ =>
    have st : isStar a = false := by
      cases g with
      | cons _ s _ => exact s
    refine ⟨fun pins s σ H R I w => (pi_range1 hg hm pa (star_plain st)).run pins s σ H R I ?_⟩
    obtain ⟨ρ, sr, q⟩ := key pins s σ H R w
    refine ⟨ρ, sr, q.mono (fun ds hds k vs H1 s1 t1 => ?_) fun _ z => z⟩
    obtain ⟨ds', ys, s0, reps, hy, k⟩ := k vs H1 s1 t1
    have ll : ds'.length = 1 := by
      rw [reps.length, ← (show Reps X.mg H1 ds vs from t1).length, evs_len hds, ← g.len]; rfl
    unfold walk3 at hy
    split at hy
    · rename_i j
      split at hy
      · rename_i hs
        cases hy
        simp only [Reps, Rep] at reps
        obtain ⟨v, _, rfl, rfl, rfl⟩ := reps
        exact ⟨j, rfl, (sm hs).1, (sm hs).2, k _ _ wk_up trivial⟩
      · cases hy
    · simp at ll
    · simp at ll
    · cases hy
  | [a, b], g, _ =>
    have st : isStar a = false ∧ isStar b = false := by
      cases g with
      | cons _ s t =>
        cases t with
        | cons _ s' _ => exact ⟨s, s'⟩
    refine ⟨fun pins s σ H R I w => (pi_range2 hg hm pa (by rw [star_plain st.1, star_plain st.2]; rfl) (star_plain st.2)).run pins s σ H R I ?_⟩
    obtain ⟨ρ, sr, q⟩ := key pins s σ H R w
    refine ⟨ρ, sr, q.mono (fun ds hds k vs H1 s1 t1 => ?_) fun _ z => z⟩
    obtain ⟨ds', ys, s0, reps, hy, k⟩ := k vs H1 s1 t1
    have ll : ds'.length = 2 := by
      rw [reps.length, ← (show Reps X.mg H1 ds vs from t1).length, evs_len hds, ← g.len]; rfl
    unfold walk3 at hy
    split at hy
    · simp at ll
    · rename_i i j
      split at hy
      · rename_i hs
        rw [Bool.and_eq_true] at hs
        cases hy
        simp only [Reps, Rep] at reps
        obtain ⟨v, _, rfl, rfl, v', _, rfl, rfl, rfl⟩ := reps
        exact ⟨i, j, rfl, ⟨(sm hs.1).1, (sm hs.1).2, (sm hs.2).1, (sm hs.2).2⟩, k _ _ wk_up trivial⟩
      · cases hy
    · simp at ll
    · cases hy
  | [a, b, c], g, _ =>
    have st : isStar a = false ∧ Gds X W cf ow [b, c] xs.tail := by
      cases g with
      | cons _ s t => exact ⟨s, t⟩
    refine ⟨fun pins s σ H R I w => (pi_range3 hg hm pa (star_plain st.1) st.2.plainB).run pins s σ H R I ?_⟩
    obtain ⟨ρ, sr, q⟩ := key pins s σ H R w
    refine ⟨ρ, sr, q.mono (fun ds hds k vs H1 s1 t1 => ?_) fun _ z => z⟩
    obtain ⟨ds', ys, s0, reps, hy, k⟩ := k vs H1 s1 t1
    have ll : ds'.length = 3 := by
      rw [reps.length, ← (show Reps X.mg H1 ds vs from t1).length, evs_len hds, ← g.len]; rfl
    unfold walk3 at hy
    split at hy
    · simp at ll
    · simp at ll
    · rename_i i j cc
      split at hy
      · rename_i hs
        rw [Bool.and_eq_true] at hs
        split at hy
        · rename_i hc
          subst hc
          cases hy
          simp only [Reps, Rep] at reps
          obtain ⟨v, _, rfl, rfl, v', _, rfl, rfl, v'', _, rfl, rfl, rfl⟩ := reps
          exact ⟨i, j, -1, _, rfl, RgC.neg (sm hs.1).1 (sm hs.1).2 (sm hs.2).1 (sm hs.2).2, k _ _ wk_by trivial⟩
        · cases hy
      · cases hy
    · cases hy
end
end Mp

end Sec_MpT
section Sec_MpU
set_option autoImplicit false
set_option linter.all false
set_option maxHeartbeats 2000000
set_option maxRecDepth 100000
namespace Mp
open PySem PySem.Spec PyProof.Rows L2

/-! ### slots -/
section
variable {mg : Str → Option Value} {W : WX} {ρ : Env} {σ : St} {H H' : Hp}
theorem getv_some {ρ : Env} {i : Nat} {p : D × Bool} (h : getv ρ i = some p) : ρ[i]? = some (some p) := by
  unfold getv at h
  cases q : ρ[i]? with
  | none => rw [q] at h; cases h
  | some o => rw [q] at h; simp at h; rw [h]
theorem getv_set {ρ : Env} {i j : Nat} {s : Slot} {p : D × Bool} (h : getv (ρ.set i s) j = some p) : (j = i ∧ s = some p) ∨ (j ≠ i ∧ getv ρ j = some p) := by
  have h1 := getv_some h
  by_cases e : j = i
  · subst e
    have hl : j < ρ.length := by
      have := (List.getElem?_eq_some_iff.mp h1).1
      simpa using this
    rw [List.getElem?_set_self hl] at h1
    exact .inl ⟨rfl, by simpa using h1⟩
  · rw [List.getElem?_set_ne (Ne.symm e)] at h1
    refine .inr ⟨e, ?_⟩
    unfold getv
    rw [h1]; rfl
/-- a slot is set -/
theorem SRE.set (h : SRE mg ρ σ H) {i : Nat} {d : D} {own : Bool} {v : V} (hl : i < σ.length) (ht : Tmp mg H d v) (hr : own = false → Rep mg H d v) : SRE mg (ρ.set i (some (d, own))) (σ.set i (some v)) H := by
  intro j d' own' e
  rcases getv_set e with ⟨rfl, e2⟩ | ⟨ne, e2⟩
  · cases e2
    exact ⟨v, List.getElem?_set_self hl, ht, hr⟩
  · obtain ⟨w, h1, h2, h3⟩ := h j d' own' e2
    exact ⟨w, by rw [List.getElem?_set_ne (Ne.symm ne)]; exact h1, h2, h3⟩
theorem SRE.wipe (h : SRE mg ρ σ H) : ∀ vs : List Nat, SRE mg (Mp.wipe ρ vs) (L2.wipe σ vs) H
  | [] => h
  | v :: vs => by
    have ih := SRE.wipe h vs
    intro j d' own' e
    rcases getv_set (show getv ((Mp.wipe ρ vs).set v none) j = some _ from e) with ⟨_, e2⟩ | ⟨ne, e2⟩
    · cases e2
    · obtain ⟨w, h1, h2, h3⟩ := ih j d' own' e2
      refine ⟨w, ?_, h2, h3⟩
      show ((L2.wipe σ vs).set v none)[j]? = _
      rw [List.getElem?_set_ne (Ne.symm ne)]
      exact h1
/-- a target's slots -/
def tgIx : Tg → List Nat
  | .nm i => [i]
  | .tp is => is
theorem wipe_set {σ : St} {i : Nat} {o : Option V} : ∀ {vs : List Nat}, i ∈ vs → L2.wipe (σ.set i o) vs = L2.wipe σ vs
  | [], h => by cases h
  | v :: vs, h => by
    show (L2.wipe (σ.set i o) vs).set v none = (L2.wipe σ vs).set v none
    by_cases e : i ∈ vs
    · rw [wipe_set e]
    · have ev : i = v := by
        rcases List.mem_cons.mp h with h | h
        · exact h
        · exact absurd h e
      subst ev
      have : ∀ vs : List Nat, i ∉ vs → (L2.wipe (σ.set i o) vs) = (L2.wipe σ vs).set i o := by
        intro vs
        induction vs with
        | nil => intro _; rfl
        | cons w r ih =>
          intro hn
          simp only [List.mem_cons, not_or] at hn
          show (L2.wipe (σ.set i o) r).set w none = ((L2.wipe σ r).set w none).set i o
          rw [ih hn.2, List.set_comm _ _ hn.1]
      rw [this vs e, List.set_set]
theorem wipe_wipe {σ : St} : ∀ {vs ws : List Nat}, (∀ v ∈ vs, v ∈ ws) → L2.wipe (L2.wipe σ vs) ws = L2.wipe σ ws
  | [], _, _ => rfl
  | v :: vs, ws, h => by
    show L2.wipe ((L2.wipe σ vs).set v none) ws = _
    rw [wipe_set (h v List.mem_cons_self), wipe_wipe fun x hx => h x (List.mem_cons_of_mem _ hx)]
end

/-! ### targets -/
/-- what a target's store gives -/
def tG (mg : Str → Option Value) (g : Tg) : TG := fun v σ H Q => ∃ ρ d ρ', SRE mg ρ σ H ∧ Rep mg H d v ∧ bindT g d ρ = some ρ' ∧ (∀ i ∈ tgIx g, i < σ.length) ∧
  ∀ σ', SRE mg ρ' σ' H → σ'.length = σ.length → (∀ vs : List Nat, (∀ i ∈ tgIx g, i ∈ vs) → L2.wipe σ' vs = L2.wipe σ vs) → (∀ j, j ∉ tgIx g → σ'[j]? = σ[j]?) → Q σ' H
def tGs (mg : Str → Option Value) (is : List Nat) : TGs := fun vs σ H Q => ∃ ρ ds ρ', SRE mg ρ σ H ∧ Reps mg H ds vs ∧ bindNs is ds ρ = some ρ' ∧ (∀ i ∈ is, i < σ.length) ∧
  ∀ σ', SRE mg ρ' σ' H → σ'.length = σ.length → (∀ vs : List Nat, (∀ i ∈ is, i ∈ vs) → L2.wipe σ' vs = L2.wipe σ vs) → (∀ j, j ∉ is → σ'[j]? = σ[j]?) → Q σ' H
/-- a name that can be stored -/
def Nm (X : Cx) (i : Nat) (x : Str) : Prop := X.N[i]? = some x ∧ Loc X.env.scope x ∧ (X.fn x = true ∨ X.env.scope.names.lookup x = some .local)
inductive Nms (X : Cx) : List Expr → List Nat → Prop where
  | nil : Nms X [] []
  | cons {x : Str} {p : Pos} {i : Nat} {es : List Expr} {is : List Nat} (h : Nm X i x) (t : Nms X es is) : Nms X (.Name x p :: es) (i :: is)
inductive Tgt (X : Cx) : Expr → Tg → Prop where
  | nm {x : Str} {p : Pos} {i : Nat} (h : Nm X i x) : Tgt X (.Name x p) (.nm i)
  | tp {es : List Expr} {is : List Nat} {k : Nat} {p : Pos} (h : Nms X es is) : Tgt X (.Tuple es k p) (.tp is)
section
variable {X : Cx} {mg : Str → Option Value}
theorem Nms.each {es : List Expr} {is : List Nat} (h : Nms X es is) (env : PySem.Env) : (assignEach es env).length = is.length ∧ (assignEach es env).findIdx? (·.1) = none := by
  induction h with
  | nil => exact ⟨rfl, rfl⟩
  | cons _ t ih =>
    refine ⟨by show _ + 1 = _; rw [ih.1]; rfl, ?_⟩
    show List.findIdx? _ ((false, _) :: _) = none
    rw [List.findIdx?_cons]
    simp [ih.2]
theorem pgs_nms (hN : X.N.Nodup) {es : List Expr} {is : List Nat} (h : Nms X es is) : PGs X es (tGs X.mg is) := by
  induction h with
  | nil =>
    refine ⟨fun pins s σ H vs us Q I r ⟨ρ, ds, ρ', sr, reps, b, hl, q⟩ => pgs_nil.run pins s σ H vs us Q I r ?_⟩
    cases ds with
    | nil =>
      simp only [Reps] at reps
      subst reps
      cases b
      exact ⟨rfl, q σ sr rfl (fun _ _ => rfl) fun _ _ => rfl⟩
    | cons _ _ => cases b
  | cons n t ih =>
    rename_i x p i es is
    refine ⟨fun pins s σ H vs us Q I r ⟨ρ, ds, ρ', sr, reps, b, hl, q⟩ => (pgs_cons (pg_name hN n.1 n.2.1 n.2.2) ih).run pins s σ H vs us Q I r ?_⟩
    cases ds with
    | nil => cases b
    | cons d ds =>
      simp only [Reps] at reps
      obtain ⟨v, r', rfl, h1, h2⟩ := reps
      have hi : i < σ.length := hl i List.mem_cons_self
      refine ⟨v, r', rfl, ρ.set i (some (d, false)), ds, ρ', sr.set hi h1.tmp fun _ => h1, h2, b, fun j hj => by rw [List.length_set]; exact hl j (List.mem_cons_of_mem _ hj), fun σ' sr' l' w' o' => ?_⟩
      refine q σ' sr' (by rw [l', List.length_set]) (fun vs hvs => ?_) fun j hj => ?_
      · rw [w' vs fun j hj => hvs j (List.mem_cons_of_mem _ hj), wipe_set (hvs i List.mem_cons_self)]
      · simp only [List.mem_cons, not_or] at hj
        rw [o' j hj.2, List.getElem?_set_ne (Ne.symm hj.1)]
theorem pg_tgt (hc : X.calm = true) (hN : X.N.Nodup) {tg : Expr} {g : Tg} (h : Tgt X tg g) : PG X tg (tG X.mg g) := by
  cases h with
  | nm n =>
    refine ⟨fun pins s σ H v u Q I r ⟨ρ, d, ρ', sr, hr, b, hl, q⟩ => (pg_name hN n.1 n.2.1 n.2.2).run pins s σ H v u Q I r ?_⟩
    cases b
    exact q _ (sr.set (hl _ List.mem_cons_self) hr.tmp fun _ => hr) (List.length_set ..) (fun vs hvs => wipe_set (hvs _ List.mem_cons_self)) fun j hj => by
      rw [List.getElem?_set_ne]
      simp only [tgIx, List.mem_cons, List.not_mem_nil, or_false] at hj
      exact Ne.symm hj
  | tp hn =>
    rename_i es is k p
    obtain ⟨e1, e2⟩ := hn.each X.env
    refine ⟨fun pins s σ H v u Q I r ⟨ρ, d, ρ', sr, hr, b, hl, q⟩ => (pg_tup hc (pgs_nms hN hn) e1 e2).run pins s σ H v u Q I r ?_⟩
    cases d <;> first | (cases b; done) | skip
    rename_i ds
    simp only [Rep] at hr
    obtain ⟨a, vs, rfl, h1, h2⟩ := hr
    have b : bindNs is ds ρ = some ρ' := b
    have ll : ∀ {is : List Nat} {ds : List D} {ρ ρ' : Env}, bindNs is ds ρ = some ρ' → ds.length = is.length := by
      intro is
      induction is with
      | nil => intro ds ρ ρ' h; cases ds <;> first | rfl | cases h
      | cons i is ih =>
        intro ds ρ ρ' h
        cases ds with
        | nil => cases h
        | cons d ds => simp [ih h]
    exact ⟨a, vs, rfl, .inl (.inl h1), by rw [← h2.length, ll b], ρ, ds, ρ', sr, h2, b, hl, q⟩
end
end Mp

end Sec_MpU
section Sec_MpV
set_option autoImplicit false
set_option linter.all false
set_option maxHeartbeats 2000000
set_option maxRecDepth 100000
namespace Mp
open PySem PySem.Spec PyProof.Rows L2

/-- a wish that no exception meets -/
def noX : WX := fun _ _ _ _ => False
/-- one turn of a comprehension -/
def turnC (cf : Str → List D → R D) (n : Nat) (own : List Nat) (g : Tg) (cs : List E) (elt : E) (ρ : Env) (x : D) : R (Option D) := match bindT g x (wipe ρ own) with
  | some ρ' => (conds (ev cf n true · ρ') cs).bind fun b => if b = true then (ev cf n false elt ρ').bind fun d => .ok (some d) else .ok none
  | none => .no
section
variable {X : Cx} {W : WX} {cf : Str → List D → R D} {ow : Str → Bool}
def tCs (mg : Str → Option Value) (cf : Str → List D → R D) (n : Nat) (cs : List E) : TT := fun σ H Q => ∃ ρ b, SRE mg ρ σ H ∧ conds (ev cf n true · ρ) cs = .ok b ∧ ∀ H', Same H H' → Q b H'
inductive GdC (X : Cx) (cf : Str → List D → R D) (ow : Str → Bool) : List Expr → List E → Prop where
  | nil : GdC X cf ow [] []
  | one {c : Expr} {x : E} (h : Gd X noX cf ow c x) : GdC X cf ow [c] [x]
theorem pts_gd {ifs : List Expr} {cs : List E} (h : GdC X cf ow ifs cs) (n : Nat) : PTs X ifs (tCs X.mg cf n cs) := by
  cases h with
  | nil =>
    refine ⟨fun pins s σ H Q I ⟨ρ, b, sr, e, q⟩ => pts_nil.run pins s σ H Q I ?_⟩
    cases e
    exact q H (Same.refl H)
  | one g =>
    rename_i c x
    refine ⟨fun pins s σ H Q I ⟨ρ, b, sr, e, q⟩ => (pts_one (g.pt n)).run pins s σ H Q I ⟨ρ, sr, ?_⟩⟩
    have e : ((ev cf n true x ρ).bind fun d => (asB d).bind fun b => if b = true then .ok true else .ok false) = .ok b := e
    rw [Rw.bind]
    cases q1 : ev cf n true x ρ with
    | no => rw [q1] at e; cases e
    | ex c => rw [q1] at e; cases e
    | ok d =>
      rw [q1] at e
      cases d <;> first | (cases e; done) | skip
      rename_i k
      have e : (if k = true then R.ok true else .ok false) = .ok b := e
      intro H' s0
      cases k <;> (cases e; exact q H' s0)
theorem turn_ok {n : Nat} {own : List Nat} {g : Tg} {cs : List E} {elt : E} {ρ : Env} {x : D} {o : Option D} (h : turnC cf n own g cs elt ρ x = .ok o) :
    ∃ ρ' b, bindT g x (wipe ρ own) = some ρ' ∧ conds (ev cf n true · ρ') cs = .ok b ∧ ((b = false ∧ o = none) ∨ ∃ d, b = true ∧ ev cf n false elt ρ' = .ok d ∧ o = some d) := by
  unfold turnC at h
  cases q : bindT g x (wipe ρ own) with
  | none => rw [q] at h; cases h
  | some ρ' =>
    rw [q] at h
    have h : ((conds (ev cf n true · ρ') cs).bind fun b => if b = true then (ev cf n false elt ρ').bind fun d => .ok (some d) else .ok none) = .ok o := h
    obtain ⟨b, hb, h⟩ := bind_ok h
    refine ⟨ρ', b, rfl, hb, ?_⟩
    cases b with
    | false => cases h; exact .inl ⟨rfl, rfl⟩
    | true =>
      have h : ((ev cf n false elt ρ').bind fun d => .ok (some d)) = .ok o := h
      obtain ⟨d, hd, h⟩ := bind_ok h
      cases h
      exact .inr ⟨d, rfl, hd, rfl⟩
theorem compL_cons {step : D → R (Option D)} {x : D} {xs ds : List D} (h : compL step (x :: xs) = .ok ds) : (step x = .ok none ∧ compL step xs = .ok ds) ∨ ∃ y ys, step x = .ok (some y) ∧ compL step xs = .ok ys ∧ ds = y :: ys := by
  unfold compL at h
  split at h
  · rename_i q; exact .inl ⟨q, h⟩
  · rename_i y q
    split at h
    · rename_i ys q2; cases h; exact .inr ⟨y, ys, q, q2, rfl⟩
    · cases h
  · cases h
theorem getv_len {mg : Str → Option Value} {ρ : Env} {σ : St} {H : Hp} (h : SRE mg ρ σ H) : True := trivial
theorem gd_comp (hc : X.calm = true) (hN : X.N.Nodup) {elt tg iter : Expr} {ifs : List Expr} {scope : Scope} {pos : Pos} {own : List (Str × Nat)} {g : Tg} {k : Nat} {its cs : List E} {ex : E} (hp : ∀ n, PI X tg iter (tI X.mg W cf n k its)) (hb : blkC X.N X.env.scope scope own = true)
    (hs : ∀ x, foldedSetIterable iter X.env x = pure x) (hown : ∀ i ∈ tgIx g, i ∈ own.map (·.2))
    (ht : ∀ (s : Shared) (H : Hp) (C : Addr) (cl : List (Str × Addr)) (fp : List Addr), Tgt (X.blk s H scope (compEnvC scope cl C X.env) fp) tg g)
    (hi : ∀ (s : Shared) (H : Hp) (C : Addr) (cl : List (Str × Addr)) (fp : List Addr), GdC (X.blk s H scope (compEnvC scope cl C X.env) fp) cf ow ifs cs)
    (he : ∀ (s : Shared) (H : Hp) (C : Addr) (cl : List (Str × Addr)) (fp : List Addr), Gd (X.blk s H scope (compEnvC scope cl C X.env) fp) noX cf ow elt ex) :
    ∀ n, ∃ (te : TE), (∀ tmp σ H Q, tV X.mg W cf (n + 1) tmp (.comp (own.map (·.2)) g k its cs ex) σ H Q → σ.length = X.N.length → te σ H Q) ∧
      PE X (.ListComp elt [⟨tg, iter, ifs, 0⟩] scope pos) te ∧ (∀ (i : Nat) (y : Str) (py spos : Pos), X.N[i]? = some y → X.env.scope.names.lookup y = some .local → swapsWith (.ListComp elt [⟨tg, iter, ifs, 0⟩] scope pos) (some (.Name y py)) spos.line X.env = pure true →
        PS X (.Assign [.Name y py] (.ListComp elt [⟨tg, iter, ifs, 0⟩] scope pos) spos) (tAsg te (gName i))) := by
  intro n
  have ok := blkOk_by hb
  have pge : ∀ (s : Shared) (H : Hp) (C : Addr) (cl : List (Str × Addr)) (fp : List Addr), PG (X.blk s H scope (compEnvC scope cl C X.env) fp) tg (tG X.mg g) := fun s H C cl fp => pg_tgt (X := X.blk s H scope (compEnvC scope cl C X.env) fp) hc hN (ht s H C cl fp)
  have pte : ∀ (s : Shared) (H : Hp) (C : Addr) (cl : List (Str × Addr)) (fp : List Addr), PTs (X.blk s H scope (compEnvC scope cl C X.env) fp) ifs (tCs X.mg cf n cs) := fun s H C cl fp => pts_gd (X := X.blk s H scope (compEnvC scope cl C X.env) fp) (hi s H C cl fp) n
  have pee : ∀ (s : Shared) (H : Hp) (C : Addr) (cl : List (Str × Addr)) (fp : List Addr), PE (X.blk s H scope (compEnvC scope cl C X.env) fp) elt (fun σ H Q => ∃ ρ, SRE X.mg ρ σ H ∧ Rw (ev cf n false ex ρ) (fun d => ∀ v H', Same H H' → Md X.mg false false H H' d v → Q v H') (exW X.mg noX σ H)) :=
    fun s H C cl fp => pe_weak (X := X.blk s H scope (compEnvC scope cl C X.env) fp) (fr := false) ((he s H C cl fp).pe n false) (by simp)
  refine ⟨_, fun tmp σ H Q ⟨ρ, sr, w⟩ hlen => ?_, pe_lc hc hN (hp n) ok pge pte pee hs, fun i y py spos hy hyl hsw => ps_setLc hc hN hy hyl hsw (hp n) ok pge pte pee hs⟩
  have w : Rw ((evs (ev cf n false · ρ) its).bind fun ds => match walkOf k ds with
      | some xs => if xs.length ≤ line then (compL (turnC cf n (own.map (·.2)) g cs ex ρ) xs).bind fun ds => .ok (D.lst ds) else .no
      | none => .no) (fun d => ∀ v H', Same H H' → Own X.mg H' H d v → Q v H') (exW X.mg W σ H) := w
  rw [Rw.bind] at w
  refine ⟨ρ, sr, Rw.bind.mpr (w.mono (fun ds _ k1 => ?_) fun _ z => z)⟩
  cases qw : walkOf k ds with
  | none => rw [qw] at k1; exact k1.elim
  | some xs =>
    rw [qw] at k1
    simp only at k1
    split at k1
    · rename_i hxl
      rw [Rw.bind] at k1
      show ∀ J B H', Same H H' → Wk X.mg xs J B → B H' → _
      intro J B H1 s1 wk hB L hL
      cases qc : compL (turnC cf n (own.map (·.2)) g cs ex ρ) xs with
      | no => rw [qc] at k1; exact k1.elim
      | ex c =>
        exfalso
        have : ∀ (st : D → R (Option D)) (zs : List D) (c : Str), compL st zs ≠ .ex c := fun st zs => by
          induction zs with
          | nil => intro c h; cases h
          | cons z zs ih =>
            intro c h
            unfold compL at h
            split at h
            · exact ih c h
            · split at h <;> cases h
            · cases h
        exact this _ _ _ qc
      | ok rs =>
        rw [qc] at k1
        have k1 : ∀ v H', Same H H' → Own X.mg H' H (D.lst rs) v → Q v H' := k1
        have hL0 : H L = none := s1.free hL
        refine ⟨fun i m H2 => m = xs.length - i ∧ i ≤ xs.length ∧ Same H1 H2 ∧ B H2 ∧ ∃ accD dsR acc, compL (turnC cf n (own.map (·.2)) g cs ex ρ) (xs.drop i) = .ok dsR ∧ accD ++ dsR = rs ∧ H2 L = some (.lst acc) ∧ Reps X.mg H2 accD acc ∧ accD.length ≤ i, ?_, ?_⟩
        · exact ⟨_, rfl, Nat.zero_le _, Same.upd hL, wk.ke _ _ (Ke.upd (.inl hL)) hB, [], rs, [], by simpa using qc, rfl, upd_same, Reps.nil, Nat.le_refl _⟩
        · rintro i m H2 ⟨rfl, hi2, s2, hB2, accD, dsR, acc, hdr, happ, hH2, hreps, hal⟩
          by_cases hlt : i < xs.length
          · refine .inr ⟨wk.go i H2 hB2 hlt, fun H' => Same H1 H' ∧ B H' ∧ ∃ accD dsR acc, compL (turnC cf n (own.map (·.2)) g cs ex ρ) (xs.drop (i + 1)) = .ok dsR ∧ accD ++ dsR = rs ∧ H' L = some (.lst acc) ∧ Reps X.mg H' accD acc ∧ accD.length ≤ i + 1, fun H' hN' => ⟨xs.length - (i + 1), by omega, rfl, by omega, hN'⟩, fun x H' hy => ?_⟩
            obtain ⟨s3, d, hd, hr⟩ := wk.yld i H2 x H' hB2 hlt hy
            have ed : xs.drop i = d :: xs.drop (i + 1) := by
              rw [List.drop_eq_getElem_cons hlt]
              congr 1
              rw [List.getElem?_eq_getElem hlt] at hd
              exact Option.some.inj hd
            rw [ed] at hdr
            have s4 : Same H H' := s1.trans (s2.trans s3)
            have srw := (sr.mono s4).wipe (own.map (·.2))
            have hBx := wk.ke _ _ (Ke.of s3) hB2
            have hlw : ∀ j ∈ tgIx g, j < (L2.wipe σ (own.map (·.2))).length := fun j hj => by
              rw [wipe_length, hlen]
              obtain ⟨p, hp1, hp2⟩ := List.mem_map.mp (hown j hj)
              have := ok.ix p hp1
              rw [hp2] at this
              exact (List.getElem?_eq_some_iff.mp this).1
            have step : ∃ o, turnC cf n (own.map (·.2)) g cs ex ρ d = .ok o ∧ ∃ dsR', compL (turnC cf n (own.map (·.2)) g cs ex ρ) (xs.drop (i + 1)) = .ok dsR' ∧ dsR = o.toList ++ dsR' := by
              rcases compL_cons hdr with ⟨h1, h2⟩ | ⟨y, ys, h1, h2, h3⟩
              · exact ⟨_, h1, _, h2, rfl⟩
              · exact ⟨_, h1, _, h2, h3⟩
            obtain ⟨o, ho, dsR', hdr', e3⟩ := step
            obtain ⟨ρ', b, hbt, hcd, hres⟩ := turn_ok ho
            refine ⟨_, d, ρ', srw, hr, hbt, hlw, fun σ' sr' l' w' _ => ⟨?_, ρ', b, sr', hcd, fun H3 s5 => ?_⟩⟩
            · rw [w' _ hown, wipe_wipe (fun v hv => hv)]
            · rcases hres with ⟨rfl, rfl⟩ | ⟨y, rfl, hev, rfl⟩
              · rw [if_neg (by simp)]
                refine ⟨s2.trans (s3.trans s5), wk.ke _ _ (Ke.of s5) hBx, accD, dsR', acc, hdr', by rw [← happ, e3]; rfl, s5 _ _ (s3 _ _ hH2), (hreps.mono (Ke.of s3)).mono (Ke.of s5), by omega⟩
              · rw [if_pos rfl]
                refine ⟨ρ', sr'.mono s5, ?_⟩
                rw [hev]
                intro v H4 s6 hv
                have hv : Rep X.mg H4 y v := hv
                have s7 := s3.trans (s5.trans s6)
                have hH4 : H4 L = some (.lst acc) := s7 _ _ hH2
                have hm : Ke H4 (upd H4 L (.lst (acc ++ [v]))) := Ke.upd (.inr (by rw [hH4]; trivial))
                have hacc : acc.length = accD.length := hreps.length.symm
                refine ⟨acc, hH4, by have : line = sizeLine := rfl; omega, fun b o e => ?_, wk.ke _ _ hm (wk.ke _ _ (Ke.of s7) hB2), accD ++ [y], dsR', acc ++ [v], hdr', by rw [← happ, e3]; simp, upd_same, ?_, by simp; omega⟩
                · rw [upd_ne (ne_of_none e hL)]
                  exact (s2.trans s7) b o e
                · exact ((hreps.mono (Ke.of s7)).append (Reps.one hv)).mono hm
          · have ei : i = xs.length := by omega
            subst ei
            refine .inl ⟨wk.stop H2 hB2, k1 _ _ (s1.trans s2) ⟨L, acc, rfl, hL0, hH2, ?_⟩⟩
            rw [List.drop_eq_nil_of_le (Nat.le_refl _)] at hdr
            cases hdr
            rw [← happ, List.append_nil]
            exact hreps
    · exact k1.elim
end
end Mp

end Sec_MpV
section Sec_MpW
set_option autoImplicit false
set_option linter.all false
set_option maxHeartbeats 2000000
set_option maxRecDepth 100000
namespace Mp
open PySem PySem.Spec PyProof.Rows L2

section
variable {X : Cx} {W : WX} {cf : Str → List D → R D} {ow : Str → Bool}
theorem gd_lc (hc : X.calm = true) (hN : X.N.Nodup) {elt tg iter : Expr} {ifs : List Expr} {scope : Scope} {pos : Pos} {own : List (Str × Nat)} {g : Tg} {k : Nat} {its cs : List E} {ex : E} (hp : ∀ n, PI X tg iter (tI X.mg W cf n k its)) (hb : blkC X.N X.env.scope scope own = true)
    (hs : ∀ x, foldedSetIterable iter X.env x = pure x) (hown : ∀ i ∈ tgIx g, i ∈ own.map (·.2))
    (ht : ∀ (s : Shared) (H : Hp) (C : Addr) (cl : List (Str × Addr)) (fp : List Addr), Tgt (X.blk s H scope (compEnvC scope cl C X.env) fp) tg g)
    (hi : ∀ (s : Shared) (H : Hp) (C : Addr) (cl : List (Str × Addr)) (fp : List Addr), GdC (X.blk s H scope (compEnvC scope cl C X.env) fp) cf ow ifs cs)
    (he : ∀ (s : Shared) (H : Hp) (C : Addr) (cl : List (Str × Addr)) (fp : List Addr), Gd (X.blk s H scope (compEnvC scope cl C X.env) fp) noX cf ow elt ex) :
    Gd X W cf ow (.ListComp elt [⟨tg, iter, ifs, 0⟩] scope pos) (.comp (own.map (·.2)) g k its cs ex) := by
  have pe : ∀ n tmp, PE X (.ListComp elt [⟨tg, iter, ifs, 0⟩] scope pos) (tE X.mg W cf ow n tmp (.comp (own.map (·.2)) g k its cs ex)) := fun n tmp => by
    refine PE.of_V ?_
    cases n with
    | zero => exact zero_V
    | succ n =>
      obtain ⟨te, h1, h2, _⟩ := gd_comp (pos := pos) (W := W) hc hN hp hb hs hown ht hi he n
      exact ⟨fun pins s σ H Q I w => h2.run pins s σ H Q I (h1 tmp σ H Q w I.len)⟩
  refine ⟨pe, pt_of rfl pe, fun n op es pos q => (by cases q), fun n i y py spos hN2 hi2 hx hf => ?_⟩
  have sw : ∃ bb : Bool, swapsWith (.ListComp elt [⟨tg, iter, ifs, 0⟩] scope pos) (some (.Name y py)) spos.line X.env = pure bb ∧ (bb = true → X.env.scope.names.lookup y = some .local) := by
    refine ⟨_, rfl, fun h => ?_⟩
    simp only [Bool.and_eq_true, beq_iff_eq] at h
    exact h.1.1.2
  obtain ⟨bb, sw, hl⟩ := sw
  cases bb with
  | false => exact ps_set hN2 hi2 hx (pe n false) sw hf
  | true =>
    cases n with
    | zero => exact ⟨fun pins s σ H D I ⟨ρ, _, w⟩ => w.elim⟩
    | succ n =>
      obtain ⟨te, h1, _, h3⟩ := gd_comp (pos := pos) (W := W) hc hN hp hb hs hown ht hi he n
      refine ⟨fun pins s σ H D I w => (h3 i y py spos hi2 (hl rfl) sw).run pins s σ H D I ?_⟩
      exact h1 false σ H _ w I.len

/-! ### dict displays -/
inductive Gdp (X : Cx) (W : WX) (cf : Str → List D → R D) (ow : Str → Bool) : List (Option Expr) → List Expr → List (E × E) → Prop where
  | nil : Gdp X W cf ow [] [] []
  | cons {k v : Expr} {x y : E} {ks : List (Option Expr)} {vs : List Expr} {ps : List (E × E)} (hk : Gd X W cf ow k x) (hv : Gd X W cf ow v y) (t : Gdp X W cf ow ks vs ps) : Gdp X W cf ow (some k :: ks) (v :: vs) ((x, y) :: ps)
theorem Gdp.facts {ks : List (Option Expr)} {vs : List Expr} {ps : List (E × E)} (h : Gdp X W cf ow ks vs ps) : ks.all (·.isSome) = true ∧ ks.length = vs.length ∧ ks.length = ps.length := by
  induction h with
  | nil => exact ⟨rfl, rfl, rfl⟩
  | cons _ _ _ ih => exact ⟨by rw [List.all_cons, ih.1]; rfl, by simp [ih.2.1], by simp [ih.2.2]⟩
def RepP (mg : Str → Option Value) (H : Hp) : List (D × D) → List (V × V) → Prop
  | [], vs => vs = []
  | (d, e) :: ds, vs => ∃ k v r, vs = (k, v) :: r ∧ Rep mg H d k ∧ Rep mg H e v ∧ RepP mg H ds r
theorem RepP.mono {mg : Str → Option Value} {H H' : Hp} (k : Ke H H') : ∀ {ds : List (D × D)} {vs : List (V × V)}, RepP mg H ds vs → RepP mg H' ds vs
  | [], _, h => h
  | (d, e) :: ds, _, ⟨a, b, r, e1, h1, h2, h3⟩ => ⟨a, b, r, e1, h1.mono k, h2.mono k, RepP.mono k h3⟩
def trsOf (mg : Str → Option Value) (W : WX) (cf : Str → List D → R D) (n : Nat) (ps : List (E × E)) : List (TE × TE) := ps.map fun p =>
  (fun σ H Q => ∃ ρ, SRE mg ρ σ H ∧ Rw (ev cf n false p.1 ρ) (fun d => ∀ v H', Same H H' → Md mg false false H H' d v → Q v H') (exW mg W σ H),
   fun σ H Q => ∃ ρ, SRE mg ρ σ H ∧ Rw (ev cf n false p.2 ρ) (fun d => ∀ v H', Same H H' → Md mg false false H H' d v → Q v H') (exW mg W σ H))
theorem pps_gd {pos : Pos} {ks : List (Option Expr)} {vs : List Expr} {ps : List (E × E)} (h : Gdp X W cf ow ks vs ps) (n : Nat) : PPs X pos ks vs (trsOf X.mg W cf n ps) := by
  induction h with
  | nil => exact pps_nil
  | cons hk hv t ih => exact pps_cons (pe_weak (fr := false) (hk.pe n false) (by simp)) (pe_weak (fr := false) (hv.pe n false) (by simp)) ih
theorem tp_of {mg : Str → Option Value} {n : Nat} {ρ : Env} {σ : St} : ∀ {ps : List (E × E)} {H : Hp} {Q : List (V × V) → Hp → Prop}, SRE mg ρ σ H → Rw (evp (ev cf n false · ρ) ps) (fun ds => ∀ vs H', Same H H' → RepP mg H' ds vs → Q vs H') (exW mg W σ H) →
    tPairs (trsOf mg W cf n ps) σ H Q
  | [], H, Q, sr, w => (show ∀ vs H', Same H H' → RepP mg H' [] vs → Q vs H' from w) [] H (Same.refl H) rfl
  | (a, b) :: ps, H, Q, sr, w => by
    have w : Rw ((ev cf n false a ρ).bind fun d => (ev cf n false b ρ).bind fun c => (evp (ev cf n false · ρ) ps).bind fun ds => .ok ((d, c) :: ds)) (fun ds => ∀ vs H', Same H H' → RepP mg H' ds vs → Q vs H') (exW mg W σ H) := w
    rw [Rw.bind] at w
    refine ⟨ρ, sr, w.mono (fun d _ k v H1 s1 t1 => ?_) fun _ z => z⟩
    rw [Rw.bind] at k
    refine ⟨ρ, sr.mono s1, k.mono (fun c _ k2 v2 H2 s2 t2 => ?_) fun _ z => z.mono s1⟩
    rw [Rw.bind] at k2
    have s3 := s1.trans s2
    refine tp_of (sr.mono s3) (k2.mono (fun ds _ k3 vs H3 s4 t4 => ?_) fun _ z => z.mono s3)
    exact (show ∀ vs H', Same H H' → RepP mg H' ((d, c) :: ds) vs → Q vs H' from k3) ((v, v2) :: vs) H3 (s3.trans s4)
      ⟨v, v2, vs, rfl, Rep.mono (Ke.of (s2.trans s4)) _ _ (show Rep mg H1 d v from t1), Rep.mono (Ke.of s4) _ _ (show Rep mg H2 c v2 from t2), t4⟩
theorem repP_K {mg : Str → Option Value} {H : Hp} : ∀ {ds : List (D × D)} {vs : List (V × V)}, RepP mg H ds vs → ds.all (fun p => p.1.isK0) = true → ∃ kvs : List (Key × V), vs = kvs.map (fun kv => (kV kv.1, kv.2)) ∧ RepK mg H ds kvs
  | [], _, h, _ => ⟨[], h, by simp only [RepK]⟩
  | (d, e) :: ds, _, ⟨a, b, r, e1, h1, h2, h3⟩, k => by
    rw [List.all_cons, Bool.and_eq_true] at k
    obtain ⟨kk, hk⟩ := isK0_kD k.1 h1
    obtain ⟨kvs, e2, h4⟩ := repP_K h3 k.2
    refine ⟨(kk, b) :: kvs, by rw [e1, rep_kV hk h1, e2]; rfl, ?_⟩
    simp only [RepK]
    exact ⟨kk, b, kvs, rfl, hk, h2, h4⟩
theorem gd_dct {pos : Pos} {ks : List (Option Expr)} {vs : List Expr} {ps : List (E × E)} (h : Gdp X W cf ow ks vs ps) (l : ks.length ≤ 15) : Gd X W cf ow (.Dict ks vs pos) (.dct ps) := by
  refine .mk' rfl fun n tmp => PE.of_V ?_
  cases n with
  | zero => exact zero_V
  | succ n =>
    obtain ⟨f1, f2, f3⟩ := h.facts
    by_cases ne : ks = []
    · subst ne
      cases h
      refine peI pe_dnewK fun σ H Q ⟨ρ, sr, w⟩ p hp => ?_
      have w : ∀ v H', Same H H' → Own X.mg H' H (D.dic []) v → Q v H' := w
      exact okV.dK (X := X) w (by simp only [RepK]) hp
    · refine peI (pe_disp (pps_gd h n) f1 f2 ne l) fun σ H Q ⟨ρ, sr, w⟩ p hp => ?_
      have w : Rw ((evp (ev cf n false · ρ) ps).bind fun ds => if (ds.all fun p => p.1.isK0) && decide (ds.length ≤ 15) then .ok (D.dic (putAll [] ds)) else .no) (fun d => ∀ v H', Same H H' → Own X.mg H' H d v → Q v H') (exW X.mg W σ H) := w
      rw [Rw.bind] at w
      have s0 : Same H (upd H p (.dK [])) := Same.upd hp
      refine tp_of (sr.mono s0) (w.mono (fun ds _ k vs H2 s1 t1 => ?_) fun _ z => z.mono s0)
      split at k
      · rename_i hk
        rw [Bool.and_eq_true, decide_eq_true_eq] at hk
        obtain ⟨kvs, rfl, hr⟩ := repP_K t1 hk.1
        have hH2 : H2 p = some (.dK []) := s1 _ _ upd_same
        have k : ∀ v H', Same H H' → Own X.mg H' H (D.dic (putAll [] ds)) v → Q v H' := k
        refine ⟨hH2, kvs, rfl, by rw [← hr.length]; exact hk.2, k _ _ (fun b o e => ?_) ⟨p, rfl, hp, .inl ⟨_, upd_same, ?_⟩⟩⟩
        · rw [upd_ne (ne_of_none e hp)]
          exact (s0.trans s1) b o e
        · exact RepK.mono (Ke.upd (.inr (by rw [hH2]; trivial))) _ _ (RepK.putAll hr (by simp only [RepK]))
      · exact k.elim
end
end Mp

end Sec_MpW
section Sec_MpX
set_option autoImplicit false
set_option linter.all false
set_option maxHeartbeats 2000000
set_option maxRecDepth 100000
namespace Mp
open PySem PySem.Spec PyProof.Rows L2

/-- the built-in names that code of ours may use -/
def bltNames : List Str := ["len", "all", "any", "sum", "max", "min", "sorted", "list", "tuple", "dict", "int", "str", "bool", "isinstance", "enumerate", "zip", "range"]
/-- a context where the translated code runs -/
structure Ck (X : Cx) (W : WX) (cf : Str → List D → R D) (ow : Str → Bool) (T : Tab) : Prop where
  calm : X.calm = true
  units : X.A.units + 64 < cLine
  nd : X.N.Nodup
  tk : L2.Takes X W
  con : ∀ x d, T.gv.lookup x = some (.con d) → ∃ v u, X.mg x = some u ∧ RelV v u ∧ ∀ H, Rep X.mg H d v
  fn : ∀ x, T.gv.lookup x = some .fn → CallOk X cf ow x
  blt : ∀ x ∈ bltNames, T.gv.lookup x = none → X.mg x = none

section
variable {X : Cx} {W : WX} {cf : Str → List D → R D} {ow : Str → Bool} {T : Tab}
theorem Ck.blk (c : Ck X W cf ow T) (s : Shared) (H : Hp) (scope : Scope) (env : PySem.Env) (fp : List Addr) : Ck (X.blk s H scope env fp) noX cf ow T where
  calm := c.calm
  units := c.units
  nd := c.nd
  tk := fun u s' ⟨a, B, sI, pins, σ, H, cls, d, e, I, h1, h2, h3, h4, h5, h6, w⟩ => w
  con := c.con
  fn := fun x h => by
    obtain ⟨k, fa, fd, ps, h1, h2, h3, h4, h5⟩ := c.fn x h
    exact ⟨k, fa, fd, ps, h1, h2, h3, h4, h5⟩
  blt := c.blt

theorem idx_get {N : List Str} {x : Str} {i : Nat} (h : idx N x = some i) : N[i]? = some x := by
  obtain ⟨h1, h2, _⟩ := List.findIdx?_eq_some_iff_getElem.mp h
  rw [List.getElem?_eq_getElem h1]
  simpa using h2
theorem okName_iff {x : Str} (h : okName x = true) : (x == ("__debug__" : Str)) = false ∧ (x == ("__classdict__" : Str)) = false ∧ x ≠ "__name__" := by
  unfold okName at h
  simp only [Bool.and_eq_true, bne_iff_ne, ne_eq] at h
  exact ⟨by simpa using h.1.1, by simpa using h.1.2, h.2⟩
theorem held_vis {sc : Scope} {x : Str} (h : heldN sc x = true) : Vis sc x := by
  unfold heldN at h
  simp only [Bool.or_eq_true, beq_iff_eq] at h
  rcases h with (h | h) | h
  · exact .inl h
  · exact .inr (.inl h)
  · exact .inr (.inr h)
theorem own_loc {sc : Scope} {x : Str} (h : ownN sc x = true) : Loc sc x := by
  unfold ownN at h
  simp only [Bool.or_eq_true, beq_iff_eq] at h
  exact h
theorem isGl_gl {x : Str} (h : isGl X.env.scope x = true) : Gl X x := by
  unfold isGl at h
  simpa [Gl, Env.kindOf] using h
theorem bop_to {op : Operator} {o : BOp} (h : bopOf op = some o) : op = bopTo o := by
  cases op <;> first | (cases h; done) | (cases h; rfl)
theorem cop_to (op : CmpOp) : copTo (copOf op) = op := by cases op <;> rfl
theorem bindO {α β : Type} {o : Option α} {f : α → Option β} {b : β} (h : o.bind f = some b) : ∃ a, o = some a ∧ f a = some b := by
  cases o with
  | none => cases h
  | some a => exact ⟨a, rfl, h⟩
theorem okArgs_iff {es : List Expr} (h : okArgs es = true) : (∀ e ∈ es, isStar e = false) ∧ es.length ≤ 1000 := by
  unfold okArgs at h
  simp only [Bool.and_eq_true, decide_eq_true_eq, Bool.not_eq_true', List.any_eq_false] at h
  exact ⟨fun e he => by simpa using h.1 e he, h.2⟩
theorem gds_of {f : Expr → Option E} (ih : ∀ e x, f e = some x → Gd X W cf ow e x) : ∀ {es : List Expr} {xs : List E}, mapO f es = some xs → (∀ e ∈ es, isStar e = false) → Gds X W cf ow es xs
  | [], xs, h, _ => by cases h; exact .nil
  | e :: es, xs, h, st => by
    obtain ⟨x, h1, h⟩ := bindO h
    obtain ⟨xs', h2, h⟩ := bindO h
    cases h
    exact .cons (ih e x h1) (st e List.mem_cons_self) (gds_of ih h2 fun e he => st e (List.mem_cons_of_mem _ he))
theorem gdc_of {f : Expr → Option E} (ih : ∀ e x, f e = some x → Gd X noX cf ow e x) {es : List Expr} {xs : List E} (h : mapO f es = some xs) (l : es.length ≤ 1) : GdC X cf ow es xs := by
  match es, l with
  | [], _ => cases h; exact .nil
  | [e], _ =>
    obtain ⟨x, h1, h⟩ := bindO h
    obtain ⟨xs', h2, h⟩ := bindO h
    cases h2
    cases h
    exact .one (ih e x h1)
theorem gdp_of {f : Expr → Option E} (ih : ∀ e x, f e = some x → Gd X W cf ow e x) : ∀ {ks : List (Option Expr)} {vs : List Expr} {ps : List (E × E)}, mapP f f ks vs = some ps → Gdp X W cf ow ks vs ps
  | [], [], ps, h => by cases h; exact .nil
  | some k :: ks, v :: vs, ps, h => by
    obtain ⟨x, h1, h⟩ := bindO h
    obtain ⟨y, h2, h⟩ := bindO h
    obtain ⟨r, h3, h⟩ := bindO h
    cases h
    exact .cons (ih k x h1) (ih v y h2) (gdp_of ih h3)
  | none :: _, _, _, h => by cases h
  | some _ :: _, [], _, h => by cases h
  | [], _ :: _, _, h => by cases h
theorem gdo_of {f : Expr → Option E} (ih : ∀ e x, f e = some x → Gd X W cf ow e x) {o : Option Expr} {p : Option E} (h : mapOO f o = some p) : Gdo X W cf ow o p := by
  cases o with
  | none => cases h; exact .none
  | some e =>
    obtain ⟨x, h1, h⟩ := bindO h
    cases h
    exact .some (ih e x h1)
theorem nms_of {ok : Str → Bool} (hk : ∀ x, ok x = true → Loc X.env.scope x ∧ (X.fn x = true ∨ X.env.scope.names.lookup x = some .local)) : ∀ {es : List Expr} {is : List Nat}, namesOf X.N ok es = some is → Nms X es is
  | [], is, h => by cases h; exact .nil
  | e :: es, is, h => by
    cases e <;> first | (cases h; done) | skip
    rename_i x p
    unfold namesOf at h
    split at h
    · rename_i hx
      obtain ⟨i, h1, h⟩ := bindO h
      obtain ⟨r, h2, h⟩ := bindO h
      cases h
      exact .cons ⟨idx_get h1, hk x hx⟩ (nms_of hk h2)
    · cases h
theorem tgt_of {ok : Str → Bool} (hk : ∀ x, ok x = true → Loc X.env.scope x ∧ (X.fn x = true ∨ X.env.scope.names.lookup x = some .local)) {e : Expr} {g : Tg} (h : tgOf X.N ok e = some g) : Tgt X e g := by
  cases e <;> first | (cases h; done) | skip
  · rename_i x p
    unfold tgOf at h
    simp only at h
    split at h
    · rename_i hx
      obtain ⟨i, h1, h⟩ := bindO h
      cases h
      exact .nm ⟨idx_get h1, hk x hx⟩
    · cases h
  · obtain ⟨is, h1, h⟩ := bindO h
    cases h
    exact .tp (nms_of hk h1)
theorem tg_in {N : List Str} {ok : Str → Bool} {own : List (Str × Nat)} (ho : ∀ x i, ok x = true → idx N x = some i → i ∈ own.map (·.2)) {e : Expr} {g : Tg} (h : tgOf N ok e = some g) : ∀ i ∈ tgIx g, i ∈ own.map (·.2) := by
  cases e <;> first | (cases h; done) | skip
  · rename_i x p
    unfold tgOf at h
    simp only at h
    split at h
    · rename_i hx
      obtain ⟨i, h1, h⟩ := bindO h
      cases h
      intro j hj
      have : j = i := by simpa [tgIx] using hj
      subst this
      exact ho x j hx h1
    · cases h
  · obtain ⟨is, h1, h⟩ := bindO h
    cases h
    rename_i es k p
    have : ∀ {es : List Expr} {is : List Nat}, namesOf N ok es = some is → ∀ i ∈ is, i ∈ own.map (·.2) := by
      intro es
      induction es with
      | nil => intro is h; cases h; intro i hi; cases hi
      | cons e es ih =>
        intro is h
        cases e <;> first | (cases h; done) | skip
        rename_i x p
        unfold namesOf at h
        split at h
        · rename_i hx
          obtain ⟨i, h1, h⟩ := bindO h
          obtain ⟨r, h2, h⟩ := bindO h
          cases h
          intro j hj
          rcases List.mem_cons.mp hj with rfl | hj
          · exact ho x j hx h1
          · exact ih h2 j hj
        · cases h
    exact this h1
theorem mapO_own {N : List Str} : ∀ {ys : List (Str × NameKind)} {own : List (Str × Nat)}, mapO (fun y : Str × NameKind => (idx N y.1).bind fun i => some (y.1, i)) ys = some own → ∀ y ∈ ys, ∃ i, idx N y.1 = some i ∧ (y.1, i) ∈ own
  | [], own, h => by cases h; intro y hy; cases hy
  | z :: ys, own, h => by
    obtain ⟨p, h1, h⟩ := bindO h
    obtain ⟨r, h2, h⟩ := bindO h
    cases h
    obtain ⟨i, h3, h4⟩ := bindO h1
    cases h4
    intro y hy
    rcases List.mem_cons.mp hy with rfl | hy
    · exact ⟨i, h3, List.mem_cons_self⟩
    · obtain ⟨j, e1, e2⟩ := mapO_own h2 y hy
      exact ⟨j, e1, List.mem_cons_of_mem _ e2⟩
end
end Mp

end Sec_MpX
section Sec_MpY
set_option autoImplicit false
set_option linter.all false
set_option maxHeartbeats 4000000
set_option maxRecDepth 100000
namespace Mp
open PySem PySem.Spec PyProof.Rows L2

section
variable {X : Cx} {W : WX} {cf : Str → List D → R D} {ow : Str → Bool} {T : Tab}
theorem name_ok (ck : Ck X W cf ow T) {x : Str} {p : Pos} {y : E} (h : trName T X.N X.env.scope x = some y) : Gd X W cf ow (.Name x p) y := by
  unfold trName at h
  split at h
  · rename_i ok
    obtain ⟨o1, o2, o3⟩ := okName_iff ok
    split at h
    · rename_i hv
      obtain ⟨i, h1, h⟩ := bindO h
      cases h
      exact gd_var (idx_get h1) (held_vis hv) o1 o2
    · split at h
      · rename_i hg
        split at h
        · rename_i d hl
          cases h
          obtain ⟨v, u, h1, h2, h3⟩ := ck.con x d hl
          exact gd_cst (pe_glob (isGl_gl hg) h1 h2 o1) rfl h3
        · rename_i hl
          cases h
          obtain ⟨k, fa, fd, ps, h1, _⟩ := ck.fn x hl
          exact gd_cst (pe_glob (v := .ref fa) (isGl_gl hg) h1 rfl o1) rfl fun H => by simp only [Rep]; exact ⟨fa, rfl, h1⟩
        · cases h
      · cases h
  · cases h
theorem const_ok {c : Const} {k : Nat} {p : Pos} {d : D} (h : constD c = some d) : Gd X W cf ow (.Constant c k p) (.cst d) := by
  cases c <;> first | (cases h; done) | skip
  · cases h; exact gd_cst pe_non rfl fun H => by simp only [Rep]
  · cases h; exact gd_cst pe_bl rfl fun H => by simp only [Rep]
  · cases h; exact gd_cst pe_int rfl fun H => by simp only [Rep]
  · rename_i s
    unfold constD at h
    simp only at h
    split at h
    · rename_i l
      cases h
      refine gd_cst pe_str rfl fun H => ?_
      simp only [sOf, Rep]
      refine ⟨by simp, ?_⟩
      have : line = 16777216 := rfl
      have e : s.cps.toList.length = s.cps.size := by simp
      omega
    · cases h
theorem bi_of {x : Str} {n : Nat} {b : Bi} (h : biOf x n = some b) : n ≠ 0 ∧ x ∈ bltNames ∧ bootBuiltins x = some (biTo b) ∧ (b ≠ .sortset ∧ b ≠ .minvals ∧ ∀ t, b ≠ .isi t) := by
  unfold biOf at h
  split at h
  · cases h
  · rename_i n0
    refine ⟨n0, ?_⟩
    repeat' (split at h)
    all_goals first | (cases h; done) | skip
    · rename_i e; subst e; cases h; exact ⟨by decide, boot_len, by simp⟩
    · rename_i e; subst e; cases h; exact ⟨by decide, boot_all, by simp⟩
    · rename_i e; subst e; cases h; exact ⟨by decide, boot_any, by simp⟩
    · rename_i e; subst e; cases h; exact ⟨by decide, boot_sum, by simp⟩
    · rename_i e; subst e; cases h; exact ⟨by decide, boot_max, by simp⟩
    · rename_i e; subst e; cases h; exact ⟨by decide, boot_min, by simp⟩
    · rename_i e; subst e; cases h; exact ⟨by decide, boot_sorted, by simp⟩
    · rename_i e; subst e; cases h; exact ⟨by decide, PyProof.Rows.boot_list, by simp⟩
    · rename_i e; subst e; cases h; exact ⟨by decide, PyProof.Rows.boot_tuple, by simp⟩
    · rename_i e; subst e; cases h; exact ⟨by decide, PyProof.Rows.boot_dict, by simp⟩
    · rename_i e; subst e; cases h; exact ⟨by decide, PyProof.Rows.boot_int, by simp⟩
theorem ty_of {x : Str} {t : Ty} (h : tyOf x = some t) : x ∈ bltNames ∧ bootBuiltins x = some (.type (tyName t)) := by
  unfold tyOf at h
  repeat' (split at h)
  all_goals first | (cases h; done) | skip
  · rename_i e; subst e; cases h; exact ⟨by decide, PyProof.Rows.boot_int⟩
  · rename_i e; subst e; cases h; exact ⟨by decide, PyProof.Rows.boot_bool⟩
  · rename_i e; subst e; cases h; exact ⟨by decide, PyProof.Rows.boot_str⟩
  · rename_i e; subst e; cases h; exact ⟨by decide, PyProof.Rows.boot_tuple⟩
  · rename_i e; subst e; cases h; exact ⟨by decide, PyProof.Rows.boot_list⟩
theorem call_ok (ck : Ck X W cf ow T) {f : Expr → Option E} (ih : ∀ e x, f e = some x → Gd X W cf ow e x) {x : Str} {p pos : Pos} {args : List Expr} {y : E} (h : trCall T X.env.scope f x args = some y) : Gd X W cf ow (.Call (.Name x p) args [] pos) y := by
  unfold trCall at h
  split at h
  · rename_i hh
    simp only [Bool.and_eq_true] at hh
    obtain ⟨⟨ok, hg⟩, ha⟩ := hh
    obtain ⟨o1, o2, o3⟩ := okName_iff ok
    obtain ⟨st, ln⟩ := okArgs_iff ha
    split at h
    · rename_i hl
      obtain ⟨xs, h1, h⟩ := bindO h
      cases h
      exact gd_call ck.tk (ck.fn x hl) (isGl_gl hg) o1 (gds_of ih h1 st)
    · cases h
    · rename_i hl
      split at h
      · rename_i ei
        subst ei
        split at h
        · rename_i a t p2
          split at h
          · rename_i hh
            simp only [Bool.and_eq_true, Option.isNone_iff_eq_none] at hh
            obtain ⟨⟨ok2, hg2⟩, hn2⟩ := hh
            obtain ⟨q1, q2, q3⟩ := okName_iff ok2
            obtain ⟨ty, h1, h⟩ := bindO h
            obtain ⟨z, h2, h⟩ := bindO h
            cases h
            obtain ⟨m, bt⟩ := ty_of h1
            exact gd_isi (isGl_gl hg) (ck.blt _ (by decide) hl) boot_isinstance o3 o1 (isGl_gl hg2) (ck.blt _ m hn2) bt q3 q1 (ih a z h2) (st a (by simp))
          · cases h
        · cases h
      · obtain ⟨b, h1, h⟩ := bindO h
        obtain ⟨xs, h2, h⟩ := bindO h
        cases h
        obtain ⟨n0, m, bt, ho⟩ := bi_of h1
        cases args with
        | nil => exact absurd rfl n0
        | cons e es => exact gd_bi ck.calm ck.units ho (isGl_gl hg) (ck.blt _ m hl) bt o3 o1 (gds_of ih h2 st)
  · cases h
theorem meth_ok (ck : Ck X W cf ow T) {f : Expr → Option E} (ih : ∀ e x, f e = some x → Gd X W cf ow e x) {o : Expr} {m : Str} {apos pos : Pos} {args : List Expr} {y : E} (h : trMeth f o m args (apos.endLine == pos.line) = some y) : Gd X W cf ow (.Call (.Attribute o m apos) args [] pos) y := by
  unfold trMeth at h
  split at h
  · rename_i hh
    simp only [Bool.and_eq_true, decide_eq_true_eq, Bool.not_eq_true'] at hh
    obtain ⟨⟨⟨ha, hl⟩, h0⟩, l30⟩ := hh
    obtain ⟨st, ln⟩ := okArgs_iff ha
    split at h
    · rename_i hm
      rw [Bool.and_eq_true, decide_eq_true_eq, decide_eq_true_eq] at hm
      obtain ⟨rfl, hpos⟩ := hm
      obtain ⟨x, h1, h⟩ := bindO h
      obtain ⟨xs, h2, h⟩ := bindO h
      cases h
      cases args with
      | nil => simp at hpos
      | cons e es => exact gd_get ck.units h0 hl (ih o x h1) (gds_of ih h2 st) l30
    · split at h
      · rename_i hm
        subst hm
        split at h
        · rename_i a _
          obtain ⟨x, h1, h⟩ := bindO h
          obtain ⟨z, h2, h⟩ := bindO h
          cases h
          exact gd_join h0 hl (ih o x h1) (ih a z h2) (st a (by simp))
        · cases h
      · cases h
  · cases h
theorem walk_name {x : Str} {k : Nat} (h : walkName x = some k) : (x = "enumerate" ∧ k = 1) ∨ (x = "zip" ∧ k = 2) ∨ (x = "range" ∧ k = 3) := by
  unfold walkName at h
  repeat' (split at h)
  all_goals first | (cases h; done) | skip
  · rename_i e; cases h; exact .inl ⟨e, rfl⟩
  · rename_i e; cases h; exact .inr (.inl ⟨e, rfl⟩)
  · rename_i e; cases h; exact .inr (.inr ⟨e, rfl⟩)
theorem iter_cases {sc : Scope} {tup : Bool} {e : Expr} : iterOf sc T tup e = (0, [e]) ∨ ∃ (x : Str) (p pos : Pos) (args : List Expr), e = .Call (.Name x p) args [] pos ∧ isGl sc x = true ∧ T.gv.lookup x = none ∧
    ((x = "enumerate" ∧ tup = true ∧ args.length = 1 ∧ iterOf sc T tup e = (1, args)) ∨ (x = "zip" ∧ tup = true ∧ args.length = 2 ∧ iterOf sc T tup e = (2, args)) ∨
      (x = "range" ∧ (args.length = 1 ∨ args.length = 2 ∨ args.length = 3) ∧ iterOf sc T tup e = (3, args))) := by
  unfold iterOf
  split
  · rename_i x p args pos
    split
    · rename_i hw
      split
      · rename_i hh
        simp only [Bool.and_eq_true, Option.isNone_iff_eq_none, beq_iff_eq] at hh
        rcases walk_name hw with ⟨e, _⟩ | ⟨_, e⟩ | ⟨_, e⟩ <;> first | (cases e; done) | skip
        exact .inr ⟨x, p, pos, args, rfl, hh.1.1.2, hh.1.2, .inl ⟨e, hh.1.1.1, hh.2, rfl⟩⟩
      · exact .inl rfl
    · rename_i hw
      split
      · rename_i hh
        simp only [Bool.and_eq_true, Option.isNone_iff_eq_none, beq_iff_eq] at hh
        rcases walk_name hw with ⟨_, e⟩ | ⟨e, _⟩ | ⟨_, e⟩ <;> first | (cases e; done) | skip
        exact .inr ⟨x, p, pos, args, rfl, hh.1.1.2, hh.1.2, .inr (.inl ⟨e, hh.1.1.1, hh.2, rfl⟩)⟩
      · exact .inl rfl
    · rename_i k k1 k2 hw
      split
      · rename_i hh
        simp only [Bool.and_eq_true, Option.isNone_iff_eq_none, Bool.or_eq_true, beq_iff_eq] at hh
        rcases walk_name hw with ⟨_, e⟩ | ⟨_, e⟩ | ⟨e, _⟩
        · exact absurd e k1
        · exact absurd e k2
        · refine .inr ⟨x, p, pos, args, rfl, hh.1.1, hh.1.2, .inr (.inr ⟨e, ?_, rfl⟩)⟩
          rcases hh.2 with (h | h) | h
          · exact .inl h
          · exact .inr (.inl h)
          · exact .inr (.inr h)
      · exact .inl rfl
    · exact .inl rfl
  · exact .inl rfl
/-- what a loop's iterable gives -/
theorem iter_ok (ck : Ck X W cf ow T) {f : Expr → Option E} (ih : ∀ e x, f e = some x → Gd X W cf ow e x) (hstar : ∀ e, isStar e = true → f e = none) {tg iter : Expr} {its : List E} (h : mapO f (iterOf X.env.scope T (isTup tg) iter).2 = some its) (n : Nat) :
    PI X tg iter (tI X.mg W cf n (iterOf X.env.scope T (isTup tg) iter).1 its) := by
  have st : ∀ {es : List Expr} {xs : List E}, mapO f es = some xs → ∀ e ∈ es, isStar e = false := by
    intro es
    induction es with
    | nil => intro xs h e he; cases he
    | cons a r ih2 =>
      intro xs h e he
      obtain ⟨x, h1, h⟩ := bindO h
      obtain ⟨xs', h2, h⟩ := bindO h
      rcases List.mem_cons.mp he with rfl | he
      · cases q : isStar e with
        | false => rfl
        | true => rw [hstar e q] at h1; cases h1
      · exact ih2 h2 e he
  rcases iter_cases (T := T) (sc := X.env.scope) (tup := isTup tg) (e := iter) with q | ⟨x, p, pos, args, rfl, hg, hl, q⟩
  · rw [q] at h ⊢
    obtain ⟨x, h1, h⟩ := bindO h
    obtain ⟨xs', h2, h⟩ := bindO h
    cases h2
    cases h
    exact pi_0 (ih _ _ h1) n
  · rcases q with ⟨rfl, ht, l, q⟩ | ⟨rfl, ht, l, q⟩ | ⟨rfl, l, q⟩
    · rw [q] at h ⊢
      match args, l with
      | [a], _ => exact pi_1 (isGl_gl hg) (ck.blt _ (by decide) hl) ht (gds_of ih h (st h)) n
    · rw [q] at h ⊢
      match args, l with
      | [a, b], _ => exact pi_2 (isGl_gl hg) (ck.blt _ (by decide) hl) ht (gds_of ih h (st h)) n
    · rw [q] at h ⊢
      exact pi_3 (isGl_gl hg) (ck.blt _ (by decide) hl) (gds_of ih h (st h)) l n
theorem trE_star {N : List Str} {n : Nat} {sc : Scope} {e : Expr} (h : isStar e = true) : trE T N n sc e = none := by
  cases e <;> first | (cases h; done) | skip
  cases n <;> rfl
theorem slice_cases (b : Expr) : (∃ lo hi p, b = .Slice lo hi none p) ∨ ∀ (o i : Value), isSlice b = false → subscripted b false o i = operate [o, i] (getItem o i) := by
  cases b <;> first | exact .inr (fun o i _ => rfl) | skip
  rename_i lo hi st p
  exact .inr fun o i h => by cases h
theorem trE_ok : ∀ (n : Nat) (X : Cx) (W : WX), Ck X W cf ow T → ∀ (e : Expr) (x : E), trE T X.N n X.env.scope e = some x → Gd X W cf ow e x := by
  intro n
  induction n with
  | zero => intro X W ck e x h; cases h
  | succ n ih =>
    intro X W ck e x h
    have ih' := ih X W ck
    unfold trE at h
    cases e <;> simp only at h <;> first | (cases h; done) | skip
    · -- BoolOp
      rename_i op es pos
      split at h
      · cases h
      · exact gd_bop1 (ih' _ _ h)
      · obtain ⟨x1, h1, h⟩ := bindO h
        obtain ⟨y1, h2, h⟩ := bindO h
        cases h
        have := gd_bop (ih' _ _ h1) (ih' _ _ h2)
        cases op <;> exact this
    · -- BinOp
      rename_i a op b pos
      split at h
      · rename_i es hes
        split at h
        · rename_i ha
          obtain ⟨st, ln⟩ := okArgs_iff ha
          obtain ⟨xs, h1, h⟩ := bindO h
          obtain ⟨y, h2, h⟩ := bindO h
          cases h
          unfold listOf at hes
          split at hes
          · cases hes
            exact gd_rep (gds_of ih' h1 st) (by have : sizeLine = 16777216 := rfl; omega) (ih' _ _ h2)
          · cases hes
        · cases h
      · obtain ⟨o, h0, h⟩ := bindO h
        obtain ⟨x1, h1, h⟩ := bindO h
        obtain ⟨y1, h2, h⟩ := bindO h
        cases h
        rw [bop_to h0]
        exact gd_bin (ih' _ _ h1) (ih' _ _ h2)
    · -- UnaryOp
      rename_i op a pos
      split at h
      · obtain ⟨x1, h1, h⟩ := bindO h
        cases h
        exact gd_neg (ih' _ _ h1)
      · obtain ⟨x1, h1, h⟩ := bindO h
        cases h
        exact gd_not (ih' _ _ h1)
      · cases h
    · -- IfExp
      obtain ⟨x1, h1, h⟩ := bindO h
      obtain ⟨y1, h2, h⟩ := bindO h
      obtain ⟨z1, h3, h⟩ := bindO h
      cases h
      exact gd_ite (ih' _ _ h1) (ih' _ _ h2) (ih' _ _ h3)
    · -- Dict
      split at h
      · rename_i l
        obtain ⟨ps, h1, h⟩ := bindO h
        cases h
        exact gd_dct (gdp_of ih' h1) l
      · cases h
    · -- ListComp
      rename_i elt gs scope pos
      split at h
      · rename_i tg iter ifs
        obtain ⟨own, h0, h⟩ := bindO h
        split at h
        · rename_i hh
          simp only [Bool.and_eq_true, decide_eq_true_eq, Bool.not_eq_true'] at hh
          obtain ⟨⟨hb, hs⟩, l1⟩ := hh
          obtain ⟨g, h1, h⟩ := bindO h
          obtain ⟨its, h2, h⟩ := bindO h
          obtain ⟨cs, h3, h⟩ := bindO h
          obtain ⟨ex, h4, h⟩ := bindO h
          cases h
          have bok := blkOk_by (show blkC X.N X.env.scope scope own = true from hb)
          have hin : ∀ y i, ownN scope y = true → idx X.N y = some i → i ∈ own.map (·.2) := fun y i hy hi => by
            rcases own_loc hy with q | q
            · obtain ⟨j, e1, e2⟩ := mapO_own h0 (y, .local) (List.mem_filter.mpr ⟨PySem.mem_of_lookup q, rfl⟩)
              rw [hi] at e1; cases e1
              exact List.mem_map.mpr ⟨_, e2, rfl⟩
            · obtain ⟨j, e1, e2⟩ := mapO_own h0 (y, .cell) (List.mem_filter.mpr ⟨PySem.mem_of_lookup q, rfl⟩)
              rw [hi] at e1; cases e1
              exact List.mem_map.mpr ⟨_, e2, rfl⟩
          have esc : ∀ (s : Shared) (H : Hp) (C : Addr) (cl : List (Str × Addr)) (fp : List Addr), (X.blk s H scope (compEnvC scope cl C X.env) fp).env.scope = relSc scope X.env.scope := fun _ _ _ _ _ => rfl
          refine gd_lc ck.calm ck.nd (fun m => iter_ok ck ih' (fun e he => trE_star he) h2 m) hb (fun z => ?_) (tg_in hin h1) (fun s H C cl fp => ?_) (fun s H C cl fp => ?_) fun s H C cl fp => ?_
          · cases iter <;> first | rfl | cases hs
          · refine tgt_of (X := X.blk s H scope (compEnvC scope cl C X.env) fp) (ok := ownN scope) (fun y hy => ?_) h1
            rcases own_loc hy with q | q
            · have := lookup_relS_keep (sc := X.env.scope) (names := scope.names) (by simp) q
              exact ⟨.inl this, .inr this⟩
            · have := lookup_relS_keep (sc := X.env.scope) (names := scope.names) (by simp) q
              exact ⟨.inr this, .inl (by show (scope.names.lookup y == some .cell) = true; rw [q]; rfl)⟩
          · exact gdc_of (X := X.blk s H scope (compEnvC scope cl C X.env) fp) (fun e x he => ih (X.blk s H scope (compEnvC scope cl C X.env) fp) noX (ck.blk s H scope _ fp) e x he) h3 l1
          · exact ih (X.blk s H scope (compEnvC scope cl C X.env) fp) noX (ck.blk s H scope _ fp) elt ex h4
        · cases h
      · cases h
    · -- Compare
      rename_i a ops bs pos
      split at h
      · rename_i op b
        split at h
        · cases h
        · rename_i hm
          obtain ⟨x1, h1, h⟩ := bindO h
          obtain ⟨y1, h2, h⟩ := bindO h
          cases h
          have := gd_cmp (pos := pos) ck.units (op := copOf op) (by rw [cop_to]; simpa using hm) (ih' _ _ h1) (ih' _ _ h2)
          rw [cop_to] at this
          exact this
      · rename_i op op' b c
        split at h
        · cases h
        · rename_i hm
          obtain ⟨x1, h1, h⟩ := bindO h
          obtain ⟨y1, h2, h⟩ := bindO h
          obtain ⟨z1, h3, h⟩ := bindO h
          cases h
          have := gd_chain (pos := pos) ck.units (op := copOf op) (op' := copOf op') (by rw [cop_to]; simpa using hm) (ih' _ _ h1) (ih' _ _ h2) (ih' _ _ h3)
          rw [cop_to, cop_to] at this
          exact this
      · cases h
    · -- Call
      rename_i f args kws pos
      split at h
      · rename_i hk
        have ek : kws = [] := by simpa using hk
        subst ek
        split at h
        · exact call_ok ck ih' h
        · exact meth_ok ck ih' h
        · cases h
      · cases h
    · -- Constant
      obtain ⟨d, h1, h⟩ := bindO h
      cases h
      exact const_ok h1
    · -- Subscript
      rename_i a b pos
      split at h
      · rename_i lo hi p
        obtain ⟨x1, h1, h⟩ := bindO h
        obtain ⟨l1, h2, h⟩ := bindO h
        obtain ⟨r1, h3, h⟩ := bindO h
        cases h
        exact gd_slice (ih' _ _ h1) (gdo_of ih' h2) (gdo_of ih' h3)
      · split at h
        · cases h
        · rename_i hb
          obtain ⟨x1, h1, h⟩ := bindO h
          obtain ⟨y1, h2, h⟩ := bindO h
          cases h
          refine gd_ix ck.units (fun o i => ?_) (ih' _ _ h1) (ih' _ _ h2)
          rcases slice_cases b with ⟨lo, hi, p, rfl⟩ | q
          · exact absurd rfl hb
          · exact q o i (by simpa using hb)
    · -- Name
      exact name_ok ck h
    · -- List
      split at h
      · rename_i ha
        obtain ⟨st, ln⟩ := okArgs_iff ha
        obtain ⟨xs, h1, h⟩ := bindO h
        cases h
        exact gd_lst (gds_of ih' h1 st) (by have : sizeLine = 16777216 := rfl; omega)
      · cases h
    · -- Tuple
      split at h
      · rename_i ha
        obtain ⟨st, ln⟩ := okArgs_iff ha
        obtain ⟨xs, h1, h⟩ := bindO h
        cases h
        exact gd_tup (gds_of ih' h1 st) (by have : sizeLine = 16777216 := rfl; omega)
      · cases h
end
end Mp

end Sec_MpY
section Sec_MpZa
set_option autoImplicit false
set_option linter.all false
set_option maxHeartbeats 2000000
set_option maxRecDepth 100000
namespace Mp
open PySem PySem.Spec PyProof.Rows L2

/-- the state of a body -/
structure SS (X : Cx) (ρ : Env) (σ : St) (H : Hp) : Prop where
  len : σ.length = X.N.length
  same : Same X.H_0 H
  rep : ∀ i d, getv ρ i = some (d, false) → ∃ v, σ[i]? = some (some v) ∧ Rep X.mg H d v
  own : ∀ i d, getv ρ i = some (d, true) → ∃ v, σ[i]? = some (some v) ∧ Own X.mg H X.H_0 d v
  inj : ∀ i j d e a, i ≠ j → getv ρ i = some (d, true) → getv ρ j = some (e, true) → isCont d = true → isCont e = true → σ[i]? = some (some (.ref a)) → σ[j]? = some (some (.ref a)) → False
section
variable {X : Cx} {ρ : Env} {σ : St} {H H' : Hp} {pins : List (Addr × Obj)} {s : Shared}
theorem SS.sre (h : SS X ρ σ H) : SRE X.mg ρ σ H := fun i d own e => by
  cases own with
  | false =>
    obtain ⟨v, h1, h2⟩ := h.rep i d e
    exact ⟨v, h1, h2.tmp, fun _ => h2⟩
  | true =>
    obtain ⟨v, h1, h2⟩ := h.own i d e
    exact ⟨v, h1, h2.tmp, fun z => by cases z⟩
theorem SS.mono (s : Same H H') (h : SS X ρ σ H) : SS X ρ σ H' where
  len := h.len
  same := h.same.trans s
  rep := fun i d e => by
    obtain ⟨v, h1, h2⟩ := h.rep i d e
    exact ⟨v, h1, h2.mono (Ke.of s)⟩
  own := fun i d e => by
    obtain ⟨v, h1, h2⟩ := h.own i d e
    exact ⟨v, h1, h2.mono s⟩
  inj := h.inj
/-- a container's address -/
theorem own_ref {H0 : Hp} {d : D} {v : V} (h : Own X.mg H H0 d v) (c : isCont d = true) : ∃ a u, v = .ref a ∧ H0 a = none ∧ H a = some u ∧ Mut (some u) := by
  cases d <;> first | (cases c; done) | skip
  · obtain ⟨a, vs, rfl, h0, h1, _⟩ := h
    exact ⟨a, _, rfl, h0, h1, trivial⟩
  · obtain ⟨a, rfl, h0, ⟨kvs, h1, _⟩ | ⟨kvs, h1, _⟩⟩ := h
    · exact ⟨a, _, rfl, h0, h1, trivial⟩
    · exact ⟨a, _, rfl, h0, h1, trivial⟩
/-- what stands elsewhere is not touched -/
theorem own_keep {H0 : Hp} {d : D} {v : V} (h : Own X.mg H H0 d v) (k : Ke H H') (e : ∀ a, v = .ref a → isCont d = true → H' a = H a) : Own X.mg H' H0 d v := by
  cases d with
  | lst ds =>
    obtain ⟨a, vs, rfl, h0, h1, h2⟩ := h
    exact ⟨a, vs, rfl, h0, by rw [e a rfl rfl]; exact h1, h2.mono k⟩
  | dic ds =>
    obtain ⟨a, rfl, h0, ⟨kvs, h1, h2⟩ | ⟨kvs, h1, h2⟩⟩ := h
    · exact ⟨a, rfl, h0, .inl ⟨kvs, by rw [e a rfl rfl]; exact h1, RepK.mono k _ _ h2⟩⟩
    · exact ⟨a, rfl, h0, .inr ⟨kvs, by rw [e a rfl rfl]; exact h1, RepT.mono k _ _ h2⟩⟩
  | _ => exact Rep.mono k _ _ h
/-- the thing at a, slot i's own, is changed -/
theorem SS.change (h : SS X ρ σ H) {i : Nat} {d d' : D} {own' : Bool} {a : Addr} {o : HO} (hi : getv ρ i = some (d, true)) (hc : isCont d = true) (hs : σ[i]? = some (some (.ref a))) (h0 : X.H_0 a = none) (mu : Mut (H a))
    (new : if own' = true then Own X.mg (upd H a o) X.H_0 d' (.ref a) else Rep X.mg (upd H a o) d' (.ref a)) : SS X (ρ.set i (some (d', own'))) σ (upd H a o) where
  len := h.len
  same := fun b u e => by
    rw [upd_ne (ne_of_none e h0)]
    exact h.same b u e
  rep := fun j e q => by
    rcases getv_set q with ⟨rfl, q2⟩ | ⟨ne, q2⟩
    · cases q2
      exact ⟨_, hs, by simpa using new⟩
    · obtain ⟨v, h1, h2⟩ := h.rep j e q2
      exact ⟨v, h1, h2.mono (Ke.upd (.inr mu))⟩
  own := fun j e q => by
    rcases getv_set q with ⟨rfl, q2⟩ | ⟨ne, q2⟩
    · cases q2
      exact ⟨_, hs, by simpa using new⟩
    · obtain ⟨v, h1, h2⟩ := h.own j e q2
      refine ⟨v, h1, own_keep h2 (Ke.upd (.inr mu)) fun b eb cb => ?_⟩
      subst eb
      rw [upd_ne]
      rintro rfl
      exact h.inj i j d e _ (Ne.symm ne) hi q2 hc cb hs h1
  inj := fun j k e f b ne hj hk cj ck sj sk => by
    rcases getv_set hj with ⟨rfl, q1⟩ | ⟨n1, q1⟩
    · rcases getv_set hk with ⟨rfl, q2⟩ | ⟨n2, q2⟩
      · exact ne rfl
      · rw [hs] at sj
        cases sj
        exact h.inj j k d f _ ne hi q2 hc ck hs sk
    · rcases getv_set hk with ⟨rfl, q2⟩ | ⟨n2, q2⟩
      · rw [hs] at sk
        cases sk
        exact h.inj k j d e _ (Ne.symm ne) hi q1 hc cj hs sj
      · exact h.inj j k e f b ne q1 q2 cj ck sj sk
/-- a slot is set to a new value -/
theorem SS.put (h : SS X ρ σ H) {i : Nat} {d : D} {fr : Bool} {v : V} {H0 : Hp} (hl : i < σ.length) (s0 : Same X.H_0 H0) (m : if fr = true then Own X.mg H H0 d v else Rep X.mg H d v)
    (sep : ∀ j e a, j ≠ i → getv ρ j = some (e, true) → isCont e = true → σ[j]? = some (some (.ref a)) → ∃ u, H0 a = some u) : SS X (ρ.set i (some (d, fr))) (σ.set i (some v)) H where
  len := by rw [List.length_set]; exact h.len
  same := h.same
  rep := fun j e q => by
    rcases getv_set q with ⟨rfl, q2⟩ | ⟨ne, q2⟩
    · cases q2
      exact ⟨v, List.getElem?_set_self hl, by simpa using m⟩
    · obtain ⟨w, h1, h2⟩ := h.rep j e q2
      exact ⟨w, by rw [List.getElem?_set_ne (Ne.symm ne)]; exact h1, h2⟩
  own := fun j e q => by
    rcases getv_set q with ⟨rfl, q2⟩ | ⟨ne, q2⟩
    · cases q2
      exact ⟨v, List.getElem?_set_self hl, Own.older s0 (by simpa using m)⟩
    · obtain ⟨w, h1, h2⟩ := h.own j e q2
      exact ⟨w, by rw [List.getElem?_set_ne (Ne.symm ne)]; exact h1, h2⟩
  inj := fun j k e f b ne hj hk cj ck sj sk => by
    have key : ∀ k f, k ≠ i → getv ρ k = some (f, true) → isCont f = true → σ[k]? = some (some (.ref b)) → isCont d = true → fr = true → v = .ref b → False := fun k2 f2 nk2 hk2 ck2 sk2 cd hf ev => by
      subst hf ev
      obtain ⟨a, u, e1, e2, _, _⟩ := own_ref (X := X) (by simpa using m) cd
      cases e1
      obtain ⟨u', e3⟩ := sep k2 f2 b nk2 hk2 ck2 sk2
      rw [e2] at e3; cases e3
    rcases getv_set hj with ⟨rfl, q1⟩ | ⟨n1, q1⟩
    · cases q1
      rcases getv_set hk with ⟨rfl, q2⟩ | ⟨n2, q2⟩
      · exact ne rfl
      · rw [List.getElem?_set_self hl] at sj
        rw [List.getElem?_set_ne (Ne.symm n2)] at sk
        exact key k f n2 q2 ck sk cj rfl (by simpa using sj)
    · rw [List.getElem?_set_ne (Ne.symm n1)] at sj
      rcases getv_set hk with ⟨rfl, q2⟩ | ⟨n2, q2⟩
      · cases q2
        rw [List.getElem?_set_self hl] at sk
        exact key j e n1 q1 cj sj ck rfl (by simpa using sk)
      · rw [List.getElem?_set_ne (Ne.symm n2)] at sk
        exact h.inj j k e f b ne q1 q2 cj ck sj sk
/-- own things are there -/
theorem SS.there (h : SS X ρ σ H) {j : Nat} {e : D} {a : Addr} (hj : getv ρ j = some (e, true)) (c : isCont e = true) (hs : σ[j]? = some (some (.ref a))) : ∃ u, H a = some u := by
  obtain ⟨v, h1, h2⟩ := h.own j e hj
  obtain ⟨b, u, rfl, _, h3, _⟩ := own_ref h2 c
  rw [hs] at h1
  cases h1
  exact ⟨u, h3⟩
theorem freeze_set {ρ : Env} {v : Nat} {vs : List Nat} : freeze ρ (v :: vs) = (match getv (freeze ρ vs) v with | some (d, true) => (freeze ρ vs).set v (some (d, false)) | _ => freeze ρ vs) := rfl
/-- slots are frozen -/
theorem SS.freeze : ∀ (is : List Nat) {H : Hp}, L2.Inv X pins σ H s → SS X ρ σ H → ∃ H', L2.Inv X pins σ H' s ∧ SS X (freeze ρ is) σ H' ∧ Ke H H'
  | [], H, I, h => ⟨H, I, h, Ke.refl H⟩
  | v :: vs, H, I, h => by
    obtain ⟨H1, I1, h1, k1⟩ := SS.freeze vs I h
    rw [freeze_set]
    split
    · rename_i d hd
      obtain ⟨w, hs, ow⟩ := h1.own v d hd
      by_cases c : isCont d = true
      · obtain ⟨a, u, rfl, h0, ha, mu⟩ := own_ref ow c
        obtain ⟨od, J⟩ := I1.lock ha mu
        have mu' : Mut (H1 a) := by rw [ha]; exact mu
        refine ⟨_, J, h1.change hd c hs h0 mu' ?_, k1.trans (Ke.upd (.inr mu'))⟩
        have ke : Ke H1 (upd H1 a (.frz od u)) := Ke.upd (.inr mu')
        simp only [Bool.false_eq_true, if_false]
        cases d <;> first | (cases c; done) | skip
        · obtain ⟨b, ws, e1, _, e2, e3⟩ := ow
          cases e1
          rw [ha] at e2; cases e2
          simp only [Rep]
          exact ⟨a, od, ws, rfl, upd_same, e3.mono ke⟩
        · obtain ⟨b, e1, _, e2⟩ := ow
          cases e1
          simp only [Rep]
          refine ⟨a, od, rfl, ?_⟩
          rcases e2 with ⟨kvs, e2, e3⟩ | ⟨kvs, e2, e3⟩
          · rw [ha] at e2; cases e2
            exact .inl ⟨kvs, upd_same, RepK.mono ke _ _ e3⟩
          · rw [ha] at e2; cases e2
            exact .inr ⟨kvs, upd_same, RepT.mono ke _ _ e3⟩
      · refine ⟨H1, I1, ?_, k1⟩
        have cf : isCont d = false := by simpa using c
        refine ⟨h1.len, h1.same, fun j e q => ?_, fun j e q => ?_, fun j k e f b ne hj hk cj ck sj sk => ?_⟩
        · rcases getv_set q with ⟨rfl, q2⟩ | ⟨ne, q2⟩
          · cases q2
            exact ⟨w, hs, ow.rep cf⟩
          · exact h1.rep j e q2
        · rcases getv_set q with ⟨rfl, q2⟩ | ⟨ne, q2⟩
          · cases q2
          · exact h1.own j e q2
        · rcases getv_set hj with ⟨rfl, q1⟩ | ⟨n1, q1⟩
          · cases q1
          · rcases getv_set hk with ⟨rfl, q2⟩ | ⟨n2, q2⟩
            · cases q2
            · exact h1.inj j k e f b ne q1 q2 cj ck sj sk
    · exact ⟨H1, I1, h1, k1⟩
end
end Mp

end Sec_MpZa
section Sec_MpZb
set_option autoImplicit false
set_option linter.all false
set_option maxHeartbeats 4000000
set_option maxRecDepth 100000
namespace Mp
open PySem PySem.Spec PyProof.Rows L2

/-- what a body's outcome asks, from the heap H on; fo: the def hands out what is its own -/
def So (X : Cx) (W : WX) (fo : Bool) (o : Out) (D0 : Ends) (H : Hp) : Prop := match o with
  | .nx ρ' => ∀ σ' H', SS X ρ' σ' H' → Ke H H' → D0.nx σ' H'
  | .rt d => ∀ v H', Same X.H_0 H' → (if fo = true then Own X.mg H' X.H_0 d v else Rep X.mg H' d v) → D0.rt v H'
  | .ex c ρ' => ∀ σ' H', SS X ρ' σ' H' → Ke H H' → ∀ C, X.mg c = some (.ref C) → W (.ref C) none σ' H'
  | .no => False
section
variable {X : Cx} {W : WX} {fo : Bool} {D0 : Ends} {H H' : Hp} {o : Out} {ρ : Env} {σ : St} {cf : Str → List D → R D} {ow : Str → Bool}
theorem So.mono (k : Ke H H') (h : So X W fo o D0 H) : So X W fo o D0 H' := by
  cases o with
  | nx ρ' => exact fun σ' H2 sr k2 => h σ' H2 sr (k.trans k2)
  | rt d => exact h
  | ex c ρ' => exact fun σ' H2 sr k2 => h σ' H2 sr (k.trans k2)
  | no => exact h
theorem So.bind {f : Env → Out} (h : So X W fo (o.bind f) D0 H) : So X W fo o { D0 with nx := fun σ' H' => ∃ ρ', SS X ρ' σ' H' ∧ So X W fo (f ρ') D0 H' } H := by
  cases o with
  | nx ρ' => exact fun σ' H2 sr k2 => ⟨ρ', sr, So.mono k2 h⟩
  | rt d => exact h
  | ex c ρ' => exact h
  | no => exact h
/-- an expression's part of an outcome -/
theorem So.out {α : Type} {r : R α} {f : α → Out} (sr : SS X ρ σ H) (h : So X W fo (r.out ρ f) D0 H) : Rw r (fun a => So X W fo (f a) D0 H) (exW X.mg W σ H) := by
  cases r with
  | ok a => exact h
  | ex c => exact fun C H' hc s => h σ H' (sr.mono s) (Ke.of s) C hc
  | no => exact h
def tS (X : Cx) (W : WX) (cf : Str → List D → R D) (ow : Str → Bool) (fo : Bool) (n : Nat) (s : S) : TS := fun D0 σ H => ∃ ρ, SS X ρ σ H ∧ So X W fo (ex ow cf n s ρ) D0 H
def tB (X : Cx) (W : WX) (cf : Str → List D → R D) (ow : Str → Bool) (fo : Bool) (n : Nat) (ss : List S) : TS := fun D0 σ H => ∃ ρ, SS X ρ σ H ∧ So X W fo (blk (ex ow cf n) ss ρ) D0 H
def GdS (X : Cx) (W : WX) (cf : Str → List D → R D) (ow : Str → Bool) (fo : Bool) (st : Stmt) (s : S) : Prop := ∀ n, PS X st (tS X W cf ow fo n s)
inductive GdB (X : Cx) (W : WX) (cf : Str → List D → R D) (ow : Str → Bool) (fo : Bool) : List Stmt → List S → Prop where
  | nil : GdB X W cf ow fo [] []
  | cons {st : Stmt} {s : S} {sts : List Stmt} {ss : List S} (h : GdS X W cf ow fo st s) (t : GdB X W cf ow fo sts ss) : GdB X W cf ow fo (st :: sts) (s :: ss)
theorem psI {st : Stmt} {t t' : TS} (h : PS X st t) (k : ∀ D0 σ H, t' D0 σ H → t D0 σ H) : PS X st t' := ⟨fun pins s σ H D0 I w => h.run pins s σ H D0 I (k D0 σ H w)⟩
theorem pssI {st : List Stmt} {t t' : TS} (h : PSs X st t) (k : ∀ D0 σ H, t' D0 σ H → t D0 σ H) : PSs X st t' := ⟨fun pins s σ H D0 I w => h.run pins s σ H D0 I (k D0 σ H w)⟩
theorem zero_S {st : Stmt} {s : S} : PS X st (tS X W cf ow fo 0 s) := ⟨fun _ _ _ _ _ _ ⟨ρ, _, w⟩ => w.elim⟩
theorem pss_gd {sts : List Stmt} {ss : List S} (h : GdB X W cf ow fo sts ss) (n : Nat) : PSs X sts (tB X W cf ow fo n ss) := by
  induction h with
  | nil => exact pssI pss_nil fun D0 σ H ⟨ρ, sr, w⟩ => w σ H sr (Ke.refl H)
  | cons h t ih =>
    refine pssI (pss_cons (h n) ih) fun D0 σ H ⟨ρ, sr, w⟩ => ⟨ρ, sr, ?_⟩
    exact So.bind w
/-- slots are frozen ahead of a statement -/
theorem gs_fz {st : Stmt} {s : S} (is : List Nat) (h : GdS X W cf ow fo st s) : GdS X W cf ow fo st (.fz is s) := by
  intro n
  cases n with
  | zero => exact zero_S
  | succ n =>
    refine ⟨fun pins s σ H D0 I ⟨ρ, sr, w⟩ => ?_⟩
    obtain ⟨H1, I1, sr1, k1⟩ := SS.freeze is I sr
    exact (h n).run pins s σ H1 D0 I1 ⟨_, sr1, So.mono k1 w⟩
theorem gs_fz' {st : Stmt} {s : S} (is : List Nat) (h : GdS X W cf ow fo st s) : GdS X W cf ow fo st (fz is s) := by
  unfold fz
  split
  · exact h
  · exact gs_fz is h
/-- x = e -/
theorem gs_set (hN : X.N.Nodup) {e : Expr} {x : E} {i : Nat} {y : Str} {py pos : Pos} (g : Gd X W cf ow e x) (hn : Nm X i y) : GdS X W cf ow fo (.Assign [.Name y py] e pos) (.set i x) := by
  intro n
  cases n with
  | zero => exact zero_S
  | succ n =>
    refine ⟨fun pins s σ H D0 I ⟨ρ, sr, w⟩ => (g.asg n i y py pos hN hn.1 hn.2.1 hn.2.2).run pins s σ H D0 I ?_⟩
    have w := So.out sr (show So X W fo ((ev cf n false x ρ).out ρ fun d => .nx (setv ρ i d (fresh ow x))) D0 H from w)
    refine ⟨ρ, sr.sre, w.mono (fun d _ k v H1 s1 m => ?_) fun _ z => z⟩
    have k : ∀ σ' H', SS X (setv ρ i d (fresh ow x)) σ' H' → Ke H H' → D0.nx σ' H' := k
    have hl : i < σ.length := by rw [I.len]; exact (List.getElem?_eq_some_iff.mp hn.1).1
    refine k _ _ ((sr.mono s1).put hl sr.same ?_ fun j f a _ hj c hs => sr.there hj c hs) (Ke.of s1)
    unfold Md at m
    rw [if_neg (by simp)] at m
    exact m
/-- an expression alone -/
theorem gs_exp {e : Expr} {x : E} {pos : Pos} (g : Gd X W cf ow e x) (hc : isComp e = false) : GdS X W cf ow fo (.Expr e pos) (.exp x) := by
  intro n
  cases n with
  | zero => exact zero_S
  | succ n =>
    refine psI (ps_expr (g.pe n true) (by cases e <;> first | rfl | cases hc)) fun D0 σ H ⟨ρ, sr, w⟩ => ?_
    have w := So.out sr (show So X W fo ((ev cf n true x ρ).out ρ fun _ => .nx ρ) D0 H from w)
    exact ⟨ρ, sr.sre, w.mono (fun d _ k v H1 s1 m => (show ∀ σ' H', SS X ρ σ' H' → Ke H H' → D0.nx σ' H' from k) σ H1 (sr.mono s1) (Ke.of s1)) fun _ z => z⟩
/-- return e -/
theorem gs_ret {e : Expr} {x : E} {pos : Pos} (g : Gd X W cf ow e x) : GdS X W cf ow false (.Return (some e) pos) (.ret x) := by
  intro n
  cases n with
  | zero => exact zero_S
  | succ n =>
    refine psI (ps_ret (pe_weak (fr := false) (g.pe n false) (by simp))) fun D0 σ H ⟨ρ, sr, w⟩ => ?_
    have w := So.out sr (show So X W false ((ev cf n false x ρ).out ρ fun d => .rt d) D0 H from w)
    exact ⟨ρ, sr.sre, w.mono (fun d _ k v H1 s1 m => (show ∀ v H', Same X.H_0 H' → (if false = true then Own X.mg H' X.H_0 d v else Rep X.mg H' d v) → D0.rt v H' from k) v H1 (sr.same.trans s1) (by rw [if_neg (by simp)]; exact m)) fun _ z => z⟩
theorem gs_retN {pos : Pos} : GdS X W cf ow fo (.Return none pos) (.ret (.cst .non)) := by
  intro n
  cases n with
  | zero => exact zero_S
  | succ n =>
    refine psI ps_retN fun D0 σ H ⟨ρ, sr, w⟩ => ?_
    cases n with
    | zero => exact w.elim
    | succ n =>
      have w : ∀ v H', Same X.H_0 H' → (if fo = true then Own X.mg H' X.H_0 .non v else Rep X.mg H' .non v) → D0.rt v H' := w
      refine w .non H sr.same ?_
      split <;> simp only [Own, Rep]
theorem gs_retV {i : Nat} {y : Str} {p pos : Pos} (hN : X.N[i]? = some y) (hv : Vis X.env.scope y) (hd : (y == ("__debug__" : Str)) = false) (hcd : (y == ("__classdict__" : Str)) = false) : GdS X W cf ow true (.Return (some (.Name y p)) pos) (.retV i) := by
  intro n
  cases n with
  | zero => exact zero_S
  | succ n =>
    refine psI (ps_ret (pe_var hN hv hd hcd)) fun D0 σ H ⟨ρ, sr, w⟩ => ?_
    have w : So X W true (match getv ρ i with | some (d, own) => if own || !isCont d then .rt d else .no | none => .no) D0 H := w
    cases q : getv ρ i with
    | none => rw [q] at w; exact w.elim
    | some p =>
      obtain ⟨d, own⟩ := p
      rw [q] at w
      simp only at w
      cases own with
      | true =>
        obtain ⟨v, h1, h2⟩ := sr.own i d q
        exact ⟨v, h1, (show ∀ v H', Same X.H_0 H' → Own X.mg H' X.H_0 d v → D0.rt v H' from w) v H sr.same h2⟩
      | false =>
        obtain ⟨v, h1, h2⟩ := sr.rep i d q
        cases c : isCont d with
        | true => rw [c] at w; exact w.elim
        | false =>
          rw [c] at w
          exact ⟨v, h1, (show ∀ v H', Same X.H_0 H' → Own X.mg H' X.H_0 d v → D0.rt v H' from w) v H sr.same (h2.own c)⟩
theorem gs_retO {e : Expr} {x : E} {pos : Pos} (g : Gd X W cf ow e x) : GdS X W cf ow true (.Return (some e) pos) (.retO x) := by
  intro n
  cases n with
  | zero => exact zero_S
  | succ n =>
    refine psI (ps_ret (g.pe n false)) fun D0 σ H ⟨ρ, sr, w⟩ => ?_
    have w := So.out sr (show So X W true ((ev cf n false x ρ).out ρ fun d => if fresh ow x || !isCont d then .rt d else .no) D0 H from w)
    refine ⟨ρ, sr.sre, w.mono (fun d _ k v H1 s1 m => ?_) fun _ z => z⟩
    unfold Md at m
    rw [if_neg (by simp)] at m
    by_cases f : fresh ow x = true
    · rw [f] at k
      rw [if_pos f] at m
      exact (show ∀ v H', Same X.H_0 H' → Own X.mg H' X.H_0 d v → D0.rt v H' from k) v H1 (sr.same.trans s1) (m.older sr.same)
    · rw [if_neg f] at m
      cases c : isCont d with
      | true =>
        rw [c] at k
        have f' : fresh ow x = false := by simpa using f
        rw [f'] at k
        exact k.elim
      | false =>
        rw [c] at k
        simp only [Bool.not_false, Bool.or_true, if_true] at k
        exact (show ∀ v H', Same X.H_0 H' → Own X.mg H' X.H_0 d v → D0.rt v H' from k) v H1 (sr.same.trans s1) (m.own c)
/-- if -/
theorem gs_ite {c : Expr} {x : E} {a b : List Stmt} {p q : List S} {pos : Pos} (gc : Gd X W cf ow c x) (ga : GdB X W cf ow fo a p) (gb : GdB X W cf ow fo b q) : GdS X W cf ow fo (.If c a b pos) (.ite x p q) := by
  intro n
  cases n with
  | zero => exact zero_S
  | succ n =>
    refine psI (ps_if (gc.pt n) (pss_gd ga n) (pss_gd gb n)) fun D0 σ H ⟨ρ, sr, w⟩ => ?_
    have w := So.out sr (show So X W fo ((ev cf n true x ρ).out ρ fun d => (asB d).out ρ fun k => if k = true then blk (ex ow cf n) p ρ else blk (ex ow cf n) q ρ) D0 H from w)
    refine ⟨ρ, sr.sre, Rw.bind.mpr (w.mono (fun d _ k => (So.out sr k).mono (fun kk _ k2 H1 s1 => ?_) fun _ z => z) fun _ z => z)⟩
    cases kk with
    | true => exact ⟨ρ, sr.mono s1, So.mono (Ke.of s1) k2⟩
    | false => exact ⟨ρ, sr.mono s1, So.mono (Ke.of s1) k2⟩
/-- while -/
theorem gs_whl (hp : PassesOwn (model X.prog X.w) X.A X.env X.xe) {c : Expr} {x : E} {b : List Stmt} {q : List S} {pos : Pos} (gc : Gd X W cf ow c x) (gb : GdB X W cf ow fo b q) : GdS X W cf ow fo (.While c b [] pos) (.whl x q) := by
  intro n
  have pc : PT X c (fun σ H Q => ∃ n, tT X.mg W cf n x σ H Q) := ⟨fun pins s σ H Q I ⟨n, w⟩ => (gc.pt n).run pins s σ H Q I w⟩
  have pb : PSs X b (fun D0 σ H => ∃ n, tB X W cf ow fo n q D0 σ H) := ⟨fun pins s σ H D0 I ⟨n, w⟩ => (pss_gd gb n).run pins s σ H D0 I w⟩
  refine psI (ps_while hp pc pb) fun D0 σ H ⟨ρ, sr, w⟩ => ?_
  refine ⟨fun m σ H => ∃ ρ, SS X ρ σ H ∧ So X W fo (ex ow cf m (.whl x q) ρ) D0 H, ⟨n, ρ, sr, w⟩, fun m σ H ⟨ρ, sr, w⟩ => ?_⟩
  cases m with
  | zero => exact w.elim
  | succ m =>
    have w := So.out sr (show So X W fo ((ev cf m true x ρ).out ρ fun d => (asB d).out ρ fun k => if k = true then (blk (ex ow cf m) q ρ).bind fun ρ' => ex ow cf m (.whl x q) ρ' else .nx ρ) D0 H from w)
    refine ⟨m, ρ, sr.sre, Rw.bind.mpr (w.mono (fun d _ k => (So.out sr k).mono (fun kk _ k2 H1 s1 => ?_) fun _ z => z) fun _ z => z)⟩
    cases kk with
    | true =>
      refine ⟨fun σ' H' => ∃ ρ', SS X ρ' σ' H' ∧ So X W fo (ex ow cf m (.whl x q) ρ') D0 H', fun σ' H' h => ⟨m, Nat.lt_succ_self _, h⟩, m, ρ, sr.mono s1, ?_⟩
      have := So.bind (show So X W fo ((blk (ex ow cf m) q ρ).bind fun ρ' => ex ow cf m (.whl x q) ρ') D0 H from k2)
      have := So.mono (Ke.of s1) this
      cases hb : blk (ex ow cf m) q ρ with
      | nx ρ' => rw [hb] at this; exact this
      | rt d => rw [hb] at this; exact this
      | ex c ρ' => rw [hb] at this; exact this
      | no => rw [hb] at this; exact this
    | false => exact (show ∀ σ' H', SS X ρ σ' H' → Ke H H' → D0.nx σ' H' from k2) σ H1 (sr.mono s1) (Ke.of s1)
end
end Mp

end Sec_MpZb
section Sec_MpZc
set_option autoImplicit false
set_option linter.all false
set_option maxHeartbeats 4000000
set_option maxRecDepth 100000
namespace Mp
open PySem PySem.Spec PyProof.Rows L2

section
variable {X : Cx} {W : WX} {fo : Bool} {D0 : Ends} {H H' : Hp} {o : Out} {ρ : Env} {σ : St} {cf : Str → List D → R D} {ow : Str → Bool}
/-- what targets leave -/
theorem bindNs_getv : ∀ {is : List Nat} {ds : List D} {ρ ρ' : Env}, bindNs is ds ρ = some ρ' → ∀ {j : Nat} {d : D}, getv ρ' j = some (d, true) → j ∉ is ∧ getv ρ j = some (d, true)
  | [], [], ρ, ρ', h, j, d, q => by cases h; exact ⟨by simp, q⟩
  | i :: is, e :: ds, ρ, ρ', h, j, d, q => by
    obtain ⟨h1, h2⟩ := bindNs_getv (show bindNs is ds (ρ.set i (some (e, false))) = some ρ' from h) q
    rcases getv_set h2 with ⟨rfl, h3⟩ | ⟨ne, h3⟩
    · cases h3
    · exact ⟨by simp only [List.mem_cons, not_or]; exact ⟨ne, h1⟩, h3⟩
  | [], _ :: _, _, _, h, _, _, _ => by cases h
  | _ :: _, [], _, _, h, _, _, _ => by cases h
theorem bindT_getv {g : Tg} {d0 : D} {ρ ρ' : Env} (h : bindT g d0 ρ = some ρ') {j : Nat} {d : D} (q : getv ρ' j = some (d, true)) : j ∉ tgIx g ∧ getv ρ j = some (d, true) := by
  cases g with
  | nm i =>
    cases h
    rcases getv_set q with ⟨rfl, h3⟩ | ⟨ne, h3⟩
    · cases h3
    · exact ⟨by simpa [tgIx] using ne, h3⟩
  | tp is =>
    cases d0 <;> first | (cases h; done) | skip
    exact bindNs_getv h q
theorem SS.bound (sr : SS X ρ σ H) {is : List Nat} {ρ' : Env} {σ' : St} (hb : ∀ {j : Nat} {d : D}, getv ρ' j = some (d, true) → j ∉ is ∧ getv ρ j = some (d, true)) (se : SRE X.mg ρ' σ' H) (off : ∀ j, j ∉ is → σ'[j]? = σ[j]?) (hl : σ'.length = σ.length) : SS X ρ' σ' H where
  len := hl.trans sr.len
  same := sr.same
  rep := fun i d e => by
    obtain ⟨v, h1, h2, h3⟩ := se i d false e
    exact ⟨v, h1, h3 rfl⟩
  own := fun i d e => by
    obtain ⟨n, e2⟩ := hb e
    rw [off i n]
    exact sr.own i d e2
  inj := fun i j d e a ne hi hj ci cj si sj => by
    obtain ⟨n1, e1⟩ := hb hi
    obtain ⟨n2, e2⟩ := hb hj
    rw [off i n1] at si
    rw [off j n2] at sj
    exact sr.inj i j d e a ne e1 e2 ci cj si sj
/-- for -/
theorem gs_for (hp : PassesOwn (model X.prog X.w) X.A X.env X.xe) (hc : X.calm = true) (hN : X.N.Nodup) {tg iter : Expr} {g : Tg} {k : Nat} {its : List E} {b : List Stmt} {q : List S} {pos : Pos} (hi : ∀ n, PI X tg iter (tI X.mg W cf n k its)) (ht : Tgt X tg g) (hl : ∀ i ∈ tgIx g, i < X.N.length)
    (hs : ∀ x, foldedSetIterable iter X.env x = pure x) (gb : GdB X W cf ow fo b q) : GdS X W cf ow fo (.For tg iter b [] pos) (.for_ g k its q) := by
  intro n
  cases n with
  | zero => exact zero_S
  | succ n =>
    refine ⟨fun pins s σ H D0 I ⟨ρ, sr, w⟩ => (ps_for hp hc (hi n) (pg_tgt hc hN ht) (pss_gd gb n) hs).run pins s σ H D0 I ?_⟩
    have w := So.out sr (show So X W fo ((evs (ev cf n false · ρ) its).out ρ fun ds => match walkOf k ds with | some xs => forL (fun ρ => blk (ex ow cf n) q ρ) g xs ρ | none => .no) D0 H from w)
    refine ⟨ρ, sr.sre, Rw.bind.mpr (w.mono (fun ds _ k1 => ?_) fun _ z => z)⟩
    cases qw : walkOf k ds with
    | none => rw [qw] at k1; exact k1.elim
    | some xs =>
      rw [qw] at k1
      show ∀ J B H', Same H H' → Wk X.mg xs J B → B H' → _
      intro J B H1 s1 wk hB
      refine ⟨fun i m σ H => m = xs.length - i ∧ i ≤ xs.length ∧ B H ∧ ∃ ρ, SS X ρ σ H ∧ So X W fo (forL (fun ρ => blk (ex ow cf n) q ρ) g (xs.drop i) ρ) D0 H, ⟨_, rfl, Nat.zero_le _, hB, ρ, sr.mono s1, So.mono (Ke.of s1) (by simpa using k1)⟩, ?_⟩
      rintro i m σ H ⟨rfl, hi2, hB2, ρ, sr, w⟩
      by_cases hlt : i < xs.length
      · obtain ⟨d, hd⟩ : ∃ d, xs[i]? = some d := ⟨_, List.getElem?_eq_getElem hlt⟩
        have ed : xs.drop i = d :: xs.drop (i + 1) := by
          rw [List.drop_eq_getElem_cons hlt]
          congr 1
          rw [List.getElem?_eq_getElem hlt] at hd
          exact Option.some.inj hd
        rw [ed] at w
        refine .inr ⟨wk.go i H hB2 hlt, fun σ' H' => B H' ∧ ∃ ρ, SS X ρ σ' H' ∧ So X W fo (forL (fun ρ => blk (ex ow cf n) q ρ) g (xs.drop (i + 1)) ρ) D0 H', fun σ' H' hN' => ⟨xs.length - (i + 1), by omega, rfl, by omega, hN'⟩, fun x H2 hy => ?_⟩
        obtain ⟨s3, d', hd', hr⟩ := wk.yld i H x H2 hB2 hlt hy
        rw [hd] at hd'
        cases hd'
        have w : So X W fo (match bindT g d ρ with | some ρ' => (blk (ex ow cf n) q ρ').bind fun ρ2 => forL (fun ρ => blk (ex ow cf n) q ρ) g (xs.drop (i + 1)) ρ2 | none => .no) D0 H := w
        cases hbt : bindT g d ρ with
        | none => rw [hbt] at w; exact w.elim
        | some ρ' =>
          rw [hbt] at w
          simp only at w
          have sr2 := sr.mono s3
          refine ⟨ρ, d, ρ', sr2.sre, hr, hbt, fun j hj => by rw [sr2.len]; exact hl j hj, fun σ' se l' _ off => ?_⟩
          have sr3 : SS X ρ' σ' H2 := sr2.bound (fun h => bindT_getv hbt h) se off l'
          have w2 := So.mono (Ke.of s3) (So.bind w)
          refine ⟨ρ', sr3, ?_⟩
          have hB3 := wk.ke _ _ (Ke.of s3) hB2
          cases hb : blk (ex ow cf n) q ρ' with
          | nx ρ2 =>
            rw [hb] at w2
            have w2 : ∀ σ'' H', SS X ρ2 σ'' H' → Ke H2 H' → ∃ ρ'', SS X ρ'' σ'' H' ∧ So X W fo (forL (fun ρ => blk (ex ow cf n) q ρ) g (xs.drop (i + 1)) ρ'') D0 H' := w2
            intro σ'' H' sr4 k4
            exact ⟨wk.ke _ _ k4 hB3, w2 σ'' H' sr4 k4⟩
          | rt d => rw [hb] at w2; exact w2
          | ex c ρ' => rw [hb] at w2; exact w2
          | no => rw [hb] at w2; exact w2
      · have ei : i = xs.length := by omega
        subst ei
        rw [List.drop_eq_nil_of_le (Nat.le_refl _)] at w
        exact .inl ⟨wk.stop H hB2, (show ∀ σ' H', SS X ρ σ' H' → Ke H H' → D0.nx σ' H' from w) σ H sr (Ke.refl H)⟩
end
end Mp

end Sec_MpZc
section Sec_MpZd
set_option autoImplicit false
set_option linter.all false
set_option maxHeartbeats 4000000
set_option maxRecDepth 100000
namespace Mp
open PySem PySem.Spec PyProof.Rows L2

/-- an exception class of the program -/
def ExcC (X : Cx) (x : Str) : Prop := ∃ (C : Addr) (bmB : List Value) (B newId initId : String), ExcBaseFacts B newId initId bmB ∧ PySem.W.excIn X.K C bmB newId = true ∧ X.mg x = some (.ref C) ∧ PySem.W.keepIn X.K (.ref C) = true ∧ Raises X (.ref C)
section
variable {X : Cx} {W : WX} {fo : Bool} {D0 : Ends} {H H' : Hp} {o : Out} {ρ : Env} {σ : St} {cf : Str → List D → R D} {ow : Str → Bool}
theorem gs_raise (hc : X.calm = true) (tk : L2.Takes X W) {x m : Str} {j : Nat} {p p2 pos pos2 : Pos} (e : ExcC X x) (hg : Gl X x) (hdb : (x == ("__debug__" : Str)) = false) : GdS X W cf ow fo (.Raise (some (.Call (.Name x p) [.Constant (.str m) j p2] [] pos)) none pos2) (.raise x) := by
  intro n
  cases n with
  | zero => exact zero_S
  | succ n =>
    obtain ⟨C, bmB, B, newId, initId, F, q, gC, kC, r⟩ := e
    refine psI (ps_raise hc tk (pmk_own F q gC kC r hg hdb)) fun D0 σ H ⟨ρ, sr, w⟩ => ?_
    exact (show ∀ σ' H', SS X ρ σ' H' → Ke H H' → ∀ C, X.mg x = some (.ref C) → W (.ref C) none σ' H' from w) σ H sr (Ke.refl H) C gC
theorem gs_unp (hc : X.calm = true) (hN : X.N.Nodup) {ts : List Expr} {is : List Nat} {e : Expr} {x : E} {k : Nat} {p pos : Pos} (g : Gd X W cf ow e x) (hn : Nms X ts is) (hl : ∀ i ∈ is, i < X.N.length) (nt : isTup e = false) : GdS X W cf ow fo (.Assign [.Tuple ts k p] e pos) (.unp is x) := by
  intro n
  cases n with
  | zero => exact zero_S
  | succ n =>
    have hs : swapsWithSole [.Tuple ts k p] e pos.line X.env = pure false := by
      show swapsWith e (some (.Tuple ts k p)) pos.line X.env = pure false
      cases e <;> rfl
    have hw : swappedStores [.Tuple ts k p] e X.env = pure none := by
      cases e <;> first | rfl | cases nt
    refine psI (ps_asg (g.pe n true) (pg_tgt hc hN (.tp (k := k) (p := p) hn)) hs hw rfl) fun D0 σ H ⟨ρ, sr, w⟩ => ?_
    have w := So.out sr (show So X W fo ((ev cf n true x ρ).out ρ fun d => match unpack d with | some ds => (match bindNs is ds ρ with | some ρ' => .nx ρ' | none => .no) | none => .no) D0 H from w)
    refine ⟨ρ, sr.sre, w.mono (fun d _ k v H1 s1 m => ?_) fun _ z => z⟩
    cases d <;> first | exact k.elim | skip
    rename_i ds _
    have k : So X W fo (match bindNs is ds ρ with | some ρ' => .nx ρ' | none => .no) D0 H := k
    cases hb : bindNs is ds ρ with
    | none => rw [hb] at k; exact k.elim
    | some ρ' =>
      rw [hb] at k
      have k : ∀ σ' H', SS X ρ' σ' H' → Ke H H' → D0.nx σ' H' := k
      have sr1 := sr.mono s1
      refine ⟨ρ, .tup ds, ρ', sr1.sre, m, hb, fun i hi => by rw [sr.len]; exact hl i hi, fun σ' se l' _ off => k σ' H1 (sr1.bound (fun h => bindT_getv (g := .tp is) (d0 := .tup ds) hb h) se off l') (Ke.of s1)⟩
/-- an own list's place -/
theorem own_lst {i : Nat} {xs : List D} (sr : SS X ρ σ H) (h : getv ρ i = some (.lst xs, true)) : ∃ a vs, σ[i]? = some (some (.ref a)) ∧ X.H_0 a = none ∧ H a = some (.lst vs) ∧ Reps X.mg H xs vs := by
  obtain ⟨v, h1, a, vs, rfl, h0, h2, h3⟩ := sr.own i _ h
  exact ⟨a, vs, h1, h0, h2, h3⟩
theorem own_app {i : Nat} {xs ys : List D} {vs ws : List V} {a : Addr} (sr : SS X ρ σ H) (h : getv ρ i = some (.lst xs, true)) (h1 : σ[i]? = some (some (.ref a))) (h0 : X.H_0 a = none) (h2 : H a = some (.lst vs)) (h3 : Reps X.mg H ys ws) :
    SS X (setv ρ i (.lst ys) true) σ (upd H a (.lst ws)) := by
  refine sr.change (o := .lst ws) h rfl h1 h0 (by rw [h2]; trivial) ?_
  rw [if_pos rfl]
  exact ⟨a, ws, rfl, h0, upd_same, h3.mono (Ke.upd (.inr (by rw [h2]; trivial)))⟩
theorem ke_upd {a : Addr} {vs : List V} {o : HO} (h : H a = some (.lst vs)) : Ke H (upd H a o) := Ke.upd (.inr (by rw [h]; trivial))
theorem gs_app {o : Str} {a : Expr} {x : E} {i : Nat} {p apos cpos pos : Pos} (hN : X.N[i]? = some o) (hv : Vis X.env.scope o) (hd : (o == ("__debug__" : Str)) = false) (hcd : (o == ("__classdict__" : Str)) = false) (ga : Gd X W cf ow a x) (st : isStar a = false) (hl : (apos.endLine == cpos.line) = true) :
    GdS X W cf ow fo (.Expr (.Call (.Attribute (.Name o p) "append" apos) [a] [] cpos) pos) (.app i x) := by
  intro n
  cases n with
  | zero => exact zero_S
  | succ n =>
    have gs : Gds X W cf ow [a] [x] := .cons ga st .nil
    refine psI (ps_expr (pe_bm (T := "list") PySem.F.plainAttrs_list PySem.F.slot_list_append PySem.F.type_list_append mt_append (pe_var hN hv hd hcd) (pa_gd gs n false) rfl (gs.few (by show 1 < 30; decide)) hl (star_plain st) rfl)) fun D0 σ H ⟨ρ, sr, w⟩ => ?_
    have w : So X W fo (match getv ρ i with | some (.lst xs, true) => (ev cf n false x ρ).out ρ fun d => if xs.length < line then .nx (setv ρ i (.lst (xs ++ [d])) true) else .no | _ => .no) D0 H := w
    split at w
    · rename_i xs hg
      obtain ⟨b, vs, h1, h0, h2, h3⟩ := own_lst sr hg
      have w := So.out sr w
      refine ⟨_, h1, .inl ⟨rfl, vs, .inl (.inl h2)⟩, ρ, sr.sre, ?_⟩
      show Rw ((ev cf n false x ρ).bind fun d => .ok [d]) _ _
      rw [Rw.bind]
      refine w.mono (fun d _ k ws H1 s1 m => ?_) fun _ z => z
      have m : Reps X.mg H1 [d] ws := m
      simp only [Reps] at m
      obtain ⟨v, _, rfl, hv, rfl⟩ := m
      split at k
      · rename_i hlt
        have k : ∀ σ' H', SS X (setv ρ i (.lst (xs ++ [d])) true) σ' H' → Ke H H' → D0.nx σ' H' := k
        have h2' := s1 _ _ h2
        have h3' := h3.mono (Ke.of s1)
        refine ⟨b, vs, v, rfl, rfl, h2', by rw [← h3.length]; exact hlt, ?_⟩
        exact k _ _ (own_app (sr.mono s1) hg h1 h0 h2' (h3'.append (Reps.one hv))) ((Ke.of s1).trans (ke_upd h2'))
      · exact k.elim
    · exact w.elim
/-- xs.extend(ys), ys frozen or not -/
def rExtD (X : Cx) : V → List V → Hp → VK → Prop := fun x vs H Q => ∃ l b xs zs, x = .ref l ∧ vs = [.ref b] ∧ H l = some (.lst xs) ∧ Rd H b (.lst zs) ∧ xs.length + zs.length ≤ sizeLine ∧ Q .non (upd H l (.lst (xs ++ zs)))
theorem mt_extD : MtM X "list.extend" (rExtD X) := by
  intro pins s σ H x vs v us Q I rx rv ⟨l, b, xs, zs, e1, e2, hH, hB, hz, q⟩
  subst e1 e2
  cases rx
  obtain ⟨u, rfl, ru⟩ := rv.one
  cases ru
  obtain ⟨z, its, n, r, hl, e⟩ := I.lstM hH
  obtain ⟨its2, n2, r2, e2, z2⟩ := lstR I hB
  have l2 := r2.length
  have fit : its.toArray.size + its2.toArray.size ≤ sizeLine := by
    rw [List.size_toArray, List.size_toArray]
    omega
  have nlong : ¬ (!its.toArray.isEmpty && Builtin.List.listTooLong (its.toArray.size + its2.toArray.size)) = true := by
    rw [notLongL fit, Bool.and_false]
    simp
  refine call_meets F.slot_list_extend ⟨_, e, rfl⟩ F.entry_list_extend (F.args_list_extend_2 (.ref l) (.ref b)) (AutoSeq1.list_extend_list_list_0 l its.toArray n b its2.toArray n2 nlong (by rw [List.size_toArray]; omega) (by omega)) ⟨e, e2, ?_⟩
  exact ⟨.non, _, I.lset (its' := its ++ its2) hH e (by simp) (r.append r2) (by rw [List.length_append]; omega), rfl, q⟩
theorem gs_ext {o : Str} {a : Expr} {x : E} {i : Nat} {p apos cpos pos : Pos} (hN : X.N[i]? = some o) (hv : Vis X.env.scope o) (hd : (o == ("__debug__" : Str)) = false) (hcd : (o == ("__classdict__" : Str)) = false) (ga : Gd X W cf ow a x) (st : isStar a = false) (hl : (apos.endLine == cpos.line) = true) :
    GdS X W cf ow fo (.Expr (.Call (.Attribute (.Name o p) "extend" apos) [a] [] cpos) pos) (.ext i x) := by
  intro n
  cases n with
  | zero => exact zero_S
  | succ n =>
    have gs : Gds X W cf ow [a] [x] := .cons ga st .nil
    refine psI (ps_expr (pe_bm (T := "list") PySem.F.plainAttrs_list PySem.F.slot_list_extend PySem.F.type_list_extend mt_extD (pe_var hN hv hd hcd) (pa_gd gs n true) rfl (gs.few (by show 1 < 30; decide)) hl (star_plain st) rfl)) fun D0 σ H ⟨ρ, sr, w⟩ => ?_
    have w : So X W fo (match getv ρ i with | some (.lst xs, true) => (ev cf n true x ρ).out ρ fun d => (match d with | .lst ys => if xs.length + ys.length ≤ line then .nx (setv ρ i (.lst (xs ++ ys)) true) else .no | _ => .no) | _ => .no) D0 H := w
    split at w
    · rename_i xs hg
      obtain ⟨b, vs, h1, h0, h2, h3⟩ := own_lst sr hg
      have w := So.out sr w
      refine ⟨_, h1, .inl ⟨rfl, vs, .inl (.inl h2)⟩, ρ, sr.sre, ?_⟩
      show Rw ((ev cf n true x ρ).bind fun d => .ok [d]) _ _
      rw [Rw.bind]
      refine w.mono (fun d _ k ws H1 s1 m => ?_) fun _ z => z
      obtain ⟨v, _, rfl, hv, e0⟩ := (show tA.TmpsM X.mg H1 [d] ws from m)
      have e0 : _ = [] := e0
      subst e0
      cases d <;> first | exact k.elim | skip
      rename_i ys _
      obtain ⟨c, zs, rfl, hc, hr⟩ := hv
      simp only at k
      split at k
      · rename_i hlt
        have k : ∀ σ' H', SS X (setv ρ i (.lst (xs ++ ys)) true) σ' H' → Ke H H' → D0.nx σ' H' := k
        have h2' := s1 _ _ h2
        have h3' := h3.mono (Ke.of s1)
        refine ⟨b, c, vs, zs, rfl, rfl, h2', hc, by rw [← h3.length, ← hr.length]; exact hlt, ?_⟩
        exact k _ _ (own_app (sr.mono s1) hg h1 h0 h2' (h3'.append hr)) ((Ke.of s1).trans (ke_upd h2'))
      · exact k.elim
    · exact w.elim
/-- t = xs.pop() -/
theorem gs_pop (hnd : X.N.Nodup) {o y : Str} {i t : Nat} {p apos cpos py pos : Pos} (hN : X.N[i]? = some o) (hv : Vis X.env.scope o) (hd : (o == ("__debug__" : Str)) = false) (hcd : (o == ("__classdict__" : Str)) = false) (hn : Nm X t y) (hl : (apos.endLine == cpos.line) = true) :
    GdS X W cf ow fo (.Assign [.Name y py] (.Call (.Attribute (.Name o p) "pop" apos) [] [] cpos) pos) (.pop t i) := by
  intro n
  cases n with
  | zero => exact zero_S
  | succ n =>
    refine psI (ps_set hnd hn.1 hn.2.1 (pe_bm0 (T := "list") PySem.F.plainAttrs_list PySem.F.slot_list_pop PySem.F.type_list_pop mt_pop (pe_var hN hv hd hcd) rfl hl) rfl hn.2.2) fun D0 σ H ⟨ρ, sr, w⟩ => ?_
    have w : So X W fo (match getv ρ i with | some (.lst xs, true) => if t = i then .no else (match xs.getLast? with | some d => .nx (setv (setv ρ i (.lst xs.dropLast) true) t d false) | none => .no) | _ => .no) D0 H := w
    split at w
    · rename_i xs hg
      split at w
      · exact w.elim
      · rename_i hti
        obtain ⟨b, vs, h1, h0, h2, h3⟩ := own_lst sr hg
        split at w
        · rename_i d hlast
          have w : ∀ σ' H', SS X (setv (setv ρ i (.lst xs.dropLast) true) t d false) σ' H' → Ke H H' → D0.nx σ' H' := w
          have hlast : xs[xs.length - 1]? = some d := by rw [← List.getLast?_eq_getElem?]; exact hlast
          obtain ⟨v, e1, e2⟩ := h3.get hlast
          rw [h3.length] at e1
          refine ⟨_, h1, .inl ⟨rfl, vs, .inl (.inl h2)⟩, b, vs, v, rfl, rfl, h2, e1, ?_⟩
          have sr1 := own_app sr hg h1 h0 h2 h3.dropLast
          have hr : Rep X.mg (upd H b (.lst vs.dropLast)) d v := Rep.mono (ke_upd h2) _ _ e2
          refine w _ _ (SS.put (H0 := upd H b (.lst vs.dropLast)) (fr := false) sr1 (by rw [sr.len]; exact (List.getElem?_eq_some_iff.mp hn.1).1) sr1.same (by rw [if_neg (by simp)]; exact hr) fun j e a _ hj c hs => sr1.there hj c hs) (ke_upd h2)
        · exact w.elim
    · exact w.elim
end
end Mp

end Sec_MpZd
section Sec_MpZe
set_option autoImplicit false
set_option linter.all false
set_option maxHeartbeats 4000000
set_option maxRecDepth 100000
namespace Mp
open PySem PySem.Spec PyProof.Rows L2

section
variable {X : Cx} {W : WX} {fo : Bool} {D0 : Ends} {H H' : Hp} {ρ : Env} {σ : St} {cf : Str → List D → R D} {ow : Str → Bool} {pins : List (Addr × Obj)} {s : Shared}
theorem RepK.keys {mg : Str → Option Value} {kvs : List (D × D)} {vs : List (Key × V)} (h : RepK mg H kvs vs) : kvs = [] ↔ vs = [] := by
  have := h.length
  constructor
  · rintro rfl; exact List.length_eq_zero_iff.mp (by simpa using this.symm)
  · rintro rfl; exact List.length_eq_zero_iff.mp (by simpa using this)
/-- the own dict as one of the kind that the key asks -/
theorem dict_kind (I : L2.Inv X pins σ H s) (sr : SS X ρ σ H) {i : Nat} {kvs : List (D × D)} {d : D} {y : V} (hg : getv ρ i = some (.dic kvs, true)) (hy : Rep X.mg H d y) (k : d.isK = true) (sk : sameKind kvs d = true) :
    ∃ (a : Addr) (H1 : Hp), σ[i]? = some (some (.ref a)) ∧ L2.Inv X pins σ H1 s ∧ SS X ρ σ H1 ∧ Ke H H1 ∧ X.H_0 a = none ∧
      ((∃ kk kv, kD d = some kk ∧ y = kV kk ∧ H1 a = some (.dK kv) ∧ RepK X.mg H1 kvs kv) ∨ ∃ kk b kv, ktD d = some kk ∧ y = .ref b ∧ H1 b = some (.tup (kk.map kV)) ∧ H1 a = some (.dT kv) ∧ RepT X.mg H1 kvs kv) := by
  obtain ⟨v, h1, a, rfl, h0, hh⟩ := sr.own i _ hg
  have back : ∀ (o : HO), Mut (H a) → (upd H a o) a = some o := fun o _ => upd_same
  rcases isK_cases k hy with ⟨kk, e⟩ | ⟨kk, e⟩
  · have ey := rep_kV e hy
    rcases hh with ⟨kv, h2, h3⟩ | ⟨kv, h2, h3⟩
    · exact ⟨a, H, h1, I, sr, Ke.refl H, h0, .inl ⟨kk, kv, e, ey, h2, h3⟩⟩
    · -- an empty dict of the other kind
      have ne : kvs = [] := by
        cases kvs with
        | nil => rfl
        | cons p r =>
          exfalso
          obtain ⟨k0, e0⟩ := h3.tuples p List.mem_cons_self
          have : (match p.1 with | .tup _ => false | _ => true) = true := by
            rcases kD_cases e with ⟨j, rfl, _⟩ | ⟨x, rfl, _, _⟩
            · exact List.all_eq_true.mp sk p List.mem_cons_self
            · exact List.all_eq_true.mp sk p List.mem_cons_self
          cases q : p.1 <;> rw [q] at this e0 <;> first | (cases this; done) | (cases e0; done)
      subst ne
      simp only [RepT] at h3
      subst h3
      have mu : Mut (H a) := by rw [h2]; trivial
      have st : ObjOk X.prog X.w H s.heap a (.dK []) := empty_K (I.hok a _ h2)
      have new : ObjOk X.prog X.w (upd H a (.dK [])) s.heap a (.dK []) := st.stay (fun b v _ q => q) (fun b q => by rw [upd_ne (fun z => by rw [z, h2] at q; cases q)]; exact q) fun b xs q => by rw [upd_ne (fun z => by rw [z, h2] at q; cases q)]; exact q
      have ex : ∃ q, s.heap.get? a = some q := by
        obtain ⟨_, _, _, _, o, _, _, e, _⟩ := I.hok a _ h2
        exact ⟨o, e⟩
      have J : L2.Inv X pins σ (upd H a (.dK [])) s := I.write (x := a) (e := a) (t' := s.toks) (h' := s.heap) mu (.inl rfl) (fun b v _ q => q) ex new
      have sr1 := sr.change (o := .dK []) hg rfl h1 h0 mu (own' := true) (d' := .dic []) (by rw [if_pos rfl]; exact ⟨a, rfl, h0, .inl ⟨[], upd_same, by simp only [RepK]⟩⟩)
      have er : ρ.set i (some (.dic [], true)) = ρ := by
        have := getv_some hg
        apply List.ext_getElem?
        intro j
        by_cases ej : j = i
        · subst ej
          have hl := (List.getElem?_eq_some_iff.mp this).1
          rw [List.getElem?_set_self hl, this]
        · rw [List.getElem?_set_ne (Ne.symm ej)]
      rw [er] at sr1
      exact ⟨a, _, h1, J, sr1, Ke.upd (.inr mu), h0, .inl ⟨kk, [], e, ey, upd_same, by simp only [RepK]⟩⟩
  · obtain ⟨b, rfl, hb⟩ := rep_ktV e hy
    rcases hh with ⟨kv, h2, h3⟩ | ⟨kv, h2, h3⟩
    · have ne : kvs = [] := by
        cases kvs with
        | nil => rfl
        | cons p r =>
          exfalso
          obtain ⟨k0, e0⟩ := h3.flat p List.mem_cons_self
          have : (match p.1 with | .tup _ => true | _ => false) = true := by
            cases d <;> first | (cases e; done) | skip
            exact List.all_eq_true.mp sk p List.mem_cons_self
          cases q : p.1 <;> rw [q] at this e0 <;> first | (cases this; done) | (cases e0; done)
      subst ne
      simp only [RepK] at h3
      subst h3
      have mu : Mut (H a) := by rw [h2]; trivial
      have st : ObjOk X.prog X.w H s.heap a (.dT []) := empty_T (I.hok a _ h2)
      have new : ObjOk X.prog X.w (upd H a (.dT [])) s.heap a (.dT []) := st.stay (fun b v _ q => q) (fun b q => by rw [upd_ne (fun z => by rw [z, h2] at q; cases q)]; exact q) fun b xs q => by rw [upd_ne (fun z => by rw [z, h2] at q; cases q)]; exact q
      have ex : ∃ q, s.heap.get? a = some q := by
        obtain ⟨_, _, _, _, o, _, _, e, _⟩ := I.hok a _ h2
        exact ⟨o, e⟩
      have J : L2.Inv X pins σ (upd H a (.dT [])) s := I.write (x := a) (e := a) (t' := s.toks) (h' := s.heap) mu (.inl rfl) (fun b v _ q => q) ex new
      have sr1 := sr.change (o := .dT []) hg rfl h1 h0 mu (own' := true) (d' := .dic []) (by rw [if_pos rfl]; exact ⟨a, rfl, h0, .inr ⟨[], upd_same, by simp only [RepT]⟩⟩)
      have er : ρ.set i (some (.dic [], true)) = ρ := by
        have := getv_some hg
        apply List.ext_getElem?
        intro j
        by_cases ej : j = i
        · subst ej
          have hl := (List.getElem?_eq_some_iff.mp this).1
          rw [List.getElem?_set_self hl, this]
        · rw [List.getElem?_set_ne (Ne.symm ej)]
      rw [er] at sr1
      exact ⟨a, _, h1, J, sr1, Ke.upd (.inr mu), h0, .inr ⟨kk, b, [], e, rfl, (Ke.upd (.inr mu)).tu _ _ hb, upd_same, by simp only [RepT]⟩⟩
    · exact ⟨a, H, h1, I, sr, Ke.refl H, h0, .inr ⟨kk, b, kv, e, rfl, hb, h2, h3⟩⟩
/-- o[k] = v by values -/
theorem put_run (hu : X.A.units + 64 < cLine) (I : L2.Inv X pins σ H s) (sr : SS X ρ σ H) {i : Nat} {k d : D} {x y v : V} {u1 u2 u3 : Value} (hs : σ[i]? = some (some x)) (hk : Tmp X.mg H k y) (hd : Rep X.mg H d v) (r1 : RelV x u1) (r2 : RelV y u2) (r3 : RelV v u3)
    (w : So X W fo (putD ρ i k d) D0 H) : wpAny (model X.prog X.w) X.A (setItem u1 u2 u3) (fun _ s' => ∃ H', L2.Inv X pins σ H' s' ∧ D0.nx σ H') X.xe s := by
  unfold putD at w
  split at w
  · rename_i kvs hg
    split at w
    · rename_i hc
      simp only [Bool.and_eq_true, decide_eq_true_eq] at hc
      obtain ⟨⟨kk, sk⟩, hl⟩ := hc
      have w : ∀ σ' H', SS X (setv ρ i (.dic (dput kvs k d)) true) σ' H' → Ke H H' → D0.nx σ' H' := w
      obtain ⟨a, H1, h1, I1, sr1, k1, h0, hh⟩ := dict_kind I sr hg (tmp_key hk kk) kk sk
      rw [hs] at h1
      cases h1
      cases r1
      have hv1 : Rep X.mg H1 d v := hd.mono k1
      rcases hh with ⟨q, kv, e, rfl, h2, h3⟩ | ⟨q, b, kv, e, rfl, hb, h2, h3⟩
      · have mu : Mut (H1 a) := by rw [h2]; trivial
        refine d_setItem (by omega) I1 (DPut.k h2 (by rw [← h3.length]; exact hl)) r2 r3 fun s' J => ⟨_, J, w _ _ (sr1.change hg rfl hs h0 mu ?_) (k1.trans (Ke.upd (.inr mu)))⟩
        rw [if_pos rfl]
        exact ⟨a, rfl, h0, .inl ⟨_, upd_same, RepK.mono (Ke.upd (.inr mu)) _ _ (RepK.put e hv1 h3)⟩⟩
      · have mu : Mut (H1 a) := by rw [h2]; trivial
        refine d_setItem (by omega) I1 (.inr ⟨kv, q, b, h2, rfl, hb, by rw [← h3.length]; exact hl, rfl⟩) r2 r3 fun s' J => ⟨_, J, w _ _ (sr1.change hg rfl hs h0 mu ?_) (k1.trans (Ke.upd (.inr mu)))⟩
        rw [if_pos rfl]
        exact ⟨a, rfl, h0, .inr ⟨_, upd_same, RepT.mono (Ke.upd (.inr mu)) _ _ (RepT.put e hv1 h3)⟩⟩
    · exact w.elim
  · rename_i xs hg
    split at w
    · rename_i j
      split at w
      · rename_i m hm
        have w : ∀ σ' H', SS X (setv ρ i (.lst (xs.set m d)) true) σ' H' → Ke H H' → D0.nx σ' H' := w
        obtain ⟨a, vs, h1, h0, h2, h3⟩ := own_lst sr hg
        rw [hs] at h1
        cases h1
        have e1 := Tmp.int hk
        subst e1
        refine set_list pins s σ H _ _ v u1 u2 u3 _ I r1 r2 r3 ⟨a, vs, j, m, rfl, rfl, h2, by rw [← h3.length]; exact hm, ?_⟩
        exact w _ _ (own_app sr hg hs h0 h2 (Reps.set hd m h3)) (ke_upd h2)
      · exact w.elim
    · exact w.elim
  · exact w.elim
theorem gs_put (hu : X.A.units + 64 < cLine) {o : Str} {e k : Expr} {x z : E} {i : Nat} {p p2 pos : Pos} (hN : X.N[i]? = some o) (hv : Vis X.env.scope o) (hd : (o == ("__debug__" : Str)) = false) (hcd : (o == ("__classdict__" : Str)) = false) (ge : Gd X W cf ow e x) (gk : Gd X W cf ow k z) :
    GdS X W cf ow fo (.Assign [.Subscript (.Name o p) k p2] e pos) (.put i z x) := by
  intro n
  cases n with
  | zero => exact zero_S
  | succ n =>
    have hs : swapsWith e (some (.Subscript (.Name o p) k p2)) pos.line X.env = pure false := by cases e <;> rfl
    refine ⟨fun pins s σ H D0 I ⟨ρ, sr, w⟩ => ?_⟩
    have w : So X W fo (if (getv ρ i).isSome then (ev cf n false x ρ).out ρ fun d => (ev cf n true z ρ).out ρ fun k => putD ρ i k d else .no) D0 H := w
    cases hgv : getv ρ i with
    | none => rw [hgv] at w; exact w.elim
    | some q =>
    rw [hgv] at w
    have w := So.out sr (show So X W fo ((ev cf n false x ρ).out ρ fun d => (ev cf n true z ρ).out ρ fun k => putD ρ i k d) D0 H from w)
    refine wpAny_Assign_Subscript (thn ((pe_weak (fr := false) (ge.pe n false) (by simp)).run pins s σ H (fun v H1 => Same H H1 ∧ ∃ d, Rep X.mg H1 d v ∧ Rw (ev cf n true z ρ) (fun kk => So X W fo (putD ρ i kk d) D0 H) (exW X.mg W σ H)) I ⟨ρ, sr.sre, w.mono (fun d _ k v H1 s1 m => ⟨s1, d, m, So.out sr k⟩) fun _ z => z⟩)
      fun u3 s1 ⟨v, H1, I1, r3, s01, d, hd1, w1⟩ => ?_) hs
    obtain ⟨d0, own⟩ := q
    obtain ⟨x0, h1, _, _⟩ := (sr.mono s01).sre i d0 own hgv
    refine thn ((pe_var (pos := p) hN hv hd hcd).run pins s1 σ H1 (fun v' H2 => v' = x0 ∧ H2 = H1) I1 ⟨x0, h1, rfl, rfl⟩) fun u1 s2 ⟨x1, H2, I2, r1, e1, e2⟩ => ?_
    subst e1 e2
    refine thn ((gk.tmp n).run pins s2 σ H2 (fun y H3 => Same H2 H3 ∧ ∃ kk, Tmp X.mg H3 kk y ∧ So X W fo (putD ρ i kk d) D0 H) I2 ⟨ρ, (sr.mono s01).sre, w1.mono (fun kk _ k y H3 s3 m => ⟨s3, kk, m, k⟩) fun _ z => z.mono s01⟩) fun u2 s3 ⟨y, H3, I3, r2, s23, kk, hkk, w2⟩ => ?_
    have s03 := s01.trans s23
    exact thn (put_run hu I3 (sr.mono s03) h1 hkk (hd1.mono (Ke.of s23)) r1 r2 r3 (So.mono (Ke.of s03) w2)) fun _ s4 ⟨H4, I4, q⟩ => ⟨σ, H4, I4, q⟩
/-- d.update(more), more another dict with keys of ints and texts -/
def rUpdD (X : Cx) : V → List V → Hp → VK → Prop := fun x vs H Q => ∃ a b kv mv, x = .ref a ∧ vs = [.ref b] ∧ a ≠ b ∧ (H a = some (.dK kv) ∨ (kv = [] ∧ H a = some (.dT []))) ∧ Rd H b (.dK mv) ∧ kv.length + mv.length ≤ sizeLine ∧ Q .non (upd H a (.dK (mergeK kv mv)))
theorem mt_updD : MtM X "dict.update" (rUpdD X) := by
  intro pins s σ H x vs v us Q I rx rv ⟨a, b, kv, mv, e1, e2, hne, hA, hB, hz, q⟩
  subst e1 e2
  cases rx
  obtain ⟨u, rfl, ru⟩ := rv.one
  cases ru
  have main : ∀ H1 : Hp, L2.Inv X pins σ H1 s → H1 a = some (.dK kv) → Rd H1 b (.dK mv) → upd H1 a (.dK (mergeK kv mv)) = upd H a (.dK (mergeK kv mv)) →
      wpAny (model X.prog X.w) X.A (call (.builtin "dict.update") [.ref a, .ref b]) (EP X pins σ Q) X.xe s := fun H1 I h1 h2 e => by
    obtain ⟨z, hd, xs, rel, dd⟩ := dk_of I.hok h1
    obtain ⟨z2, hd2, xs2, rel2, dd2⟩ := dk_rd I.hok h2
    refine call_meetsIn PySem.F.slot_dict_update dd.typeIs PySem.F.entry_dict_update (PySem.F.args_dict_update_2 _ _) (meets_dict_update (mixKind X.prog X.w) a b hne hd2)
      ⟨xs, xs2, dd, dd2, by rw [← rel.length, ← rel2.length]; exact hz, fun h' dd' _ hs => ?_⟩
    have he : ∃ q, h'.get? a = some q := let ⟨q, _, _, hq, _⟩ := dd'; ⟨q, hq⟩
    have hl : (mergeK kv mv).length ≤ sizeLine := Nat.le_trans (length_mergeK mv kv) hz
    refine ⟨.non, upd H a (.dK (mergeK kv mv)), ?_, rfl, q⟩
    rw [← e]
    exact d_write I (by rw [h1]; exact True.intro) hs he (dk_new hl hd (KV.merge rel2 rel) dd')
  rcases hA with hA | ⟨rfl, hA⟩
  · exact main H I hA hB rfl
  · have mu : Mut (H a) := by rw [hA]; trivial
    have st : ObjOk X.prog X.w H s.heap a (.dK []) := empty_K (I.hok a _ hA)
    have new : ObjOk X.prog X.w (upd H a (.dK [])) s.heap a (.dK []) := st.stay (fun b v _ q => q) (fun b q => by rw [upd_ne (fun z => by rw [z, hA] at q; cases q)]; exact q) fun b xs q => by rw [upd_ne (fun z => by rw [z, hA] at q; cases q)]; exact q
    have ex : ∃ q, s.heap.get? a = some q := by
      obtain ⟨_, _, _, _, o, _, _, e, _⟩ := I.hok a _ hA
      exact ⟨o, e⟩
    have J : L2.Inv X pins σ (upd H a (.dK [])) s := I.write (x := a) (e := a) (t' := s.toks) (h' := s.heap) mu (.inl rfl) (fun b v _ q => q) ex new
    have hB' : Rd (upd H a (.dK [])) b (.dK mv) := by
      rcases hB with h | ⟨o, h⟩
      · exact .inl (by rw [upd_ne (Ne.symm hne)]; exact h)
      · exact .inr ⟨o, by rw [upd_ne (Ne.symm hne)]; exact h⟩
    exact main _ J upd_same hB' upd_upd
theorem RepT_flat {H : Hp} {ds : List (D × D)} {kvs : List (List Key × V)} (h : RepT X.mg H ds kvs) (k : ds.all (fun p => p.1.isK0) = true) : ds = [] := by
  cases ds with
  | nil => rfl
  | cons p r =>
    exfalso
    obtain ⟨k0, e0⟩ := h.tuples p List.mem_cons_self
    have := List.all_eq_true.mp k p List.mem_cons_self
    cases q : p.1 <;> rw [q] at this e0 <;> first | (cases this; done) | (cases e0; done)
theorem gs_upd {o y : Str} {i j : Nat} {p p2 apos cpos pos : Pos} (hN : X.N[i]? = some o) (hv : Vis X.env.scope o) (hd : (o == ("__debug__" : Str)) = false) (hcd : (o == ("__classdict__" : Str)) = false) (hN2 : X.N[j]? = some y) (hv2 : Vis X.env.scope y) (hd2 : (y == ("__debug__" : Str)) = false) (hcd2 : (y == ("__classdict__" : Str)) = false) (hl : (apos.endLine == cpos.line) = true) :
    GdS X W cf ow fo (.Expr (.Call (.Attribute (.Name o p) "update" apos) [.Name y p2] [] cpos) pos) (.upd i j) := by
  intro n
  cases n with
  | zero => exact zero_S
  | succ n =>
    refine psI (ps_expr (pe_bm (T := "dict") PySem.F.plainAttrs_dict PySem.F.slot_dict_update PySem.F.type_dict_update mt_updD (pe_var hN hv hd hcd) (pa_cons (pe_var hN2 hv2 hd2 hcd2) pa_nil) (hline := hl))) fun D0 σ H ⟨ρ, sr, w⟩ => ?_
    have w : So X W fo (match getv ρ i, getv ρ j with | some (.dic kvs, true), some (.dic more, _) => if decide (i ≠ j) && kvs.all (fun p => p.1.isK0) && more.all (fun p => p.1.isK0) && !more.isEmpty && decide (kvs.length + more.length ≤ line) then .nx (setv ρ i (.dic (putAll kvs more)) true) else .no | _, _ => .no) D0 H := w
    split at w
    · rename_i kvs more o' hg hg2
      split at w
      · rename_i hc
        simp only [Bool.and_eq_true, decide_eq_true_eq, Bool.not_eq_true'] at hc
        obtain ⟨⟨⟨⟨hij, k1⟩, k2⟩, hne⟩, hlen⟩ := hc
        have w : ∀ σ' H', SS X (setv ρ i (.dic (putAll kvs more)) true) σ' H' → Ke H H' → D0.nx σ' H' := w
        have hne : more ≠ [] := fun e => by rw [e] at hne; cases hne
        obtain ⟨v, s1, a, rfl, h0, hA⟩ := sr.own i _ hg
        -- the other one
        obtain ⟨b, mv, s2, hab, hB, rB⟩ : ∃ b mv, σ[j]? = some (some (.ref b)) ∧ a ≠ b ∧ Rd H b (.dK mv) ∧ RepK X.mg H more mv := by
          have mua : ∃ u, H a = some u ∧ Mut (some u) := by
            rcases hA with ⟨kv, h, _⟩ | ⟨kv, h, _⟩
            · exact ⟨_, h, trivial⟩
            · exact ⟨_, h, trivial⟩
          obtain ⟨u, ha, mu⟩ := mua
          cases o' with
          | true =>
            obtain ⟨v, s2, b, rfl, _, hB⟩ := sr.own j _ hg2
            have hab : a ≠ b := fun e => by
              subst e
              exact sr.inj i j _ _ _ hij hg hg2 rfl rfl s1 s2
            rcases hB with ⟨mv, h, r⟩ | ⟨mv, h, r⟩
            · exact ⟨b, mv, s2, hab, .inl h, r⟩
            · exact absurd (RepT_flat r k2) hne
          | false =>
            obtain ⟨v, s2, hr⟩ := sr.rep j _ hg2
            obtain ⟨b, ob, rfl, hB⟩ := (show ∃ a o, v = .ref a ∧ ((∃ kvs, H a = some (.frz o (.dK kvs)) ∧ RepK X.mg H more kvs) ∨ ∃ kvs, H a = some (.frz o (.dT kvs)) ∧ RepT X.mg H more kvs) by simpa only [Rep] using hr)
            rcases hB with ⟨mv, h, r⟩ | ⟨mv, h, r⟩
            · refine ⟨b, mv, s2, fun e => ?_, .inr ⟨ob, h⟩, r⟩
              subst e
              rw [h] at ha
              cases ha
              exact mu.elim
            · exact absurd (RepT_flat r k2) hne
        have hA2 : ∃ kv, (H a = some (.dK kv) ∨ (kv = [] ∧ H a = some (.dT []))) ∧ RepK X.mg H kvs kv := by
          rcases hA with ⟨kv, h, r⟩ | ⟨kv, h, r⟩
          · exact ⟨kv, .inl h, r⟩
          · have := RepT_flat r k1
            subst this
            simp only [RepT] at r
            subst r
            exact ⟨[], .inr ⟨rfl, h⟩, by simp only [RepK]⟩
        obtain ⟨kv, hA2, rA⟩ := hA2
        have mu : Mut (H a) := by
          rcases hA2 with h | ⟨_, h⟩ <;> rw [h] <;> trivial
        refine ⟨_, s1, .inr (.inr (.inl ⟨rfl, ?_⟩)), _, s2, a, b, kv, mv, rfl, rfl, hab, hA2, hB, by rw [← rA.length, ← rB.length]; exact hlen, ?_⟩
        · rcases hA2 with h | ⟨_, h⟩
          · exact .inl ⟨_, h⟩
          · exact .inr ⟨_, h⟩
        refine w _ _ (sr.change hg rfl s1 h0 mu ?_) (Ke.upd (.inr mu))
        rw [if_pos rfl]
        exact ⟨a, rfl, h0, .inl ⟨_, upd_same, RepK.mono (Ke.upd (.inr mu)) _ _ (RepK.putAll rB rA)⟩⟩
      · exact w.elim
    · exact w.elim
end
end Mp

end Sec_MpZe
section Sec_MpZf
set_option autoImplicit false
set_option linter.all false
set_option maxHeartbeats 4000000
set_option maxRecDepth 100000
namespace Mp
open PySem PySem.Spec PyProof.Rows L2

section
variable {X : Cx} {W : WX} {fo : Bool} {D0 : Ends} {H H' : Hp} {ρ : Env} {σ : St} {cf : Str → List D → R D} {ow : Str → Bool} {pins : List (Addr × Obj)} {s : Shared}
theorem swap_ok (env : PySem.Env) (hk : env.scope.kind = .function) {ts es : List Expr} {k k2 : Nat} {p p2 : Pos} {o : Option (List Str)} (hst : es.any isStar = false) (h : swapN env.scope ts es = some o) :
    swappedStores [.Tuple ts k p] (.Tuple es k2 p2) env = pure o := by
  have hb : (env.blockKind != .function) = false := by
    unfold Env.blockKind
    rw [hk]
    rfl
  have hst2 : (es.any fun e => match e with | .Starred .. => true | _ => false) = false := by
    have e : (fun e : Expr => match e with | .Starred .. => true | _ => false) = isStar := by
      funext e
      cases e <;> rfl
    rw [e]
    exact hst
  unfold swapN at h
  unfold swappedStores
  simp only [hb, Bool.or_false]
  have hif : ∀ {α : Type} {c : Bool} {a b : α}, c = false → (if c = true then a else b) = b := fun h => by rw [h]; simp
  split at h
  · rename_i c
    cases h
    show (if _ then _ else _) = _
    rw [if_pos c]
  · rename_i c
    show (if _ then _ else _) = _
    rw [if_neg c]
    refine (if_neg (fun hh => Bool.noConfusion (hst2.symm.trans hh))).trans ?_
    simp only at h
    split at h
    · rename_i c2
      cases h
      exact if_pos c2
    · rename_i c2
      refine (if_neg c2).trans ?_
      split at h
      · rename_i c3
        cases h
        exact if_pos c3
      · rename_i c3
        refine (if_neg c3).trans ?_
        split at h
        · cases h
        · rename_i c4
          cases h
          exact if_neg c4
/-- the values of several slots -/
def setsV : St → List Nat → List V → St
  | σ, i :: is, v :: vs => setsV (σ.set i (some v)) is vs
  | σ, _, _ => σ
theorem setsV_comm : ∀ {is : List Nat} {vs : List V} {σ : St} {i : Nat} {v : V}, i ∉ is → setsV (σ.set i (some v)) is vs = (setsV σ is vs).set i (some v)
  | [], vs, σ, i, v, _ => by unfold setsV; rfl
  | j :: is, [], σ, i, v, _ => by unfold setsV; rfl
  | j :: is, w :: vs, σ, i, v, h => by
    simp only [List.mem_cons, not_or] at h
    show setsV ((σ.set i (some v)).set j (some w)) is vs = (setsV (σ.set j (some w)) is vs).set i (some v)
    rw [List.set_comm _ _ h.1, setsV_comm h.2]
theorem setsV_app : ∀ {is js : List Nat} {vs ws : List V} {σ : St}, is.length = vs.length → setsV σ (is ++ js) (vs ++ ws) = setsV (setsV σ is vs) js ws
  | [], js, [], ws, σ, _ => rfl
  | i :: is, js, v :: vs, ws, σ, h => by
    show setsV (σ.set i (some v)) (is ++ js) (vs ++ ws) = setsV (setsV (σ.set i (some v)) is vs) js ws
    exact setsV_app (by simpa using h)
  | [], _, _ :: _, _, _, h => by simp at h
  | _ :: _, _, [], _, _, h => by simp at h
theorem setsV_rev : ∀ {is : List Nat} {vs : List V} {σ : St}, is.Nodup → is.length = vs.length → setsV σ is.reverse vs.reverse = setsV σ is vs
  | [], [], σ, _, _ => rfl
  | i :: is, v :: vs, σ, h, hl => by
    rw [List.reverse_cons, List.reverse_cons, setsV_app (by simpa using hl)]
    have hn := List.nodup_cons.mp h
    show (setsV σ is.reverse vs.reverse).set i (some v) = setsV (σ.set i (some v)) is vs
    rw [setsV_rev hn.2 (by simpa using hl), setsV_comm hn.1]
  | [], _ :: _, _, _, h => by simp at h
  | _ :: _, [], _, _, h => by simp at h
/-- names stored in a row -/
theorem bind_all {Q : Unit → Shared → Prop} (hN : X.N.Nodup) : ∀ {ns : List (Str × Nat)} {vs : List V} {us : List Value} {σ : St} {s : Shared}, (∀ p ∈ ns, Nm X p.2 p.1) → ns.length = vs.length → Vals vs us → L2.Inv X pins σ H s → (∀ s', L2.Inv X pins (setsV σ (ns.map (·.2)) vs) H s' → Q () s') →
    wpAny (model X.prog X.w) X.A (assignInOrder (ns.map fun p v => bindName X.env p.1 v) us) Q X.xe s
  | [], vs, us, σ, s, _, hl, r, I, q => by
    cases r with
    | nil => exact assignInOrder_nil (q s I)
    | cons _ _ => simp at hl
  | p :: ns, _, _, σ, s, hn, hl, r, I, q => by
    cases r with
    | nil => simp at hl
    | cons r1 r2 =>
      obtain ⟨n1, n2, n3⟩ := hn p List.mem_cons_self
      exact assignInOrder_cons (wpAny_bindName (store_ok I hN n1 n2 r1 (fun s2 I2 => bind_all hN (fun z hz => hn z (List.mem_cons_of_mem _ hz)) (by simpa using hl) r2 I2 q) n3))
theorem assign_all {Q : Unit → Shared → Prop} (hN : X.N.Nodup) {ts : List Expr} {is : List Nat} (hn : Nms X ts is) : ∀ {vs : List V} {us : List Value} {σ : St} {s : Shared}, is.length = vs.length → Vals vs us → L2.Inv X pins σ H s → (∀ s', L2.Inv X pins (setsV σ is vs) H s' → Q () s') →
    wpAny (model X.prog X.w) X.A (assignInOrder ((assignEach ts X.env).map (·.2)) us) Q X.xe s := by
  induction hn with
  | nil =>
    intro vs us σ s hl r I q
    cases r with
    | nil => exact assignInOrder_nil (q s I)
    | cons _ _ => simp at hl
  | cons n t ih =>
    intro vs us σ s hl r I q
    cases r with
    | nil => simp at hl
    | cons r1 r2 => exact assignInOrder_cons (wpAny_assign_Name (store_ok I hN n.1 n.2.1 r1 (fun s2 I2 => ih (by simpa using hl) r2 I2 q) n.2.2))
/-- the names of the targets -/
theorem Nms.names {ts : List Expr} {is : List Nat} (h : Nms X ts is) : ∃ ns : List Str, ns.length = is.length ∧ (∀ p ∈ ns.zip is, Nm X p.2 p.1) ∧ ∀ (sc : Scope) (line : Nat), ∃ ms : List Str, ts.filterMap (plainN sc line) = ms ∧ (ms.length = ts.length → ms = ns) := by
  induction h with
  | nil => exact ⟨[], rfl, by simp, fun _ _ => ⟨[], rfl, fun _ => rfl⟩⟩
  | cons n t ih =>
    rename_i x p i es is
    obtain ⟨ns, h1, h2, h3⟩ := ih
    refine ⟨x :: ns, by simp [h1], fun q hq => ?_, fun sc line => ?_⟩
    · rw [List.zip_cons_cons] at hq
      rcases List.mem_cons.mp hq with rfl | hq
      · exact n
      · exact h2 q hq
    · obtain ⟨ms, h4, h5⟩ := h3 sc line
      cases c : plainN sc line (.Name x p) with
      | some z =>
        have ez : z = x := by
          have c : (if sc.names.lookup x == some .local && p.line == line then some x else none) = some z := c
          split at c <;> cases c
          rfl
        subst ez
        refine ⟨z :: ms, ?_, fun hl => by rw [h5 (by simpa using hl)]⟩
        rw [List.filterMap_cons, c, h4]
      | none =>
        refine ⟨ms, ?_, fun hl => ?_⟩
        · rw [List.filterMap_cons, c]
          exact h4
        · exfalso
          have := List.length_filterMap_le (plainN sc line) es
          rw [h4] at this
          simp only [List.length_cons] at hl
          omega
theorem Nms.len {ts : List Expr} {is : List Nat} (h : Nms X ts is) : ts.length = is.length := by
  induction h with
  | nil => rfl
  | cons _ _ ih => simp [ih]
/-- a, b, .. = x, y, .. -/
theorem ps_multi (hc : X.calm = true) (hN : X.N.Nodup) {ts es : List Expr} {is : List Nat} {ta : TA} {k k2 : Nat} {p p2 pos : Pos} {o : Option (List Str)} (hn : Nms X ts is) (hnd : is.Nodup) (hl : ts.length = es.length) (l1 : es.length ≤ sizeLine) (hst : es.any isStar = false) (ha : PA X es ta) (hw : swapN X.env.scope ts es = some o) :
    PS X (.Assign [.Tuple ts k p] (.Tuple es k2 p2) pos) (fun D0 σ H => ta σ H fun vs H1 => vs.length = is.length ∧ D0.nx (setsV σ is vs) H1) := by
  refine ⟨fun pins s σ H D0 I h => ?_⟩
  have hw2 := swap_ok X.env I.ok.kind (k := k) (k2 := k2) (p := p) (p2 := p2) hst hw
  obtain ⟨e1, e2⟩ := hn.each X.env
  have til := hn.len
  rw [exec_Assign_arm]
  refine wpAny_bind (wpAny_standAt ?_)
  have hs : swapsWithSole [.Tuple ts k p] (.Tuple es k2 p2) pos.line X.env = pure false := rfl
  rw [hs]
  refine wpAny_bind (wpAny_pure ?_)
  rw [if_neg (by decide)]
  refine wpAny_bind (Tuple_ (thn (ha.run _ pins s σ H _ I h) fun us s1 ⟨vs, H1, I1, r1, hvl, q1⟩ => ?_))
  have hul := r1.length
  refine wpAny_newObj_type ?_ (by show us.length ≤ sizeLine; omega)
  have I2 : L2.Inv X pins σ H1 { s1 with heap := s1.heap.push { cls := .type "tuple", data := .seq us.toArray } } := I1.kept (t' := s1.toks) fun b ob e => Heap.get?_push_of_some _ e
  have isT : IsTup (s1.heap.push { cls := .type "tuple", data := .seq us.toArray }) s1.heap.objs.size us.toArray := IsTup.new s1.heap _
  rw [hw2]
  refine wpAny_bind (wpAny_pure ?_)
  cases o with
  | none =>
    show wpAny _ _ (assignAll (.ref s1.heap.objs.size) ((assignEach [.Tuple ts k p] X.env).map (·.2)) >>= fun _ => pure Flow.next) _ _ _
    have one : (assignEach [.Tuple ts k p] X.env).map (·.2) = [assign (.Tuple ts k p) X.env] := rfl
    rw [one]
    refine wpAny_bind ?_
    refine assign_Tuple_tuple (I.ok.hd hc) isT (by rw [e1, List.size_toArray]; omega) e2 fun h' hx => ?_
    have I3 := I2.kept (h' := h') (t' := s1.toks) fun b ob e => hx b ob (Nat.ne_of_lt (Heap.lt_size e)) e
    exact assign_all hN hn (by omega) (by simpa using r1) I3 fun s' I' => wpAny_pure ⟨_, H1, I', q1⟩
  | some names =>
    obtain ⟨ns, n1, n2, n3⟩ := hn.names
    have en : names = ns := by
      unfold swapN at hw
      split at hw
      · cases hw
      · simp only at hw
        split at hw
        · cases hw
        · rename_i c2
          split at hw
          · cases hw
          · split at hw
            · cases hw
            · cases hw
              simp only [Bool.or_eq_true, bne_iff_ne, ne_eq, not_or, Decidable.not_not] at c2
              obtain ⟨ms, e3, e4⟩ := n3 X.env.scope ((ts.head?.map (·.pos.line)).getD 0)
              have c3 := c2.1
              rw [e3] at c3 ⊢
              exact e4 c3
    subst en
    show wpAny _ _ (do rule "assign.swapped-stores"; let items ← unpackItems (.ref s1.heap.objs.size) names.length none; assignInOrder (names.reverse.map fun n => bindName X.env n) items.reverse; pure Flow.next) _ _ _
    have hsz : names.length = us.toArray.size := by rw [List.size_toArray]; omega
    rw [hsz]
    refine wpAny_bind (wpAny_rule (wpAny_bind (unpackItems_tuple (items := us.toArray) (I.ok.hd hc) isT fun h' hx => ?_)))
    have I3 := I2.kept (h' := h') (t' := s1.toks) fun b ob e => hx b ob (Nat.ne_of_lt (Heap.lt_size e)) e
    have em : (names.reverse.map fun n => bindName X.env n) = ((names.zip is).reverse.map fun q v => bindName X.env q.1 v) := by
      have : names = (names.zip is).map (·.1) := by rw [zip_fst n1]
      conv => lhs; rw [this]
      rw [← List.map_reverse, List.map_map]
      rfl
    rw [em]
    have rr : Vals vs.reverse (us.toArray.toList.reverse) := by
      have : ∀ {vs : List V} {us : List Value}, Vals vs us → Vals vs.reverse us.reverse := fun {vs us} r => by
        induction r with
        | nil => exact .nil
        | cons h t ih => rw [List.reverse_cons, List.reverse_cons]; exact ih.append (.cons h .nil)
      exact this (by simpa using r1)
    refine wpAny_bind (bind_all hN (fun q hq => n2 q (List.mem_reverse.mp hq)) (by simp; omega) rr I3 fun s' I' => wpAny_pure ?_)
    have e5 : ((names.zip is).reverse.map (·.2)) = is.reverse := by
      rw [List.map_reverse]
      congr 1
      have : ∀ {α β : Type} {xs : List α} {ys : List β}, xs.length = ys.length → (xs.zip ys).map (·.2) = ys := fun {α β xs ys} => by
        induction xs generalizing ys with
        | nil => intro h; cases ys <;> first | rfl | simp at h
        | cons x xs ih => intro h; cases ys with
          | nil => simp at h
          | cons y ys => simp [ih (by simpa using h)]
      exact this n1
    rw [e5, setsV_rev hnd (by omega)] at I'
    exact ⟨_, H1, I', q1⟩
end
end Mp

end Sec_MpZf
section Sec_MpZg
set_option autoImplicit false
set_option linter.all false
set_option maxHeartbeats 4000000
set_option maxRecDepth 100000
namespace Mp
open PySem PySem.Spec PyProof.Rows L2

/-- values made in a row, each new at its turn -/
def OwnsS (mg : Str → Option Value) (Hs He : Hp) : List (D × Bool) → List V → Prop
  | [], vs => vs = [] ∧ Same Hs He
  | (d, fr) :: r, vs => ∃ v ws H1, vs = v :: ws ∧ Same Hs H1 ∧ (if fr = true then Own mg H1 Hs d v else Rep mg H1 d v) ∧ OwnsS mg H1 He r ws
section
variable {X : Cx} {W : WX} {fo : Bool} {D0 : Ends} {H H' : Hp} {ρ : Env} {σ : St} {cf : Str → List D → R D} {ow : Str → Bool} {pins : List (Addr × Obj)} {s : Shared}
theorem OwnsS.same {mg : Str → Option Value} {He : Hp} : ∀ {r : List (D × Bool)} {vs : List V} {Hs : Hp}, OwnsS mg Hs He r vs → Same Hs He
  | [], _, _, h => h.2
  | (d, fr) :: r, _, _, ⟨v, ws, H1, _, s, _, t⟩ => s.trans t.same
theorem OwnsS.len {mg : Str → Option Value} {He : Hp} : ∀ {r : List (D × Bool)} {vs : List V} {Hs : Hp}, OwnsS mg Hs He r vs → vs.length = r.length
  | [], _, _, h => by rw [h.1]; rfl
  | (d, fr) :: r, _, _, ⟨v, ws, H1, e, s, _, t⟩ => by rw [e]; simp [t.len]
def tAf (mg : Str → Option Value) (W : WX) (cf : Str → List D → R D) (ow : Str → Bool) (n : Nat) (xs : List E) : TA := fun σ H Q => ∃ ρ, SRE mg ρ σ H ∧ Rw (evs (ev cf n false · ρ) xs) (fun ds => ∀ vs H', OwnsS mg H H' (ds.zip (xs.map (fresh ow))) vs → Q vs H') (exW mg W σ H)
theorem paf_gd {es : List Expr} {xs : List E} (h : Gds X W cf ow es xs) (n : Nat) : PA X es (tAf X.mg W cf ow n xs) := by
  induction h with
  | nil =>
    refine ⟨fun pos pins s σ H Q I ⟨ρ, sr, w⟩ => pa_nil.run pos pins s σ H Q I ?_⟩
    exact (show ∀ vs H', OwnsS X.mg H H' [] vs → Q vs H' from w) [] H ⟨rfl, Same.refl H⟩
  | cons g st t ih =>
    rename_i e x es xs
    refine ⟨fun pos pins s σ H Q I ⟨ρ, sr, w⟩ => (pa_cons (g.pe n false) ih (star_plain st)).run pos pins s σ H Q I ?_⟩
    have w : Rw ((ev cf n false x ρ).bind fun d => (evs (ev cf n false · ρ) xs).bind fun ds => .ok (d :: ds)) (fun ds => ∀ vs H', OwnsS X.mg H H' (ds.zip ((x :: xs).map (fresh ow))) vs → Q vs H') (exW X.mg W σ H) := w
    rw [Rw.bind] at w
    refine ⟨ρ, sr, w.mono (fun d _ k v H1 s1 t1 => ?_) fun _ z => z⟩
    rw [Rw.bind] at k
    refine ⟨ρ, sr.mono s1, k.mono (fun ds _ k2 vs H2 t2 => ?_) fun _ z => z.mono s1⟩
    refine (show ∀ vs H', OwnsS X.mg H H' ((d :: ds).zip ((x :: xs).map (fresh ow))) vs → Q vs H' from k2) (v :: vs) H2 ⟨v, vs, H1, rfl, s1, ?_, t2⟩
    unfold Md at t1
    rw [if_neg (by simp)] at t1
    exact t1
/-- .. stored -/
theorem store_ss {Q : St → Hp → Prop} {He : Hp} : ∀ {is : List Nat} {r : List (D × Bool)} {vs : List V} {ρ : Env} {σ : St} {Hs : Hp}, OwnsS X.mg Hs He r vs → SS X ρ σ He → Same X.H_0 Hs → (∀ i ∈ is, i < X.N.length) →
    (∀ j e a, getv ρ j = some (e, true) → isCont e = true → σ[j]? = some (some (.ref a)) → ∃ u, Hs a = some u) → So X W fo (storeP is r ρ) { D0 with nx := Q } He → (∀ ρ', storeP is r ρ = .nx ρ' → vs.length = is.length ∧ SS X ρ' (setsV σ is vs) He) ∧ ∃ ρ', storeP is r ρ = .nx ρ'
  | [], [], vs, ρ, σ, Hs, o, sr, s0, hl, th, w => by
    refine ⟨fun ρ' e => ?_, ρ, rfl⟩
    cases e
    rw [o.1]
    exact ⟨rfl, sr⟩
  | i :: is, (d, fr) :: r, _, ρ, σ, Hs, ⟨v, ws, H1, e, s1, m, t⟩, sr, s0, hl, th, w => by
    subst e
    have st := t.same
    have m2 : if fr = true then Own X.mg He Hs d v else Rep X.mg He d v := by
      split
      · rename_i h; rw [if_pos h] at m; exact m.mono st
      · rename_i h; rw [if_neg h] at m; exact m.mono (Ke.of st)
    have hi := hl i List.mem_cons_self
    have sr2 := sr.put (i := i) (d := d) (fr := fr) (v := v) (H0 := Hs) (by rw [sr.len]; exact hi) s0 m2 fun j e a _ hj c hs => th j e a hj c hs
    have ih := store_ss (is := is) t sr2 (s0.trans s1) (fun j hj => hl j (List.mem_cons_of_mem _ hj)) (fun j e a hj c hs => ?_) w
    · obtain ⟨h1, ρ', h2⟩ := ih
      exact ⟨fun ρ2 e2 => by obtain ⟨a, b⟩ := h1 ρ2 e2; exact ⟨by simp [a], b⟩, ρ', h2⟩
    · rcases getv_set hj with ⟨rfl, q2⟩ | ⟨ne, q2⟩
      · cases q2
        rw [List.getElem?_set_self (by rw [sr.len]; exact hi)] at hs
        obtain ⟨b, u, e1, _, e2, _⟩ := own_ref (X := X) (by simpa using m) c
        rw [e1] at hs
        cases hs
        exact ⟨u, e2⟩
      · rw [List.getElem?_set_ne (Ne.symm ne)] at hs
        obtain ⟨u, e2⟩ := th j e a q2 c hs
        exact ⟨u, s1 _ _ e2⟩
  | [], _ :: _, _, _, _, _, _, _, _, _, _, w => w.elim
  | _ :: _, [], _, _, _, _, _, _, _, _, _, w => w.elim
theorem gs_mul (hc : X.calm = true) (hN : X.N.Nodup) {ts es : List Expr} {is : List Nat} {xs : List E} {k k2 : Nat} {p p2 pos : Pos} (hn : Nms X ts is) (hnd : is.Nodup) (hl : ts.length = es.length) (l1 : es.length ≤ sizeLine) (hst : es.any isStar = false) (g : Gds X W cf ow es xs) (hil : ∀ i ∈ is, i < X.N.length)
    (hw : (swapN X.env.scope ts es).isSome = true) : GdS X W cf ow fo (.Assign [.Tuple ts k p] (.Tuple es k2 p2) pos) (.mul is xs) := by
  intro n
  cases n with
  | zero => exact zero_S
  | succ n =>
    obtain ⟨o, ho⟩ := Option.isSome_iff_exists.mp hw
    refine psI (ps_multi hc hN hn hnd hl l1 hst (paf_gd g n) ho) fun D0 σ H ⟨ρ, sr, w⟩ => ?_
    have w := So.out sr (show So X W fo ((evs (ev cf n false · ρ) xs).out ρ fun ds => storeP is (ds.zip (xs.map (fresh ow))) ρ) D0 H from w)
    refine ⟨ρ, sr.sre, w.mono (fun ds _ k vs H1 t1 => ?_) fun _ z => z⟩
    have s1 := t1.same
    have k1 := So.mono (Ke.of s1) k
    obtain ⟨h1, ρ', h2⟩ := store_ss (Q := D0.nx) t1 (sr.mono s1) sr.same hil (fun j e a hj c hs => sr.there hj c hs) k1
    obtain ⟨h3, h4⟩ := h1 ρ' h2
    rw [h2] at k
    exact ⟨h3, (show ∀ σ' H', SS X ρ' σ' H' → Ke H H' → D0.nx σ' H' from k) _ H1 h4 (Ke.of s1)⟩
end

/-! ### the translator's statements -/
section
variable {X : Cx} {W : WX} {cf : Str → List D → R D} {ow : Str → Bool} {T : Tab}
/-- a body's context -/
structure Cb (X : Cx) (W : WX) (cf : Str → List D → R D) (ow : Str → Bool) (T : Tab) : Prop where
  ck : Ck X W cf ow T
  fn : ∀ x, X.fn x = true
  own : PassesOwn (model X.prog X.w) X.A X.env X.xe
  exc : ∀ x, T.gv.lookup x = some .cls → ExcC X x
theorem Cb.nm (c : Cb X W cf ow T) {x : Str} {i : Nat} (h : ownN X.env.scope x = true) (hi : idx X.N x = some i) : Nm X i x := ⟨idx_get hi, own_loc h, .inl (c.fn x)⟩
theorem idx_lt {N : List Str} {x : Str} {i : Nat} (h : idx N x = some i) : i < N.length := (List.getElem?_eq_some_iff.mp (idx_get h)).1
theorem names_lt {N : List Str} {ok : Str → Bool} : ∀ {es : List Expr} {is : List Nat}, namesOf N ok es = some is → ∀ i ∈ is, i < N.length
  | [], is, h, i, hi => by cases h; cases hi
  | e :: es, is, h, i, hi => by
    cases e <;> first | (cases h; done) | skip
    unfold namesOf at h
    split at h
    · obtain ⟨j, h1, h⟩ := bindO h
      obtain ⟨r, h2, h⟩ := bindO h
      cases h
      rcases List.mem_cons.mp hi with rfl | hi
      · exact idx_lt h1
      · exact names_lt h2 i hi
    · cases h
theorem tg_lt {N : List Str} {ok : Str → Bool} {e : Expr} {g : Tg} (h : tgOf N ok e = some g) : ∀ i ∈ tgIx g, i < N.length := by
  cases e <;> first | (cases h; done) | skip
  · unfold tgOf at h
    simp only at h
    split at h
    · obtain ⟨j, h1, h⟩ := bindO h
      cases h
      intro i hi
      have : i = j := by simpa [tgIx] using hi
      subst this
      exact idx_lt h1
    · cases h
  · obtain ⟨is, h1, h⟩ := bindO h
    cases h
    exact names_lt h1
theorem nodupB_ok : ∀ {is : List Nat}, nodupB is = true → is.Nodup
  | [], _ => List.nodup_nil
  | x :: xs, h => by
    unfold nodupB at h
    rw [Bool.and_eq_true] at h
    exact List.nodup_cons.mpr ⟨by simpa using h.1, nodupB_ok h.2⟩
theorem gdb_of {fo : Bool} {f : Stmt → Option S} (ih : ∀ st s, f st = some s → GdS X W cf ow fo st s) : ∀ {sts : List Stmt} {ss : List S}, mapO f sts = some ss → GdB X W cf ow fo sts ss
  | [], ss, h => by cases h; exact .nil
  | st :: sts, ss, h => by
    obtain ⟨s, h1, h⟩ := bindO h
    obtain ⟨r, h2, h⟩ := bindO h
    cases h
    exact .cons (ih st s h1) (gdb_of ih h2)
theorem act_of {e : Expr} {o m : Str} {a : Expr} {l : Bool} (h : actOf e = some (o, m, a, l)) : ∃ p apos cpos, e = .Call (.Attribute (.Name o p) m apos) [a] [] cpos ∧ l = (apos.endLine == cpos.line) := by
  unfold actOf at h
  split at h
  · cases h; exact ⟨_, _, _, rfl, rfl⟩
  · cases h
theorem pop_of {e : Expr} {o : Str} {apos cpos : Pos} (h : popOf e = some (o, apos, cpos)) : ∃ p, e = .Call (.Attribute (.Name o p) "pop" apos) [] [] cpos := by
  unfold popOf at h
  split at h
  · split at h
    · rename_i hm
      cases h
      subst hm
      exact ⟨_, rfl⟩
    · cases h
  · cases h
theorem asg_ok {fo : Bool} (c : Cb X W cf ow T) {tg e : Expr} {pos : Pos} {s : S} (h : trAsg T X.N X.env.scope tg e = some s) : GdS X W cf ow fo (.Assign [tg] e pos) s := by
  have tr := trE_ok (T := T) 100 X W c.ck
  unfold trAsg at h
  cases tg <;> (try simp only at h) <;> first | (cases h; done) | skip
  · rename_i o k p
    cases o <;> (try simp only at h) <;> first | (cases h; done) | skip
    rename_i x p1
    split at h
    · rename_i hh
      simp only [Bool.and_eq_true, Bool.not_eq_true'] at hh
      obtain ⟨⟨ok, hv⟩, hs⟩ := hh
      obtain ⟨o1, o2, o3⟩ := okName_iff ok
      obtain ⟨i, h1, h⟩ := bindO h
      obtain ⟨z, h2, h⟩ := bindO h
      obtain ⟨y, h3, h⟩ := bindO h
      cases h
      exact gs_fz' _ (gs_put c.ck.units (idx_get h1) (held_vis hv) o1 o2 (tr _ _ h3) (tr _ _ h2))
    · cases h
  · rename_i x p
    split at h
    · rename_i hx
      split at h
      · rename_i o apos cpos hp
        split at h
        · rename_i hh
          simp only [Bool.and_eq_true] at hh
          obtain ⟨⟨ok, hv⟩, hl⟩ := hh
          obtain ⟨o1, o2, o3⟩ := okName_iff ok
          obtain ⟨t, h1, h⟩ := bindO h
          obtain ⟨i, h2, h⟩ := bindO h
          cases h
          obtain ⟨p2, rfl⟩ := pop_of hp
          exact gs_pop c.ck.nd (idx_get h2) (held_vis hv) o1 o2 (c.nm hx h1) hl
        · cases h
      · obtain ⟨i, h1, h⟩ := bindO h
        obtain ⟨y, h2, h⟩ := bindO h
        cases h
        exact gs_fz' _ (gs_set c.ck.nd (tr _ _ h2) (c.nm hx h1))
    · cases h
  · rename_i ts k p
    obtain ⟨is, h1, h⟩ := bindO h
    have nms := nms_of (X := X) (ok := ownN X.env.scope) (fun x hx => ⟨own_loc hx, .inl (c.fn x)⟩) h1
    split at h
    · rename_i es k2 p2
      split at h
      · rename_i hh
        simp only [Bool.and_eq_true, beq_iff_eq] at hh
        obtain ⟨⟨⟨ha, hnd⟩, hl⟩, hw⟩ := hh
        obtain ⟨st, ln⟩ := okArgs_iff ha
        obtain ⟨ys, h2, h⟩ := bindO h
        cases h
        refine gs_fz' _ (gs_mul c.ck.calm c.ck.nd nms (nodupB_ok hnd) hl (by have : sizeLine = 16777216 := rfl; omega) ?_ (gds_of tr h2 st) (names_lt h1) hw)
        rw [List.any_eq_false]
        exact fun e he => by simp [st e he]
      · cases h
    · rename_i nt
      obtain ⟨y, h2, h⟩ := bindO h
      cases h
      refine gs_fz' _ (gs_unp c.ck.calm c.ck.nd (tr _ _ h2) nms (names_lt h1) ?_)
      cases e <;> first | rfl | exact absurd rfl (nt _ _ _)
theorem ret_ok (c : Cb X W cf ow T) {fo : Bool} {e : Expr} {x : E} {pos : Pos} (h : trE T X.N 100 X.env.scope e = some x) : GdS X W cf ow fo (.Return (some e) pos) (trRet fo e x) := by
  have g := trE_ok (T := T) 100 X W c.ck e x h
  unfold trRet
  cases fo with
  | false => exact gs_fz' _ (gs_ret g)
  | true =>
    rw [if_pos rfl]
    by_cases en : isName e = true
    · rw [if_pos en]
      cases e <;> first | (cases en; done) | skip
      rename_i y p
      have h : trName T X.N X.env.scope y = some x := h
      unfold trName at h
      split at h
      · rename_i ok
        obtain ⟨o1, o2, o3⟩ := okName_iff ok
        split at h
        · rename_i hv
          obtain ⟨i, h1, h⟩ := bindO h
          cases h
          exact gs_retV (idx_get h1) (held_vis hv) o1 o2
        · split at h
          · split at h
            · cases h; exact gs_retO g
            · cases h; exact gs_retO g
            · cases h
          · cases h
      · cases h
    · rw [if_neg en]
      exact gs_fz' _ (gs_retO g)
theorem upd_of {N : List Str} {sc : Scope} {a : Expr} {i : Nat} {s : S} (h : (match a with | .Name y _ => if okName y && heldN sc y then (idx N y).bind fun j => some (S.upd i j) else none | _ => none) = some s) :
    ∃ y p j, a = .Name y p ∧ (okName y = true ∧ heldN sc y = true) ∧ idx N y = some j ∧ s = .upd i j := by
  cases a <;> first | (cases h; done) | skip
  rename_i y p
  have h : (if (okName y && heldN sc y) = true then (idx N y).bind fun j => some (S.upd i j) else none) = some s := h
  split at h
  · rename_i hh
    rw [Bool.and_eq_true] at hh
    obtain ⟨j, h3, h⟩ := bindO h
    cases h
    exact ⟨y, p, j, rfl, hh, h3, rfl⟩
  · cases h
theorem trS_ok {fo : Bool} (c : Cb X W cf ow T) : ∀ (n : Nat) (st : Stmt) (s : S), trS T X.N fo X.env.scope n st = some s → GdS X W cf ow fo st s := by
  intro n
  have tr := trE_ok (T := T) 100 X W c.ck
  induction n with
  | zero => intro st s h; cases h
  | succ n ih =>
    intro st s h
    unfold trS at h
    cases st <;> (try simp only at h) <;> first | (cases h; done) | skip
    · -- Return
      rename_i e pos
      split at h
      · cases h; exact gs_retN
      · obtain ⟨x, h1, h⟩ := bindO h
        cases h
        exact ret_ok c h1
    · -- Assign
      split at h
      · exact asg_ok c h
      · cases h
    · -- For
      rename_i tg iter b o pos
      split at h
      · rename_i hh
        simp only [Bool.and_eq_true, Bool.not_eq_true', List.isEmpty_iff] at hh
        obtain ⟨ho, hs⟩ := hh
        subst ho
        obtain ⟨g, h1, h⟩ := bindO h
        obtain ⟨its, h2, h⟩ := bindO h
        obtain ⟨p, h3, h⟩ := bindO h
        cases h
        refine gs_fz' _ (gs_for c.own c.ck.calm c.ck.nd (fun m => iter_ok c.ck tr (fun e he => trE_star he) h2 m) (tgt_of (fun x hx => ⟨own_loc hx, .inl (c.fn x)⟩) h1) (tg_lt h1) (fun z => ?_) (gdb_of ih h3))
        cases iter <;> first | rfl | cases hs
      · cases h
    · -- While
      rename_i cnd b o pos
      split at h
      · rename_i ho
        have ho : o = [] := by simpa using ho
        subst ho
        obtain ⟨x, h1, h⟩ := bindO h
        obtain ⟨p, h2, h⟩ := bindO h
        split at h
        · cases h
          exact gs_whl c.own (tr _ _ h1) (gdb_of ih h2)
        · cases h
      · cases h
    · -- If
      obtain ⟨x, h1, h⟩ := bindO h
      obtain ⟨p, h2, h⟩ := bindO h
      obtain ⟨q, h3, h⟩ := bindO h
      cases h
      exact gs_fz' _ (gs_ite (tr _ _ h1) (gdb_of ih h2) (gdb_of ih h3))
    · -- Raise
      rename_i e cz pos
      split at h
      · rename_i e
        unfold trRaise at h
        split at h
        · rename_i x p m j p2 pos2
          split at h
          · rename_i hh
            rw [Bool.and_eq_true] at hh
            obtain ⟨o1, o2, o3⟩ := okName_iff hh.1
            split at h
            · rename_i hl
              cases h
              exact gs_raise c.ck.calm c.ck.tk (c.exc x hl) (isGl_gl hh.2) o1
            · cases h
          · cases h
        · cases h
      · cases h
    · -- Expr
      rename_i e pos
      split at h
      · rename_i o m a l ha
        obtain ⟨p, apos, cpos, rfl, rfl⟩ := act_of ha
        split at h
        · unfold trAct at h
          split at h
          · rename_i hh
            simp only [Bool.and_eq_true, Bool.not_eq_true'] at hh
            obtain ⟨⟨⟨ok, hv⟩, hst⟩, hl⟩ := hh
            obtain ⟨o1, o2, o3⟩ := okName_iff ok
            obtain ⟨i, h1, h⟩ := bindO h
            obtain ⟨x, h2, h⟩ := bindO h
            split at h
            · rename_i hm
              cases h
              subst hm
              exact gs_fz' _ (gs_app (idx_get h1) (held_vis hv) o1 o2 (tr _ _ h2) hst hl)
            · split at h
              · rename_i hm
                cases h
                subst hm
                exact gs_fz' _ (gs_ext (idx_get h1) (held_vis hv) o1 o2 (tr _ _ h2) hst hl)
              · split at h
                · rename_i hm
                  obtain ⟨y, p2, j, ea, hh2, h3, es⟩ := upd_of h
                  obtain ⟨p1, p3, _⟩ := okName_iff hh2.1
                  clear h ha h2 hst
                  subst hm ea es
                  exact gs_upd (idx_get h1) (held_vis hv) o1 o2 (idx_get h3) (held_vis hh2.2) p1 p3 hl
                · cases h
          · cases h
        · obtain ⟨x, h1, h⟩ := bindO h
          cases h
          exact gs_fz' _ (gs_exp (tr _ _ h1) rfl)
      · split at h
        · cases h
        · rename_i hc
          obtain ⟨x, h1, h⟩ := bindO h
          cases h
          exact gs_fz' _ (gs_exp (tr _ _ h1) (by simpa using hc))
end
end Mp

end Sec_MpZg
section Sec_MpZh
set_option autoImplicit false
set_option linter.all false
set_option maxHeartbeats 4000000
set_option maxRecDepth 100000
namespace Mp
open PySem PySem.Spec PyProof.Rows L2

/-- what is asked of an exception class -/
def ExcF (K : PySem.W.Frag) (mg : Str → Option Value) (x : Str) : Prop := ∃ (C : Addr) (bmB : List Value) (B newId initId : String), ExcBaseFacts B newId initId bmB ∧ PySem.W.excIn K C bmB newId = true ∧ mg x = some (.ref C) ∧ PySem.W.keepIn K (.ref C) = true ∧
  PySem.W.subIn K (.ref C) (.type "BaseException") = some true ∧ PySem.W.typeIn K (.ref C) = some (.type "type")
/-- a def of the module and its translation -/
structure FnF (K : PySem.W.Frag) (mg : Str → Option Value) (T : Tab) (F : Str → Option Fn) (x : Str) (st : Stmt) (fa : Addr) (fd : FuncData) (ps : List Str) (fn : Fn) : Prop where
  mg : mg x = some (.ref fa)
  keep : PySem.W.keepIn K (.ref fa) = true
  df : Fun K x x st fa fd
  tab : F x = some fn
  tr : trFn T st = some fn
  sc : FnScope fn.names ps (defScope st)
  np : ps.length = fn.np
  bd : Binds K fd ps []
structure ModF (K : PySem.W.Frag) (mg : Str → Option Value) (T : Tab) (F : Str → Option Fn) : Prop where
  con : ∀ x d, T.gv.lookup x = some (.con d) → ∃ v u, mg x = some u ∧ RelV v u ∧ ∀ H, Rep mg H d v
  fn : ∀ x, T.gv.lookup x = some .fn → ∃ st fa fd ps fn, FnF K mg T F x st fa fd ps fn
  blt : ∀ x ∈ bltNames, T.gv.lookup x = none → mg x = none
  exc : ∀ x, T.gv.lookup x = some .cls → ExcF K mg x
def owOf (F : Str → Option Fn) : Str → Bool := fun x => ((F x).map (·.own)).getD false
section
variable {P : Program} {w : World} {K : PySem.W.Frag} {mg : Str → Option Value} {base : Heap} {T : Tab} {F : Str → Option Fn}
theorem initEnv_get {n : Nat} {ds : List D} {i : Nat} {d : D} {o : Bool} (h : getv (initEnv n ds) i = some (d, o)) : ds[i]? = some d ∧ o = false := by
  have h1 := getv_some h
  unfold initEnv at h1
  by_cases hi : i < ds.length
  · rw [List.getElem?_append_left (by simpa using hi), List.getElem?_map, List.getElem?_eq_getElem hi] at h1
    simp at h1
    rw [List.getElem?_eq_getElem hi, h1.1]
    exact ⟨rfl, h1.2⟩
  · rw [List.getElem?_append_right (by simpa using hi), List.getElem?_replicate] at h1
    split at h1 <;> cases h1
theorem start_get {N : List Str} {vs : List V} {i : Nat} {v : V} (h : vs[i]? = some v) : (L2.start N vs)[i]? = some (some v) := by
  have hi := (List.getElem?_eq_some_iff.mp h).1
  unfold L2.start
  rw [List.getElem?_append_left (by simpa using hi), List.getElem?_map, h]
  rfl
theorem own_of_tr {st : Stmt} {fn : Fn} (h : trFn T st = some fn) : ∃ name a body sc b n, st = .FunctionDef name a body [] none [] sc none b n ∨ ∃ r, st = .FunctionDef name a body [] r [] sc none b n := by
  unfold trFn at h
  split at h
  · exact ⟨_, _, _, _, _, _, .inr ⟨_, rfl⟩⟩
  · cases h
/-- THE RULE: each def keeps what its translation says -/
theorem level (M : ModF K mg T F) : ∀ (k : Nat) (x : Str) (st : Stmt) (fa : Addr) (fd : FuncData) (ps : List Str) (fn : Fn), FnF K mg T F x st fa fd ps fn → FnOk P w K mg base (L2.CX P w) k fa fd ps (spF mg (callF F k) (owOf F) x)
  | 0, x, st, fa, fd, ps, fn, f => ⟨fun vs H Q E ⟨ds, _, h⟩ => h.elim, fun _ _ _ _ _ _ _ _ _ _ _ _ _ ⟨ds, _, h⟩ => h.elim⟩
  | k + 1, x, st, fa, fd, ps, fn, f => by
    refine Fun.okX f.df f.sc (fun vs H Q E ⟨ds, hr, h⟩ => ?_) fun cdv A outer s H vs Q E hr ⟨ds, reps, h⟩ => ?_
    · have h : Rw (match F x with | none => .no | some fn => if ds.length = fn.np then (match blk (ex (owOf F) (callF F k) fuel) fn.body (initEnv fn.names.length ds) with | .rt d => .ok d | .nx _ => .ok .non | .ex x _ => .ex x | .no => .no) else .no) _ _ := h
      rw [f.tab] at h
      simp only at h
      split at h
      · rename_i hl
        rw [← hr.length, hl, f.np]
      · exact h.elim
    · have h : Rw (match F x with | none => .no | some fn => if ds.length = fn.np then (match blk (ex (owOf F) (callF F k) fuel) fn.body (initEnv fn.names.length ds) with | .rt d => .ok d | .nx _ => .ok .non | .ex x _ => .ex x | .no => .no) else .no)
        (fun d => ∀ v H', Same H H' → (if owOf F x = true then Own mg H' H d v else Rep mg H' d v) → Q v H') (fun c => ∀ C H', mg c = some (.ref C) → Same H H' → E (.ref C) none H') := h
      rw [f.tab] at h
      simp only at h
      split at h
      · rename_i hl
        -- the body's context
        generalize hX : cxOf (L2.CX P w) P w K mg base fn.names x (defScope st) fa cdv A outer s H E = X
        have eK : X.K = K := by rw [← hX]; rfl
        have eN : X.N = fn.names := by rw [← hX]; rfl
        have eM : X.mg = mg := by rw [← hX]; rfl
        have eH : X.H_0 = H := by rw [← hX]; rfl
        have eS : X.env.scope = defScope st := by rw [← hX]; rfl
        have rm : Room k X.A := by rw [← hX]; exact hr
        have tk : L2.Takes X (fun cls d _ H' => E cls d H') := by
          subst hX
          exact takes_of rfl rfl rfl rfl
        have po : PassesOwn (model X.prog X.w) X.A X.env X.xe := by
          subst hX
          exact passes_of rfl
        have cb : Cb X (fun cls d _ H' => E cls d H') (callF F k) (owOf F) T := by
          refine ⟨⟨by rw [← hX]; rfl, rm.units, by rw [eN]; exact f.sc.nd, tk, fun y d hy => ?_, fun y hy => ?_, fun y hy hn => ?_⟩, fun y => by rw [← hX]; rfl, po, fun y hy => ?_⟩
          · rw [eM]; exact M.con y d hy
          · obtain ⟨st', fa', fd', ps', fn', f'⟩ := M.fn y hy
            have := level M k y st' fa' fd' ps' fn' f'
            refine ⟨k, fa', fd', ps', by rw [eM]; exact f'.mg, by rw [eK]; exact f'.keep, ?_, by rw [eK]; exact f'.bd, rm⟩
            rw [eM, eK]
            subst hX
            exact this
          · rw [eM]; exact M.blt y hy hn
          · obtain ⟨C, bmB, B, newId, initId, h1, h2, h3, h4, h5, h6⟩ := M.exc y hy
            exact ⟨C, bmB, B, newId, initId, h1, by rw [eK]; exact h2, by rw [eM]; exact h3, by rw [eK]; exact h4, raises_own (by rw [eK]; exact h5) (by rw [eK]; exact h6)⟩
        have hown : owOf F x = fn.own := by
          unfold owOf
          rw [f.tab]
          rfl
        have gb : GdB X (fun cls d _ H' => E cls d H') (callF F k) (owOf F) fn.own (defBody st) fn.body := by
          have tr := f.tr
          unfold trFn at tr
          split at tr
          · split at tr
            · obtain ⟨b, hb, e⟩ := bindO tr
              cases e
              refine gdb_of (f := fun st => trS T X.N _ X.env.scope 100 st) (fun st s hs => trS_ok cb 100 st s hs) ?_
              rw [eN, eS]
              exact hb
            · cases tr
          · cases tr
        have reps' : Reps X.mg H ds vs := by rw [eM]; exact reps
        refine ⟨_, pss_gd gb fuel, initEnv fn.names.length ds, ⟨?_, by rw [eH]; exact Same.refl H, fun i d hd => ?_, fun i d hd => ?_, fun i j d e a _ hi => ?_⟩, ?_⟩
        · rw [eN]
          unfold L2.start
          rw [List.length_append, List.length_map, List.length_replicate]
          have := congrArg List.length f.sc.pre
          rw [List.length_take] at this
          have h2 := reps.length
          have h3 := f.np
          omega
        · obtain ⟨h1, _⟩ := initEnv_get hd
          obtain ⟨v, h2, h3⟩ := reps'.get h1
          exact ⟨v, start_get h2, h3⟩
        · obtain ⟨_, h2⟩ := initEnv_get hd
          cases h2
        · obtain ⟨_, h2⟩ := initEnv_get hi
          cases h2
        · cases hb : blk (ex (owOf F) (callF F k) fuel) fn.body (initEnv fn.names.length ds) with
          | rt d =>
            rw [hb] at h
            have h : ∀ v H', Same H H' → (if owOf F x = true then Own mg H' H d v else Rep mg H' d v) → Q v H' := h
            intro v H' s' r
            rw [hown] at h
            rw [eM, eH] at r
            exact h v H' (by rw [eH] at s'; exact s') r
          | nx ρ' =>
            rw [hb] at h
            have h : ∀ v H', Same H H' → (if owOf F x = true then Own mg H' H .non v else Rep mg H' .non v) → Q v H' := h
            intro σ' H' sr _
            refine h .non H' (by have := sr.same; rw [eH] at this; exact this) ?_
            split <;> simp only [Own, Rep]
          | ex c ρ' =>
            rw [hb] at h
            have h : ∀ C H', mg c = some (.ref C) → Same H H' → E (.ref C) none H' := h
            intro σ' H' sr _ C hC
            rw [eM] at hC
            exact h C H' hC (by have := sr.same; rw [eH] at this; exact this)
          | no => rw [hb] at h; exact h.elim
      · exact h.elim
end
end Mp

end Sec_MpZh
section Sec_MpZi
set_option autoImplicit false
set_option linter.all false
set_option maxHeartbeats 4000000
set_option maxRecDepth 100000
namespace Mp
open PySem PySem.Spec PyProof.Rows L2

/-! ### what the module's top has written -/
def FnFact (K : PySem.W.Frag) (x : Str) (st : Stmt) : Prop := ∃ (f : Addr) (oc : Value) (od : Option Addr) (kV doc pm : Value) (an : Option Addr) (cdv ct : Value) (osl : Array (Option Value)),
  PySem.W.nsIn K mainGlobals x = some (some (.ref f)) ∧ K.lookup f = some ⟨oc, od, .func (PySem.W.fnOf x x (defArgs st) (defBody st) (defScope st) .none kV doc pm an cdv ct), osl⟩ ∧ PySem.W.codeIn K cdv x = true ∧ PySem.W.keepIn K (.ref f) = true
def ExcFact (K : PySem.W.Frag) (x : Str) : Prop := ∃ (C : Addr) (bmB : List Value) (B newId initId : String), ExcBaseFacts B newId initId bmB ∧ PySem.W.nsIn K mainGlobals x = some (some (.ref C)) ∧ PySem.W.excIn K C bmB newId = true ∧ PySem.W.keepIn K (.ref C) = true ∧
  PySem.W.subIn K (.ref C) (.type "BaseException") = some true ∧ PySem.W.typeIn K (.ref C) = some (.type "type")
def ConFact (K : PySem.W.Frag) (x : Str) : D → Prop
  | .int i => ∃ t, PySem.W.nsIn K mainGlobals x = some (some (.int i t))
  | .str s => s.length ≤ line ∧ ∃ t, PySem.W.nsIn K mainGlobals x = some (some (.str ⟨s.toArray⟩ t))
  | _ => False
/-- .. of a name that the head told apart -/
def LooFact (mg : Str → Option Value) (x : Str) : D → Prop
  | .str s => s.length ≤ line ∧ ∃ t, mg x = some (.str ⟨s.toArray⟩ t)
  | .int i => ∃ t, mg x = some (.int i t)
  | _ => False
def AllF {α : Type} (P : α → Prop) : List α → Prop
  | [] => True
  | a :: r => P a ∧ AllF P r
theorem AllF.mem {α : Type} {P : α → Prop} : ∀ {l : List α}, AllF P l → ∀ a ∈ l, P a
  | [], _, a, h => by cases h
  | b :: r, h, a, ha => by
    rcases List.mem_cons.mp ha with rfl | ha
    · exact h.1
    · exact AllF.mem h.2 a ha
theorem fnFact_mk {K : PySem.W.Frag} {x : Str} {st : Stmt} {f : Addr} {oc kV doc pm cdv ct : Value} {od an : Option Addr} {osl : Array (Option Value)} (h1 : PySem.W.nsIn K mainGlobals x = some (some (.ref f)))
    (h2 : K.lookup f = some ⟨oc, od, .func (PySem.W.fnOf x x (defArgs st) (defBody st) (defScope st) .none kV doc pm an cdv ct), osl⟩) (h3 : PySem.W.codeIn K cdv x = true) (h4 : PySem.W.keepIn K (.ref f) = true) : FnFact K x st :=
  ⟨f, oc, od, kV, doc, pm, an, cdv, ct, osl, h1, h2, h3, h4⟩
theorem excFact_mk {K : PySem.W.Frag} {x : Str} {C : Addr} (h1 : PySem.W.nsIn K mainGlobals x = some (some (.ref C))) (h2 : PySem.W.excIn K C [.type "ValueError", .type "Exception", .type "BaseException", .type "object"] "ValueError.__new__" = true) (h3 : PySem.W.keepIn K (.ref C) = true)
    (h4 : PySem.W.subIn K (.ref C) (.type "BaseException") = some true) (h5 : PySem.W.typeIn K (.ref C) = some (.type "type")) : ExcFact K x := ⟨C, _, _, _, _, PySem.F.excBase_ValueError, h1, h2, h3, h4, h5⟩
theorem conS_mk {K : PySem.W.Frag} {x : Str} {s : List Nat} {t : Nat} (h : s.length ≤ line) (h1 : PySem.W.nsIn K mainGlobals x = some (some (.str ⟨s.toArray⟩ t))) : ConFact K x (.str s) := ⟨h, _, h1⟩
theorem conI_mk {K : PySem.W.Frag} {x : Str} {i : Int} {t : Nat} (h1 : PySem.W.nsIn K mainGlobals x = some (some (.int i t))) : ConFact K x (.int i) := ⟨_, h1⟩
/-- the tables, from lists: defs, constants, loose constants, classes -/
structure Lists where
  fns : List (Str × Stmt)
  cons : List (Str × D)
  loose : List (Str × D)
  cls : List Str
  own : List Str
def Lists.gv (l : Lists) : List (Str × GV) := l.fns.map (fun p => (p.1, .fn)) ++ l.cons.map (fun p => (p.1, .con p.2)) ++ l.loose.map (fun p => (p.1, .con p.2)) ++ l.cls.map (fun x => (x, .cls))
def Lists.tab (l : Lists) : Tab := { gv := l.gv, own := l.own }
def Lists.F (l : Lists) : Str → Option Fn := fun x => (l.fns.lookup x).bind fun st => trFn l.tab st
/-- a def that is good -/
def goodFn (st : Stmt) (fn : Fn) : Bool :=
  (match (defScope st).kind with | .function => true | _ => false) && !(defScope st).isCoroutine && !(defScope st).isGenerator && decide fn.names.Nodup && decide (fn.names.take fn.np = paramsOf (defArgs st)) && decide ((paramsOf (defArgs st)).length = fn.np) &&
    (paramsOf (defArgs st)).all (fun x => (defScope st).names.lookup x == some .local || (defScope st).names.lookup x == some .cell) && (defScope st).names.all fun y => y.2 != .free
def Lists.good (l : Lists) : Bool := l.fns.all fun p => match trFn l.tab p.2 with
  | some fn => goodFn p.2 fn
  | none => false
def Lists.once (l : Lists) : Bool := decide (l.gv.map (·.1)).Nodup
theorem lookup_zip {ns : List Str} : ∀ {us : List Value}, ns.Nodup → us.length = ns.length → (∀ n ∈ ns, ((ns.zip us).lookup n).isSome = true) ∧ ns.filterMap (fun n => ((ns.zip us).lookup n).map fun v => (n, v)) = ns.zip us := by
  induction ns with
  | nil => intro us _ h; exact ⟨fun n hn => by (cases hn), rfl⟩
  | cons a ns ih =>
    intro us hn hl
    cases us with
    | nil => simp at hl
    | cons u us =>
      obtain ⟨h1, h2⟩ := List.nodup_cons.mp hn
      obtain ⟨i1, i2⟩ := ih h2 (by simpa using hl)
      have ne : ∀ n ∈ ns, (n == a) = false := fun n hm => by
        simp only [beq_eq_false_iff_ne, ne_eq]
        rintro rfl
        exact h1 hm
      refine ⟨fun n hm => ?_, ?_⟩
      · rw [List.zip_cons_cons, List.lookup_cons]
        rcases List.mem_cons.mp hm with rfl | hm
        · simp
        · rw [ne n hm]
          exact i1 n hm
      · rw [List.zip_cons_cons, List.filterMap_cons, List.lookup_cons]
        simp only [beq_self_eq_true, Option.map_some]
        congr 1
        have cg : ∀ {l : List Str} {f g : Str → Option (Str × Value)}, (∀ n ∈ l, f n = g n) → l.filterMap f = l.filterMap g := fun {l f g} h => by
          induction l with
          | nil => rfl
          | cons b r ih2 => rw [List.filterMap_cons, List.filterMap_cons, h b List.mem_cons_self, ih2 fun n hn => h n (List.mem_cons_of_mem _ hn)]
        refine (cg fun n hm => ?_).trans i2
        rw [List.lookup_cons, ne n hm]
theorem args_plain {x qual : Str} {st : Stmt} {kV doc pm cdv ct : Value} {an : Option Addr} {us : List Value} (h1 : (defArgs st).posonlyargs = []) (h2 : (defArgs st).vararg = none) (h3 : (defArgs st).kwonlyargs = []) (h4 : (defArgs st).kwarg = none)
    (hn : (paramsOf (defArgs st)).Nodup) (hl : us.length = (paramsOf (defArgs st)).length) : bindArgs (PySem.W.fnOf x qual (defArgs st) (defBody st) (defScope st) .none kV doc pm an cdv ct) ⟨us, []⟩ = pure ((paramsOf (defArgs st)).zip us) := by
  generalize defArgs st = a at h1 h2 h3 h4 hn hl
  obtain ⟨po, ar, va, ko, kd, kw, df⟩ := a
  simp only at h1 h2 h3 h4
  subst h1 h2 h3 h4
  have hn : (ar.map (·.arg)).Nodup := hn
  have hl : us.length = (ar.map (·.arg)).length := hl
  show _ = pure ((ar.map (·.arg)).zip us)
  obtain ⟨l1, l2⟩ := lookup_zip hn hl
  have e1 : (decide (us.length > (ar.map (·.arg)).length) && true) = false := by
    rw [hl]
    simp
  have e2 : ((ar.map (·.arg)).filter fun n => (((ar.map (·.arg)).zip us).lookup n).isNone) = [] := by
    rw [List.filter_eq_nil_iff]
    intro n hm
    have := l1 n hm
    cases q : ((ar.map (·.arg)).zip us).lookup n with
    | none => rw [q] at this; cases this
    | some v => simp
  have e3 : seqItems? .none = pure none := rfl
  have e4 : (some #[] : Option (Array Value)).getD #[] = #[] := rfl
  unfold bindArgs
  simp only [PySem.W.fnOf, List.map_nil, List.nil_append, List.append_nil, Option.isNone_none, e1, List.forIn_nil, pure_bind, Bool.false_eq_true, if_false, List.length_nil, e3, Option.getD_none, List.toList_toArray, List.drop_nil, Nat.sub_zero, List.take_length, e2, List.isEmpty_nil, Bool.not_true, List.drop_length, List.zip_nil_left, List.zip_nil_right, l2]
theorem binds_plain {K : PySem.W.Frag} {x qual : Str} {st : Stmt} {f : Addr} {fd : FuncData} (F : Fun K x qual st f fd) (h1 : (defArgs st).posonlyargs = []) (h2 : (defArgs st).vararg = none) (h3 : (defArgs st).kwonlyargs = []) (h4 : (defArgs st).kwarg = none)
    (hn : (paramsOf (defArgs st)).Nodup) : Binds K fd (paramsOf (defArgs st)) [] := F.binds fun kV doc pm an cdv ct us hl => args_plain h1 h2 h3 h4 hn hl
/-- one parameter -/
theorem binds_one {K : PySem.W.Frag} {x qual y : Str} {st : Stmt} {f : Addr} {fd : FuncData} (F : Fun K x qual st f fd) (h1 : (defArgs st).posonlyargs = []) (h2 : (defArgs st).vararg = none) (h3 : (defArgs st).kwonlyargs = []) (h4 : (defArgs st).kwarg = none)
    (hn : paramsOf (defArgs st) = [y]) (s : Shared) (u : Value) : BindsTo s fd ⟨[u], []⟩ [(y, u)] := by
  obtain ⟨oc, od, kV, doc, pm, an, cdv, ct, osl, rfl, lk, hcd⟩ := F.ex
  have := args_plain (x := x) (qual := qual) (st := st) (kV := kV) (doc := doc) (pm := pm) (an := an) (cdv := cdv) (ct := ct) (us := [u]) h1 h2 h3 h4 (by rw [hn]; simp) (by rw [hn]; rfl)
  rw [hn] at this
  exact .of_eq this

theorem lookup_mem {α : Type} {x : Str} {d : α} : ∀ {l : List (Str × α)}, l.lookup x = some d → (x, d) ∈ l
  | [], h => by cases h
  | (y, e) :: r, h => by
    rw [List.lookup_cons] at h
    split at h
    · rename_i he
      cases h
      have : x = y := by simpa using he
      subst this
      exact List.mem_cons_self
    · exact List.mem_cons_of_mem _ (lookup_mem h)
theorem lookup_of_mem {α : Type} {x : Str} {d : α} : ∀ {l : List (Str × α)}, (l.map (·.1)).Nodup → (x, d) ∈ l → l.lookup x = some d
  | [], _, h => by cases h
  | (y, e) :: r, hn, h => by
    rw [List.map_cons] at hn
    obtain ⟨h1, h2⟩ := List.nodup_cons.mp hn
    rw [List.lookup_cons]
    rcases List.mem_cons.mp h with q | hm
    · cases q
      simp
    · have : (x == y) = false := by
        simp only [beq_eq_false_iff_ne, ne_eq]
        rintro rfl
        exact h1 (List.mem_map.mpr ⟨(_, d), hm, rfl⟩)
      rw [this]
      exact lookup_of_mem h2 hm
theorem trFn_plain {T : Tab} {st : Stmt} {fn : Fn} (h : trFn T st = some fn) : (defArgs st).posonlyargs = [] ∧ (defArgs st).vararg = none ∧ (defArgs st).kwonlyargs = [] ∧ (defArgs st).kwarg = none := by
  unfold trFn at h
  split at h
  · split at h
    · rename_i q
      simp only [Bool.and_eq_true, List.isEmpty_iff, Option.isNone_iff_eq_none] at q
      exact ⟨q.1.1.1.1, q.1.1.1.2, q.1.1.2, q.1.2⟩
    · cases h
  · cases h
structure Facts (l : Lists) (K : PySem.W.Frag) : Prop where
  fns : AllF (fun p => FnFact K p.1 p.2) l.fns
  cons : AllF (fun p => ConFact K p.1 p.2) l.cons
  cls : AllF (ExcFact K) l.cls
  blt : AllF (fun x => PySem.W.nsIn K mainGlobals x = some none) (bltNames.filter fun x => (l.gv.lookup x).isNone)
/-- the facts make the module -/
theorem Facts.mod {l : Lists} {K : PySem.W.Frag} {h : Heap} {mg : Str → Option Value} (f : Facts l K) (good : l.good = true) (once : l.once = true) (X : K.In h) (G : h.Ns mainGlobals mg) (loo : AllF (fun p => LooFact mg p.1 p.2) l.loose) : ModF K mg l.tab l.F := by
  have nd : (l.gv.map (·.1)).Nodup := of_decide_eq_true once
  have mem : ∀ {x : Str} {v : GV}, l.gv.lookup x = some v → (∃ st, (x, st) ∈ l.fns ∧ v = .fn) ∨ (∃ d, (x, d) ∈ l.cons ∧ v = .con d) ∨ (∃ d, (x, d) ∈ l.loose ∧ v = .con d) ∨ (x ∈ l.cls ∧ v = .cls) := fun {x v} e => by
    have := lookup_mem e
    unfold Lists.gv at this
    simp only [List.mem_append, List.mem_map, Prod.mk.injEq] at this
    rcases this with ((⟨⟨y, st⟩, h1, rfl, rfl⟩ | ⟨⟨y, d⟩, h1, rfl, rfl⟩) | ⟨⟨y, d⟩, h1, rfl, rfl⟩) | ⟨y, h1, rfl, rfl⟩
    · exact .inl ⟨st, h1, rfl⟩
    · exact .inr (.inl ⟨d, h1, rfl⟩)
    · exact .inr (.inr (.inl ⟨d, h1, rfl⟩))
    · exact .inr (.inr (.inr ⟨h1, rfl⟩))
  have ndf : (l.fns.map (·.1)).Nodup := by
    have h1 := nd
    unfold Lists.gv at h1
    simp only [List.map_append, List.map_map] at h1
    have h2 := (List.nodup_append.mp (List.nodup_append.mp (List.nodup_append.mp h1).1).1).1
    exact h2
  refine ⟨fun x d e => ?_, fun x e => ?_, fun x hx e => ?_, fun x e => ?_⟩
  · rcases mem e with ⟨st, _, q⟩ | ⟨d', hm, q⟩ | ⟨d', hm, q⟩ | ⟨_, q⟩ <;> cases q
    · have := f.cons.mem _ hm
      cases d with
      | int i =>
        obtain ⟨t, ht⟩ := this
        exact ⟨.int i, _, PySem.W.mg_of X G ht, ⟨t, rfl⟩, fun H => by simp only [Rep]⟩
      | str s =>
        obtain ⟨hl, t, ht⟩ := this
        exact ⟨.str _, _, PySem.W.mg_of X G ht, ⟨t, rfl⟩, fun H => by simp only [Rep, true_and]; exact hl⟩
      | _ => exact False.elim this
    · have := loo.mem _ hm
      cases d with
      | int i =>
        obtain ⟨t, ht⟩ := this
        exact ⟨.int i, _, ht, ⟨t, rfl⟩, fun H => by simp only [Rep]⟩
      | str s =>
        obtain ⟨hl, t, ht⟩ := this
        exact ⟨.str _, _, ht, ⟨t, rfl⟩, fun H => by simp only [Rep, true_and]; exact hl⟩
      | _ => exact False.elim this
  · rcases mem e with ⟨st, hm, q⟩ | ⟨d', hm, q⟩ | ⟨d', hm, q⟩ | ⟨_, q⟩ <;> cases q
    have hF : l.F x = trFn l.tab st := by
      unfold Lists.F
      rw [lookup_of_mem ndf hm]
      rfl
    have hg := List.all_eq_true.mp good _ hm
    simp only at hg
    cases ht : trFn l.tab st with
    | none => rw [ht] at hg; cases hg
    | some fn =>
      rw [ht] at hg
      simp only [goodFn, Bool.and_eq_true, decide_eq_true_eq, Bool.not_eq_true', List.all_eq_true] at hg
      obtain ⟨⟨⟨⟨⟨⟨⟨g1, g2⟩, g3⟩, g4⟩, g5⟩, g6⟩, g7⟩, g8⟩ := hg
      obtain ⟨fa, oc, od, kV, doc, pm, an, cdv, ct, osl, h1, h2, h3, h4⟩ := f.fns.mem _ hm
      have df := fun_mk h2 h3 h4
      obtain ⟨p1, p2, p3, p4⟩ := trFn_plain ht
      refine ⟨st, fa, _, paramsOf (defArgs st), fn, PySem.W.mg_of X G h1, h4, df, by rw [hF, ht], ht, ⟨?_, g2, g3, g4, by rw [g6]; exact g5, fun y hy => ?_, fun y hy => ?_⟩, g6, binds_plain df p1 p2 p3 p4 ?_⟩
      · cases q : (defScope st).kind <;> rw [q] at g1 <;> first | rfl | cases g1
      · have := g7 y hy
        simpa using this
      · have := g8 y hy
        simpa using this
      · rw [← g5]
        exact g4.sublist (List.take_sublist _ _)
  · refine PySem.W.mg_none_of X G (f.blt.mem x (List.mem_filter.mpr ⟨hx, ?_⟩))
    have e : l.gv.lookup x = none := e
    rw [e]
    rfl
  · rcases mem e with ⟨st, _, q⟩ | ⟨d', hm, q⟩ | ⟨d', hm, q⟩ | ⟨hm, q⟩ <;> cases q
    obtain ⟨C, bmB, B, n, i, h1, h2, h3, h4, h5, h6⟩ := f.cls.mem _ hm
    exact ⟨C, bmB, B, n, i, h1, h3, PySem.W.mg_of X G h2, h4, h5, h6⟩
end Mp

end Sec_MpZi
section Sec_MpZj
set_option autoImplicit false
set_option linter.all false
set_option maxHeartbeats 4000000
set_option maxRecDepth 100000
namespace Mp
open PySem PySem.Spec PyProof.Rows L2

/-- what the head told apart, of a list of such names -/
def LooW (lv : List (Str × PySem.W.WData)) (x : Str) : D → Prop
  | .str s => s.length ≤ line ∧ (x, PySem.W.WData.str ⟨s.toArray⟩) ∈ lv
  | .int i => (x, PySem.W.WData.int i) ∈ lv
  | _ => False
theorem loo_of {lv : List (Str × PySem.W.WData)} {mg : Str → Option Value} {h : Heap} (X : PySem.W.LooseAre lv mg h) : ∀ {l : List (Str × D)}, AllF (fun p => LooW lv p.1 p.2) l → AllF (fun p => LooFact mg p.1 p.2) l
  | [], _ => trivial
  | (x, d) :: r, ⟨a, b⟩ => by
    refine ⟨?_, loo_of X b⟩
    cases d with
    | str s =>
      obtain ⟨hl, hm⟩ := a
      obtain ⟨v, h1, h2⟩ := X.val _ hm
      cases h2
      exact ⟨hl, _, h1⟩
    | int i =>
      obtain ⟨v, h1, h2⟩ := X.val _ a
      cases h2
      exact ⟨_, h1⟩
    | _ => exact False.elim a
/-- none of the module's objects that are told is a list -/
def noList (K : PySem.W.Frag) : Bool := K.all fun p => match p.2.cls with | .type n => n != "list" | _ => true
theorem noList_of {K : PySem.W.Frag} (h : noList K = true) {a : Addr} {o : Obj} (e : K.lookup a = some o) : o.cls ≠ .type "list" := fun q => by
  have : ∀ {K : PySem.W.Frag}, K.lookup a = some o → (a, o) ∈ K := fun {K} e => by
    induction K with
    | nil => cases e
    | cons p r ih =>
      obtain ⟨b, u⟩ := p
      rw [List.lookup_cons] at e
      split at e
      · rename_i hb
        cases e
        have : a = b := by simpa using hb
        subst this
        exact List.mem_cons_self
      · exact List.mem_cons_of_mem _ (ih e)
  have := List.all_eq_true.mp h _ (this e)
  simp only [q] at this
  simp at this
theorem reps_ints {mg : Str → Option Value} {H : Hp} : ∀ ns : List Int, Reps mg H (ns.map D.int) (ns.map V.int)
  | [] => by simp only [List.map_nil, Reps]
  | n :: r => by
    rw [List.map_cons, List.map_cons]
    exact Reps.cons (by simp only [Rep]) (reps_ints r)
/-- THE END: the walk over a law's def, from what the translation says -/
theorem walk_mp {l : PySem.W.OpenLaw} {n k : Nat} {q : Program} {loose : List Str} {lv : List (Str × PySem.W.WData)} {YP : World → Heap → Prop} {d : DefRec} {K : Params → PySem.W.Frag} {L : Lists} {x y : Str} {st : Stmt} {pr : Program}
    (hn : l.most = some n) (hn2 : n ≤ sizeLine) (hdf : d.params.defaults = []) (hr : Room k callerA)
    (hY : ∀ (w : World) (h : Heap), YP w h → (K w.params).In h) (hx : d.name = x)
    (facts : ∀ P, Facts L (K P)) (good : L.good = true) (once : L.once = true) (loo : AllF (fun p => LooW lv p.1 p.2) L.loose) (nol : ∀ P, noList (K P) = true)
    (hL : L.fns.lookup x = some st) (hy : paramsOf (defArgs st) = [y])
    (main : ∀ ns : List Int, ns.length ≤ n → (∀ z ∈ ns, Builtin.Int.intBits z ≤ 1048576) → callF L.F k x [.lst (ns.map .int)] = .ok (.bl true)) :
    PySem.W.WalkO q loose (PySem.W.XL pr lv) YP l.row.toRowW d [] (fun f vs => PySem.call f vs) := by
  refine Att.attach_callB hn hdf fun w s₀ s₁ mg mb fa o pm cd doc a vs ns G Y ho hd hcd hmg hobj hints hlen hbits hg => ?_
  subst hx
  have KX := hY w _ Y
  have lf := loo_of G.X.2 loo
  have hgv : L.gv.lookup d.name = some .fn := lookup_of_mem (of_decide_eq_true once) (by
    unfold Lists.gv
    simp only [List.mem_append, List.mem_map]
    exact .inl (.inl (.inl ⟨_, lookup_mem hL, rfl⟩)))
  have M0 := (facts w.params).mod good once KX G.T.g lf
  obtain ⟨st', fa', fd, ps, fn, f⟩ := M0.fn d.name hgv
  have hst : trFn L.tab st = some fn := by
    have := f.tab
    unfold Lists.F at this
    rw [hL] at this
    exact this
  have hgd := List.all_eq_true.mp good _ (lookup_mem hL)
  obtain ⟨p1, p2, p3, p4⟩ := trFn_plain hst
  obtain ⟨fa'', oc, od, kV, doc', pm', an, cdv, ct, osl, h1, h2, h3, h4⟩ := (facts w.params).fns.mem _ (lookup_mem hL)
  have h1' := PySem.W.mg_of KX G.T.g h1
  have df := fun_mk h2 h3 h4
  have efa : fa'' = fa := by
    simp only at h1'
    rw [h1'] at hmg
    injection hmg with hmg
    injection hmg
  subst efa
  have FF : ∀ base : Heap, (K w.params).In base → base.Ns mainGlobals mg → FnOk l.prog w (K w.params) mg base (L2.CX l.prog w) k fa'' _ [y] (spF mg (callF L.F k) (owOf L.F) d.name) := fun base _ _ => by
    refine level M0 k d.name st fa'' _ [y] fn ⟨hmg, h4, df, f.tab, hst, ?_, ?_, ?_⟩
    · have := f.sc
      simp only [hst, goodFn, Bool.and_eq_true, decide_eq_true_eq, Bool.not_eq_true', List.all_eq_true] at hgd
      obtain ⟨⟨⟨⟨⟨⟨⟨g1, g2⟩, g3⟩, g4⟩, g5⟩, g6⟩, g7⟩, g8⟩ := hgd
      rw [hy] at g5 g6 g7
      refine ⟨?_, g2, g3, g4, by rw [g6]; exact g5, fun y hy => ?_, fun y hy => ?_⟩
      · cases q : (defScope st).kind <;> rw [q] at g1 <;> first | rfl | cases g1
      · have := g7 y hy
        simpa using this
      · have := g8 y hy
        simpa using this
    · simp only [hst, goodFn, Bool.and_eq_true, decide_eq_true_eq, Bool.not_eq_true', List.all_eq_true] at hgd
      rw [hy] at hgd
      exact hgd.1.1.2
    · rw [← hy]
      exact binds_plain df p1 p2 p3 p4 (by rw [hy]; simp)
  refine law_call KX G.T.g G.T.b G.T.builtins G.T.nolimit hg hobj hints (Nat.le_trans hlen hn2) hr FF (fun s u => binds_one df p1 p2 p3 p4 hy s u) (fun H hO hS => ?_) fun H e s' hc => ?_
  · have hrep : Rep mg H (.lst (ns.map .int)) (.ref fa'') ∨ True := .inr trivial
    have hrep : Rep mg H (.lst (ns.map .int)) (.ref a) := by
      rcases hS with hS | ⟨o, its, m, hk, hc, _⟩
      · rcases hS with hS | ⟨o, hS⟩
        · rcases hO a with z | ⟨o, xs, z⟩
          · rw [hS] at z; cases z
          · rw [hS] at z; cases z
        · simp only [Rep]
          exact ⟨a, o, _, rfl, hS, reps_ints ns⟩
      · exact absurd hc (noList_of (nol _) hk)
    refine ⟨[.lst (ns.map .int)], Reps.one hrep, ?_⟩
    rw [main ns hlen hbits]
    intro v H' _ hv
    split at hv
    · simpa only [Own, Rep] using hv
    · simpa only [Rep] using hv
  · obtain ⟨_, _, _, _, _, _, _, _, _, _, _, _, hf⟩ := hc
    exact hf
end Mp

end Sec_MpZj
section Sec_MpSa
set_option autoImplicit false
set_option linter.all false
set_option maxHeartbeats 4000000
set_option maxRecDepth 100000
/-! How the interpreter runs: rows for simp. -/
namespace Mp
open PySem

def fin : Out → R D
  | .rt d => .ok d
  | .nx _ => .ok .non
  | .ex x _ => .ex x
  | .no => .no
def owF (F : Str → Option Fn) : Str → Bool := fun x => ((F x).map (·.own)).getD false
/-- no def hands out a container of its caller's own -/
def noOw : Str → Bool := fun _ => false
def N0 : Nat := 99900
/-- the table has this def, names apart -/
def Has (F : Str → Option Fn) (x : Str) (f : Fn) : Prop := ∃ fn, F x = some fn ∧ fn.body = f.body ∧ fn.np = f.np ∧ fn.names.length = f.names.length
theorem has_of {F : Str → Option Fn} {x : Str} {f : Fn} (h : F x = some f) : Has F x f := ⟨f, h, rfl, rfl, rfl⟩
theorem callF_run {F : Str → Option Fn} (ho : owF F = noOw) {k : Nat} {f : Str} {ds : List D} {fn : Fn} (h : Has F f fn) (hl : ds.length = fn.np) :
    callF F (k + 1) f ds = fin (blk (ex noOw (callF F k) (N0 + 100)) fn.body (initEnv fn.names.length ds)) := by
  obtain ⟨fm, h, e1, e2, e3⟩ := h
  have e : (fun x => ((F x).map (·.own)).getD false) = noOw := ho
  have ef : fuel = N0 + 100 := rfl
  rw [← ef, ← e1, ← e3]
  rw [← e2] at hl
  unfold callF
  rw [h]
  simp only [hl, if_true, e]
  rfl
section
variable {cf : Str → List D → R D} {n : Nat} {t : Bool} {ρ : Env} {ow : Str → Bool}
theorem rb_ok {α β : Type} (a : α) (f : α → R β) : R.bind (.ok a) f = f a := id rfl
theorem rb_ex {α β : Type} (x : Str) (f : α → R β) : R.bind (.ex x) f = .ex x := id rfl
theorem rb_no {α β : Type} (f : α → R β) : R.bind .no f = .no := id rfl
theorem ro_ok {α : Type} (a : α) (ρ : Env) (f : α → Out) : R.out (.ok a) ρ f = f a := id rfl
theorem ro_ex {α : Type} (x : Str) (ρ : Env) (f : α → Out) : R.out (.ex x) ρ f = .ex x ρ := id rfl
theorem ro_no {α : Type} (ρ : Env) (f : α → Out) : R.out .no ρ f = .no := id rfl
theorem ob_nx (ρ : Env) (f : Env → Out) : Out.bind (.nx ρ) f = f ρ := id rfl
theorem ob_rt (d : D) (f : Env → Out) : Out.bind (.rt d) f = .rt d := id rfl
theorem ob_ex (x : Str) (ρ : Env) (f : Env → Out) : Out.bind (.ex x ρ) f = .ex x ρ := id rfl
theorem ob_no (f : Env → Out) : Out.bind .no f = .no := id rfl
theorem fin_rt (d : D) : fin (.rt d) = .ok d := id rfl
theorem fin_nx (ρ : Env) : fin (.nx ρ) = .ok .non := id rfl
theorem fin_ex (x : Str) (ρ : Env) : fin (.ex x ρ) = .ex x := id rfl
theorem gv0 (a : Slot) (ρ : Env) : getv (a :: ρ) 0 = a := by cases a <;> rfl
theorem gvS (a : Slot) (ρ : Env) (i : Nat) : getv (a :: ρ) (i + 1) = getv ρ i := id rfl
/-- a slot's value: own, looked at -/
def rd (t : Bool) : Slot → R D
  | some (d, own) => if own && isCont d && !t then .no else .ok d
  | none => .no
theorem ev_var (i : Nat) : ev cf (n + 1) t (.var i) ρ = rd t (getv ρ i) := by
  unfold rd
  simp only [ev]
  all_goals
    cases getv ρ i with
    | none => rfl
    | some p => cases p; rfl
theorem rd_f (d : D) : rd t (some (d, false)) = .ok d := id rfl
theorem rd_t (d : D) (o : Bool) : rd true (some (d, o)) = .ok d := by
  unfold rd
  simp
theorem rd_n (d : D) (o : Bool) (h : isCont d = false) : rd t (some (d, o)) = .ok d := by
  unfold rd
  simp [h]
theorem ev_cst (d : D) : ev cf (n + 1) t (.cst d) ρ = .ok d := by simp only [ev]
theorem ev_bin (op : BOp) (a b : E) : ev cf (n + 1) t (.bin op a b) ρ = (ev cf n true a ρ).bind fun x => (ev cf n true b ρ).bind fun y => bin op x y := by simp only [ev]
theorem ev_neg (a : E) : ev cf (n + 1) t (.neg a) ρ = (ev cf n true a ρ).bind neg := by simp only [ev]
theorem ev_cmp (op : COp) (a b : E) : ev cf (n + 1) t (.cmp op a b) ρ = (ev cf n true a ρ).bind fun x => (ev cf n true b ρ).bind fun y => cmp op x y := by simp only [ev]
theorem ev_chain (op op' : COp) (a b c : E) : ev cf (n + 1) t (.chain op op' a b c) ρ = (ev cf n true a ρ).bind fun x => (ev cf n true b ρ).bind fun y => (cmp op x y).bind fun r => (asB r).bind fun k =>
        if k = true then (ev cf n true c ρ).bind fun z => cmp op' y z else .ok (.bl false) := by simp only [ev]
theorem ev_and (a b : E) : ev cf (n + 1) t (.and a b) ρ = (ev cf n true a ρ).bind fun x => (asB x).bind fun k => if k = true then (ev cf n true b ρ).bind fun y => (asB y).bind fun k => .ok (.bl k) else .ok (.bl false) := by simp only [ev]
theorem ev_or (a b : E) : ev cf (n + 1) t (.or a b) ρ = (ev cf n true a ρ).bind fun x => (asB x).bind fun k => if k = true then .ok (.bl true) else (ev cf n true b ρ).bind fun y => (asB y).bind fun k => .ok (.bl k) := by simp only [ev]
theorem ev_not (a : E) : ev cf (n + 1) t (.not a) ρ = (ev cf n true a ρ).bind fun x => (asB x).bind fun k => .ok (.bl (!k)) := by simp only [ev]
theorem ev_ite (c a b : E) : ev cf (n + 1) t (.ite c a b) ρ = (ev cf n true c ρ).bind fun x => (asB x).bind fun k => if k = true then ev cf n t a ρ else ev cf n t b ρ := by simp only [ev]
theorem ev_tup (es : List E) : ev cf (n + 1) t (.tup es) ρ = (evs (ev cf n false · ρ) es).bind fun ds => .ok (.tup ds) := by simp only [ev]
theorem ev_lst (es : List E) : ev cf (n + 1) t (.lst es) ρ = (evs (ev cf n false · ρ) es).bind fun ds => .ok (.lst ds) := by simp only [ev]
theorem ev_dct (kvs : List (E × E)) : ev cf (n + 1) t (.dct kvs) ρ = (evp (ev cf n false · ρ) kvs).bind fun ps => if (ps.all fun p => p.1.isK0) && decide (ps.length ≤ 15) then .ok (.dic (putAll [] ps)) else .no := by simp only [ev]
theorem ev_ix (a b : E) : ev cf (n + 1) t (.ix a b) ρ = (ev cf n true a ρ).bind fun x => (ev cf n true b ρ).bind fun y => ix x y := by simp only [ev]
theorem ev_slice (a : E) (lo hi : Option E) : ev cf (n + 1) t (.slice a lo hi) ρ = (ev cf n true a ρ).bind fun x => (evo (ev cf n true · ρ) lo).bind fun l => (evo (ev cf n true · ρ) hi).bind fun h => slice x l h := by simp only [ev]
theorem ev_call (f : Str) (es : List E) : ev cf (n + 1) t (.call f es) ρ = (evs (ev cf n false · ρ) es).bind fun ds => cf f ds := by simp only [ev]
theorem ev_bi (b : Bi) (es : List E) : ev cf (n + 1) t (.bi b es) ρ = (evs (ev cf n true · ρ) es).bind fun ds => bi b ds := by simp only [ev]
theorem ev_meth (m : Mth) (o : E) (es : List E) : ev cf (n + 1) t (.meth m o es) ρ = (ev cf n true o ρ).bind fun x => if recvOk m x then (evs (ev cf n false · ρ) es).bind fun ds => meth m x ds else .no := by simp only [ev]
/-- one turn of a comprehension -/
def turn (cf : Str → List D → R D) (n : Nat) (g : Tg) (cs : List E) (elt : E) (ρ : Env) (x : D) : R (Option D) := match bindT g x ρ with
  | some ρ' => (conds (ev cf n true · ρ') cs).bind fun b => if b = true then (ev cf n false elt ρ').bind fun d => .ok (some d) else .ok none
  | none => .no
def comL (o : Option (List D)) (step : D → R (Option D)) : R D := match o with
  | some xs => if xs.length ≤ line then (compL step xs).bind fun ds => .ok (.lst ds) else .no
  | none => .no
theorem ev_comp (own : List Nat) (g : Tg) (k : Nat) (its cs : List E) (elt : E) : ev cf (n + 1) t (.comp own g k its cs elt) ρ = (evs (ev cf n false · ρ) its).bind fun ds => comL (walkOf k ds) (turn cf n g cs elt (wipe ρ own)) := by
  simp only [ev]
  rfl
theorem turn_nm (i : Nat) (cs : List E) (elt : E) (x : D) : turn cf n (.nm i) cs elt ρ x = (conds (ev cf n true · (ρ.set i (some (x, false)))) cs).bind fun b => if b = true then (ev cf n false elt (ρ.set i (some (x, false)))).bind fun d => .ok (some d) else .ok none := id rfl
theorem turn_tp (i j : Nat) (cs : List E) (elt : E) (x y : D) : turn cf n (.tp [i, j]) cs elt ρ (.tup [x, y]) = (conds (ev cf n true · ((ρ.set i (some (x, false))).set j (some (y, false)))) cs).bind fun b => if b = true then (ev cf n false elt ((ρ.set i (some (x, false))).set j (some (y, false)))).bind fun d => .ok (some d) else .ok none := id rfl
theorem comL_eq {xs : List D} {step : D → R (Option D)} (f : D → Option D) (hl : xs.length ≤ line) (h : ∀ x ∈ xs, step x = .ok (f x)) : comL (some xs) step = .ok (.lst (xs.filterMap f)) := by
  have : compL step xs = .ok (xs.filterMap f) := by
    clear hl
    induction xs with
    | nil => rfl
    | cons a r ih =>
      have h1 := h a List.mem_cons_self
      have h2 := ih fun x hx => h x (List.mem_cons_of_mem _ hx)
      cases q : f a with
      | none =>
        rw [List.filterMap_cons_none q]
        simp only [compL, h1, q, h2]
      | some y =>
        rw [List.filterMap_cons_some q]
        simp only [compL, h1, q, h2]
  unfold comL
  simp only [if_pos hl, this, rb_ok]
theorem evs_nil (f : E → R D) : evs f [] = .ok [] := id rfl
theorem evs_cons (f : E → R D) (e : E) (es : List E) : evs f (e :: es) = (f e).bind fun d => (evs f es).bind fun ds => .ok (d :: ds) := id rfl
theorem evp_nil (f : E → R D) : evp f [] = .ok [] := id rfl
theorem evp_cons (f : E → R D) (k v : E) (es : List (E × E)) : evp f ((k, v) :: es) = (f k).bind fun d => (f v).bind fun c => (evp f es).bind fun ds => .ok ((d, c) :: ds) := id rfl
theorem evo_none (f : E → R D) : evo f none = .ok none := id rfl
theorem evo_some (f : E → R D) (e : E) : evo f (some e) = (f e).bind fun d => (asI d).bind fun i => .ok (some i) := id rfl
theorem conds_nil (f : E → R D) : conds f [] = .ok true := id rfl
theorem conds_cons (f : E → R D) (c : E) (cs : List E) : conds f (c :: cs) = (f c).bind fun d => (asB d).bind fun b => if b = true then conds f cs else .ok false := id rfl
theorem asBb (b : Bool) : asB (.bl b) = .ok b := id rfl
theorem asI_int (i : Int) : asI (.int i) = .ok i := id rfl
-- statements
theorem blk_nil (f : S → Env → Out) : blk f [] ρ = .nx ρ := id rfl
theorem blk_cons (f : S → Env → Out) (s : S) (ss : List S) : blk f (s :: ss) ρ = (f s ρ).bind fun ρ => blk f ss ρ := id rfl
theorem ex_fz (is : List Nat) (s : S) : ex ow cf (n + 1) (.fz is s) ρ = ex ow cf n s (freeze ρ is) := by simp only [ex]
theorem ex_set (i : Nat) (e : E) : ex ow cf (n + 1) (.set i e) ρ = (ev cf n false e ρ).out ρ fun d => .nx (setv ρ i d (fresh ow e)) := by simp only [ex]
def bdO (ρ : Env) (is : List Nat) (d : D) : Out := match unpack d with
  | some ds => (match bindNs is ds ρ with | some ρ' => .nx ρ' | none => .no)
  | none => .no
theorem ex_unp (is : List Nat) (e : E) : ex ow cf (n + 1) (.unp is e) ρ = (ev cf n true e ρ).out ρ fun d => bdO ρ is d := by
  simp only [ex]
  rfl
theorem bdO_nil : bdO ρ [] (.tup []) = .nx ρ := id rfl
theorem bdO_cons (i : Nat) (is : List Nat) (d : D) (ds : List D) : bdO ρ (i :: is) (.tup (d :: ds)) = bdO (setv ρ i d false) is (.tup ds) := id rfl
theorem ex_mul (is : List Nat) (es : List E) : ex ow cf (n + 1) (.mul is es) ρ = (evs (ev cf n false · ρ) es).out ρ fun ds => storeP is (ds.zip (es.map (fresh ow))) ρ := by simp only [ex]
theorem storeP_nil : storeP [] [] ρ = .nx ρ := id rfl
theorem storeP_cons (i : Nat) (ts : List Nat) (d : D) (o : Bool) (ds : List (D × Bool)) : storeP (i :: ts) ((d, o) :: ds) ρ = storeP ts ds (setv ρ i d o) := id rfl
theorem ex_put (i : Nat) (k e : E) : ex ow cf (n + 1) (.put i k e) ρ = if (getv ρ i).isSome then (ev cf n false e ρ).out ρ fun d => (ev cf n true k ρ).out ρ fun k => putD ρ i k d else .no := by simp only [ex]
def appO (ρ : Env) (i : Nat) (r : R D) : Out := match getv ρ i with
  | some (.lst xs, true) => r.out ρ fun d => if xs.length < line then .nx (setv ρ i (.lst (xs ++ [d])) true) else .no
  | _ => .no
theorem ex_app (i : Nat) (e : E) : ex ow cf (n + 1) (.app i e) ρ = appO ρ i (ev cf n false e ρ) := by
  simp only [ex]
  rfl
theorem appO_ok {i : Nat} {xs : List D} {d : D} (h : getv ρ i = some (.lst xs, true)) (hl : xs.length < line) : appO ρ i (.ok d) = .nx (setv ρ i (.lst (xs ++ [d])) true) := by
  unfold appO
  simp only [h, ro_ok, if_pos hl]
theorem ex_exp (e : E) : ex ow cf (n + 1) (.exp e) ρ = (ev cf n true e ρ).out ρ fun _ => .nx ρ := by simp only [ex]
theorem ex_ret (e : E) : ex ow cf (n + 1) (.ret e) ρ = (ev cf n false e ρ).out ρ fun d => .rt d := by simp only [ex]
theorem ex_raise (x : Str) : ex ow cf (n + 1) (.raise x) ρ = .ex x ρ := by simp only [ex]
theorem ex_ite (c : E) (a b : List S) : ex ow cf (n + 1) (.ite c a b) ρ = (ev cf n true c ρ).out ρ fun d => (asB d).out ρ fun k => if k = true then blk (ex ow cf n) a ρ else blk (ex ow cf n) b ρ := by simp only [ex]
theorem ex_whl (c : E) (b : List S) : ex ow cf (n + 1) (.whl c b) ρ = (ev cf n true c ρ).out ρ fun d => (asB d).out ρ fun k => if k = true then (blk (ex ow cf n) b ρ).bind fun ρ' => ex ow cf n (.whl c b) ρ' else .nx ρ := by simp only [ex]
def forO (o : Option (List D)) (g : Tg) (ρ : Env) (f : Env → Out) : Out := match o with
  | some xs => forL f g xs ρ
  | none => .no
theorem ex_for (g : Tg) (k : Nat) (its : List E) (b : List S) : ex ow cf (n + 1) (.for_ g k its b) ρ = (evs (ev cf n false · ρ) its).out ρ fun ds => forO (walkOf k ds) g ρ (blk (ex ow cf n) b) := by
  simp only [ex]
  rfl
theorem forO_some (xs : List D) (g : Tg) (f : Env → Out) : forO (some xs) g ρ f = forL f g xs ρ := id rfl
theorem forL_nil (f : Env → Out) (g : Tg) : forL f g [] ρ = .nx ρ := id rfl
theorem forL_nm (f : Env → Out) (i : Nat) (x : D) (xs : List D) : forL f (.nm i) (x :: xs) ρ = (f (setv ρ i x false)).bind fun ρ2 => forL f (.nm i) xs ρ2 := id rfl
theorem forL_tp (f : Env → Out) (i j : Nat) (x y : D) (xs : List D) : forL f (.tp [i, j]) (.tup [x, y] :: xs) ρ = (f (setv (setv ρ i x false) j y false)).bind fun ρ2 => forL f (.tp [i, j]) xs ρ2 := id rfl
-- the environment
theorem sv0 (a : Slot) (ρ : Env) (d : D) (o : Bool) : setv (a :: ρ) 0 d o = some (d, o) :: ρ := id rfl
theorem svS (a : Slot) (ρ : Env) (i : Nat) (d : D) (o : Bool) : setv (a :: ρ) (i + 1) d o = a :: setv ρ i d o := id rfl
theorem fz_nil : freeze ρ [] = ρ := id rfl
/-- freezing one slot -/
def fz1 : Slot → Slot
  | some (d, _) => some (d, false)
  | none => none
def fzAt : Env → Nat → Env
  | [], _ => []
  | a :: r, 0 => fz1 a :: r
  | a :: r, i + 1 => a :: fzAt r i
theorem fzAt_eq : ∀ (ρ : Env) (v : Nat), fzAt ρ v = (match getv ρ v with | some (d, true) => ρ.set v (some (d, false)) | _ => ρ)
  | [], v => by
    have : getv ([] : Env) v = none := by unfold getv; simp
    rw [this]
    rfl
  | a :: r, 0 => by
    rw [gv0]
    cases a with
    | none => rfl
    | some p =>
      obtain ⟨d, o⟩ := p
      cases o <;> rfl
  | a :: r, v + 1 => by
    rw [gvS]
    have := fzAt_eq r v
    show a :: fzAt r v = _
    rw [this]
    split <;> rfl
theorem fz_cons (v : Nat) (vs : List Nat) : freeze ρ (v :: vs) = fzAt (freeze ρ vs) v := by
  rw [fzAt_eq]
  rfl
theorem fzAt0 (a : Slot) (r : Env) : fzAt (a :: r) 0 = fz1 a :: r := id rfl
theorem fzAtS (a : Slot) (r : Env) (i : Nat) : fzAt (a :: r) (i + 1) = a :: fzAt r i := id rfl
theorem fz1_s (d : D) (o : Bool) : fz1 (some (d, o)) = some (d, false) := id rfl
theorem fz1_n : fz1 none = none := id rfl
theorem wipe_nil : wipe ρ [] = ρ := id rfl
theorem wipe_cons (v : Nat) (vs : List Nat) : wipe ρ (v :: vs) = (wipe ρ vs).set v none := id rfl
end
/-- the texts' signs as data -/
def chars (x : List Nat) : List D := x.map fun c => .str [c]
theorem wkS (x : List Nat) : walkOf 0 [.str x] = some (chars x) := id rfl
theorem wk_lst (x : List D) : walkOf 0 [.lst x] = some x := id rfl
theorem wkT (x : List D) : walkOf 0 [.tup x] = some x := id rfl
theorem wk_dic (x : List (D × D)) : walkOf 0 [.dic x] = some (x.map (·.1)) := id rfl
theorem wk_enumS (x : List Nat) : walkOf 1 [.str x] = some (enumD (chars x)) := id rfl
theorem wk_enumT (x : List D) : walkOf 1 [.tup x] = some (enumD x) := id rfl
theorem wk_enumL (x : List D) : walkOf 1 [.lst x] = some (enumD x) := id rfl
theorem wk_zipS (x y : List Nat) : walkOf 2 [.str x, .str y] = some (zipD (chars x) (chars y)) := id rfl
theorem small_of {j : Int} (h : -4611686018427387904 ≤ j ∧ j < 4611686018427387904) : small j = true := by
  have e : (2 : Int) ^ 62 = 4611686018427387904 := by decide
  unfold small
  rw [e]
  exact decide_eq_true h
theorem wk_rng {j : Int} (h : small j = true) : walkOf 3 [.int j] = some (rngUp 0 j.toNat) := by
  show walk3 [.int j] = _
  simp only [walk3, h, if_true]
theorem wk_rng2 {i j : Int} (h1 : small i = true) (h2 : small j = true) : walkOf 3 [.int i, .int j] = some (rngUp i (j - i).toNat) := by
  show walk3 [.int i, .int j] = _
  simp only [walk3, h1, h2, Bool.and_self, if_true]
theorem chars_len (x : List Nat) : (chars x).length = x.length := by simp [chars]
theorem mem_chars {x : List Nat} {d : D} (h : d ∈ chars x) : ∃ c ∈ x, d = .str [c] := by
  obtain ⟨c, h1, h2⟩ := List.mem_map.mp h
  exact ⟨c, h1, h2.symm⟩
end Mp

end Sec_MpSa
section Sec_MpZk
set_option autoImplicit false
set_option linter.all false
set_option maxHeartbeats 4000000
set_option maxRecDepth 100000
namespace Mp
open PySem
/-- a def by its body, names apart -/
theorem has_by {F : Str → Option Fn} {x : Str} {f : Fn} (h : (F x).map (fun g => (g.body, g.np, g.names.length)) = some (f.body, f.np, f.names.length)) : Has F x f := by
  cases e : F x with
  | none => rw [e] at h; cases h
  | some g =>
    rw [e] at h
    have h := Option.some.inj h
    exact ⟨g, e, congrArg (·.1) h, congrArg (·.2.1) h, congrArg (·.2.2) h⟩
theorem trFn_own {T : Tab} (h : T.own = []) {st : Stmt} {fn : Fn} (e : trFn T st = some fn) : fn.own = false := by
  unfold trFn at e
  split at e
  · split at e
    · simp only [Option.bind_eq_some_iff] at e
      obtain ⟨b, _, e⟩ := e
      cases e
      simp [h]
    · cases e
  · cases e
theorem Lists.noOw {l : Lists} (h : l.own = []) : owF l.F = Mp.noOw := by
  funext x
  show ((l.F x).map (·.own)).getD false = false
  cases e : l.F x with
  | none => rfl
  | some fn =>
    unfold Lists.F at e
    simp only [Option.bind_eq_some_iff] at e
    obtain ⟨st, _, e⟩ := e
    exact trFn_own h e
end Mp

end Sec_MpZk
section Sec_IR04
set_option autoImplicit false
set_option linter.all false
namespace Mp
open PySem
def f_is_int : Fn where
  name := "is_int"
  np := 3
  names := [("value" : Str), ("least" : Str), ("most" : Str)]
  own := false
  body := [
    (.ret (.and (.bi (.isi .int) [(.var 0)]) (.and (.not (.bi (.isi .bool) [(.var 0)])) (.chain .le .le (.var 1) (.var 0) (.var 2)))))]
def f_has_zones : Fn where
  name := "has_zones"
  np := 2
  names := [("zones" : Str), ("value" : Str), (".0" : Str), ("letter" : Str)]
  own := false
  body := [
    (.fz [1] (.ret (.and (.bi (.isi .str) [(.var 1)]) (.and (.cmp .in_ (.var 1) (.tup [(.cst (.str [97])), (.cst (.str [98])), (.cst (.str [97, 98]))])) (.bi .all [(.comp [2, 3] (.nm 3) 0 [(.var 1)] [] (.cmp .in_ (.var 3) (.var 0)))])))))]
def f_has_numbers : Fn where
  name := "has_numbers"
  np := 2
  names := [("kind" : Str), ("rest" : Str)]
  own := false
  body := [
    (.ite (.cmp .eq (.var 0) (.cst (.str [109, 111, 115, 116]))) [(.ret (.and (.cmp .eq (.bi .len [(.var 1)]) (.cst (.int (2)))) (.and (.call "is_int" [(.ix (.var 1) (.cst (.int (0)))), (.cst (.int (0))), (.cst (.int (6)))]) (.call "is_int" [(.ix (.var 1) (.cst (.int (1)))), (.cst (.int (1))), (.cst (.int (6)))]))))] []),
    (.ite (.cmp .eq (.var 0) (.cst (.str [115, 116, 97, 114, 116, 115]))) [(.ret (.and (.cmp .eq (.bi .len [(.var 1)]) (.cst (.int (2)))) (.and (.call "is_int" [(.ix (.var 1) (.cst (.int (0)))), (.cst (.int (0))), (.cst (.int (5)))]) (.call "is_int" [(.ix (.var 1) (.cst (.int (1)))), (.cst (.int (1))), (.cst (.int (5)))]))))] []),
    (.ret (.and (.cmp .eq (.bi .len [(.var 1)]) (.cst (.int (1)))) (.call "is_int" [(.ix (.var 1) (.cst (.int (0)))), (.ite (.cmp .eq (.var 0) (.cst (.str [103, 97, 112]))) (.cst (.int (1))) (.cst (.int (0)))), (.cst (.int (5)))])))]
def f_has_limit : Fn where
  name := "has_limit"
  np := 2
  names := [("zones" : Str), ("value" : Str)]
  own := false
  body := [
    (.ite (.or (.not (.bi (.isi .tuple) [(.var 1)])) (.or (.cmp .lt (.bi .len [(.var 1)]) (.cst (.int (2)))) (.not (.bi (.isi .str) [(.ix (.var 1) (.cst (.int (0))))])))) [(.ret (.cst (.bl false)))] []),
    (.fz [0] (.ite (.or (.cmp .notin (.ix (.var 1) (.cst (.int (0)))) (.tup [(.cst (.str [109, 111, 115, 116])), (.cst (.str [114, 111, 119])), (.cst (.str [103, 97, 112])), (.cst (.str [115, 116, 97, 114, 116, 115]))])) (.not (.call "has_zones" [(.var 0), (.ix (.var 1) (.cst (.int (1))))]))) [(.ret (.cst (.bl false)))] [])),
    (.ret (.call "has_numbers" [(.ix (.var 1) (.cst (.int (0)))), (.slice (.var 1) (some (.cst (.int (2)))) none)]))]
def f_is_book : Fn where
  name := "is_book"
  np := 1
  names := [("candidate" : Str), ("zones" : Str), ("limits" : Str), (".0" : Str), ("limit" : Str)]
  own := false
  body := [
    (.ite (.or (.not (.bi (.isi .tuple) [(.var 0)])) (.or (.cmp .ne (.bi .len [(.var 0)]) (.cst (.int (2)))) (.not (.bi (.isi .str) [(.ix (.var 0) (.cst (.int (0))))])))) [(.ret (.cst (.bl false)))] []),
    (.unp [1, 2] (.var 0)),
    (.ite (.or (.cmp .notin (.var 1) (.tup [(.cst (.str [97])), (.cst (.str [97, 98]))])) (.or (.not (.bi (.isi .tuple) [(.var 2)])) (.cmp .gt (.bi .len [(.var 2)]) (.cst (.int (4)))))) [(.ret (.cst (.bl false)))] []),
    (.fz [2, 1] (.ret (.bi .all [(.comp [3, 4] (.nm 4) 0 [(.var 2)] [] (.call "has_limit" [(.var 1), (.var 4)]))])))]
def f_check_book : Fn where
  name := "check_book"
  np := 1
  names := [("value" : Str)]
  own := false
  body := [
    (.fz [0] (.ite (.not (.call "is_book" [(.var 0)])) [(.raise "InvalidBook")] []))]
def f_are_days : Fn where
  name := "are_days"
  np := 3
  names := [("book" : Str), ("value" : Str), ("most" : Str), (".0" : Str), ("day" : Str)]
  own := false
  body := [
    (.fz [1] (.ret (.and (.bi (.isi .str) [(.var 1)]) (.and (.cmp .le (.bi .len [(.var 1)]) (.var 2)) (.bi .all [(.comp [3, 4] (.nm 4) 0 [(.var 1)] [] (.or (.cmp .eq (.var 4) (.cst (.str [46]))) (.cmp .in_ (.var 4) (.ix (.var 0) (.cst (.int (0)))))))])))))]
def f_check_calendar : Fn where
  name := "check_calendar"
  np := 2
  names := [("book" : Str), ("value" : Str)]
  own := false
  body := [
    (.fz [0] (.exp (.call "check_book" [(.var 0)]))),
    (.fz [0, 1] (.ite (.not (.call "are_days" [(.var 0), (.var 1), (.cst (.int (60)))])) [(.raise "InvalidCalendar")] []))]
def f_days_of : Fn where
  name := "days_of"
  np := 1
  names := [("book" : Str)]
  own := false
  body := [
    (.ret (.bin .add (.cst (.str [46])) (.ix (.var 0) (.cst (.int (0))))))]
def f_count_in : Fn where
  name := "count_in"
  np := 2
  names := [("days" : Str), ("zones" : Str), (".0" : Str), ("day" : Str)]
  own := false
  body := [
    (.fz [0] (.ret (.bi .len [(.comp [2, 3] (.nm 3) 0 [(.var 0)] [(.cmp .in_ (.var 3) (.var 1))] (.var 3))])))]
def f_count_starts : Fn where
  name := "count_starts"
  np := 2
  names := [("days" : Str), ("zones" : Str), (".0" : Str), ("before" : Str), ("day" : Str)]
  own := false
  body := [
    (.fz [0] (.ret (.bi .len [(.comp [2, 3, 4] (.tp [3, 4]) 2 [(.var 0), (.slice (.var 0) (some (.cst (.int (1)))) none)] [(.and (.cmp .in_ (.var 4) (.var 1)) (.cmp .notin (.var 3) (.var 1)))] (.var 4))])))]
def f_last : Fn where
  name := "last"
  np := 2
  names := [("days" : Str), ("many" : Str)]
  own := false
  body := [
    (.ret (.slice (.var 0) (some (.bin .sub (.bi .len [(.var 0)]) (.var 1))) none))]
def f_breaks : Fn where
  name := "breaks"
  np := 3
  names := [("limit" : Str), ("past" : Str), ("day" : Str), ("kind" : Str), ("zones" : Str), ("count" : Str)]
  own := false
  body := [
    (.unp [3, 4, 5] (.slice (.var 0) none (some (.cst (.int (3)))))),
    (.ite (.cmp .eq (.var 3) (.cst (.str [109, 111, 115, 116]))) [(.fz [4] (.ret (.cmp .gt (.call "count_in" [(.call "last" [(.bin .add (.var 1) (.var 2)), (.ix (.var 0) (.cst (.int (3))))]), (.var 4)]) (.var 5))))] []),
    (.ite (.cmp .notin (.var 2) (.var 4)) [(.ret (.cst (.bl false)))] []),
    (.ite (.cmp .eq (.var 3) (.cst (.str [114, 111, 119]))) [(.fz [1, 5, 4] (.ret (.cmp .eq (.call "count_in" [(.call "last" [(.var 1), (.var 5)]), (.var 4)]) (.var 5))))] []),
    (.ite (.cmp .in_ (.ix (.var 1) (.neg (.cst (.int (1))))) (.var 4)) [(.ret (.cst (.bl false)))] []),
    (.ite (.cmp .eq (.var 3) (.cst (.str [103, 97, 112]))) [(.fz [1, 5, 4] (.ret (.cmp .gt (.call "count_in" [(.call "last" [(.var 1), (.var 5)]), (.var 4)]) (.cst (.int (0))))))] []),
    (.fz [4] (.ret (.cmp .gt (.call "count_starts" [(.call "last" [(.bin .add (.var 1) (.var 2)), (.bin .add (.ix (.var 0) (.cst (.int (3)))) (.cst (.int (1))))]), (.var 4)]) (.var 5))))]
def f_can_follow : Fn where
  name := "can_follow"
  np := 3
  names := [("book" : Str), ("past" : Str), ("day" : Str), (".0" : Str), ("limit" : Str)]
  own := false
  body := [
    (.fz [1, 2] (.ret (.not (.bi .any [(.comp [3, 4] (.nm 4) 0 [(.ix (.var 0) (.cst (.int (1))))] [] (.call "breaks" [(.var 4), (.var 1), (.var 2)]))]))))]
def f_after_day : Fn where
  name := "after_day"
  np := 2
  names := [("past" : Str), ("day" : Str)]
  own := false
  body := [
    (.ret (.bin .add (.slice (.var 0) (some (.cst (.int (1)))) none) (.var 1)))]
def f_find_past : Fn where
  name := "find_past"
  np := 1
  names := [("calendar" : Str)]
  own := false
  body := [
    (.ret (.call "last" [(.bin .add (.cst (.str [46, 46, 46, 46, 46])) (.var 0)), (.cst (.int (5)))]))]
def f_find_broken : Fn where
  name := "find_broken"
  np := 2
  names := [("book" : Str), ("calendar" : Str), ("past" : Str), ("number" : Str), ("day" : Str), ("bad" : Str), (".0" : Str), ("index" : Str), ("limit" : Str)]
  own := false
  body := [
    (.set 2 (.cst (.str [46, 46, 46, 46, 46]))),
    (.fz [1] (.for_ (.tp [3, 4]) 1 [(.var 1)] [(.fz [2, 4] (.set 5 (.comp [6, 7, 8] (.tp [7, 8]) 1 [(.ix (.var 0) (.cst (.int (1))))] [(.call "breaks" [(.var 8), (.var 2), (.var 4)])] (.var 7)))), (.ite (.cmp .ne (.var 5) (.lst [])) [(.fz [3] (.ret (.tup [(.var 3), (.ix (.var 5) (.cst (.int (0))))])))] []), (.fz [2, 4] (.set 2 (.call "after_day" [(.var 2), (.var 4)])))])),
    (.ret (.cst .non))]
def f_is_allowed : Fn where
  name := "is_allowed"
  np := 2
  names := [("book" : Str), ("calendar" : Str)]
  own := false
  body := [
    (.fz [0, 1] (.exp (.call "check_calendar" [(.var 0), (.var 1)]))),
    (.fz [0, 1] (.ret (.cmp .is_ (.call "find_broken" [(.var 0), (.var 1)]) (.cst .non))))]
def f_first_broken : Fn where
  name := "first_broken"
  np := 2
  names := [("book" : Str), ("calendar" : Str)]
  own := false
  body := [
    (.fz [0, 1] (.exp (.call "check_calendar" [(.var 0), (.var 1)]))),
    (.fz [0, 1] (.ret (.call "find_broken" [(.var 0), (.var 1)])))]
def f_past_of : Fn where
  name := "past_of"
  np := 2
  names := [("book" : Str), ("calendar" : Str)]
  own := false
  body := [
    (.fz [0, 1] (.exp (.call "check_calendar" [(.var 0), (.var 1)]))),
    (.fz [1] (.ret (.call "find_past" [(.var 1)])))]
def f_days_after : Fn where
  name := "days_after"
  np := 2
  names := [("book" : Str), ("past" : Str), (".0" : Str), ("day" : Str)]
  own := false
  body := [
    (.fz [0, 0, 1] (.ret (.comp [2, 3] (.nm 3) 0 [(.call "days_of" [(.var 0)])] [(.call "can_follow" [(.var 0), (.var 1), (.var 3)])] (.var 3))))]
def f_check_allowed : Fn where
  name := "check_allowed"
  np := 2
  names := [("book" : Str), ("calendar" : Str)]
  own := false
  body := [
    (.fz [0, 1] (.exp (.call "check_calendar" [(.var 0), (.var 1)]))),
    (.fz [0, 1] (.ite (.cmp .isnot (.call "find_broken" [(.var 0), (.var 1)]) (.cst .non)) [(.raise "Broken")] []))]
def f_next_days : Fn where
  name := "next_days"
  np := 2
  names := [("book" : Str), ("calendar" : Str)]
  own := false
  body := [
    (.fz [0, 1] (.exp (.call "check_allowed" [(.var 0), (.var 1)]))),
    (.fz [0, 1] (.ret (.call "days_after" [(.var 0), (.call "find_past" [(.var 1)])])))]
def f__law_drawn : Fn where
  name := "_law_drawn"
  np := 3
  names := [("_law_script" : Str), ("_law_k" : Str), ("_law_many" : Str), ("_law_cell" : Str), ("_law_turn" : Str), ("_law_rest" : Str)]
  own := false
  body := [
    (.set 3 (.bin .mul (.cst (.int (7))) (.var 1))),
    (.ite (.cmp .ne (.var 0) (.lst [])) [(.set 3 (.ix (.var 0) (.bin .mod (.bi .int [(.var 1)]) (.bi .len [(.var 0)])))), (.set 4 (.bin .fdiv (.var 1) (.bi .len [(.var 0)]))), (.ite (.and (.cmp .ge (.var 3) (.bin .pow (.cst (.int (10))) (.cst (.int (18))))) (.cmp .lt (.var 4) (.cst (.int (60))))) [(.set 5 (.bin .fdiv (.var 3) (.bin .pow (.cst (.int (10))) (.cst (.int (18)))))), (.whl (.and (.cmp .gt (.var 5) (.cst (.int (0)))) (.cmp .gt (.var 4) (.cst (.int (0))))) [(.set 5 (.bin .fdiv (.var 5) (.cst (.int (1000000))))), (.set 4 (.bin .sub (.var 4) (.cst (.int (1)))))]), (.ite (.cmp .gt (.var 5) (.cst (.int (0)))) [(.ret (.bin .mod (.bi .int [(.bin .mod (.bi .int [(.var 5)]) (.cst (.int (1000000))))]) (.var 2)))] [])] []), (.set 3 (.bin .add (.var 3) (.bin .mul (.cst (.int (6553))) (.bin .fdiv (.var 1) (.bi .len [(.var 0)])))))] []),
    (.set 3 (.bin .mod (.bi .int [(.bin .add (.bin .mul (.bin .mod (.bi .int [(.var 3)]) (.cst (.int (2147483563)))) (.cst (.int (69069)))) (.bin .mul (.cst (.int (104723))) (.bin .add (.var 1) (.cst (.int (1))))))]) (.cst (.int (2147483563))))),
    (.set 3 (.bin .mod (.bi .int [(.bin .add (.bin .mul (.var 3) (.var 3)) (.bin .fdiv (.var 3) (.cst (.int (3)))))]) (.cst (.int (2147483399))))),
    (.ret (.bin .mod (.bi .int [(.bin .fdiv (.bin .mod (.bi .int [(.bin .add (.bin .mul (.var 3) (.var 3)) (.bin .fdiv (.var 3) (.cst (.int (7)))))]) (.cst (.int (2147483647)))) (.cst (.int (11))))]) (.var 2)))]
def f__law_limit : Fn where
  name := "_law_limit"
  np := 3
  names := [("_law_script" : Str), ("_law_at" : Str), ("_law_zones" : Str), ("_law_some" : Str), ("_law_kind" : Str)]
  own := false
  body := [
    (.fz [0, 1] (.set 3 (.ite (.cmp .eq (.var 2) (.cst (.str [97]))) (.cst (.str [97])) (.ix (.lst [(.cst (.str [97])), (.cst (.str [98])), (.cst (.str [97, 98])), (.cst (.str [97, 98]))]) (.call "_law_drawn" [(.var 0), (.var 1), (.cst (.int (4)))]))))),
    (.fz [0] (.set 4 (.ix (.lst [(.cst (.str [109, 111, 115, 116])), (.cst (.str [109, 111, 115, 116])), (.cst (.str [114, 111, 119])), (.cst (.str [103, 97, 112])), (.cst (.str [115, 116, 97, 114, 116, 115]))]) (.call "_law_drawn" [(.var 0), (.bin .add (.var 1) (.cst (.int (1)))), (.cst (.int (5)))])))),
    (.ite (.cmp .eq (.var 4) (.cst (.str [109, 111, 115, 116]))) [(.fz [4, 3, 0, 0] (.ret (.tup [(.var 4), (.var 3), (.bin .add (.cst (.int (1))) (.call "_law_drawn" [(.var 0), (.bin .add (.var 1) (.cst (.int (2)))), (.cst (.int (3)))])), (.bin .add (.cst (.int (1))) (.call "_law_drawn" [(.var 0), (.bin .add (.var 1) (.cst (.int (3)))), (.cst (.int (6)))]))])))] []),
    (.ite (.cmp .eq (.var 4) (.cst (.str [115, 116, 97, 114, 116, 115]))) [(.fz [4, 3, 0, 0] (.ret (.tup [(.var 4), (.var 3), (.call "_law_drawn" [(.var 0), (.bin .add (.var 1) (.cst (.int (2)))), (.cst (.int (3)))]), (.bin .add (.cst (.int (1))) (.call "_law_drawn" [(.var 0), (.bin .add (.var 1) (.cst (.int (3)))), (.cst (.int (5)))]))])))] []),
    (.fz [4, 3, 0] (.ret (.tup [(.var 4), (.var 3), (.bin .add (.cst (.int (1))) (.call "_law_drawn" [(.var 0), (.bin .add (.var 1) (.cst (.int (2)))), (.cst (.int (3)))]))])))]
def f__law_breaks : Fn where
  name := "_law_breaks"
  np := 2
  names := [("_law_limit_here" : Str), ("_law_days_here" : Str), ("_law_kind" : Str), ("_law_zones" : Str), ("_law_count" : Str), ("_law_held" : Str), ("_law_first" : Str), ("_law_begun" : Str), (".0" : Str), ("_law_day" : Str), ("_law_k" : Str)]
  own := false
  body := [
    (.unp [2, 3, 4] (.slice (.var 0) none (some (.cst (.int (3)))))),
    (.fz [1] (.set 5 (.comp [8, 9] (.nm 9) 0 [(.var 1)] [] (.cmp .in_ (.var 9) (.var 3))))),
    (.ite (.cmp .eq (.var 2) (.cst (.str [109, 111, 115, 116]))) [(.ret (.cmp .gt (.bi .sum [(.slice (.var 5) (some (.bin .sub (.bi .len [(.var 5)]) (.ix (.var 0) (.cst (.int (3)))))) none)]) (.var 4)))] []),
    (.set 6 (.and (.ix (.var 5) (.neg (.cst (.int (1))))) (.not (.ix (.var 5) (.neg (.cst (.int (2)))))))),
    (.ite (.cmp .eq (.var 2) (.cst (.str [114, 111, 119]))) [(.ret (.and (.cmp .gt (.bi .len [(.var 5)]) (.var 4)) (.bi .all [(.slice (.var 5) (some (.bin .sub (.bin .sub (.bi .len [(.var 5)]) (.var 4)) (.cst (.int (1))))) none)])))] []),
    (.ite (.cmp .eq (.var 2) (.cst (.str [103, 97, 112]))) [(.ret (.and (.var 6) (.bi .any [(.slice (.var 5) (some (.bin .sub (.bin .sub (.bi .len [(.var 5)]) (.var 4)) (.cst (.int (1))))) (some (.bin .sub (.bi .len [(.var 5)]) (.cst (.int (1))))))])))] []),
    (.set 7 (.comp [8, 10] (.nm 10) 3 [(.bin .sub (.bi .len [(.var 5)]) (.ix (.var 0) (.cst (.int (3))))), (.bi .len [(.var 5)])] [(.and (.ix (.var 5) (.var 10)) (.not (.ix (.var 5) (.bin .sub (.var 10) (.cst (.int (1)))))))] (.var 10))),
    (.ret (.and (.var 6) (.cmp .gt (.bi .len [(.var 7)]) (.var 4))))]
def f__law_after : Fn where
  name := "_law_after"
  np := 2
  names := [("_law_book" : Str), ("_law_past" : Str), ("_law_found" : Str), ("_law_day" : Str), (".0" : Str), ("_law_limit_here" : Str)]
  own := false
  body := [
    (.set 2 (.lst [])),
    (.for_ (.nm 3) 0 [(.bin .add (.cst (.str [46])) (.ix (.var 0) (.cst (.int (0)))))] [(.ite (.cmp .eq (.comp [4, 5] (.nm 5) 0 [(.ix (.var 0) (.cst (.int (1))))] [(.call "_law_breaks" [(.var 5), (.bin .add (.bin .add (.cst (.str [46, 46])) (.var 1)) (.var 3))])] (.var 5)) (.lst [])) [(.fz [3] (.app 2 (.tup [(.var 3), (.bin .add (.slice (.var 1) (some (.cst (.int (1)))) none) (.var 3))])))] [])]),
    (.fz [2] (.ret (.var 2)))]
def f__law_days : Fn where
  name := "_law_days"
  np := 4
  names := [("_law_script" : Str), ("_law_at" : Str), ("_law_book" : Str), ("_law_most" : Str), ("_law_many" : Str), ("_law_letters" : Str), (".0" : Str), ("_law_k" : Str)]
  own := false
  body := [
    (.fz [0, 1] (.set 4 (.call "_law_drawn" [(.var 0), (.var 1), (.bin .add (.var 3) (.cst (.int (1))))]))),
    (.set 5 (.bin .add (.bin .add (.cst (.str [46])) (.ix (.var 2) (.cst (.int (0))))) (.cst (.str [46])))),
    (.fz [4, 0] (.ret (.meth .join (.cst (.str [])) [(.comp [6, 7] (.nm 7) 3 [(.var 4)] [] (.ix (.var 5) (.call "_law_drawn" [(.var 0), (.bin .add (.bin .add (.var 1) (.cst (.int (1)))) (.var 7)), (.bi .len [(.var 5)])])))])))]
def f__law_calendar : Fn where
  name := "_law_calendar"
  np := 4
  names := [("_law_script" : Str), ("_law_at" : Str), ("_law_book" : Str), ("_law_most" : Str), ("_law_past" : Str), ("_law_days_here" : Str), ("_law_k" : Str), ("_law_able" : Str), ("_law_day" : Str)]
  own := false
  body := [
    (.mul [4, 5] [(.cst (.str [46, 46, 46, 46, 46])), (.cst (.str []))]),
    (.fz [0, 1] (.for_ (.nm 6) 3 [(.call "_law_drawn" [(.var 0), (.var 1), (.bin .add (.var 3) (.cst (.int (1))))])] [(.fz [2, 4] (.set 7 (.call "_law_after" [(.var 2), (.var 4)]))), (.fz [0] (.unp [8, 4] (.ix (.var 7) (.call "_law_drawn" [(.var 0), (.bin .add (.bin .add (.var 1) (.cst (.int (1)))) (.var 6)), (.bi .len [(.var 7)])])))), (.set 5 (.bin .add (.var 5) (.var 8)))])),
    (.fz [5] (.ret (.var 5)))]
def f__law_other : Fn where
  name := "_law_other"
  np := 3
  names := [("_law_book" : Str), ("_law_calendar_here" : Str), ("_law_other_here" : Str), ("_law_bad" : Str), ("_law_day" : Str), ("_law_number" : Str), ("_law_fewer" : Str)]
  own := false
  body := [
    (.fz [0, 2] (.set 3 (.call "first_broken" [(.var 0), (.var 2)]))),
    (.fz [0, 2] (.ite (.cmp .ne (.cmp .is_ (.var 3) (.cst .non)) (.call "is_allowed" [(.var 0), (.var 2)])) [(.ret (.cst (.bl false)))] [])),
    (.ite (.cmp .isnot (.var 3) (.cst .non)) [(.unp [4, 5] (.var 3)), (.fz [0] (.ite (.not (.call "is_allowed" [(.var 0), (.slice (.var 2) none (some (.var 4)))])) [(.ret (.cst (.bl false)))] [])), (.fz [0] (.ite (.cmp .ne (.call "first_broken" [(.var 0), (.slice (.var 2) none (some (.bin .add (.var 4) (.cst (.int (1))))))]) (.var 3)) [(.ret (.cst (.bl false)))] [])), (.fz [0] (.ite (.cmp .ne (.call "first_broken" [(.var 0), (.bin .add (.var 2) (.var 1))]) (.var 3)) [(.ret (.cst (.bl false)))] [])), (.fz [4] (.ite (.cmp .ne (.call "first_broken" [(.tup [(.ix (.var 0) (.cst (.int (0)))), (.slice (.ix (.var 0) (.cst (.int (1)))) (some (.var 5)) (some (.bin .add (.var 5) (.cst (.int (1))))))]), (.slice (.var 2) none (some (.bin .add (.var 4) (.cst (.int (1))))))]) (.tup [(.var 4), (.cst (.int (0)))])) [(.ret (.cst (.bl false)))] []))] []),
    (.for_ (.nm 5) 3 [(.bi .len [(.ix (.var 0) (.cst (.int (1))))])] [(.set 6 (.tup [(.ix (.var 0) (.cst (.int (0)))), (.bin .add (.slice (.ix (.var 0) (.cst (.int (1)))) none (some (.var 5))) (.slice (.ix (.var 0) (.cst (.int (1)))) (some (.bin .add (.var 5) (.cst (.int (1))))) none))])), (.fz [0, 2, 6, 2] (.ite (.and (.call "is_allowed" [(.var 0), (.var 2)]) (.not (.call "is_allowed" [(.var 6), (.var 2)]))) [(.ret (.cst (.bl false)))] []))]),
    (.fz [2] (.ret (.cmp .is_ (.call "is_allowed" [(.tup [(.ix (.var 0) (.cst (.int (0)))), (.tup [])]), (.var 2)]) (.cst (.bl true)))))]
def f__law_raw : Fn where
  name := "_law_raw"
  np := 3
  names := [("_law_script" : Str), ("_law_at" : Str), ("_law_most" : Str), ("_law_zones" : Str), ("_law_limits" : Str), (".0" : Str), ("_law_k" : Str)]
  own := false
  body := [
    (.fz [0, 1] (.set 3 (.ix (.lst [(.cst (.str [97])), (.cst (.str [97])), (.cst (.str [97, 98]))]) (.call "_law_drawn" [(.var 0), (.var 1), (.cst (.int (3)))])))),
    (.fz [0, 0, 3] (.set 4 (.comp [5, 6] (.nm 6) 3 [(.call "_law_drawn" [(.var 0), (.bin .add (.var 1) (.cst (.int (1)))), (.bin .add (.var 2) (.cst (.int (1))))])] [] (.call "_law_limit" [(.var 0), (.bin .add (.bin .add (.var 1) (.cst (.int (2)))) (.bin .mul (.cst (.int (5))) (.var 6))), (.var 3)])))),
    (.fz [3] (.ret (.tup [(.var 3), (.bi .tuple [(.var 4)])])))]
def f_law : Fn where
  name := "law"
  np := 1
  names := [("_law_script" : Str), ("_law_book" : Str), ("_law_calendar_here" : Str), ("_law_other_here" : Str), ("_law_size" : Str), ("_law_able" : Str), ("_law_past" : Str), ("_law_day" : Str)]
  own := false
  body := [
    (.fz [0] (.set 1 (.call "_law_raw" [(.var 0), (.cst (.int (10))), (.cst (.int (3)))]))),
    (.fz [0, 1] (.mul [2, 3] [(.call "_law_calendar" [(.var 0), (.cst (.int (40))), (.var 1), (.cst (.int (20)))]), (.call "_law_days" [(.var 0), (.cst (.int (70))), (.var 1), (.cst (.int (15)))])])),
    (.fz [1, 2, 1, 2] (.ite (.or (.cmp .isnot (.call "is_allowed" [(.var 1), (.var 2)]) (.cst (.bl true))) (.cmp .isnot (.call "first_broken" [(.var 1), (.var 2)]) (.cst .non))) [(.ret (.cst (.bl false)))] [])),
    (.for_ (.nm 4) 3 [(.bi .len [(.var 2)])] [(.fz [1] (.set 5 (.call "next_days" [(.var 1), (.slice (.var 2) none (some (.var 4)))]))), (.ite (.or (.cmp .notin (.ix (.var 2) (.var 4)) (.var 5)) (.or (.cmp .ne (.var 5) (.bi .sorted [(.var 5)])) (.cmp .ne (.ix (.var 5) (.cst (.int (0)))) (.cst (.str [46]))))) [(.ret (.cst (.bl false)))] [])]),
    (.fz [1, 2] (.set 6 (.call "past_of" [(.var 1), (.var 2)]))),
    (.fz [1, 6] (.ite (.or (.cmp .ne (.bi .len [(.var 6)]) (.cst (.int (5)))) (.cmp .ne (.var 6) (.call "past_of" [(.var 1), (.var 6)]))) [(.ret (.cst (.bl false)))] [])),
    (.fz [1, 6, 1, 6, 1, 2] (.ite (.and (.call "is_allowed" [(.var 1), (.var 6)]) (.cmp .ne (.call "next_days" [(.var 1), (.var 6)]) (.call "next_days" [(.var 1), (.var 2)]))) [(.ret (.cst (.bl false)))] [])),
    (.for_ (.nm 7) 0 [(.bin .add (.cst (.str [46])) (.ix (.var 1) (.cst (.int (0)))))] [(.fz [1, 1, 2] (.ite (.cmp .ne (.call "is_allowed" [(.var 1), (.bin .add (.var 2) (.var 7))]) (.cmp .in_ (.var 7) (.call "next_days" [(.var 1), (.var 2)]))) [(.ret (.cst (.bl false)))] []))]),
    (.fz [1] (.ite (.cmp .isnot (.call "is_allowed" [(.var 1), (.bin .add (.var 2) (.bin .mul (.cst (.str [46])) (.cst (.int (20)))))]) (.cst (.bl true))) [(.ret (.cst (.bl false)))] [])),
    (.fz [1, 2, 3] (.ret (.call "_law_other" [(.var 1), (.var 2), (.var 3)])))]
end Mp

end Sec_IR04
section Sec_MpSaa
set_option autoImplicit false
set_option linter.all false
set_option maxHeartbeats 4000000
set_option maxRecDepth 100000
namespace Mp
open PySem
/-! values: rows for simp -/
theorem rdI (t : Bool) (i : Int) (o : Bool) : rd t (some (.int i, o)) = .ok (.int i) := rd_n _ _ rfl
theorem rdS (t : Bool) (x : List Nat) (o : Bool) : rd t (some (.str x, o)) = .ok (.str x) := rd_n _ _ rfl
theorem rdB (t : Bool) (x : Bool) (o : Bool) : rd t (some (.bl x, o)) = .ok (.bl x) := rd_n _ _ rfl
theorem rdN (t : Bool) (o : Bool) : rd t (some (.non, o)) = .ok .non := rd_n _ _ rfl
theorem rdT (t : Bool) (x : List D) (o : Bool) : rd t (some (.tup x, o)) = .ok (.tup x) := rd_n _ _ rfl
theorem bigOk_l {a b : Int} (h : -18446744073709551616 < a ∧ a < 18446744073709551616) : bigOk a b = true := by
  unfold bigOk
  have e : (2 : Int) ^ 64 = 18446744073709551616 := by decide
  rw [e, decide_eq_true h]
  rfl
theorem b_mul_l {i j : Int} (h : -18446744073709551616 < i ∧ i < 18446744073709551616) : bin .mul (.int i) (.int j) = .ok (.int (i * j)) := by
  show (if bigOk i j then R.ok (D.int (i * j)) else .no) = _
  rw [if_pos (bigOk_l h)]
theorem b_fdiv' {i j : Int} (h : 0 < j) (h2 : j < 18446744073709551616) : bin .fdiv (.int i) (.int j) = .ok (.int (i / j)) := by
  have e : (2 : Int) ^ 64 = 18446744073709551616 := by decide
  show (if decide (0 < j ∧ j < 2 ^ 64) then R.ok (D.int (i / j)) else .no) = _
  rw [e, decide_eq_true ⟨h, h2⟩, if_pos rfl]
theorem b_pow18 : bin .pow (.int 10) (.int 18) = .ok (.int 1000000000000000000) := id rfl
theorem c_eq (a b : D) : cmp .eq a b = (eqD a b).bind fun r => .ok (.bl r) := id rfl
theorem c_ne (a b : D) : cmp .ne a b = (eqD a b).bind fun r => .ok (.bl (!r)) := id rfl
theorem c_in (a b : D) : cmp .in_ a b = (inD a b).bind fun r => .ok (.bl r) := id rfl
theorem c_nin (a b : D) : cmp .notin a b = (inD a b).bind fun r => .ok (.bl (!r)) := id rfl
theorem c_le (x y : Int) : cmp .le (.int x) (.int y) = .ok (.bl (decide (x ≤ y))) := id rfl
theorem c_gt (x y : Int) : cmp .gt (.int x) (.int y) = .ok (.bl (decide (y < x))) := id rfl
theorem c_ge (x y : Int) : cmp .ge (.int x) (.int y) = .ok (.bl (decide (y ≤ x))) := id rfl
theorem eqOk_i (x y : Int) : eqOk (.int x) (.int y) = true := id rfl
theorem c_lt (x y : Int) : cmp .lt (.int x) (.int y) = .ok (.bl (decide (x < y))) := by
  show (if D.alike (.int x) (.int y) && eqOk (.int x) (.int y) && !isNon (.int x) then R.ok (D.bl (D.lt (.int x) (.int y))) else .no) = _
  simp only [D.alike, eqOk_i, isNon, D.lt, Bool.not_false, Bool.and_self, if_true]
theorem c_isN (a : D) : cmp .is_ a .non = .ok (.bl (isNon a)) := id rfl
theorem c_nisN (a : D) : cmp .isnot a .non = .ok (.bl (!isNon a)) := id rfl
theorem c_isB (x y : Bool) : cmp .is_ (.bl x) (.bl y) = .ok (.bl (x == y)) := id rfl
theorem c_nisB (x y : Bool) : cmp .isnot (.bl x) (.bl y) = .ok (.bl (x != y)) := id rfl
theorem isNon_n : isNon .non = true := id rfl
theorem isNon_b (x : Bool) : isNon (.bl x) = false := id rfl
theorem isNon_i (x : Int) : isNon (.int x) = false := id rfl
theorem isNon_s (x : List Nat) : isNon (.str x) = false := id rfl
theorem isNon_t (x : List D) : isNon (.tup x) = false := id rfl
theorem isNon_l (x : List D) : isNon (.lst x) = false := id rfl
theorem eqD_ss (a b : List Nat) : eqD (.str a) (.str b) = .ok (decide (a = b)) := id rfl
theorem eqD_ii (a b : Int) : eqD (.int a) (.int b) = .ok (decide (a = b)) := id rfl
theorem eqD_bb (a b : Bool) : eqD (.bl a) (.bl b) = .ok (a == b) := id rfl
theorem eqD_tt {a b : List D} (h : eqOk (.tup a) (.tup b) = true) : eqD (.tup a) (.tup b) = .ok (D.eqvs a b) := by
  show (if eqOk (.tup a) (.tup b) then R.ok (D.eqv (.tup a) (.tup b)) else .no) = _
  rw [if_pos h]
  simp only [D.eqv]
theorem eqD_ll {a b : List D} (h : eqOk (.lst a) (.lst b) = true) : eqD (.lst a) (.lst b) = .ok (D.eqvs a b) := by
  show (if eqOk (.lst a) (.lst b) then R.ok (D.eqv (.lst a) (.lst b)) else .no) = _
  rw [if_pos h]
  simp only [D.eqv]
theorem eqD_nt {b : List D} (h : eqOk .non (.tup b) = true) : eqD .non (.tup b) = .ok false := by
  show (if eqOk .non (.tup b) then R.ok (D.eqv .non (.tup b)) else .no) = _
  rw [if_pos h]
  rfl
theorem eqD_tn {b : List D} (h : eqOk (.tup b) .non = true) : eqD (.tup b) .non = .ok false := by
  show (if eqOk (.tup b) .non then R.ok (D.eqv (.tup b) .non) else .no) = _
  rw [if_pos h]
  rfl
theorem inD_s (c : Nat) (y : List Nat) : inD (.str [c]) (.str y) = .ok (y.contains c) := id rfl
theorem inD_t {a : D} {xs : List D} (h : eqOk a (.tup xs) = true) : inD a (.tup xs) = .ok (xs.any fun x => D.eqv x a) := by
  show (if eqOk a (.tup xs) then R.ok (xs.any fun x => D.eqv x a) else .no) = _
  rw [if_pos h]
theorem inD_l {a : D} {xs : List D} (h : eqOk a (.lst xs) = true) : inD a (.lst xs) = .ok (xs.any fun x => D.eqv x a) := by
  show (if eqOk a (.lst xs) then R.ok (xs.any fun x => D.eqv x a) else .no) = _
  rw [if_pos h]
theorem eqOk_of {a b : D} (h1 : a.flat = true) (h2 : b.flat = true) (h3 : a.depth ≤ 60) (h4 : b.depth ≤ 60) : eqOk a b = true := by
  unfold eqOk
  simp only [h1, h2, h3, h4, decide_true, Bool.and_self]
theorem b_add (i j : Int) : bin .add (.int i) (.int j) = .ok (.int (i + j)) := id rfl
theorem b_sub (i j : Int) : bin .sub (.int i) (.int j) = .ok (.int (i - j)) := id rfl
theorem b_adds {x y : List Nat} (h : x.length + y.length ≤ line) : bin .add (.str x) (.str y) = .ok (.str (x ++ y)) := by
  show (if x.length + y.length ≤ line then R.ok (D.str (x ++ y)) else .no) = _
  rw [if_pos h]
theorem b_addt {x y : List D} (h : x.length + y.length ≤ line) : bin .add (.tup x) (.tup y) = .ok (.tup (x ++ y)) := by
  show (if x.length + y.length ≤ line then R.ok (D.tup (x ++ y)) else .no) = _
  rw [if_pos h]
theorem b_addl {x y : List D} (h : x.length + y.length ≤ line) : bin .add (.lst x) (.lst y) = .ok (.lst (x ++ y)) := by
  show (if x.length + y.length ≤ line then R.ok (D.lst (x ++ y)) else .no) = _
  rw [if_pos h]
theorem b_mul {i j : Int} (h : bigOk i j = true) : bin .mul (.int i) (.int j) = .ok (.int (i * j)) := by
  show (if bigOk i j then R.ok (D.int (i * j)) else .no) = _
  rw [if_pos h]
theorem b_fdiv {i j : Int} (h : 0 < j ∧ j < 2 ^ 64) : bin .fdiv (.int i) (.int j) = .ok (.int (i / j)) := by
  show (if decide (0 < j ∧ j < 2 ^ 64) then R.ok (D.int (i / j)) else .no) = _
  rw [decide_eq_true h, if_pos rfl]
theorem b_mod {i j : Int} (h : 0 < j) : bin .mod (.int i) (.int j) = .ok (.int (i % j)) := by
  show (if decide (0 < j) then R.ok (D.int (i % j)) else .no) = _
  rw [decide_eq_true h, if_pos rfl]
theorem neg_i (i : Int) : neg (.int i) = .ok (.int (-i)) := id rfl
theorem bi_isi (t : Ty) (d : D) : bi (.isi t) [d] = if d.flat then .ok (.bl (isTy t d)) else .no := id rfl
theorem bi_isiS (t : Ty) (x : List Nat) : bi (.isi t) [.str x] = .ok (.bl (isTy t (.str x))) := id rfl
theorem bi_isiI (t : Ty) (x : Int) : bi (.isi t) [.int x] = .ok (.bl (isTy t (.int x))) := id rfl
theorem bi_isiT (t : Ty) {xs : List D} (h : D.flats xs = true) : bi (.isi t) [.tup xs] = .ok (.bl (isTy t (.tup xs))) := by
  show (if D.flats xs = true then R.ok (D.bl (isTy t (.tup xs))) else .no) = _
  rw [if_pos h]
theorem fl_i (i : Int) : D.flat (.int i) = true := id rfl
theorem fl_s (x : List Nat) : D.flat (.str x) = true := id rfl
theorem fl_t (x : List D) : D.flat (.tup x) = D.flats x := id rfl
theorem fl_l (x : List D) : D.flat (.lst x) = D.flats x := id rfl
theorem fls_n : D.flats [] = true := id rfl
theorem fls_c (x : D) (r : List D) : D.flats (x :: r) = (D.flat x && D.flats r) := id rfl
theorem ty_ii (i : Int) : isTy .int (.int i) = true := id rfl
theorem ty_bi (i : Int) : isTy .bool (.int i) = false := id rfl
theorem ty_ss (x : List Nat) : isTy .str (.str x) = true := id rfl
theorem ty_tt (x : List D) : isTy .tuple (.tup x) = true := id rfl
theorem bi_lenS (x : List Nat) : bi .len [.str x] = .ok (.int x.length) := id rfl
theorem bi_lenT (x : List D) : bi .len [.tup x] = .ok (.int x.length) := id rfl
theorem bi_lenL (x : List D) : bi .len [.lst x] = .ok (.int x.length) := id rfl
theorem bi_lenD (x : List (D × D)) : bi .len [.dic x] = .ok (.int x.length) := id rfl
theorem bi_tupL (x : List D) : bi .tuple [.lst x] = .ok (.tup x) := id rfl
theorem bi_intI (i : Int) : bi .int [.int i] = .ok (.int i) := id rfl
theorem boolsD_map (bs : List Bool) : boolsD (bs.map D.bl) = some bs := by
  induction bs with
  | nil => rfl
  | cons b r ih =>
    rw [List.map_cons]
    show (boolsD (r.map D.bl)).map (b :: ·) = _
    rw [ih]
    rfl
theorem intsD_map (bs : List Int) : intsD (bs.map D.int) = some bs := by
  induction bs with
  | nil => rfl
  | cons b r ih =>
    rw [List.map_cons]
    show (intsD (r.map D.int)).map (b :: ·) = _
    rw [ih]
    rfl
theorem bi_all (bs : List Bool) : bi .all [.lst (bs.map D.bl)] = .ok (.bl (bs.all id)) := by
  show (ofO (boolsD (bs.map D.bl))).bind _ = _
  rw [boolsD_map]
  rfl
theorem bi_any (bs : List Bool) : bi .any [.lst (bs.map D.bl)] = .ok (.bl (bs.any id)) := by
  show (ofO (boolsD (bs.map D.bl))).bind _ = _
  rw [boolsD_map]
  rfl
theorem bi_sum (bs : List Int) : bi .sum [.lst (bs.map D.int)] = .ok (.int bs.sum) := by
  show (ofO (intsD (bs.map D.int))).bind _ = _
  rw [intsD_map]
  rfl
theorem atI_N {α : Type} {xs : List α} {i : Nat} {d : α} (h : xs[i]? = some d) : atI xs (i : Int) = some d := by
  have hi := (List.getElem?_eq_some_iff.mp h).1
  unfold atI ixN
  rw [if_pos (by omega), if_pos (by omega)]
  simpa using h
theorem ix_tN {xs : List D} {i : Nat} {d : D} (h : xs[i]? = some d) : ix (.tup xs) (.int i) = .ok d := by
  show ofO (atI xs i) = _
  rw [atI_N h]
  rfl
theorem ix_lN {xs : List D} {i : Nat} {d : D} (h : xs[i]? = some d) : ix (.lst xs) (.int i) = .ok d := ix_tN h
theorem ix_sN {xs : List Nat} {i : Nat} {d : Nat} (h : xs[i]? = some d) : ix (.str xs) (.int i) = .ok (.str [d]) := by
  show ofO ((atI xs i).map _) = _
  rw [atI_N h]
  rfl
theorem ix_t0 (a : D) (r : List D) : ix (.tup (a :: r)) (.int 0) = .ok a := ix_tN (i := 0) rfl
theorem ix_t1 (a b : D) (r : List D) : ix (.tup (a :: b :: r)) (.int 1) = .ok b := ix_tN (i := 1) rfl
theorem ix_l0 (a : D) (r : List D) : ix (.lst (a :: r)) (.int 0) = .ok a := ix_t0 a r
theorem ix_l1 (a b : D) (r : List D) : ix (.lst (a :: b :: r)) (.int 1) = .ok b := ix_t1 a b r
theorem ix_t3 (a b c d : D) (r : List D) : ix (.tup (a :: b :: c :: d :: r)) (.int 3) = .ok d := ix_tN (i := 3) rfl
theorem ix_sLast (xs : List Nat) (d : Nat) : ix (.str (xs ++ [d])) (.int (-1)) = .ok (.str [d]) := by
  show ofO ((atI (xs ++ [d]) (-1)).map _) = _
  have : atI (xs ++ [d]) (-1) = some d := by
    unfold atI ixN
    rw [if_neg (by omega), if_pos (by simp; omega)]
    have e : (-1 + ((xs ++ [d]).length : Int)).toNat = xs.length := by
      simp
      omega
    show (xs ++ [d])[(-1 + ((xs ++ [d]).length : Int)).toNat]? = some d
    rw [e]
    simp
  rw [this]
  rfl
theorem sl_t3 (a b c : D) (r : List D) : slice (.tup (a :: b :: c :: r)) none (some 3) = .ok (.tup [a, b, c]) := by
  show R.ok (D.tup (cut (a :: b :: c :: r) none (some 3))) = _
  unfold cut sIx
  simp
theorem sl_t2 (a b : D) (r : List D) : slice (.tup (a :: b :: r)) (some 2) none = .ok (.tup r) := by
  show R.ok (D.tup (cut (a :: b :: r) (some 2) none)) = _
  unfold cut sIx
  simp
theorem sIx_of (n d : Nat) (m : Nat) (h : m ≤ n) : sIx n d (some (m : Int)) = m := by
  unfold sIx
  simp only
  split
  · omega
  · simp only [Int.toNat_natCast]
    omega
theorem sl_sN {xs : List Nat} {i : Nat} (h : i ≤ xs.length) : slice (.str xs) (some (i : Int)) none = .ok (.str (xs.drop i)) := by
  show R.ok (D.str (cut xs (some (i : Int)) none)) = _
  unfold cut
  rw [sIx_of _ _ _ h]
  have : sIx xs.length xs.length none = xs.length := id rfl
  rw [this]
  congr 2
  rw [List.take_of_length_le]
  simp
theorem sl_sTo {xs : List Nat} {i : Nat} (h : i ≤ xs.length) : slice (.str xs) none (some (i : Int)) = .ok (.str (xs.take i)) := by
  show R.ok (D.str (cut xs none (some (i : Int)))) = _
  unfold cut
  rw [sIx_of _ _ _ h]
  rfl
theorem sl_s1 (a : Nat) (xs : List Nat) : slice (.str (a :: xs)) (some 1) none = .ok (.str xs) := by
  have := sl_sN (xs := a :: xs) (i := 1) (by simp)
  simpa using this
end Mp

end Sec_MpSaa
section Sec_MpSb
set_option autoImplicit false
set_option linter.all false
set_option maxHeartbeats 4000000
set_option maxRecDepth 100000
namespace Mp
open PySem
/-! ### limits and books -/
inductive Lim where
  | most (z : List Nat) (c n : Nat) | row (z : List Nat) (c : Nat) | gap (z : List Nat) (c : Nat) | starts (z : List Nat) (c n : Nat)
def Lim.d : Lim → D
  | .most z c n => .tup [.str [109, 111, 115, 116], .str z, .int c, .int n]
  | .row z c => .tup [.str [114, 111, 119], .str z, .int c]
  | .gap z c => .tup [.str [103, 97, 112], .str z, .int c]
  | .starts z c n => .tup [.str [115, 116, 97, 114, 116, 115], .str z, .int c, .int n]
def Lim.z : Lim → List Nat
  | .most z _ _ => z
  | .row z _ => z
  | .gap z _ => z
  | .starts z _ _ => z
def Zs (z : List Nat) : Prop := z = [97] ∨ z = [98] ∨ z = [97, 98]
def Lim.nums : Lim → Prop
  | .most _ c n => c ≤ 6 ∧ 1 ≤ n ∧ n ≤ 6
  | .row _ c => c ≤ 5
  | .gap _ c => 1 ≤ c ∧ c ≤ 5
  | .starts _ c n => c ≤ 5 ∧ 1 ≤ n ∧ n ≤ 5
structure Lim.Ok (zs : List Nat) (l : Lim) : Prop where
  z : Zs l.z
  sub : ∀ c ∈ l.z, c ∈ zs
  nums : l.nums
def bookD (zs : List Nat) (ls : List Lim) : D := .tup [.str zs, .tup (ls.map Lim.d)]
structure BookOk (zs : List Nat) (ls : List Lim) : Prop where
  zo : zs = [97] ∨ zs = [97, 98]
  many : ls.length ≤ 4
  all : ∀ l ∈ ls, l.Ok zs
theorem Lim.flat (l : Lim) : l.d.flat = true := by cases l <;> rfl
theorem Lim.depth (l : Lim) : l.d.depth = 1 := by cases l <;> rfl
theorem flats_of : ∀ {xs : List D}, (∀ x ∈ xs, x.flat = true) → D.flats xs = true
  | [], _ => rfl
  | x :: r, h => by
    rw [fls_c, h x List.mem_cons_self, flats_of fun y hy => h y (List.mem_cons_of_mem _ hy)]
    rfl
theorem filterMap_some {α β : Type} (f : α → β) : ∀ l : List α, l.filterMap (fun x => some (f x)) = l.map f
  | [] => rfl
  | a :: r => by
    rw [List.map_cons, ← filterMap_some f r]
    rfl
/-- a comprehension without conditions over texts' signs -/
theorem comL_chars {x : List Nat} {step : D → R (Option D)} (f : Nat → Option D) (hl : x.length ≤ line) (h : ∀ c ∈ x, step (.str [c]) = .ok (f c)) : comL (some (chars x)) step = .ok (.lst (x.filterMap f)) := by
  have := comL_eq (xs := chars x) (step := step) (fun d => match d with | .str [c] => f c | _ => none) (by rw [chars_len]; exact hl) (fun d hd => by
    obtain ⟨c, hc, rfl⟩ := mem_chars hd
    exact h c hc)
  rw [this]
  congr 2
  unfold chars
  rw [List.filterMap_map]
  rfl
theorem comL_map {α : Type} {xs : List α} {g : α → D} {step : D → R (Option D)} (f : α → Option D) (hl : xs.length ≤ line) (h : ∀ a ∈ xs, step (g a) = .ok (f a)) : comL (some (xs.map g)) step = .ok (.lst (xs.filterMap f)) := by
  have : compL step (xs.map g) = .ok (xs.filterMap f) := by
    clear hl
    induction xs with
    | nil => rfl
    | cons a r ih =>
      have h1 := h a List.mem_cons_self
      have h2 := ih fun x hx => h x (List.mem_cons_of_mem _ hx)
      rw [List.map_cons]
      cases q : f a with
      | none =>
        rw [List.filterMap_cons_none q]
        simp only [compL, h1, q, h2]
      | some y =>
        rw [List.filterMap_cons_some q]
        simp only [compL, h1, q, h2]
  unfold comL
  simp only [List.length_map, if_pos hl, this, rb_ok]
theorem line_ge : 1000 ≤ line := by decide
section
variable {F : Str → Option Fn} {k : Nat}
theorem s_is_int (ho : owF F = noOw) (h : Has F "is_int" f_is_int) (v a b : Int) : callF F (k + 1) "is_int" [.int v, .int a, .int b] = .ok (.bl (decide (a ≤ v ∧ v ≤ b))) := by
  rw [callF_run ho h rfl]
  simp only [f_is_int, rb_ok, rb_ex, rb_no, ro_ok, ro_ex, ro_no, ob_nx, ob_rt, ob_ex, ob_no, fin_rt, fin_nx, fin_ex, gv0, gvS, ev_var, rd_f, rd_t, ev_cst, ev_bin, ev_neg, ev_cmp, ev_chain, ev_and, ev_or, ev_not, ev_ite, ev_tup, ev_lst, ev_dct, ev_ix, ev_slice, ev_call, ev_bi, ev_meth, ev_comp, evs_nil, evs_cons, evp_nil, evp_cons, evo_none, evo_some, conds_nil, conds_cons, asBb, asI_int, blk_nil, blk_cons, ex_fz, ex_set, ex_unp, bdO_nil, bdO_cons, ex_mul, storeP_nil, storeP_cons, ex_put, ex_app, ex_exp, ex_ret, ex_raise, ex_ite, ex_for, forO_some, sv0, svS, fz_nil, fz_cons, fzAt0, fzAtS, fz1_s, fz1_n, wipe_nil, wipe_cons, wkS, wk_lst, wkT, wk_dic, wk_enumS, wk_enumT, wk_enumL, wk_zipS, List.set_cons_zero, List.set_cons_succ, initEnv, List.map_cons, List.map_nil, List.length_cons, List.length_nil, List.replicate, List.cons_append, List.nil_append, Nat.reduceAdd, Nat.reduceSub, Nat.add_zero, Nat.zero_add, Bool.false_eq_true, if_true, if_false, ite_true, ite_false, List.zip_cons_cons, List.zip_nil_left, c_eq, c_ne, c_in, c_nin, c_le, c_gt, c_ge, c_lt, c_isN, c_nisN, c_isB, c_nisB, isNon_n, isNon_b, isNon_i, isNon_s, isNon_t, isNon_l, eqD_ss, eqD_ii, eqD_bb, inD_s, b_add, b_sub, neg_i, bi_isiS, bi_isiI, fl_i, fl_s, fl_t, fl_l, fls_n, fls_c, ty_ii, ty_bi, ty_ss, ty_tt, bi_lenS, bi_lenT, bi_lenL, bi_lenD, bi_tupL, bi_intI, ix_t0, ix_t1, ix_l0, ix_l1, ix_t3, sl_t3, sl_t2, sl_s1, Bool.not_true, Bool.not_false, Bool.and_true, Bool.true_and, Bool.and_self, decide_true, decide_false, turn_nm, turn_tp, rdI, rdS, rdB, rdN, rdT]
  by_cases h1 : a ≤ v <;> by_cases h2 : v ≤ b <;> simp [h1, h2, rb_ok, rb_ex, rb_no, ro_ok, ro_ex, ro_no, ob_nx, ob_rt, ob_ex, ob_no, fin_rt, fin_nx, fin_ex, gv0, gvS, ev_var, rd_f, rd_t, ev_cst, ev_bin, ev_neg, ev_cmp, ev_chain, ev_and, ev_or, ev_not, ev_ite, ev_tup, ev_lst, ev_dct, ev_ix, ev_slice, ev_call, ev_bi, ev_meth, ev_comp, evs_nil, evs_cons, evp_nil, evp_cons, evo_none, evo_some, conds_nil, conds_cons, asBb, asI_int, blk_nil, blk_cons, ex_fz, ex_set, ex_unp, bdO_nil, bdO_cons, ex_mul, storeP_nil, storeP_cons, ex_put, ex_app, ex_exp, ex_ret, ex_raise, ex_ite, ex_for, forO_some, sv0, svS, fz_nil, fz_cons, fzAt0, fzAtS, fz1_s, fz1_n, wipe_nil, wipe_cons, wkS, wk_lst, wkT, wk_dic, wk_enumS, wk_enumT, wk_enumL, wk_zipS, List.set_cons_zero, List.set_cons_succ, initEnv, List.map_cons, List.map_nil, List.length_cons, List.length_nil, List.replicate, List.cons_append, List.nil_append, Nat.reduceAdd, Nat.reduceSub, Nat.add_zero, Nat.zero_add, Bool.false_eq_true, if_true, if_false, ite_true, ite_false, List.zip_cons_cons, List.zip_nil_left, c_eq, c_ne, c_in, c_nin, c_le, c_gt, c_ge, c_lt, c_isN, c_nisN, c_isB, c_nisB, isNon_n, isNon_b, isNon_i, isNon_s, isNon_t, isNon_l, eqD_ss, eqD_ii, eqD_bb, inD_s, b_add, b_sub, neg_i, bi_isiS, bi_isiI, fl_i, fl_s, fl_t, fl_l, fls_n, fls_c, ty_ii, ty_bi, ty_ss, ty_tt, bi_lenS, bi_lenT, bi_lenL, bi_lenD, bi_tupL, bi_intI, ix_t0, ix_t1, ix_l0, ix_l1, ix_t3, sl_t3, sl_t2, sl_s1, Bool.not_true, Bool.not_false, Bool.and_true, Bool.true_and, Bool.and_self, decide_true, decide_false, turn_nm, turn_tp, rdI, rdS, rdB, rdN, rdT]
theorem s_has_zones (ho : owF F = noOw) (h : Has F "has_zones" f_has_zones) {zs z : List Nat} (hz : Zs z) (hs : ∀ c ∈ z, c ∈ zs) : callF F (k + 1) "has_zones" [.str zs, .str z] = .ok (.bl true) := by
  have e1 : inD (.str z) (.tup [.str [97], .str [98], .str [97, 98]]) = .ok true := by
    rw [inD_t rfl]
    rcases hz with rfl | rfl | rfl <;> rfl
  have lz : z.length ≤ line := by rcases hz with rfl | rfl | rfl <;> decide
  rw [callF_run ho h rfl]
  simp only [f_has_zones, rb_ok, rb_ex, rb_no, ro_ok, ro_ex, ro_no, ob_nx, ob_rt, ob_ex, ob_no, fin_rt, fin_nx, fin_ex, gv0, gvS, ev_var, rd_f, rd_t, ev_cst, ev_bin, ev_neg, ev_cmp, ev_chain, ev_and, ev_or, ev_not, ev_ite, ev_tup, ev_lst, ev_dct, ev_ix, ev_slice, ev_call, ev_bi, ev_meth, ev_comp, evs_nil, evs_cons, evp_nil, evp_cons, evo_none, evo_some, conds_nil, conds_cons, asBb, asI_int, blk_nil, blk_cons, ex_fz, ex_set, ex_unp, bdO_nil, bdO_cons, ex_mul, storeP_nil, storeP_cons, ex_put, ex_app, ex_exp, ex_ret, ex_raise, ex_ite, ex_for, forO_some, sv0, svS, fz_nil, fz_cons, fzAt0, fzAtS, fz1_s, fz1_n, wipe_nil, wipe_cons, wkS, wk_lst, wkT, wk_dic, wk_enumS, wk_enumT, wk_enumL, wk_zipS, List.set_cons_zero, List.set_cons_succ, initEnv, List.map_cons, List.map_nil, List.length_cons, List.length_nil, List.replicate, List.cons_append, List.nil_append, Nat.reduceAdd, Nat.reduceSub, Nat.add_zero, Nat.zero_add, Bool.false_eq_true, if_true, if_false, ite_true, ite_false, List.zip_cons_cons, List.zip_nil_left, c_eq, c_ne, c_in, c_nin, c_le, c_gt, c_ge, c_lt, c_isN, c_nisN, c_isB, c_nisB, isNon_n, isNon_b, isNon_i, isNon_s, isNon_t, isNon_l, eqD_ss, eqD_ii, eqD_bb, inD_s, b_add, b_sub, neg_i, bi_isiS, bi_isiI, fl_i, fl_s, fl_t, fl_l, fls_n, fls_c, ty_ii, ty_bi, ty_ss, ty_tt, bi_lenS, bi_lenT, bi_lenL, bi_lenD, bi_tupL, bi_intI, ix_t0, ix_t1, ix_l0, ix_l1, ix_t3, sl_t3, sl_t2, sl_s1, Bool.not_true, Bool.not_false, Bool.and_true, Bool.true_and, Bool.and_self, decide_true, decide_false, turn_nm, turn_tp, rdI, rdS, rdB, rdN, rdT]
  rw [comL_chars (fun c => some (.bl (zs.contains c))) lz (fun c hc => by simp only [rb_ok, rb_ex, rb_no, ro_ok, ro_ex, ro_no, ob_nx, ob_rt, ob_ex, ob_no, fin_rt, fin_nx, fin_ex, gv0, gvS, ev_var, rd_f, rd_t, ev_cst, ev_bin, ev_neg, ev_cmp, ev_chain, ev_and, ev_or, ev_not, ev_ite, ev_tup, ev_lst, ev_dct, ev_ix, ev_slice, ev_call, ev_bi, ev_meth, ev_comp, evs_nil, evs_cons, evp_nil, evp_cons, evo_none, evo_some, conds_nil, conds_cons, asBb, asI_int, blk_nil, blk_cons, ex_fz, ex_set, ex_unp, bdO_nil, bdO_cons, ex_mul, storeP_nil, storeP_cons, ex_put, ex_app, ex_exp, ex_ret, ex_raise, ex_ite, ex_for, forO_some, sv0, svS, fz_nil, fz_cons, fzAt0, fzAtS, fz1_s, fz1_n, wipe_nil, wipe_cons, wkS, wk_lst, wkT, wk_dic, wk_enumS, wk_enumT, wk_enumL, wk_zipS, List.set_cons_zero, List.set_cons_succ, initEnv, List.map_cons, List.map_nil, List.length_cons, List.length_nil, List.replicate, List.cons_append, List.nil_append, Nat.reduceAdd, Nat.reduceSub, Nat.add_zero, Nat.zero_add, Bool.false_eq_true, if_true, if_false, ite_true, ite_false, List.zip_cons_cons, List.zip_nil_left, c_eq, c_ne, c_in, c_nin, c_le, c_gt, c_ge, c_lt, c_isN, c_nisN, c_isB, c_nisB, isNon_n, isNon_b, isNon_i, isNon_s, isNon_t, isNon_l, eqD_ss, eqD_ii, eqD_bb, inD_s, b_add, b_sub, neg_i, bi_isiS, bi_isiI, fl_i, fl_s, fl_t, fl_l, fls_n, fls_c, ty_ii, ty_bi, ty_ss, ty_tt, bi_lenS, bi_lenT, bi_lenL, bi_lenD, bi_tupL, bi_intI, ix_t0, ix_t1, ix_l0, ix_l1, ix_t3, sl_t3, sl_t2, sl_s1, Bool.not_true, Bool.not_false, Bool.and_true, Bool.true_and, Bool.and_self, decide_true, decide_false, turn_nm, turn_tp, rdI, rdS, rdB, rdN, rdT])]
  rw [filterMap_some (fun c => D.bl (zs.contains c))]
  simp only [rb_ok, rb_ex, rb_no, ro_ok, ro_ex, ro_no, ob_nx, ob_rt, ob_ex, ob_no, fin_rt, fin_nx, fin_ex, gv0, gvS, ev_var, rd_f, rd_t, ev_cst, ev_bin, ev_neg, ev_cmp, ev_chain, ev_and, ev_or, ev_not, ev_ite, ev_tup, ev_lst, ev_dct, ev_ix, ev_slice, ev_call, ev_bi, ev_meth, ev_comp, evs_nil, evs_cons, evp_nil, evp_cons, evo_none, evo_some, conds_nil, conds_cons, asBb, asI_int, blk_nil, blk_cons, ex_fz, ex_set, ex_unp, bdO_nil, bdO_cons, ex_mul, storeP_nil, storeP_cons, ex_put, ex_app, ex_exp, ex_ret, ex_raise, ex_ite, ex_for, forO_some, sv0, svS, fz_nil, fz_cons, fzAt0, fzAtS, fz1_s, fz1_n, wipe_nil, wipe_cons, wkS, wk_lst, wkT, wk_dic, wk_enumS, wk_enumT, wk_enumL, wk_zipS, List.set_cons_zero, List.set_cons_succ, initEnv, List.map_cons, List.map_nil, List.length_cons, List.length_nil, List.replicate, List.cons_append, List.nil_append, Nat.reduceAdd, Nat.reduceSub, Nat.add_zero, Nat.zero_add, Bool.false_eq_true, if_true, if_false, ite_true, ite_false, List.zip_cons_cons, List.zip_nil_left, c_eq, c_ne, c_in, c_nin, c_le, c_gt, c_ge, c_lt, c_isN, c_nisN, c_isB, c_nisB, isNon_n, isNon_b, isNon_i, isNon_s, isNon_t, isNon_l, eqD_ss, eqD_ii, eqD_bb, inD_s, b_add, b_sub, neg_i, bi_isiS, bi_isiI, fl_i, fl_s, fl_t, fl_l, fls_n, fls_c, ty_ii, ty_bi, ty_ss, ty_tt, bi_lenS, bi_lenT, bi_lenL, bi_lenD, bi_tupL, bi_intI, ix_t0, ix_t1, ix_l0, ix_l1, ix_t3, sl_t3, sl_t2, sl_s1, Bool.not_true, Bool.not_false, Bool.and_true, Bool.true_and, Bool.and_self, decide_true, decide_false, turn_nm, turn_tp, rdI, rdS, rdB, rdN, rdT, e1]
  have : z.map (fun c => D.bl (zs.contains c)) = (z.map fun c => zs.contains c).map D.bl := by simp
  rw [this, bi_all]
  have : (z.map fun c => zs.contains c).all id = true := by simpa using hs
  simp only [this, rb_ok, rb_ex, rb_no, ro_ok, ro_ex, ro_no, ob_nx, ob_rt, ob_ex, ob_no, fin_rt, fin_nx, fin_ex, gv0, gvS, ev_var, rd_f, rd_t, ev_cst, ev_bin, ev_neg, ev_cmp, ev_chain, ev_and, ev_or, ev_not, ev_ite, ev_tup, ev_lst, ev_dct, ev_ix, ev_slice, ev_call, ev_bi, ev_meth, ev_comp, evs_nil, evs_cons, evp_nil, evp_cons, evo_none, evo_some, conds_nil, conds_cons, asBb, asI_int, blk_nil, blk_cons, ex_fz, ex_set, ex_unp, bdO_nil, bdO_cons, ex_mul, storeP_nil, storeP_cons, ex_put, ex_app, ex_exp, ex_ret, ex_raise, ex_ite, ex_for, forO_some, sv0, svS, fz_nil, fz_cons, fzAt0, fzAtS, fz1_s, fz1_n, wipe_nil, wipe_cons, wkS, wk_lst, wkT, wk_dic, wk_enumS, wk_enumT, wk_enumL, wk_zipS, List.set_cons_zero, List.set_cons_succ, initEnv, List.map_cons, List.map_nil, List.length_cons, List.length_nil, List.replicate, List.cons_append, List.nil_append, Nat.reduceAdd, Nat.reduceSub, Nat.add_zero, Nat.zero_add, Bool.false_eq_true, if_true, if_false, ite_true, ite_false, List.zip_cons_cons, List.zip_nil_left, c_eq, c_ne, c_in, c_nin, c_le, c_gt, c_ge, c_lt, c_isN, c_nisN, c_isB, c_nisB, isNon_n, isNon_b, isNon_i, isNon_s, isNon_t, isNon_l, eqD_ss, eqD_ii, eqD_bb, inD_s, b_add, b_sub, neg_i, bi_isiS, bi_isiI, fl_i, fl_s, fl_t, fl_l, fls_n, fls_c, ty_ii, ty_bi, ty_ss, ty_tt, bi_lenS, bi_lenT, bi_lenL, bi_lenD, bi_tupL, bi_intI, ix_t0, ix_t1, ix_l0, ix_l1, ix_t3, sl_t3, sl_t2, sl_s1, Bool.not_true, Bool.not_false, Bool.and_true, Bool.true_and, Bool.and_self, decide_true, decide_false, turn_nm, turn_tp, rdI, rdS, rdB, rdN, rdT]
theorem s_has_numbers (ho : owF F = noOw) (h : Has F "has_numbers" f_has_numbers) (h1 : Has F "is_int" f_is_int) : ∀ l : Lim, l.nums → ∃ kd z rest, l.d = .tup (.str kd :: .str z :: rest) ∧ z = l.z ∧ callF F (k + 2) "has_numbers" [.str kd, .tup rest] = .ok (.bl true)
  | .most z c n, hn => ⟨_, _, _, rfl, rfl, by
    obtain ⟨a, b, d⟩ := hn
    rw [callF_run ho h rfl]
    simp only [f_has_numbers, rb_ok, rb_ex, rb_no, ro_ok, ro_ex, ro_no, ob_nx, ob_rt, ob_ex, ob_no, fin_rt, fin_nx, fin_ex, gv0, gvS, ev_var, rd_f, rd_t, ev_cst, ev_bin, ev_neg, ev_cmp, ev_chain, ev_and, ev_or, ev_not, ev_ite, ev_tup, ev_lst, ev_dct, ev_ix, ev_slice, ev_call, ev_bi, ev_meth, ev_comp, evs_nil, evs_cons, evp_nil, evp_cons, evo_none, evo_some, conds_nil, conds_cons, asBb, asI_int, blk_nil, blk_cons, ex_fz, ex_set, ex_unp, bdO_nil, bdO_cons, ex_mul, storeP_nil, storeP_cons, ex_put, ex_app, ex_exp, ex_ret, ex_raise, ex_ite, ex_for, forO_some, sv0, svS, fz_nil, fz_cons, fzAt0, fzAtS, fz1_s, fz1_n, wipe_nil, wipe_cons, wkS, wk_lst, wkT, wk_dic, wk_enumS, wk_enumT, wk_enumL, wk_zipS, List.set_cons_zero, List.set_cons_succ, initEnv, List.map_cons, List.map_nil, List.length_cons, List.length_nil, List.replicate, List.cons_append, List.nil_append, Nat.reduceAdd, Nat.reduceSub, Nat.add_zero, Nat.zero_add, Bool.false_eq_true, if_true, if_false, ite_true, ite_false, List.zip_cons_cons, List.zip_nil_left, c_eq, c_ne, c_in, c_nin, c_le, c_gt, c_ge, c_lt, c_isN, c_nisN, c_isB, c_nisB, isNon_n, isNon_b, isNon_i, isNon_s, isNon_t, isNon_l, eqD_ss, eqD_ii, eqD_bb, inD_s, b_add, b_sub, neg_i, bi_isiS, bi_isiI, fl_i, fl_s, fl_t, fl_l, fls_n, fls_c, ty_ii, ty_bi, ty_ss, ty_tt, bi_lenS, bi_lenT, bi_lenL, bi_lenD, bi_tupL, bi_intI, ix_t0, ix_t1, ix_l0, ix_l1, ix_t3, sl_t3, sl_t2, sl_s1, Bool.not_true, Bool.not_false, Bool.and_true, Bool.true_and, Bool.and_self, decide_true, decide_false, turn_nm, turn_tp, rdI, rdS, rdB, rdN, rdT, s_is_int ho h1]
    simp (disch := omega) [rb_ok, rb_ex, rb_no, ro_ok, ro_ex, ro_no, ob_nx, ob_rt, ob_ex, ob_no, fin_rt, fin_nx, fin_ex, gv0, gvS, ev_var, rd_f, rd_t, ev_cst, ev_bin, ev_neg, ev_cmp, ev_chain, ev_and, ev_or, ev_not, ev_ite, ev_tup, ev_lst, ev_dct, ev_ix, ev_slice, ev_call, ev_bi, ev_meth, ev_comp, evs_nil, evs_cons, evp_nil, evp_cons, evo_none, evo_some, conds_nil, conds_cons, asBb, asI_int, blk_nil, blk_cons, ex_fz, ex_set, ex_unp, bdO_nil, bdO_cons, ex_mul, storeP_nil, storeP_cons, ex_put, ex_app, ex_exp, ex_ret, ex_raise, ex_ite, ex_for, forO_some, sv0, svS, fz_nil, fz_cons, fzAt0, fzAtS, fz1_s, fz1_n, wipe_nil, wipe_cons, wkS, wk_lst, wkT, wk_dic, wk_enumS, wk_enumT, wk_enumL, wk_zipS, List.set_cons_zero, List.set_cons_succ, initEnv, List.map_cons, List.map_nil, List.length_cons, List.length_nil, List.replicate, List.cons_append, List.nil_append, Nat.reduceAdd, Nat.reduceSub, Nat.add_zero, Nat.zero_add, Bool.false_eq_true, if_true, if_false, ite_true, ite_false, List.zip_cons_cons, List.zip_nil_left, c_eq, c_ne, c_in, c_nin, c_le, c_gt, c_ge, c_lt, c_isN, c_nisN, c_isB, c_nisB, isNon_n, isNon_b, isNon_i, isNon_s, isNon_t, isNon_l, eqD_ss, eqD_ii, eqD_bb, inD_s, b_add, b_sub, neg_i, bi_isiS, bi_isiI, fl_i, fl_s, fl_t, fl_l, fls_n, fls_c, ty_ii, ty_bi, ty_ss, ty_tt, bi_lenS, bi_lenT, bi_lenL, bi_lenD, bi_tupL, bi_intI, ix_t0, ix_t1, ix_l0, ix_l1, ix_t3, sl_t3, sl_t2, sl_s1, Bool.not_true, Bool.not_false, Bool.and_true, Bool.true_and, Bool.and_self, decide_true, decide_false, turn_nm, turn_tp, rdI, rdS, rdB, rdN, rdT]
    have e1 : (0 : Int) ≤ c ∧ (c : Int) ≤ 6 := by omega
    have e2 : (1 : Int) ≤ n ∧ (n : Int) ≤ 6 := by omega
    simp [e1, e2, rb_ok, rb_ex, rb_no, ro_ok, ro_ex, ro_no, ob_nx, ob_rt, ob_ex, ob_no, fin_rt, fin_nx, fin_ex, gv0, gvS, ev_var, rd_f, rd_t, ev_cst, ev_bin, ev_neg, ev_cmp, ev_chain, ev_and, ev_or, ev_not, ev_ite, ev_tup, ev_lst, ev_dct, ev_ix, ev_slice, ev_call, ev_bi, ev_meth, ev_comp, evs_nil, evs_cons, evp_nil, evp_cons, evo_none, evo_some, conds_nil, conds_cons, asBb, asI_int, blk_nil, blk_cons, ex_fz, ex_set, ex_unp, bdO_nil, bdO_cons, ex_mul, storeP_nil, storeP_cons, ex_put, ex_app, ex_exp, ex_ret, ex_raise, ex_ite, ex_for, forO_some, sv0, svS, fz_nil, fz_cons, fzAt0, fzAtS, fz1_s, fz1_n, wipe_nil, wipe_cons, wkS, wk_lst, wkT, wk_dic, wk_enumS, wk_enumT, wk_enumL, wk_zipS, List.set_cons_zero, List.set_cons_succ, initEnv, List.map_cons, List.map_nil, List.length_cons, List.length_nil, List.replicate, List.cons_append, List.nil_append, Nat.reduceAdd, Nat.reduceSub, Nat.add_zero, Nat.zero_add, Bool.false_eq_true, if_true, if_false, ite_true, ite_false, List.zip_cons_cons, List.zip_nil_left, c_eq, c_ne, c_in, c_nin, c_le, c_gt, c_ge, c_lt, c_isN, c_nisN, c_isB, c_nisB, isNon_n, isNon_b, isNon_i, isNon_s, isNon_t, isNon_l, eqD_ss, eqD_ii, eqD_bb, inD_s, b_add, b_sub, neg_i, bi_isiS, bi_isiI, fl_i, fl_s, fl_t, fl_l, fls_n, fls_c, ty_ii, ty_bi, ty_ss, ty_tt, bi_lenS, bi_lenT, bi_lenL, bi_lenD, bi_tupL, bi_intI, ix_t0, ix_t1, ix_l0, ix_l1, ix_t3, sl_t3, sl_t2, sl_s1, Bool.not_true, Bool.not_false, Bool.and_true, Bool.true_and, Bool.and_self, decide_true, decide_false, turn_nm, turn_tp, rdI, rdS, rdB, rdN, rdT]⟩
  | .starts z c n, hn => ⟨_, _, _, rfl, rfl, by
    obtain ⟨a, b, d⟩ := hn
    rw [callF_run ho h rfl]
    simp only [f_has_numbers, rb_ok, rb_ex, rb_no, ro_ok, ro_ex, ro_no, ob_nx, ob_rt, ob_ex, ob_no, fin_rt, fin_nx, fin_ex, gv0, gvS, ev_var, rd_f, rd_t, ev_cst, ev_bin, ev_neg, ev_cmp, ev_chain, ev_and, ev_or, ev_not, ev_ite, ev_tup, ev_lst, ev_dct, ev_ix, ev_slice, ev_call, ev_bi, ev_meth, ev_comp, evs_nil, evs_cons, evp_nil, evp_cons, evo_none, evo_some, conds_nil, conds_cons, asBb, asI_int, blk_nil, blk_cons, ex_fz, ex_set, ex_unp, bdO_nil, bdO_cons, ex_mul, storeP_nil, storeP_cons, ex_put, ex_app, ex_exp, ex_ret, ex_raise, ex_ite, ex_for, forO_some, sv0, svS, fz_nil, fz_cons, fzAt0, fzAtS, fz1_s, fz1_n, wipe_nil, wipe_cons, wkS, wk_lst, wkT, wk_dic, wk_enumS, wk_enumT, wk_enumL, wk_zipS, List.set_cons_zero, List.set_cons_succ, initEnv, List.map_cons, List.map_nil, List.length_cons, List.length_nil, List.replicate, List.cons_append, List.nil_append, Nat.reduceAdd, Nat.reduceSub, Nat.add_zero, Nat.zero_add, Bool.false_eq_true, if_true, if_false, ite_true, ite_false, List.zip_cons_cons, List.zip_nil_left, c_eq, c_ne, c_in, c_nin, c_le, c_gt, c_ge, c_lt, c_isN, c_nisN, c_isB, c_nisB, isNon_n, isNon_b, isNon_i, isNon_s, isNon_t, isNon_l, eqD_ss, eqD_ii, eqD_bb, inD_s, b_add, b_sub, neg_i, bi_isiS, bi_isiI, fl_i, fl_s, fl_t, fl_l, fls_n, fls_c, ty_ii, ty_bi, ty_ss, ty_tt, bi_lenS, bi_lenT, bi_lenL, bi_lenD, bi_tupL, bi_intI, ix_t0, ix_t1, ix_l0, ix_l1, ix_t3, sl_t3, sl_t2, sl_s1, Bool.not_true, Bool.not_false, Bool.and_true, Bool.true_and, Bool.and_self, decide_true, decide_false, turn_nm, turn_tp, rdI, rdS, rdB, rdN, rdT, s_is_int ho h1]
    have e1 : (0 : Int) ≤ c ∧ (c : Int) ≤ 5 := by omega
    have e2 : (1 : Int) ≤ n ∧ (n : Int) ≤ 5 := by omega
    simp [e1, e2, rb_ok, rb_ex, rb_no, ro_ok, ro_ex, ro_no, ob_nx, ob_rt, ob_ex, ob_no, fin_rt, fin_nx, fin_ex, gv0, gvS, ev_var, rd_f, rd_t, ev_cst, ev_bin, ev_neg, ev_cmp, ev_chain, ev_and, ev_or, ev_not, ev_ite, ev_tup, ev_lst, ev_dct, ev_ix, ev_slice, ev_call, ev_bi, ev_meth, ev_comp, evs_nil, evs_cons, evp_nil, evp_cons, evo_none, evo_some, conds_nil, conds_cons, asBb, asI_int, blk_nil, blk_cons, ex_fz, ex_set, ex_unp, bdO_nil, bdO_cons, ex_mul, storeP_nil, storeP_cons, ex_put, ex_app, ex_exp, ex_ret, ex_raise, ex_ite, ex_for, forO_some, sv0, svS, fz_nil, fz_cons, fzAt0, fzAtS, fz1_s, fz1_n, wipe_nil, wipe_cons, wkS, wk_lst, wkT, wk_dic, wk_enumS, wk_enumT, wk_enumL, wk_zipS, List.set_cons_zero, List.set_cons_succ, initEnv, List.map_cons, List.map_nil, List.length_cons, List.length_nil, List.replicate, List.cons_append, List.nil_append, Nat.reduceAdd, Nat.reduceSub, Nat.add_zero, Nat.zero_add, Bool.false_eq_true, if_true, if_false, ite_true, ite_false, List.zip_cons_cons, List.zip_nil_left, c_eq, c_ne, c_in, c_nin, c_le, c_gt, c_ge, c_lt, c_isN, c_nisN, c_isB, c_nisB, isNon_n, isNon_b, isNon_i, isNon_s, isNon_t, isNon_l, eqD_ss, eqD_ii, eqD_bb, inD_s, b_add, b_sub, neg_i, bi_isiS, bi_isiI, fl_i, fl_s, fl_t, fl_l, fls_n, fls_c, ty_ii, ty_bi, ty_ss, ty_tt, bi_lenS, bi_lenT, bi_lenL, bi_lenD, bi_tupL, bi_intI, ix_t0, ix_t1, ix_l0, ix_l1, ix_t3, sl_t3, sl_t2, sl_s1, Bool.not_true, Bool.not_false, Bool.and_true, Bool.true_and, Bool.and_self, decide_true, decide_false, turn_nm, turn_tp, rdI, rdS, rdB, rdN, rdT, s_is_int ho h1]⟩
  | .row z c, hn => ⟨_, _, _, rfl, rfl, by
    have a : c ≤ 5 := hn
    rw [callF_run ho h rfl]
    simp only [f_has_numbers, rb_ok, rb_ex, rb_no, ro_ok, ro_ex, ro_no, ob_nx, ob_rt, ob_ex, ob_no, fin_rt, fin_nx, fin_ex, gv0, gvS, ev_var, rd_f, rd_t, ev_cst, ev_bin, ev_neg, ev_cmp, ev_chain, ev_and, ev_or, ev_not, ev_ite, ev_tup, ev_lst, ev_dct, ev_ix, ev_slice, ev_call, ev_bi, ev_meth, ev_comp, evs_nil, evs_cons, evp_nil, evp_cons, evo_none, evo_some, conds_nil, conds_cons, asBb, asI_int, blk_nil, blk_cons, ex_fz, ex_set, ex_unp, bdO_nil, bdO_cons, ex_mul, storeP_nil, storeP_cons, ex_put, ex_app, ex_exp, ex_ret, ex_raise, ex_ite, ex_for, forO_some, sv0, svS, fz_nil, fz_cons, fzAt0, fzAtS, fz1_s, fz1_n, wipe_nil, wipe_cons, wkS, wk_lst, wkT, wk_dic, wk_enumS, wk_enumT, wk_enumL, wk_zipS, List.set_cons_zero, List.set_cons_succ, initEnv, List.map_cons, List.map_nil, List.length_cons, List.length_nil, List.replicate, List.cons_append, List.nil_append, Nat.reduceAdd, Nat.reduceSub, Nat.add_zero, Nat.zero_add, Bool.false_eq_true, if_true, if_false, ite_true, ite_false, List.zip_cons_cons, List.zip_nil_left, c_eq, c_ne, c_in, c_nin, c_le, c_gt, c_ge, c_lt, c_isN, c_nisN, c_isB, c_nisB, isNon_n, isNon_b, isNon_i, isNon_s, isNon_t, isNon_l, eqD_ss, eqD_ii, eqD_bb, inD_s, b_add, b_sub, neg_i, bi_isiS, bi_isiI, fl_i, fl_s, fl_t, fl_l, fls_n, fls_c, ty_ii, ty_bi, ty_ss, ty_tt, bi_lenS, bi_lenT, bi_lenL, bi_lenD, bi_tupL, bi_intI, ix_t0, ix_t1, ix_l0, ix_l1, ix_t3, sl_t3, sl_t2, sl_s1, Bool.not_true, Bool.not_false, Bool.and_true, Bool.true_and, Bool.and_self, decide_true, decide_false, turn_nm, turn_tp, rdI, rdS, rdB, rdN, rdT, s_is_int ho h1]
    have e1 : (0 : Int) ≤ c ∧ (c : Int) ≤ 5 := by omega
    simp [e1, rb_ok, rb_ex, rb_no, ro_ok, ro_ex, ro_no, ob_nx, ob_rt, ob_ex, ob_no, fin_rt, fin_nx, fin_ex, gv0, gvS, ev_var, rd_f, rd_t, ev_cst, ev_bin, ev_neg, ev_cmp, ev_chain, ev_and, ev_or, ev_not, ev_ite, ev_tup, ev_lst, ev_dct, ev_ix, ev_slice, ev_call, ev_bi, ev_meth, ev_comp, evs_nil, evs_cons, evp_nil, evp_cons, evo_none, evo_some, conds_nil, conds_cons, asBb, asI_int, blk_nil, blk_cons, ex_fz, ex_set, ex_unp, bdO_nil, bdO_cons, ex_mul, storeP_nil, storeP_cons, ex_put, ex_app, ex_exp, ex_ret, ex_raise, ex_ite, ex_for, forO_some, sv0, svS, fz_nil, fz_cons, fzAt0, fzAtS, fz1_s, fz1_n, wipe_nil, wipe_cons, wkS, wk_lst, wkT, wk_dic, wk_enumS, wk_enumT, wk_enumL, wk_zipS, List.set_cons_zero, List.set_cons_succ, initEnv, List.map_cons, List.map_nil, List.length_cons, List.length_nil, List.replicate, List.cons_append, List.nil_append, Nat.reduceAdd, Nat.reduceSub, Nat.add_zero, Nat.zero_add, Bool.false_eq_true, if_true, if_false, ite_true, ite_false, List.zip_cons_cons, List.zip_nil_left, c_eq, c_ne, c_in, c_nin, c_le, c_gt, c_ge, c_lt, c_isN, c_nisN, c_isB, c_nisB, isNon_n, isNon_b, isNon_i, isNon_s, isNon_t, isNon_l, eqD_ss, eqD_ii, eqD_bb, inD_s, b_add, b_sub, neg_i, bi_isiS, bi_isiI, fl_i, fl_s, fl_t, fl_l, fls_n, fls_c, ty_ii, ty_bi, ty_ss, ty_tt, bi_lenS, bi_lenT, bi_lenL, bi_lenD, bi_tupL, bi_intI, ix_t0, ix_t1, ix_l0, ix_l1, ix_t3, sl_t3, sl_t2, sl_s1, Bool.not_true, Bool.not_false, Bool.and_true, Bool.true_and, Bool.and_self, decide_true, decide_false, turn_nm, turn_tp, rdI, rdS, rdB, rdN, rdT, s_is_int ho h1]⟩
  | .gap z c, hn => ⟨_, _, _, rfl, rfl, by
    obtain ⟨a, b⟩ := hn
    rw [callF_run ho h rfl]
    simp only [f_has_numbers, rb_ok, rb_ex, rb_no, ro_ok, ro_ex, ro_no, ob_nx, ob_rt, ob_ex, ob_no, fin_rt, fin_nx, fin_ex, gv0, gvS, ev_var, rd_f, rd_t, ev_cst, ev_bin, ev_neg, ev_cmp, ev_chain, ev_and, ev_or, ev_not, ev_ite, ev_tup, ev_lst, ev_dct, ev_ix, ev_slice, ev_call, ev_bi, ev_meth, ev_comp, evs_nil, evs_cons, evp_nil, evp_cons, evo_none, evo_some, conds_nil, conds_cons, asBb, asI_int, blk_nil, blk_cons, ex_fz, ex_set, ex_unp, bdO_nil, bdO_cons, ex_mul, storeP_nil, storeP_cons, ex_put, ex_app, ex_exp, ex_ret, ex_raise, ex_ite, ex_for, forO_some, sv0, svS, fz_nil, fz_cons, fzAt0, fzAtS, fz1_s, fz1_n, wipe_nil, wipe_cons, wkS, wk_lst, wkT, wk_dic, wk_enumS, wk_enumT, wk_enumL, wk_zipS, List.set_cons_zero, List.set_cons_succ, initEnv, List.map_cons, List.map_nil, List.length_cons, List.length_nil, List.replicate, List.cons_append, List.nil_append, Nat.reduceAdd, Nat.reduceSub, Nat.add_zero, Nat.zero_add, Bool.false_eq_true, if_true, if_false, ite_true, ite_false, List.zip_cons_cons, List.zip_nil_left, c_eq, c_ne, c_in, c_nin, c_le, c_gt, c_ge, c_lt, c_isN, c_nisN, c_isB, c_nisB, isNon_n, isNon_b, isNon_i, isNon_s, isNon_t, isNon_l, eqD_ss, eqD_ii, eqD_bb, inD_s, b_add, b_sub, neg_i, bi_isiS, bi_isiI, fl_i, fl_s, fl_t, fl_l, fls_n, fls_c, ty_ii, ty_bi, ty_ss, ty_tt, bi_lenS, bi_lenT, bi_lenL, bi_lenD, bi_tupL, bi_intI, ix_t0, ix_t1, ix_l0, ix_l1, ix_t3, sl_t3, sl_t2, sl_s1, Bool.not_true, Bool.not_false, Bool.and_true, Bool.true_and, Bool.and_self, decide_true, decide_false, turn_nm, turn_tp, rdI, rdS, rdB, rdN, rdT, s_is_int ho h1]
    have e1 : (1 : Int) ≤ c ∧ (c : Int) ≤ 5 := by omega
    simp [e1, rb_ok, rb_ex, rb_no, ro_ok, ro_ex, ro_no, ob_nx, ob_rt, ob_ex, ob_no, fin_rt, fin_nx, fin_ex, gv0, gvS, ev_var, rd_f, rd_t, ev_cst, ev_bin, ev_neg, ev_cmp, ev_chain, ev_and, ev_or, ev_not, ev_ite, ev_tup, ev_lst, ev_dct, ev_ix, ev_slice, ev_call, ev_bi, ev_meth, ev_comp, evs_nil, evs_cons, evp_nil, evp_cons, evo_none, evo_some, conds_nil, conds_cons, asBb, asI_int, blk_nil, blk_cons, ex_fz, ex_set, ex_unp, bdO_nil, bdO_cons, ex_mul, storeP_nil, storeP_cons, ex_put, ex_app, ex_exp, ex_ret, ex_raise, ex_ite, ex_for, forO_some, sv0, svS, fz_nil, fz_cons, fzAt0, fzAtS, fz1_s, fz1_n, wipe_nil, wipe_cons, wkS, wk_lst, wkT, wk_dic, wk_enumS, wk_enumT, wk_enumL, wk_zipS, List.set_cons_zero, List.set_cons_succ, initEnv, List.map_cons, List.map_nil, List.length_cons, List.length_nil, List.replicate, List.cons_append, List.nil_append, Nat.reduceAdd, Nat.reduceSub, Nat.add_zero, Nat.zero_add, Bool.false_eq_true, if_true, if_false, ite_true, ite_false, List.zip_cons_cons, List.zip_nil_left, c_eq, c_ne, c_in, c_nin, c_le, c_gt, c_ge, c_lt, c_isN, c_nisN, c_isB, c_nisB, isNon_n, isNon_b, isNon_i, isNon_s, isNon_t, isNon_l, eqD_ss, eqD_ii, eqD_bb, inD_s, b_add, b_sub, neg_i, bi_isiS, bi_isiI, fl_i, fl_s, fl_t, fl_l, fls_n, fls_c, ty_ii, ty_bi, ty_ss, ty_tt, bi_lenS, bi_lenT, bi_lenL, bi_lenD, bi_tupL, bi_intI, ix_t0, ix_t1, ix_l0, ix_l1, ix_t3, sl_t3, sl_t2, sl_s1, Bool.not_true, Bool.not_false, Bool.and_true, Bool.true_and, Bool.and_self, decide_true, decide_false, turn_nm, turn_tp, rdI, rdS, rdB, rdN, rdT, s_is_int ho h1]⟩
end
end Mp

end Sec_MpSb
section Sec_MpSc
set_option autoImplicit false
set_option linter.all false
set_option maxHeartbeats 4000000
set_option maxRecDepth 100000
namespace Mp
open PySem
def cnt (z days : List Nat) : Nat := days.countP fun c => z.contains c
def lastN (days : List Nat) (n : Nat) : List Nat := days.drop (days.length - n)
def strt (z days : List Nat) : Nat := (days.zip days.tail).countP fun p => z.contains p.2 && !z.contains p.1
def brk : Lim → List Nat → Nat → Bool
  | .most z c n, past, d => decide (c < cnt z (lastN (past ++ [d]) n))
  | .row z c, past, d => z.contains d && decide (cnt z (lastN past c) = c)
  | .gap z c, past, d => z.contains d && (!(past.getLast?.any fun e => z.contains e) && decide (0 < cnt z (lastN past c)))
  | .starts z c n, past, d => z.contains d && (!(past.getLast?.any fun e => z.contains e) && decide (c < strt z (lastN (past ++ [d]) (n + 1))))
def canF (ls : List Lim) (past : List Nat) (d : Nat) : Bool := !(ls.any fun l => brk l past d)
theorem len_filterMap {α β : Type} (p : α → Bool) (f : α → β) : ∀ l : List α, (l.filterMap fun x => if p x = true then some (f x) else none).length = l.countP p
  | [] => rfl
  | a :: r => by
    have ih := len_filterMap p f r
    cases h : p a with
    | true => rw [List.filterMap_cons_some (by rw [h]; rfl), List.countP_cons, List.length_cons, ih, h]; rfl
    | false => rw [List.filterMap_cons_none (by rw [h]; rfl), List.countP_cons, ih, h]; rfl
section
variable {F : Str → Option Fn} {k : Nat}
theorem s_last (ho : owF F = noOw) (h : Has F "last" f_last) {x : List Nat} {n : Nat} (hn : n ≤ x.length) : callF F (k + 1) "last" [.str x, .int n] = .ok (.str (lastN x n)) := by
  rw [callF_run ho h rfl]
  have e : ((x.length : Int) - n) = ((x.length - n : Nat) : Int) := by omega
  have := sl_sN (xs := x) (i := x.length - n) (by omega)
  simp only [f_last, rb_ok, rb_ex, rb_no, ro_ok, ro_ex, ro_no, ob_nx, ob_rt, ob_ex, ob_no, fin_rt, fin_nx, fin_ex, gv0, gvS, ev_var, rd_f, rd_t, ev_cst, ev_bin, ev_neg, ev_cmp, ev_chain, ev_and, ev_or, ev_not, ev_ite, ev_tup, ev_lst, ev_dct, ev_ix, ev_slice, ev_call, ev_bi, ev_meth, ev_comp, evs_nil, evs_cons, evp_nil, evp_cons, evo_none, evo_some, conds_nil, conds_cons, asBb, asI_int, blk_nil, blk_cons, ex_fz, ex_set, ex_unp, bdO_nil, bdO_cons, ex_mul, storeP_nil, storeP_cons, ex_put, ex_app, ex_exp, ex_ret, ex_raise, ex_ite, ex_for, forO_some, sv0, svS, fz_nil, fz_cons, fzAt0, fzAtS, fz1_s, fz1_n, wipe_nil, wipe_cons, wkS, wk_lst, wkT, wk_dic, wk_enumS, wk_enumT, wk_enumL, wk_zipS, List.set_cons_zero, List.set_cons_succ, initEnv, List.map_cons, List.map_nil, List.length_cons, List.length_nil, List.replicate, List.cons_append, List.nil_append, Nat.reduceAdd, Nat.reduceSub, Nat.add_zero, Nat.zero_add, Bool.false_eq_true, if_true, if_false, ite_true, ite_false, List.zip_cons_cons, List.zip_nil_left, c_eq, c_ne, c_in, c_nin, c_le, c_gt, c_ge, c_lt, c_isN, c_nisN, c_isB, c_nisB, isNon_n, isNon_b, isNon_i, isNon_s, isNon_t, isNon_l, eqD_ss, eqD_ii, eqD_bb, inD_s, b_add, b_sub, neg_i, bi_isiS, bi_isiI, fl_i, fl_s, fl_t, fl_l, fls_n, fls_c, ty_ii, ty_bi, ty_ss, ty_tt, bi_lenS, bi_lenT, bi_lenL, bi_lenD, bi_tupL, bi_intI, ix_t0, ix_t1, ix_l0, ix_l1, ix_t3, sl_t3, sl_t2, sl_s1, Bool.not_true, Bool.not_false, Bool.and_true, Bool.true_and, Bool.and_self, decide_true, decide_false, turn_nm, turn_tp, rdI, rdS, rdB, rdN, rdT, e, this]
  rfl
theorem s_count_in (ho : owF F = noOw) (h : Has F "count_in" f_count_in) {x z : List Nat} (hl : x.length ≤ line) : callF F (k + 1) "count_in" [.str x, .str z] = .ok (.int (cnt z x)) := by
  rw [callF_run ho h rfl]
  simp only [f_count_in, rb_ok, rb_ex, rb_no, ro_ok, ro_ex, ro_no, ob_nx, ob_rt, ob_ex, ob_no, fin_rt, fin_nx, fin_ex, gv0, gvS, ev_var, rd_f, rd_t, ev_cst, ev_bin, ev_neg, ev_cmp, ev_chain, ev_and, ev_or, ev_not, ev_ite, ev_tup, ev_lst, ev_dct, ev_ix, ev_slice, ev_call, ev_bi, ev_meth, ev_comp, evs_nil, evs_cons, evp_nil, evp_cons, evo_none, evo_some, conds_nil, conds_cons, asBb, asI_int, blk_nil, blk_cons, ex_fz, ex_set, ex_unp, bdO_nil, bdO_cons, ex_mul, storeP_nil, storeP_cons, ex_put, ex_app, ex_exp, ex_ret, ex_raise, ex_ite, ex_for, forO_some, sv0, svS, fz_nil, fz_cons, fzAt0, fzAtS, fz1_s, fz1_n, wipe_nil, wipe_cons, wkS, wk_lst, wkT, wk_dic, wk_enumS, wk_enumT, wk_enumL, wk_zipS, List.set_cons_zero, List.set_cons_succ, initEnv, List.map_cons, List.map_nil, List.length_cons, List.length_nil, List.replicate, List.cons_append, List.nil_append, Nat.reduceAdd, Nat.reduceSub, Nat.add_zero, Nat.zero_add, Bool.false_eq_true, if_true, if_false, ite_true, ite_false, List.zip_cons_cons, List.zip_nil_left, c_eq, c_ne, c_in, c_nin, c_le, c_gt, c_ge, c_lt, c_isN, c_nisN, c_isB, c_nisB, isNon_n, isNon_b, isNon_i, isNon_s, isNon_t, isNon_l, eqD_ss, eqD_ii, eqD_bb, inD_s, b_add, b_sub, neg_i, bi_isiS, bi_isiI, fl_i, fl_s, fl_t, fl_l, fls_n, fls_c, ty_ii, ty_bi, ty_ss, ty_tt, bi_lenS, bi_lenT, bi_lenL, bi_lenD, bi_tupL, bi_intI, ix_t0, ix_t1, ix_l0, ix_l1, ix_t3, sl_t3, sl_t2, sl_s1, Bool.not_true, Bool.not_false, Bool.and_true, Bool.true_and, Bool.and_self, decide_true, decide_false, turn_nm, turn_tp, rdI, rdS, rdB, rdN, rdT]
  rw [comL_chars (fun c => if z.contains c = true then some (.str [c]) else none) hl (fun c hc => by
    simp only [rb_ok, rb_ex, rb_no, ro_ok, ro_ex, ro_no, ob_nx, ob_rt, ob_ex, ob_no, fin_rt, fin_nx, fin_ex, gv0, gvS, ev_var, rd_f, rd_t, ev_cst, ev_bin, ev_neg, ev_cmp, ev_chain, ev_and, ev_or, ev_not, ev_ite, ev_tup, ev_lst, ev_dct, ev_ix, ev_slice, ev_call, ev_bi, ev_meth, ev_comp, evs_nil, evs_cons, evp_nil, evp_cons, evo_none, evo_some, conds_nil, conds_cons, asBb, asI_int, blk_nil, blk_cons, ex_fz, ex_set, ex_unp, bdO_nil, bdO_cons, ex_mul, storeP_nil, storeP_cons, ex_put, ex_app, ex_exp, ex_ret, ex_raise, ex_ite, ex_for, forO_some, sv0, svS, fz_nil, fz_cons, fzAt0, fzAtS, fz1_s, fz1_n, wipe_nil, wipe_cons, wkS, wk_lst, wkT, wk_dic, wk_enumS, wk_enumT, wk_enumL, wk_zipS, List.set_cons_zero, List.set_cons_succ, initEnv, List.map_cons, List.map_nil, List.length_cons, List.length_nil, List.replicate, List.cons_append, List.nil_append, Nat.reduceAdd, Nat.reduceSub, Nat.add_zero, Nat.zero_add, Bool.false_eq_true, if_true, if_false, ite_true, ite_false, List.zip_cons_cons, List.zip_nil_left, c_eq, c_ne, c_in, c_nin, c_le, c_gt, c_ge, c_lt, c_isN, c_nisN, c_isB, c_nisB, isNon_n, isNon_b, isNon_i, isNon_s, isNon_t, isNon_l, eqD_ss, eqD_ii, eqD_bb, inD_s, b_add, b_sub, neg_i, bi_isiS, bi_isiI, fl_i, fl_s, fl_t, fl_l, fls_n, fls_c, ty_ii, ty_bi, ty_ss, ty_tt, bi_lenS, bi_lenT, bi_lenL, bi_lenD, bi_tupL, bi_intI, ix_t0, ix_t1, ix_l0, ix_l1, ix_t3, sl_t3, sl_t2, sl_s1, Bool.not_true, Bool.not_false, Bool.and_true, Bool.true_and, Bool.and_self, decide_true, decide_false, turn_nm, turn_tp, rdI, rdS, rdB, rdN, rdT]
    by_cases q : z.contains c = true <;> simp [q, rb_ok, rb_ex, rb_no, ro_ok, ro_ex, ro_no, ob_nx, ob_rt, ob_ex, ob_no, fin_rt, fin_nx, fin_ex, gv0, gvS, ev_var, rd_f, rd_t, ev_cst, ev_bin, ev_neg, ev_cmp, ev_chain, ev_and, ev_or, ev_not, ev_ite, ev_tup, ev_lst, ev_dct, ev_ix, ev_slice, ev_call, ev_bi, ev_meth, ev_comp, evs_nil, evs_cons, evp_nil, evp_cons, evo_none, evo_some, conds_nil, conds_cons, asBb, asI_int, blk_nil, blk_cons, ex_fz, ex_set, ex_unp, bdO_nil, bdO_cons, ex_mul, storeP_nil, storeP_cons, ex_put, ex_app, ex_exp, ex_ret, ex_raise, ex_ite, ex_for, forO_some, sv0, svS, fz_nil, fz_cons, fzAt0, fzAtS, fz1_s, fz1_n, wipe_nil, wipe_cons, wkS, wk_lst, wkT, wk_dic, wk_enumS, wk_enumT, wk_enumL, wk_zipS, List.set_cons_zero, List.set_cons_succ, initEnv, List.map_cons, List.map_nil, List.length_cons, List.length_nil, List.replicate, List.cons_append, List.nil_append, Nat.reduceAdd, Nat.reduceSub, Nat.add_zero, Nat.zero_add, Bool.false_eq_true, if_true, if_false, ite_true, ite_false, List.zip_cons_cons, List.zip_nil_left, c_eq, c_ne, c_in, c_nin, c_le, c_gt, c_ge, c_lt, c_isN, c_nisN, c_isB, c_nisB, isNon_n, isNon_b, isNon_i, isNon_s, isNon_t, isNon_l, eqD_ss, eqD_ii, eqD_bb, inD_s, b_add, b_sub, neg_i, bi_isiS, bi_isiI, fl_i, fl_s, fl_t, fl_l, fls_n, fls_c, ty_ii, ty_bi, ty_ss, ty_tt, bi_lenS, bi_lenT, bi_lenL, bi_lenD, bi_tupL, bi_intI, ix_t0, ix_t1, ix_l0, ix_l1, ix_t3, sl_t3, sl_t2, sl_s1, Bool.not_true, Bool.not_false, Bool.and_true, Bool.true_and, Bool.and_self, decide_true, decide_false, turn_nm, turn_tp, rdI, rdS, rdB, rdN, rdT, -List.contains_eq_mem])]
  simp only [rb_ok, rb_ex, rb_no, ro_ok, ro_ex, ro_no, ob_nx, ob_rt, ob_ex, ob_no, fin_rt, fin_nx, fin_ex, gv0, gvS, ev_var, rd_f, rd_t, ev_cst, ev_bin, ev_neg, ev_cmp, ev_chain, ev_and, ev_or, ev_not, ev_ite, ev_tup, ev_lst, ev_dct, ev_ix, ev_slice, ev_call, ev_bi, ev_meth, ev_comp, evs_nil, evs_cons, evp_nil, evp_cons, evo_none, evo_some, conds_nil, conds_cons, asBb, asI_int, blk_nil, blk_cons, ex_fz, ex_set, ex_unp, bdO_nil, bdO_cons, ex_mul, storeP_nil, storeP_cons, ex_put, ex_app, ex_exp, ex_ret, ex_raise, ex_ite, ex_for, forO_some, sv0, svS, fz_nil, fz_cons, fzAt0, fzAtS, fz1_s, fz1_n, wipe_nil, wipe_cons, wkS, wk_lst, wkT, wk_dic, wk_enumS, wk_enumT, wk_enumL, wk_zipS, List.set_cons_zero, List.set_cons_succ, initEnv, List.map_cons, List.map_nil, List.length_cons, List.length_nil, List.replicate, List.cons_append, List.nil_append, Nat.reduceAdd, Nat.reduceSub, Nat.add_zero, Nat.zero_add, Bool.false_eq_true, if_true, if_false, ite_true, ite_false, List.zip_cons_cons, List.zip_nil_left, c_eq, c_ne, c_in, c_nin, c_le, c_gt, c_ge, c_lt, c_isN, c_nisN, c_isB, c_nisB, isNon_n, isNon_b, isNon_i, isNon_s, isNon_t, isNon_l, eqD_ss, eqD_ii, eqD_bb, inD_s, b_add, b_sub, neg_i, bi_isiS, bi_isiI, fl_i, fl_s, fl_t, fl_l, fls_n, fls_c, ty_ii, ty_bi, ty_ss, ty_tt, bi_lenS, bi_lenT, bi_lenL, bi_lenD, bi_tupL, bi_intI, ix_t0, ix_t1, ix_l0, ix_l1, ix_t3, sl_t3, sl_t2, sl_s1, Bool.not_true, Bool.not_false, Bool.and_true, Bool.true_and, Bool.and_self, decide_true, decide_false, turn_nm, turn_tp, rdI, rdS, rdB, rdN, rdT, len_filterMap (fun c => z.contains c) (fun c => D.str [c])]
  rfl
theorem s_count_starts (ho : owF F = noOw) (h : Has F "count_starts" f_count_starts) {x z : List Nat} (hl : x.length ≤ line) (h1 : 1 ≤ x.length) : callF F (k + 1) "count_starts" [.str x, .str z] = .ok (.int (strt z x)) := by
  rw [callF_run ho h rfl]
  have e1 : slice (.str x) (some 1) none = .ok (.str x.tail) := by
    cases x with
    | nil => cases h1
    | cons a r => exact sl_s1 a r
  simp only [f_count_starts, rb_ok, rb_ex, rb_no, ro_ok, ro_ex, ro_no, ob_nx, ob_rt, ob_ex, ob_no, fin_rt, fin_nx, fin_ex, gv0, gvS, ev_var, rd_f, rd_t, ev_cst, ev_bin, ev_neg, ev_cmp, ev_chain, ev_and, ev_or, ev_not, ev_ite, ev_tup, ev_lst, ev_dct, ev_ix, ev_slice, ev_call, ev_bi, ev_meth, ev_comp, evs_nil, evs_cons, evp_nil, evp_cons, evo_none, evo_some, conds_nil, conds_cons, asBb, asI_int, blk_nil, blk_cons, ex_fz, ex_set, ex_unp, bdO_nil, bdO_cons, ex_mul, storeP_nil, storeP_cons, ex_put, ex_app, ex_exp, ex_ret, ex_raise, ex_ite, ex_for, forO_some, sv0, svS, fz_nil, fz_cons, fzAt0, fzAtS, fz1_s, fz1_n, wipe_nil, wipe_cons, wkS, wk_lst, wkT, wk_dic, wk_enumS, wk_enumT, wk_enumL, wk_zipS, List.set_cons_zero, List.set_cons_succ, initEnv, List.map_cons, List.map_nil, List.length_cons, List.length_nil, List.replicate, List.cons_append, List.nil_append, Nat.reduceAdd, Nat.reduceSub, Nat.add_zero, Nat.zero_add, Bool.false_eq_true, if_true, if_false, ite_true, ite_false, List.zip_cons_cons, List.zip_nil_left, c_eq, c_ne, c_in, c_nin, c_le, c_gt, c_ge, c_lt, c_isN, c_nisN, c_isB, c_nisB, isNon_n, isNon_b, isNon_i, isNon_s, isNon_t, isNon_l, eqD_ss, eqD_ii, eqD_bb, inD_s, b_add, b_sub, neg_i, bi_isiS, bi_isiI, fl_i, fl_s, fl_t, fl_l, fls_n, fls_c, ty_ii, ty_bi, ty_ss, ty_tt, bi_lenS, bi_lenT, bi_lenL, bi_lenD, bi_tupL, bi_intI, ix_t0, ix_t1, ix_l0, ix_l1, ix_t3, sl_t3, sl_t2, sl_s1, Bool.not_true, Bool.not_false, Bool.and_true, Bool.true_and, Bool.and_self, decide_true, decide_false, turn_nm, turn_tp, rdI, rdS, rdB, rdN, rdT, e1]
  have e2 : zipD (chars x) (chars x.tail) = (x.zip x.tail).map fun p => .tup [.str [p.1], .str [p.2]] := by
    unfold zipD chars
    rw [List.zip_map, List.map_map]
    rfl
  rw [e2]
  rw [comL_map (fun p => if (z.contains p.2 && !z.contains p.1) = true then some (.str [p.2]) else none) (by simp only [List.length_zip]; omega) (fun p hp => by
    simp only [rb_ok, rb_ex, rb_no, ro_ok, ro_ex, ro_no, ob_nx, ob_rt, ob_ex, ob_no, fin_rt, fin_nx, fin_ex, gv0, gvS, ev_var, rd_f, rd_t, ev_cst, ev_bin, ev_neg, ev_cmp, ev_chain, ev_and, ev_or, ev_not, ev_ite, ev_tup, ev_lst, ev_dct, ev_ix, ev_slice, ev_call, ev_bi, ev_meth, ev_comp, evs_nil, evs_cons, evp_nil, evp_cons, evo_none, evo_some, conds_nil, conds_cons, asBb, asI_int, blk_nil, blk_cons, ex_fz, ex_set, ex_unp, bdO_nil, bdO_cons, ex_mul, storeP_nil, storeP_cons, ex_put, ex_app, ex_exp, ex_ret, ex_raise, ex_ite, ex_for, forO_some, sv0, svS, fz_nil, fz_cons, fzAt0, fzAtS, fz1_s, fz1_n, wipe_nil, wipe_cons, wkS, wk_lst, wkT, wk_dic, wk_enumS, wk_enumT, wk_enumL, wk_zipS, List.set_cons_zero, List.set_cons_succ, initEnv, List.map_cons, List.map_nil, List.length_cons, List.length_nil, List.replicate, List.cons_append, List.nil_append, Nat.reduceAdd, Nat.reduceSub, Nat.add_zero, Nat.zero_add, Bool.false_eq_true, if_true, if_false, ite_true, ite_false, List.zip_cons_cons, List.zip_nil_left, c_eq, c_ne, c_in, c_nin, c_le, c_gt, c_ge, c_lt, c_isN, c_nisN, c_isB, c_nisB, isNon_n, isNon_b, isNon_i, isNon_s, isNon_t, isNon_l, eqD_ss, eqD_ii, eqD_bb, inD_s, b_add, b_sub, neg_i, bi_isiS, bi_isiI, fl_i, fl_s, fl_t, fl_l, fls_n, fls_c, ty_ii, ty_bi, ty_ss, ty_tt, bi_lenS, bi_lenT, bi_lenL, bi_lenD, bi_tupL, bi_intI, ix_t0, ix_t1, ix_l0, ix_l1, ix_t3, sl_t3, sl_t2, sl_s1, Bool.not_true, Bool.not_false, Bool.and_true, Bool.true_and, Bool.and_self, decide_true, decide_false, turn_nm, turn_tp, rdI, rdS, rdB, rdN, rdT]
    by_cases q : z.contains p.2 = true <;> by_cases q2 : z.contains p.1 = true <;> simp [q, q2, rb_ok, rb_ex, rb_no, ro_ok, ro_ex, ro_no, ob_nx, ob_rt, ob_ex, ob_no, fin_rt, fin_nx, fin_ex, gv0, gvS, ev_var, rd_f, rd_t, ev_cst, ev_bin, ev_neg, ev_cmp, ev_chain, ev_and, ev_or, ev_not, ev_ite, ev_tup, ev_lst, ev_dct, ev_ix, ev_slice, ev_call, ev_bi, ev_meth, ev_comp, evs_nil, evs_cons, evp_nil, evp_cons, evo_none, evo_some, conds_nil, conds_cons, asBb, asI_int, blk_nil, blk_cons, ex_fz, ex_set, ex_unp, bdO_nil, bdO_cons, ex_mul, storeP_nil, storeP_cons, ex_put, ex_app, ex_exp, ex_ret, ex_raise, ex_ite, ex_for, forO_some, sv0, svS, fz_nil, fz_cons, fzAt0, fzAtS, fz1_s, fz1_n, wipe_nil, wipe_cons, wkS, wk_lst, wkT, wk_dic, wk_enumS, wk_enumT, wk_enumL, wk_zipS, List.set_cons_zero, List.set_cons_succ, initEnv, List.map_cons, List.map_nil, List.length_cons, List.length_nil, List.replicate, List.cons_append, List.nil_append, Nat.reduceAdd, Nat.reduceSub, Nat.add_zero, Nat.zero_add, Bool.false_eq_true, if_true, if_false, ite_true, ite_false, List.zip_cons_cons, List.zip_nil_left, c_eq, c_ne, c_in, c_nin, c_le, c_gt, c_ge, c_lt, c_isN, c_nisN, c_isB, c_nisB, isNon_n, isNon_b, isNon_i, isNon_s, isNon_t, isNon_l, eqD_ss, eqD_ii, eqD_bb, inD_s, b_add, b_sub, neg_i, bi_isiS, bi_isiI, fl_i, fl_s, fl_t, fl_l, fls_n, fls_c, ty_ii, ty_bi, ty_ss, ty_tt, bi_lenS, bi_lenT, bi_lenL, bi_lenD, bi_tupL, bi_intI, ix_t0, ix_t1, ix_l0, ix_l1, ix_t3, sl_t3, sl_t2, sl_s1, Bool.not_true, Bool.not_false, Bool.and_true, Bool.true_and, Bool.and_self, decide_true, decide_false, turn_nm, turn_tp, rdI, rdS, rdB, rdN, rdT, -List.contains_eq_mem])]
  simp only [rb_ok, rb_ex, rb_no, ro_ok, ro_ex, ro_no, ob_nx, ob_rt, ob_ex, ob_no, fin_rt, fin_nx, fin_ex, gv0, gvS, ev_var, rd_f, rd_t, ev_cst, ev_bin, ev_neg, ev_cmp, ev_chain, ev_and, ev_or, ev_not, ev_ite, ev_tup, ev_lst, ev_dct, ev_ix, ev_slice, ev_call, ev_bi, ev_meth, ev_comp, evs_nil, evs_cons, evp_nil, evp_cons, evo_none, evo_some, conds_nil, conds_cons, asBb, asI_int, blk_nil, blk_cons, ex_fz, ex_set, ex_unp, bdO_nil, bdO_cons, ex_mul, storeP_nil, storeP_cons, ex_put, ex_app, ex_exp, ex_ret, ex_raise, ex_ite, ex_for, forO_some, sv0, svS, fz_nil, fz_cons, fzAt0, fzAtS, fz1_s, fz1_n, wipe_nil, wipe_cons, wkS, wk_lst, wkT, wk_dic, wk_enumS, wk_enumT, wk_enumL, wk_zipS, List.set_cons_zero, List.set_cons_succ, initEnv, List.map_cons, List.map_nil, List.length_cons, List.length_nil, List.replicate, List.cons_append, List.nil_append, Nat.reduceAdd, Nat.reduceSub, Nat.add_zero, Nat.zero_add, Bool.false_eq_true, if_true, if_false, ite_true, ite_false, List.zip_cons_cons, List.zip_nil_left, c_eq, c_ne, c_in, c_nin, c_le, c_gt, c_ge, c_lt, c_isN, c_nisN, c_isB, c_nisB, isNon_n, isNon_b, isNon_i, isNon_s, isNon_t, isNon_l, eqD_ss, eqD_ii, eqD_bb, inD_s, b_add, b_sub, neg_i, bi_isiS, bi_isiI, fl_i, fl_s, fl_t, fl_l, fls_n, fls_c, ty_ii, ty_bi, ty_ss, ty_tt, bi_lenS, bi_lenT, bi_lenL, bi_lenD, bi_tupL, bi_intI, ix_t0, ix_t1, ix_l0, ix_l1, ix_t3, sl_t3, sl_t2, sl_s1, Bool.not_true, Bool.not_false, Bool.and_true, Bool.true_and, Bool.and_self, decide_true, decide_false, turn_nm, turn_tp, rdI, rdS, rdB, rdN, rdT, len_filterMap (fun p : Nat × Nat => z.contains p.2 && !z.contains p.1) (fun p => D.str [p.2])]
  rfl
theorem s_after (ho : owF F = noOw) (h : Has F "after_day" f_after_day) {a c : Nat} {x : List Nat} (hl : x.length < 1000) : callF F (k + 1) "after_day" [.str (a :: x), .str [c]] = .ok (.str (x ++ [c])) := by
  rw [callF_run ho h rfl]
  have := line_ge
  have e := b_adds (x := x) (y := [c]) (by simp; omega)
  simp only [f_after_day, rb_ok, rb_ex, rb_no, ro_ok, ro_ex, ro_no, ob_nx, ob_rt, ob_ex, ob_no, fin_rt, fin_nx, fin_ex, gv0, gvS, ev_var, rd_f, rd_t, ev_cst, ev_bin, ev_neg, ev_cmp, ev_chain, ev_and, ev_or, ev_not, ev_ite, ev_tup, ev_lst, ev_dct, ev_ix, ev_slice, ev_call, ev_bi, ev_meth, ev_comp, evs_nil, evs_cons, evp_nil, evp_cons, evo_none, evo_some, conds_nil, conds_cons, asBb, asI_int, blk_nil, blk_cons, ex_fz, ex_set, ex_unp, bdO_nil, bdO_cons, ex_mul, storeP_nil, storeP_cons, ex_put, ex_app, ex_exp, ex_ret, ex_raise, ex_ite, ex_for, forO_some, sv0, svS, fz_nil, fz_cons, fzAt0, fzAtS, fz1_s, fz1_n, wipe_nil, wipe_cons, wkS, wk_lst, wkT, wk_dic, wk_enumS, wk_enumT, wk_enumL, wk_zipS, List.set_cons_zero, List.set_cons_succ, initEnv, List.map_cons, List.map_nil, List.length_cons, List.length_nil, List.replicate, List.cons_append, List.nil_append, Nat.reduceAdd, Nat.reduceSub, Nat.add_zero, Nat.zero_add, Bool.false_eq_true, if_true, if_false, ite_true, ite_false, List.zip_cons_cons, List.zip_nil_left, c_eq, c_ne, c_in, c_nin, c_le, c_gt, c_ge, c_lt, c_isN, c_nisN, c_isB, c_nisB, isNon_n, isNon_b, isNon_i, isNon_s, isNon_t, isNon_l, eqD_ss, eqD_ii, eqD_bb, inD_s, b_add, b_sub, neg_i, bi_isiS, bi_isiI, fl_i, fl_s, fl_t, fl_l, fls_n, fls_c, ty_ii, ty_bi, ty_ss, ty_tt, bi_lenS, bi_lenT, bi_lenL, bi_lenD, bi_tupL, bi_intI, ix_t0, ix_t1, ix_l0, ix_l1, ix_t3, sl_t3, sl_t2, sl_s1, Bool.not_true, Bool.not_false, Bool.and_true, Bool.true_and, Bool.and_self, decide_true, decide_false, turn_nm, turn_tp, rdI, rdS, rdB, rdN, rdT, e]
/-- the defs of judging -/
structure Jud (F : Str → Option Fn) : Prop where
  ho : owF F = noOw
  lst : Has F "last" f_last
  cin : Has F "count_in" f_count_in
  cst : Has F "count_starts" f_count_starts
  brk : Has F "breaks" f_breaks
  can : Has F "can_follow" f_can_follow
  aft : Has F "after_day" f_after_day
theorem lastN_len (x : List Nat) {n : Nat} (h : n ≤ x.length) : (lastN x n).length = n := by
  unfold lastN
  rw [List.length_drop]
  omega
theorem s_breaks (J : Jud F) {zs : List Nat} {l : Lim} (hl : l.Ok zs) {past : List Nat} (hp : past.length = 5) (c : Nat) : callF F (k + 2) "breaks" [l.d, .str past, .str [c]] = .ok (.bl (brk l past c)) := by
  have hne : past ≠ [] := by intro e; rw [e] at hp; cases hp
  obtain ⟨pre, e, rfl⟩ : ∃ pre e, past = pre ++ [e] := ⟨past.dropLast, past.getLast hne, (List.dropLast_concat_getLast hne).symm⟩
  have hlen : pre.length = 4 := by simp at hp; omega
  have lg := line_ge
  have e0 := b_adds (x := pre ++ [e]) (y := [c]) (by simp; omega)
  rw [callF_run J.ho J.brk rfl]
  cases l with
  | most z c' n =>
    obtain ⟨_, _, hn⟩ := hl
    have hn : c' ≤ 6 ∧ 1 ≤ n ∧ n ≤ 6 := hn
    have hle : n ≤ (pre ++ [e] ++ [c]).length := by simp; omega
    simp only [f_breaks, Lim.d, brk, rb_ok, rb_ex, rb_no, ro_ok, ro_ex, ro_no, ob_nx, ob_rt, ob_ex, ob_no, fin_rt, fin_nx, fin_ex, gv0, gvS, ev_var, rd_f, rd_t, ev_cst, ev_bin, ev_neg, ev_cmp, ev_chain, ev_and, ev_or, ev_not, ev_ite, ev_tup, ev_lst, ev_dct, ev_ix, ev_slice, ev_call, ev_bi, ev_meth, ev_comp, evs_nil, evs_cons, evp_nil, evp_cons, evo_none, evo_some, conds_nil, conds_cons, asBb, asI_int, blk_nil, blk_cons, ex_fz, ex_set, ex_unp, bdO_nil, bdO_cons, ex_mul, storeP_nil, storeP_cons, ex_put, ex_app, ex_exp, ex_ret, ex_raise, ex_ite, ex_for, forO_some, sv0, svS, fz_nil, fz_cons, fzAt0, fzAtS, fz1_s, fz1_n, wipe_nil, wipe_cons, wkS, wk_lst, wkT, wk_dic, wk_enumS, wk_enumT, wk_enumL, wk_zipS, List.set_cons_zero, List.set_cons_succ, initEnv, List.map_cons, List.map_nil, List.length_cons, List.length_nil, List.replicate, List.cons_append, List.nil_append, Nat.reduceAdd, Nat.reduceSub, Nat.add_zero, Nat.zero_add, Bool.false_eq_true, if_true, if_false, ite_true, ite_false, List.zip_cons_cons, List.zip_nil_left, c_eq, c_ne, c_in, c_nin, c_le, c_gt, c_ge, c_lt, c_isN, c_nisN, c_isB, c_nisB, isNon_n, isNon_b, isNon_i, isNon_s, isNon_t, isNon_l, eqD_ss, eqD_ii, eqD_bb, inD_s, b_add, b_sub, neg_i, bi_isiS, bi_isiI, fl_i, fl_s, fl_t, fl_l, fls_n, fls_c, ty_ii, ty_bi, ty_ss, ty_tt, bi_lenS, bi_lenT, bi_lenL, bi_lenD, bi_tupL, bi_intI, ix_t0, ix_t1, ix_l0, ix_l1, ix_t3, sl_t3, sl_t2, sl_s1, Bool.not_true, Bool.not_false, Bool.and_true, Bool.true_and, Bool.and_self, decide_true, decide_false, turn_nm, turn_tp, rdI, rdS, rdB, rdN, rdT, e0, s_last J.ho J.lst hle, s_count_in J.ho J.cin (x := lastN (pre ++ [e] ++ [c]) n) (z := z) (by rw [lastN_len _ hle]; omega)]
    simp
  | row z c' =>
    obtain ⟨_, _, hn⟩ := hl
    have hn : c' ≤ 5 := hn
    have hle : c' ≤ (pre ++ [e]).length := by simp; omega
    have f1 := s_last (k := k) J.ho J.lst hle
    have f2 := s_count_in (k := k) J.ho J.cin (x := lastN (pre ++ [e]) c') (z := z) (by rw [lastN_len _ hle]; omega)
    by_cases q : z.contains c = true
    · simp [f_breaks, Lim.d, brk, rb_ok, rb_ex, rb_no, ro_ok, ro_ex, ro_no, ob_nx, ob_rt, ob_ex, ob_no, fin_rt, fin_nx, fin_ex, gv0, gvS, ev_var, rd_f, rd_t, ev_cst, ev_bin, ev_neg, ev_cmp, ev_chain, ev_and, ev_or, ev_not, ev_ite, ev_tup, ev_lst, ev_dct, ev_ix, ev_slice, ev_call, ev_bi, ev_meth, ev_comp, evs_nil, evs_cons, evp_nil, evp_cons, evo_none, evo_some, conds_nil, conds_cons, asBb, asI_int, blk_nil, blk_cons, ex_fz, ex_set, ex_unp, bdO_nil, bdO_cons, ex_mul, storeP_nil, storeP_cons, ex_put, ex_app, ex_exp, ex_ret, ex_raise, ex_ite, ex_for, forO_some, sv0, svS, fz_nil, fz_cons, fzAt0, fzAtS, fz1_s, fz1_n, wipe_nil, wipe_cons, wkS, wk_lst, wkT, wk_dic, wk_enumS, wk_enumT, wk_enumL, wk_zipS, List.set_cons_zero, List.set_cons_succ, initEnv, List.map_cons, List.map_nil, List.length_cons, List.length_nil, List.replicate, List.cons_append, List.nil_append, Nat.reduceAdd, Nat.reduceSub, Nat.add_zero, Nat.zero_add, Bool.false_eq_true, if_true, if_false, ite_true, ite_false, List.zip_cons_cons, List.zip_nil_left, c_eq, c_ne, c_in, c_nin, c_le, c_gt, c_ge, c_lt, c_isN, c_nisN, c_isB, c_nisB, isNon_n, isNon_b, isNon_i, isNon_s, isNon_t, isNon_l, eqD_ss, eqD_ii, eqD_bb, inD_s, b_add, b_sub, neg_i, bi_isiS, bi_isiI, fl_i, fl_s, fl_t, fl_l, fls_n, fls_c, ty_ii, ty_bi, ty_ss, ty_tt, bi_lenS, bi_lenT, bi_lenL, bi_lenD, bi_tupL, bi_intI, ix_t0, ix_t1, ix_l0, ix_l1, ix_t3, sl_t3, sl_t2, sl_s1, Bool.not_true, Bool.not_false, Bool.and_true, Bool.true_and, Bool.and_self, decide_true, decide_false, turn_nm, turn_tp, rdI, rdS, rdB, rdN, rdT, f1, f2, q, -List.contains_eq_mem]
      omega
    · simp [f_breaks, Lim.d, brk, rb_ok, rb_ex, rb_no, ro_ok, ro_ex, ro_no, ob_nx, ob_rt, ob_ex, ob_no, fin_rt, fin_nx, fin_ex, gv0, gvS, ev_var, rd_f, rd_t, ev_cst, ev_bin, ev_neg, ev_cmp, ev_chain, ev_and, ev_or, ev_not, ev_ite, ev_tup, ev_lst, ev_dct, ev_ix, ev_slice, ev_call, ev_bi, ev_meth, ev_comp, evs_nil, evs_cons, evp_nil, evp_cons, evo_none, evo_some, conds_nil, conds_cons, asBb, asI_int, blk_nil, blk_cons, ex_fz, ex_set, ex_unp, bdO_nil, bdO_cons, ex_mul, storeP_nil, storeP_cons, ex_put, ex_app, ex_exp, ex_ret, ex_raise, ex_ite, ex_for, forO_some, sv0, svS, fz_nil, fz_cons, fzAt0, fzAtS, fz1_s, fz1_n, wipe_nil, wipe_cons, wkS, wk_lst, wkT, wk_dic, wk_enumS, wk_enumT, wk_enumL, wk_zipS, List.set_cons_zero, List.set_cons_succ, initEnv, List.map_cons, List.map_nil, List.length_cons, List.length_nil, List.replicate, List.cons_append, List.nil_append, Nat.reduceAdd, Nat.reduceSub, Nat.add_zero, Nat.zero_add, Bool.false_eq_true, if_true, if_false, ite_true, ite_false, List.zip_cons_cons, List.zip_nil_left, c_eq, c_ne, c_in, c_nin, c_le, c_gt, c_ge, c_lt, c_isN, c_nisN, c_isB, c_nisB, isNon_n, isNon_b, isNon_i, isNon_s, isNon_t, isNon_l, eqD_ss, eqD_ii, eqD_bb, inD_s, b_add, b_sub, neg_i, bi_isiS, bi_isiI, fl_i, fl_s, fl_t, fl_l, fls_n, fls_c, ty_ii, ty_bi, ty_ss, ty_tt, bi_lenS, bi_lenT, bi_lenL, bi_lenD, bi_tupL, bi_intI, ix_t0, ix_t1, ix_l0, ix_l1, ix_t3, sl_t3, sl_t2, sl_s1, Bool.not_true, Bool.not_false, Bool.and_true, Bool.true_and, Bool.and_self, decide_true, decide_false, turn_nm, turn_tp, rdI, rdS, rdB, rdN, rdT, q, -List.contains_eq_mem]
  | gap z c' =>
    obtain ⟨_, _, hn⟩ := hl
    have hn : 1 ≤ c' ∧ c' ≤ 5 := hn
    have hle : c' ≤ (pre ++ [e]).length := by simp; omega
    have f1 := s_last (k := k) J.ho J.lst hle
    have f2 := s_count_in (k := k) J.ho J.cin (x := lastN (pre ++ [e]) c') (z := z) (by rw [lastN_len _ hle]; omega)
    by_cases q : z.contains c = true <;> by_cases q2 : z.contains e = true
    all_goals simp [f_breaks, Lim.d, brk, rb_ok, rb_ex, rb_no, ro_ok, ro_ex, ro_no, ob_nx, ob_rt, ob_ex, ob_no, fin_rt, fin_nx, fin_ex, gv0, gvS, ev_var, rd_f, rd_t, ev_cst, ev_bin, ev_neg, ev_cmp, ev_chain, ev_and, ev_or, ev_not, ev_ite, ev_tup, ev_lst, ev_dct, ev_ix, ev_slice, ev_call, ev_bi, ev_meth, ev_comp, evs_nil, evs_cons, evp_nil, evp_cons, evo_none, evo_some, conds_nil, conds_cons, asBb, asI_int, blk_nil, blk_cons, ex_fz, ex_set, ex_unp, bdO_nil, bdO_cons, ex_mul, storeP_nil, storeP_cons, ex_put, ex_app, ex_exp, ex_ret, ex_raise, ex_ite, ex_for, forO_some, sv0, svS, fz_nil, fz_cons, fzAt0, fzAtS, fz1_s, fz1_n, wipe_nil, wipe_cons, wkS, wk_lst, wkT, wk_dic, wk_enumS, wk_enumT, wk_enumL, wk_zipS, List.set_cons_zero, List.set_cons_succ, initEnv, List.map_cons, List.map_nil, List.length_cons, List.length_nil, List.replicate, List.cons_append, List.nil_append, Nat.reduceAdd, Nat.reduceSub, Nat.add_zero, Nat.zero_add, Bool.false_eq_true, if_true, if_false, ite_true, ite_false, List.zip_cons_cons, List.zip_nil_left, c_eq, c_ne, c_in, c_nin, c_le, c_gt, c_ge, c_lt, c_isN, c_nisN, c_isB, c_nisB, isNon_n, isNon_b, isNon_i, isNon_s, isNon_t, isNon_l, eqD_ss, eqD_ii, eqD_bb, inD_s, b_add, b_sub, neg_i, bi_isiS, bi_isiI, fl_i, fl_s, fl_t, fl_l, fls_n, fls_c, ty_ii, ty_bi, ty_ss, ty_tt, bi_lenS, bi_lenT, bi_lenL, bi_lenD, bi_tupL, bi_intI, ix_t0, ix_t1, ix_l0, ix_l1, ix_t3, sl_t3, sl_t2, sl_s1, Bool.not_true, Bool.not_false, Bool.and_true, Bool.true_and, Bool.and_self, decide_true, decide_false, turn_nm, turn_tp, rdI, rdS, rdB, rdN, rdT, f1, f2, q, q2, ix_sLast, -List.contains_eq_mem]
  | starts z c' n =>
    obtain ⟨_, _, hn⟩ := hl
    have hn : c' ≤ 5 ∧ 1 ≤ n ∧ n ≤ 5 := hn
    have hle : n + 1 ≤ (pre ++ [e] ++ [c]).length := by simp; omega
    have f1 := s_last (k := k) J.ho J.lst hle
    have f2 := s_count_starts (k := k) J.ho J.cst (x := lastN (pre ++ [e] ++ [c]) (n + 1)) (z := z) (by rw [lastN_len _ hle]; omega) (by rw [lastN_len _ hle]; omega)
    have f1 : callF F (k + 1) "last" [.str (pre ++ [e] ++ [c]), .int ((n : Int) + 1)] = _ := f1
    by_cases q : z.contains c = true <;> by_cases q2 : z.contains e = true
    all_goals simp [f_breaks, Lim.d, brk, rb_ok, rb_ex, rb_no, ro_ok, ro_ex, ro_no, ob_nx, ob_rt, ob_ex, ob_no, fin_rt, fin_nx, fin_ex, gv0, gvS, ev_var, rd_f, rd_t, ev_cst, ev_bin, ev_neg, ev_cmp, ev_chain, ev_and, ev_or, ev_not, ev_ite, ev_tup, ev_lst, ev_dct, ev_ix, ev_slice, ev_call, ev_bi, ev_meth, ev_comp, evs_nil, evs_cons, evp_nil, evp_cons, evo_none, evo_some, conds_nil, conds_cons, asBb, asI_int, blk_nil, blk_cons, ex_fz, ex_set, ex_unp, bdO_nil, bdO_cons, ex_mul, storeP_nil, storeP_cons, ex_put, ex_app, ex_exp, ex_ret, ex_raise, ex_ite, ex_for, forO_some, sv0, svS, fz_nil, fz_cons, fzAt0, fzAtS, fz1_s, fz1_n, wipe_nil, wipe_cons, wkS, wk_lst, wkT, wk_dic, wk_enumS, wk_enumT, wk_enumL, wk_zipS, List.set_cons_zero, List.set_cons_succ, initEnv, List.map_cons, List.map_nil, List.length_cons, List.length_nil, List.replicate, List.cons_append, List.nil_append, Nat.reduceAdd, Nat.reduceSub, Nat.add_zero, Nat.zero_add, Bool.false_eq_true, if_true, if_false, ite_true, ite_false, List.zip_cons_cons, List.zip_nil_left, c_eq, c_ne, c_in, c_nin, c_le, c_gt, c_ge, c_lt, c_isN, c_nisN, c_isB, c_nisB, isNon_n, isNon_b, isNon_i, isNon_s, isNon_t, isNon_l, eqD_ss, eqD_ii, eqD_bb, inD_s, b_add, b_sub, neg_i, bi_isiS, bi_isiI, fl_i, fl_s, fl_t, fl_l, fls_n, fls_c, ty_ii, ty_bi, ty_ss, ty_tt, bi_lenS, bi_lenT, bi_lenL, bi_lenD, bi_tupL, bi_intI, ix_t0, ix_t1, ix_l0, ix_l1, ix_t3, sl_t3, sl_t2, sl_s1, Bool.not_true, Bool.not_false, Bool.and_true, Bool.true_and, Bool.and_self, decide_true, decide_false, turn_nm, turn_tp, rdI, rdS, rdB, rdN, rdT, e0, f1, f2, q, q2, ix_sLast, -List.contains_eq_mem, -List.append_assoc]
end
end Mp

end Sec_MpSc
section Sec_MpSd
set_option autoImplicit false
set_option linter.all false
set_option maxHeartbeats 4000000
set_option maxRecDepth 100000
namespace Mp
open PySem
/-- the body of the first loop of a def's text -/
def loopOf : List S → List S
  | [] => []
  | .for_ _ _ _ b :: _ => b
  | .fz _ (.for_ _ _ _ b) :: _ => b
  | _ :: r => loopOf r
theorem enumD_eq {α : Type} (f : α → D) (x : List α) : enumD (x.map f) = x.zipIdx.map fun p => .tup [.int (p.2 : Nat), f p.1] := by
  unfold enumD
  apply List.ext_getElem
  · simp
  · intro i h1 h2
    simp
theorem enumD_chars (x : List Nat) : enumD (chars x) = x.zipIdx.map fun p => .tup [.int (p.2 : Nat), .str [p.1]] := enumD_eq _ x
theorem eqvs_nil {a : D} {r : List D} : D.eqvs (a :: r) [] = false := rfl
theorem depths_of {m : Nat} : ∀ {xs : List D}, (∀ x ∈ xs, x.depth ≤ m) → D.depths xs ≤ m
  | [], _ => Nat.zero_le _
  | x :: r, h => by
    show Nat.max x.depth (D.depths r) ≤ m
    exact Nat.max_le.mpr ⟨h x List.mem_cons_self, depths_of fun y hy => h y (List.mem_cons_of_mem _ hy)⟩
theorem eqD_emp {xs : List D} (h1 : ∀ x ∈ xs, x.flat = true) (h2 : ∀ x ∈ xs, x.depth ≤ 50) : eqD (.lst xs) (.lst []) = .ok (xs.isEmpty) := by
  rw [eqD_ll (eqOk_of (by rw [fl_l]; exact flats_of h1) rfl (by show D.depths xs + 1 ≤ 60; have := depths_of h2; omega) (by decide))]
  cases xs <;> rfl
/-- the first broken day and limit -/
def fb (ls : List Lim) : List Nat → Nat → List Nat → Option (Nat × Nat)
  | _, _, [] => none
  | past, n, d :: r => match ls.findIdx? fun l => brk l past d with
    | some i => some (n, i)
    | none => fb ls (past.tail ++ [d]) (n + 1) r
section
variable {F : Str → Option Fn} {k : Nat}
theorem s_can (J : Jud F) {zs : List Nat} {ls : List Lim} (hl : ∀ l ∈ ls, l.Ok zs) (hn : ls.length ≤ 900) {past : List Nat} (hp : past.length = 5) (c : Nat) : callF F (k + 3) "can_follow" [bookD zs ls, .str past, .str [c]] = .ok (.bl (canF ls past c)) := by
  have := line_ge
  rw [callF_run J.ho J.can rfl]
  simp only [f_can_follow, bookD, rb_ok, rb_ex, rb_no, ro_ok, ro_ex, ro_no, ob_nx, ob_rt, ob_ex, ob_no, fin_rt, fin_nx, fin_ex, gv0, gvS, ev_var, rd_f, rd_t, ev_cst, ev_bin, ev_neg, ev_cmp, ev_chain, ev_and, ev_or, ev_not, ev_ite, ev_tup, ev_lst, ev_dct, ev_ix, ev_slice, ev_call, ev_bi, ev_meth, ev_comp, evs_nil, evs_cons, evp_nil, evp_cons, evo_none, evo_some, conds_nil, conds_cons, asBb, asI_int, blk_nil, blk_cons, ex_fz, ex_set, ex_unp, bdO_nil, bdO_cons, ex_mul, storeP_nil, storeP_cons, ex_put, ex_app, ex_exp, ex_ret, ex_raise, ex_ite, ex_for, forO_some, sv0, svS, fz_nil, fz_cons, fzAt0, fzAtS, fz1_s, fz1_n, wipe_nil, wipe_cons, wkS, wk_lst, wkT, wk_dic, wk_enumS, wk_enumT, wk_enumL, wk_zipS, List.set_cons_zero, List.set_cons_succ, initEnv, List.map_cons, List.map_nil, List.length_cons, List.length_nil, List.replicate, List.cons_append, List.nil_append, Nat.reduceAdd, Nat.reduceSub, Nat.add_zero, Nat.zero_add, Bool.false_eq_true, if_true, if_false, ite_true, ite_false, List.zip_cons_cons, List.zip_nil_left, c_eq, c_ne, c_in, c_nin, c_le, c_gt, c_ge, c_lt, c_isN, c_nisN, c_isB, c_nisB, isNon_n, isNon_b, isNon_i, isNon_s, isNon_t, isNon_l, eqD_ss, eqD_ii, eqD_bb, inD_s, b_add, b_sub, neg_i, bi_isiS, bi_isiI, fl_i, fl_s, fl_t, fl_l, fls_n, fls_c, ty_ii, ty_bi, ty_ss, ty_tt, bi_lenS, bi_lenT, bi_lenL, bi_lenD, bi_tupL, bi_intI, ix_t0, ix_t1, ix_l0, ix_l1, ix_t3, sl_t3, sl_t2, sl_s1, Bool.not_true, Bool.not_false, Bool.and_true, Bool.true_and, Bool.and_self, decide_true, decide_false, turn_nm, turn_tp, rdI, rdS, rdB, rdN, rdT]
  rw [comL_map (g := Lim.d) (fun l => some (.bl (brk l past c))) (by omega) (fun l hm => by simp only [rb_ok, rb_ex, rb_no, ro_ok, ro_ex, ro_no, ob_nx, ob_rt, ob_ex, ob_no, fin_rt, fin_nx, fin_ex, gv0, gvS, ev_var, rd_f, rd_t, ev_cst, ev_bin, ev_neg, ev_cmp, ev_chain, ev_and, ev_or, ev_not, ev_ite, ev_tup, ev_lst, ev_dct, ev_ix, ev_slice, ev_call, ev_bi, ev_meth, ev_comp, evs_nil, evs_cons, evp_nil, evp_cons, evo_none, evo_some, conds_nil, conds_cons, asBb, asI_int, blk_nil, blk_cons, ex_fz, ex_set, ex_unp, bdO_nil, bdO_cons, ex_mul, storeP_nil, storeP_cons, ex_put, ex_app, ex_exp, ex_ret, ex_raise, ex_ite, ex_for, forO_some, sv0, svS, fz_nil, fz_cons, fzAt0, fzAtS, fz1_s, fz1_n, wipe_nil, wipe_cons, wkS, wk_lst, wkT, wk_dic, wk_enumS, wk_enumT, wk_enumL, wk_zipS, List.set_cons_zero, List.set_cons_succ, initEnv, List.map_cons, List.map_nil, List.length_cons, List.length_nil, List.replicate, List.cons_append, List.nil_append, Nat.reduceAdd, Nat.reduceSub, Nat.add_zero, Nat.zero_add, Bool.false_eq_true, if_true, if_false, ite_true, ite_false, List.zip_cons_cons, List.zip_nil_left, c_eq, c_ne, c_in, c_nin, c_le, c_gt, c_ge, c_lt, c_isN, c_nisN, c_isB, c_nisB, isNon_n, isNon_b, isNon_i, isNon_s, isNon_t, isNon_l, eqD_ss, eqD_ii, eqD_bb, inD_s, b_add, b_sub, neg_i, bi_isiS, bi_isiI, fl_i, fl_s, fl_t, fl_l, fls_n, fls_c, ty_ii, ty_bi, ty_ss, ty_tt, bi_lenS, bi_lenT, bi_lenL, bi_lenD, bi_tupL, bi_intI, ix_t0, ix_t1, ix_l0, ix_l1, ix_t3, sl_t3, sl_t2, sl_s1, Bool.not_true, Bool.not_false, Bool.and_true, Bool.true_and, Bool.and_self, decide_true, decide_false, turn_nm, turn_tp, rdI, rdS, rdB, rdN, rdT, s_breaks J (hl l hm) hp c])]
  rw [filterMap_some (fun l => D.bl (brk l past c))]
  have : ls.map (fun l => D.bl (brk l past c)) = (ls.map fun l => brk l past c).map D.bl := by simp
  simp only [rb_ok, rb_ex, rb_no, ro_ok, ro_ex, ro_no, ob_nx, ob_rt, ob_ex, ob_no, fin_rt, fin_nx, fin_ex, gv0, gvS, ev_var, rd_f, rd_t, ev_cst, ev_bin, ev_neg, ev_cmp, ev_chain, ev_and, ev_or, ev_not, ev_ite, ev_tup, ev_lst, ev_dct, ev_ix, ev_slice, ev_call, ev_bi, ev_meth, ev_comp, evs_nil, evs_cons, evp_nil, evp_cons, evo_none, evo_some, conds_nil, conds_cons, asBb, asI_int, blk_nil, blk_cons, ex_fz, ex_set, ex_unp, bdO_nil, bdO_cons, ex_mul, storeP_nil, storeP_cons, ex_put, ex_app, ex_exp, ex_ret, ex_raise, ex_ite, ex_for, forO_some, sv0, svS, fz_nil, fz_cons, fzAt0, fzAtS, fz1_s, fz1_n, wipe_nil, wipe_cons, wkS, wk_lst, wkT, wk_dic, wk_enumS, wk_enumT, wk_enumL, wk_zipS, List.set_cons_zero, List.set_cons_succ, initEnv, List.map_cons, List.map_nil, List.length_cons, List.length_nil, List.replicate, List.cons_append, List.nil_append, Nat.reduceAdd, Nat.reduceSub, Nat.add_zero, Nat.zero_add, Bool.false_eq_true, if_true, if_false, ite_true, ite_false, List.zip_cons_cons, List.zip_nil_left, c_eq, c_ne, c_in, c_nin, c_le, c_gt, c_ge, c_lt, c_isN, c_nisN, c_isB, c_nisB, isNon_n, isNon_b, isNon_i, isNon_s, isNon_t, isNon_l, eqD_ss, eqD_ii, eqD_bb, inD_s, b_add, b_sub, neg_i, bi_isiS, bi_isiI, fl_i, fl_s, fl_t, fl_l, fls_n, fls_c, ty_ii, ty_bi, ty_ss, ty_tt, bi_lenS, bi_lenT, bi_lenL, bi_lenD, bi_tupL, bi_intI, ix_t0, ix_t1, ix_l0, ix_l1, ix_t3, sl_t3, sl_t2, sl_s1, Bool.not_true, Bool.not_false, Bool.and_true, Bool.true_and, Bool.and_self, decide_true, decide_false, turn_nm, turn_tp, rdI, rdS, rdB, rdN, rdT, this, bi_any]
  congr 2
  unfold canF
  congr 1
  rw [List.any_map]
  rfl
/-- the indices of the limits that break -/
theorem idx_head {α : Type} (p : α → Bool) : ∀ (ls : List α) (n : Nat), ((ls.zipIdx n).filterMap fun q => if p q.1 = true then some (D.int (q.2 : Nat)) else none).head? = (ls.findIdx? p).map fun i => D.int ((n + i : Nat) : Nat)
  | [], n => rfl
  | a :: r, n => by
    rw [List.zipIdx_cons]
    have ih := idx_head p r (n + 1)
    cases h : p a with
    | true =>
      rw [List.filterMap_cons_some (b := D.int (n : Nat)) (by simp only [h, if_true])]
      simp [List.findIdx?_cons, h]
    | false =>
      rw [List.filterMap_cons_none (by simp [h])]
      rw [ih]
      simp only [List.findIdx?_cons, h, Bool.false_eq_true, if_false, Option.map_map]
      congr 1
      funext i
      simp only [Function.comp]
      congr 2
      omega
def fb_body : List S := loopOf f_find_broken.body
theorem fb_loop (J : Jud F) {zs : List Nat} {ls : List Lim} (hl : ∀ l ∈ ls, l.Ok zs) (hn : ls.length ≤ 4) (m : Nat) (cd : Slot) : ∀ (cal : List Nat) (n : Nat) (past : List Nat) (s3 s4 s5 : Slot), past.length = 5 →
    ∃ ρ', forL (blk (ex noOw (callF F (k + 3)) (m + 50)) fb_body) (.tp [3, 4]) ((cal.zipIdx n).map fun p => .tup [.int (p.2 : Nat), .str [p.1]]) [some (bookD zs ls, false), cd, some (.str past, false), s3, s4, s5, none, none, none]
      = (match fb ls past n cal with | some p => .rt (.tup [.int (p.1 : Nat), .int (p.2 : Nat)]) | none => .nx ρ')
  | [], n, past, s3, s4, s5, hp => ⟨_, rfl⟩
  | d :: cal, n, past, s3, s4, s5, hp => by
    have := line_ge
    have eB : fb_body = loopOf f_find_broken.body := rfl
    obtain ⟨a, q, rfl⟩ : ∃ a q, past = a :: q := by
      cases past with
      | nil => cases hp
      | cons a q => exact ⟨a, q, rfl⟩
    have hq : q.length = 4 := by simpa using hp
    let bad := (ls.zipIdx 0).filterMap fun q' => if brk q'.1 (a :: q) d = true then some (D.int (q'.2 : Nat)) else none
    have hb : bad = (ls.zipIdx 0).filterMap fun q' => if brk q'.1 (a :: q) d = true then some (D.int (q'.2 : Nat)) else none := rfl
    have hh := idx_head (fun l => brk l (a :: q) d) ls 0
    rw [← hb] at hh
    have hi : ∀ x ∈ bad, ∃ j : Nat, x = .int (j : Nat) := fun x hx => by
      obtain ⟨y, _, hy⟩ := List.mem_filterMap.mp hx
      split at hy
      · cases hy; exact ⟨_, rfl⟩
      · cases hy
    have ee := eqD_emp (xs := bad) (fun x hx => by obtain ⟨j, rfl⟩ := hi x hx; rfl) (fun x hx => by obtain ⟨j, rfl⟩ := hi x hx; exact Nat.zero_le _)
    rw [List.zipIdx_cons, List.map_cons, forL_tp]
    have step : blk (ex noOw (callF F (k + 3)) (m + 50)) fb_body (setv (setv [some (bookD zs ls, false), cd, some (.str (a :: q), false), s3, s4, s5, none, none, none] 3 (.int (n : Nat)) false) 4 (.str [d]) false)
        = if bad.isEmpty = true then .nx [some (bookD zs ls, false), cd, some (.str (q ++ [d]), false), some (.int (n : Nat), false), some (.str [d], false), some (.lst bad, true), none, none, none]
          else (match bad.head? with | some b => .rt (.tup [.int (n : Nat), b]) | none => .no) := by
      rw [eB]
      simp only [f_find_broken, loopOf, bookD, rb_ok, rb_ex, rb_no, ro_ok, ro_ex, ro_no, ob_nx, ob_rt, ob_ex, ob_no, fin_rt, fin_nx, fin_ex, gv0, gvS, ev_var, rd_f, rd_t, ev_cst, ev_bin, ev_neg, ev_cmp, ev_chain, ev_and, ev_or, ev_not, ev_ite, ev_tup, ev_lst, ev_dct, ev_ix, ev_slice, ev_call, ev_bi, ev_meth, ev_comp, evs_nil, evs_cons, evp_nil, evp_cons, evo_none, evo_some, conds_nil, conds_cons, asBb, asI_int, blk_nil, blk_cons, ex_fz, ex_set, ex_unp, bdO_nil, bdO_cons, ex_mul, storeP_nil, storeP_cons, ex_put, ex_app, ex_exp, ex_ret, ex_raise, ex_ite, ex_for, forO_some, sv0, svS, fz_nil, fz_cons, fzAt0, fzAtS, fz1_s, fz1_n, wipe_nil, wipe_cons, wkS, wk_lst, wkT, wk_dic, wk_enumS, wk_enumT, wk_enumL, wk_zipS, List.set_cons_zero, List.set_cons_succ, initEnv, List.map_cons, List.map_nil, List.length_cons, List.length_nil, List.replicate, List.cons_append, List.nil_append, Nat.reduceAdd, Nat.reduceSub, Nat.add_zero, Nat.zero_add, Bool.false_eq_true, if_true, if_false, ite_true, ite_false, List.zip_cons_cons, List.zip_nil_left, c_eq, c_ne, c_in, c_nin, c_le, c_gt, c_ge, c_lt, c_isN, c_nisN, c_isB, c_nisB, isNon_n, isNon_b, isNon_i, isNon_s, isNon_t, isNon_l, eqD_ss, eqD_ii, eqD_bb, inD_s, b_add, b_sub, neg_i, bi_isiS, bi_isiI, fl_i, fl_s, fl_t, fl_l, fls_n, fls_c, ty_ii, ty_bi, ty_ss, ty_tt, bi_lenS, bi_lenT, bi_lenL, bi_lenD, bi_tupL, bi_intI, ix_t0, ix_t1, ix_l0, ix_l1, ix_t3, sl_t3, sl_t2, sl_s1, Bool.not_true, Bool.not_false, Bool.and_true, Bool.true_and, Bool.and_self, decide_true, decide_false, turn_nm, turn_tp, rdI, rdS, rdB, rdN, rdT, enumD_eq]
      rw [comL_map (g := fun p : Lim × Nat => D.tup [.int (p.2 : Nat), p.1.d]) (fun q' => if brk q'.1 (a :: q) d = true then some (D.int (q'.2 : Nat)) else none) (by rw [List.length_zipIdx]; omega) (fun l hm => by
        have hm' : l.1 ∈ ls := List.fst_mem_of_mem_zipIdx hm
        simp only [rb_ok, rb_ex, rb_no, ro_ok, ro_ex, ro_no, ob_nx, ob_rt, ob_ex, ob_no, fin_rt, fin_nx, fin_ex, gv0, gvS, ev_var, rd_f, rd_t, ev_cst, ev_bin, ev_neg, ev_cmp, ev_chain, ev_and, ev_or, ev_not, ev_ite, ev_tup, ev_lst, ev_dct, ev_ix, ev_slice, ev_call, ev_bi, ev_meth, ev_comp, evs_nil, evs_cons, evp_nil, evp_cons, evo_none, evo_some, conds_nil, conds_cons, asBb, asI_int, blk_nil, blk_cons, ex_fz, ex_set, ex_unp, bdO_nil, bdO_cons, ex_mul, storeP_nil, storeP_cons, ex_put, ex_app, ex_exp, ex_ret, ex_raise, ex_ite, ex_for, forO_some, sv0, svS, fz_nil, fz_cons, fzAt0, fzAtS, fz1_s, fz1_n, wipe_nil, wipe_cons, wkS, wk_lst, wkT, wk_dic, wk_enumS, wk_enumT, wk_enumL, wk_zipS, List.set_cons_zero, List.set_cons_succ, initEnv, List.map_cons, List.map_nil, List.length_cons, List.length_nil, List.replicate, List.cons_append, List.nil_append, Nat.reduceAdd, Nat.reduceSub, Nat.add_zero, Nat.zero_add, Bool.false_eq_true, if_true, if_false, ite_true, ite_false, List.zip_cons_cons, List.zip_nil_left, c_eq, c_ne, c_in, c_nin, c_le, c_gt, c_ge, c_lt, c_isN, c_nisN, c_isB, c_nisB, isNon_n, isNon_b, isNon_i, isNon_s, isNon_t, isNon_l, eqD_ss, eqD_ii, eqD_bb, inD_s, b_add, b_sub, neg_i, bi_isiS, bi_isiI, fl_i, fl_s, fl_t, fl_l, fls_n, fls_c, ty_ii, ty_bi, ty_ss, ty_tt, bi_lenS, bi_lenT, bi_lenL, bi_lenD, bi_tupL, bi_intI, ix_t0, ix_t1, ix_l0, ix_l1, ix_t3, sl_t3, sl_t2, sl_s1, Bool.not_true, Bool.not_false, Bool.and_true, Bool.true_and, Bool.and_self, decide_true, decide_false, turn_nm, turn_tp, rdI, rdS, rdB, rdN, rdT, s_breaks J (hl _ hm') hp d]
        by_cases z : brk l.1 (a :: q) d = true <;> simp [z, rb_ok, rb_ex, rb_no, ro_ok, ro_ex, ro_no, ob_nx, ob_rt, ob_ex, ob_no, fin_rt, fin_nx, fin_ex, gv0, gvS, ev_var, rd_f, rd_t, ev_cst, ev_bin, ev_neg, ev_cmp, ev_chain, ev_and, ev_or, ev_not, ev_ite, ev_tup, ev_lst, ev_dct, ev_ix, ev_slice, ev_call, ev_bi, ev_meth, ev_comp, evs_nil, evs_cons, evp_nil, evp_cons, evo_none, evo_some, conds_nil, conds_cons, asBb, asI_int, blk_nil, blk_cons, ex_fz, ex_set, ex_unp, bdO_nil, bdO_cons, ex_mul, storeP_nil, storeP_cons, ex_put, ex_app, ex_exp, ex_ret, ex_raise, ex_ite, ex_for, forO_some, sv0, svS, fz_nil, fz_cons, fzAt0, fzAtS, fz1_s, fz1_n, wipe_nil, wipe_cons, wkS, wk_lst, wkT, wk_dic, wk_enumS, wk_enumT, wk_enumL, wk_zipS, List.set_cons_zero, List.set_cons_succ, initEnv, List.map_cons, List.map_nil, List.length_cons, List.length_nil, List.replicate, List.cons_append, List.nil_append, Nat.reduceAdd, Nat.reduceSub, Nat.add_zero, Nat.zero_add, Bool.false_eq_true, if_true, if_false, ite_true, ite_false, List.zip_cons_cons, List.zip_nil_left, c_eq, c_ne, c_in, c_nin, c_le, c_gt, c_ge, c_lt, c_isN, c_nisN, c_isB, c_nisB, isNon_n, isNon_b, isNon_i, isNon_s, isNon_t, isNon_l, eqD_ss, eqD_ii, eqD_bb, inD_s, b_add, b_sub, neg_i, bi_isiS, bi_isiI, fl_i, fl_s, fl_t, fl_l, fls_n, fls_c, ty_ii, ty_bi, ty_ss, ty_tt, bi_lenS, bi_lenT, bi_lenL, bi_lenD, bi_tupL, bi_intI, ix_t0, ix_t1, ix_l0, ix_l1, ix_t3, sl_t3, sl_t2, sl_s1, Bool.not_true, Bool.not_false, Bool.and_true, Bool.true_and, Bool.and_self, decide_true, decide_false, turn_nm, turn_tp, rdI, rdS, rdB, rdN, rdT])]
      rw [← hb]
      have fr : fresh noOw (.comp [6, 7, 8] (.tp [7, 8]) 1 [(.ix (.var 0) (.cst (.int 1)))] [(.call "breaks" [(.var 8), (.var 2), (.var 4)])] (.var 7)) = true := rfl
      have fr2 : fresh noOw (.call "after_day" [(.var 2), (.var 4)]) = false := rfl
      simp only [rb_ok, rb_ex, rb_no, ro_ok, ro_ex, ro_no, ob_nx, ob_rt, ob_ex, ob_no, fin_rt, fin_nx, fin_ex, gv0, gvS, ev_var, rd_f, rd_t, ev_cst, ev_bin, ev_neg, ev_cmp, ev_chain, ev_and, ev_or, ev_not, ev_ite, ev_tup, ev_lst, ev_dct, ev_ix, ev_slice, ev_call, ev_bi, ev_meth, ev_comp, evs_nil, evs_cons, evp_nil, evp_cons, evo_none, evo_some, conds_nil, conds_cons, asBb, asI_int, blk_nil, blk_cons, ex_fz, ex_set, ex_unp, bdO_nil, bdO_cons, ex_mul, storeP_nil, storeP_cons, ex_put, ex_app, ex_exp, ex_ret, ex_raise, ex_ite, ex_for, forO_some, sv0, svS, fz_nil, fz_cons, fzAt0, fzAtS, fz1_s, fz1_n, wipe_nil, wipe_cons, wkS, wk_lst, wkT, wk_dic, wk_enumS, wk_enumT, wk_enumL, wk_zipS, List.set_cons_zero, List.set_cons_succ, initEnv, List.map_cons, List.map_nil, List.length_cons, List.length_nil, List.replicate, List.cons_append, List.nil_append, Nat.reduceAdd, Nat.reduceSub, Nat.add_zero, Nat.zero_add, Bool.false_eq_true, if_true, if_false, ite_true, ite_false, List.zip_cons_cons, List.zip_nil_left, c_eq, c_ne, c_in, c_nin, c_le, c_gt, c_ge, c_lt, c_isN, c_nisN, c_isB, c_nisB, isNon_n, isNon_b, isNon_i, isNon_s, isNon_t, isNon_l, eqD_ss, eqD_ii, eqD_bb, inD_s, b_add, b_sub, neg_i, bi_isiS, bi_isiI, fl_i, fl_s, fl_t, fl_l, fls_n, fls_c, ty_ii, ty_bi, ty_ss, ty_tt, bi_lenS, bi_lenT, bi_lenL, bi_lenD, bi_tupL, bi_intI, ix_t0, ix_t1, ix_l0, ix_l1, ix_t3, sl_t3, sl_t2, sl_s1, Bool.not_true, Bool.not_false, Bool.and_true, Bool.true_and, Bool.and_self, decide_true, decide_false, turn_nm, turn_tp, rdI, rdS, rdB, rdN, rdT, fr, fr2, ee]
      cases bad with
      | nil => simp [rb_ok, rb_ex, rb_no, ro_ok, ro_ex, ro_no, ob_nx, ob_rt, ob_ex, ob_no, fin_rt, fin_nx, fin_ex, gv0, gvS, ev_var, rd_f, rd_t, ev_cst, ev_bin, ev_neg, ev_cmp, ev_chain, ev_and, ev_or, ev_not, ev_ite, ev_tup, ev_lst, ev_dct, ev_ix, ev_slice, ev_call, ev_bi, ev_meth, ev_comp, evs_nil, evs_cons, evp_nil, evp_cons, evo_none, evo_some, conds_nil, conds_cons, asBb, asI_int, blk_nil, blk_cons, ex_fz, ex_set, ex_unp, bdO_nil, bdO_cons, ex_mul, storeP_nil, storeP_cons, ex_put, ex_app, ex_exp, ex_ret, ex_raise, ex_ite, ex_for, forO_some, sv0, svS, fz_nil, fz_cons, fzAt0, fzAtS, fz1_s, fz1_n, wipe_nil, wipe_cons, wkS, wk_lst, wkT, wk_dic, wk_enumS, wk_enumT, wk_enumL, wk_zipS, List.set_cons_zero, List.set_cons_succ, initEnv, List.map_cons, List.map_nil, List.length_cons, List.length_nil, List.replicate, List.cons_append, List.nil_append, Nat.reduceAdd, Nat.reduceSub, Nat.add_zero, Nat.zero_add, Bool.false_eq_true, if_true, if_false, ite_true, ite_false, List.zip_cons_cons, List.zip_nil_left, c_eq, c_ne, c_in, c_nin, c_le, c_gt, c_ge, c_lt, c_isN, c_nisN, c_isB, c_nisB, isNon_n, isNon_b, isNon_i, isNon_s, isNon_t, isNon_l, eqD_ss, eqD_ii, eqD_bb, inD_s, b_add, b_sub, neg_i, bi_isiS, bi_isiI, fl_i, fl_s, fl_t, fl_l, fls_n, fls_c, ty_ii, ty_bi, ty_ss, ty_tt, bi_lenS, bi_lenT, bi_lenL, bi_lenD, bi_tupL, bi_intI, ix_t0, ix_t1, ix_l0, ix_l1, ix_t3, sl_t3, sl_t2, sl_s1, Bool.not_true, Bool.not_false, Bool.and_true, Bool.true_and, Bool.and_self, decide_true, decide_false, turn_nm, turn_tp, rdI, rdS, rdB, rdN, rdT, s_after J.ho J.aft (show q.length < 1000 by omega)]
      | cons b r => simp [rb_ok, rb_ex, rb_no, ro_ok, ro_ex, ro_no, ob_nx, ob_rt, ob_ex, ob_no, fin_rt, fin_nx, fin_ex, gv0, gvS, ev_var, rd_f, rd_t, ev_cst, ev_bin, ev_neg, ev_cmp, ev_chain, ev_and, ev_or, ev_not, ev_ite, ev_tup, ev_lst, ev_dct, ev_ix, ev_slice, ev_call, ev_bi, ev_meth, ev_comp, evs_nil, evs_cons, evp_nil, evp_cons, evo_none, evo_some, conds_nil, conds_cons, asBb, asI_int, blk_nil, blk_cons, ex_fz, ex_set, ex_unp, bdO_nil, bdO_cons, ex_mul, storeP_nil, storeP_cons, ex_put, ex_app, ex_exp, ex_ret, ex_raise, ex_ite, ex_for, forO_some, sv0, svS, fz_nil, fz_cons, fzAt0, fzAtS, fz1_s, fz1_n, wipe_nil, wipe_cons, wkS, wk_lst, wkT, wk_dic, wk_enumS, wk_enumT, wk_enumL, wk_zipS, List.set_cons_zero, List.set_cons_succ, initEnv, List.map_cons, List.map_nil, List.length_cons, List.length_nil, List.replicate, List.cons_append, List.nil_append, Nat.reduceAdd, Nat.reduceSub, Nat.add_zero, Nat.zero_add, Bool.false_eq_true, if_true, if_false, ite_true, ite_false, List.zip_cons_cons, List.zip_nil_left, c_eq, c_ne, c_in, c_nin, c_le, c_gt, c_ge, c_lt, c_isN, c_nisN, c_isB, c_nisB, isNon_n, isNon_b, isNon_i, isNon_s, isNon_t, isNon_l, eqD_ss, eqD_ii, eqD_bb, inD_s, b_add, b_sub, neg_i, bi_isiS, bi_isiI, fl_i, fl_s, fl_t, fl_l, fls_n, fls_c, ty_ii, ty_bi, ty_ss, ty_tt, bi_lenS, bi_lenT, bi_lenL, bi_lenD, bi_tupL, bi_intI, ix_t0, ix_t1, ix_l0, ix_l1, ix_t3, sl_t3, sl_t2, sl_s1, Bool.not_true, Bool.not_false, Bool.and_true, Bool.true_and, Bool.and_self, decide_true, decide_false, turn_nm, turn_tp, rdI, rdS, rdB, rdN, rdT]
    rw [step]
    cases hf : ls.findIdx? (fun l => brk l (a :: q) d) with
    | none =>
      rw [hf] at hh
      have eb : bad = [] := by
        cases h : bad with
        | nil => rfl
        | cons b r => rw [h] at hh; cases hh
      obtain ⟨ρ', ih⟩ := fb_loop J hl hn m cd cal (n + 1) (q ++ [d]) (some (.int (n : Nat), false)) (some (.str [d], false)) (some (.lst bad, true)) (by simp; omega)
      refine ⟨ρ', ?_⟩
      have e1 : fb ls (a :: q) n (d :: cal) = fb ls (q ++ [d]) (n + 1) cal := by
        show (match ls.findIdx? (fun l => brk l (a :: q) d) with | some i => some (n, i) | none => fb ls ((a :: q).tail ++ [d]) (n + 1) cal) = _
        rw [hf]
        rfl
      rw [e1, ← ih, eb]
      rfl
    | some i =>
      rw [hf] at hh
      refine ⟨[], ?_⟩
      have e1 : fb ls (a :: q) n (d :: cal) = some (n, i) := by
        show (match ls.findIdx? (fun l => brk l (a :: q) d) with | some i => some (n, i) | none => fb ls ((a :: q).tail ++ [d]) (n + 1) cal) = _
        rw [hf]
      rw [e1]
      have hh : bad.head? = some (D.int (i : Nat)) := by rw [hh]; simp
      cases h : bad with
      | nil => rw [h] at hh; cases hh
      | cons b r =>
        rw [h] at hh
        cases hh
        rfl
end
end Mp

end Sec_MpSd
section Sec_MpSe
set_option autoImplicit false
set_option linter.all false
set_option maxHeartbeats 4000000
set_option maxRecDepth 100000
namespace Mp
open PySem
structure Chk (F : Str → Option Fn) : Prop where
  ho : owF F = noOw
  int : Has F "is_int" f_is_int
  zo : Has F "has_zones" f_has_zones
  nu : Has F "has_numbers" f_has_numbers
  li : Has F "has_limit" f_has_limit
  bo : Has F "is_book" f_is_book
  cb : Has F "check_book" f_check_book
  da : Has F "are_days" f_are_days
  cc : Has F "check_calendar" f_check_calendar
  dy : Has F "days_of" f_days_of
/-- the rest of judging -/
structure Jud2 (F : Str → Option Fn) : Prop extends Jud F, Chk F where
  fb : Has F "find_broken" f_find_broken
  al : Has F "is_allowed" f_is_allowed
structure JudP (F : Str → Option Fn) : Prop extends Jud2 F where
  fp : Has F "find_past" f_find_past
def CalOk (zs cal : List Nat) : Prop := ∀ c ∈ cal, c = 46 ∨ c ∈ zs
section
variable {F : Str → Option Fn} {k : Nat}
theorem s_has_limit (C : Chk F) {zs : List Nat} {l : Lim} (hl : l.Ok zs) : callF F (k + 3) "has_limit" [.str zs, l.d] = .ok (.bl true) := by
  obtain ⟨kd, z, rest, e1, e2, e3⟩ := s_has_numbers (k := k) C.ho C.nu C.int l hl.nums
  have hz : callF F (k + 2) "has_zones" [.str zs, .str z] = .ok (.bl true) := s_has_zones C.ho C.zo (by rw [e2]; exact hl.z) (by rw [e2]; exact hl.sub)
  have hin : inD (.str kd) (.tup [.str [109, 111, 115, 116], .str [114, 111, 119], .str [103, 97, 112], .str [115, 116, 97, 114, 116, 115]]) = .ok true := by
    rw [inD_t rfl]
    cases l <;> cases e1 <;> rfl
  have hfl : D.flats rest = true := by
    have := l.flat
    rw [e1] at this
    simp only [fl_t, fls_c, Bool.and_eq_true] at this
    exact this.2.2
  have hfl2 : D.flats (.str kd :: .str z :: rest) = true := by simp only [fls_c, fl_s, hfl, Bool.and_self]
  have hlen : ¬ ((rest.length : Int) + 1 + 1 < 2) := by omega
  rw [e1, callF_run C.ho C.li rfl]
  simp [f_has_limit, rb_ok, rb_ex, rb_no, ro_ok, ro_ex, ro_no, ob_nx, ob_rt, ob_ex, ob_no, fin_rt, fin_nx, fin_ex, gv0, gvS, ev_var, rd_f, rd_t, ev_cst, ev_bin, ev_neg, ev_cmp, ev_chain, ev_and, ev_or, ev_not, ev_ite, ev_tup, ev_lst, ev_dct, ev_ix, ev_slice, ev_call, ev_bi, ev_meth, ev_comp, evs_nil, evs_cons, evp_nil, evp_cons, evo_none, evo_some, conds_nil, conds_cons, asBb, asI_int, blk_nil, blk_cons, ex_fz, ex_set, ex_unp, bdO_nil, bdO_cons, ex_mul, storeP_nil, storeP_cons, ex_put, ex_app, ex_exp, ex_ret, ex_raise, ex_ite, ex_for, forO_some, sv0, svS, fz_nil, fz_cons, fzAt0, fzAtS, fz1_s, fz1_n, wipe_nil, wipe_cons, wkS, wk_lst, wkT, wk_dic, wk_enumS, wk_enumT, wk_enumL, wk_zipS, List.set_cons_zero, List.set_cons_succ, initEnv, List.map_cons, List.map_nil, List.length_cons, List.length_nil, List.replicate, List.cons_append, List.nil_append, Nat.reduceAdd, Nat.reduceSub, Nat.add_zero, Nat.zero_add, Bool.false_eq_true, if_true, if_false, ite_true, ite_false, List.zip_cons_cons, List.zip_nil_left, c_eq, c_ne, c_in, c_nin, c_le, c_gt, c_ge, c_lt, c_isN, c_nisN, c_isB, c_nisB, isNon_n, isNon_b, isNon_i, isNon_s, isNon_t, isNon_l, eqD_ss, eqD_ii, eqD_bb, inD_s, b_add, b_sub, neg_i, bi_isiS, bi_isiI, fl_i, fl_s, fl_t, fl_l, fls_n, fls_c, ty_ii, ty_bi, ty_ss, ty_tt, bi_lenS, bi_lenT, bi_lenL, bi_lenD, bi_tupL, bi_intI, ix_t0, ix_t1, ix_l0, ix_l1, ix_t3, sl_t3, sl_t2, sl_s1, Bool.not_true, Bool.not_false, Bool.and_true, Bool.true_and, Bool.and_self, decide_true, decide_false, turn_nm, turn_tp, rdI, rdS, rdB, rdN, rdT, bi_isiT _ hfl2, hz, hin, e3, hlen]
theorem s_is_book (C : Chk F) {zs : List Nat} {ls : List Lim} (B : BookOk zs ls) : callF F (k + 4) "is_book" [bookD zs ls] = .ok (.bl true) := by
  have := line_ge
  have hm := B.many
  have hin : inD (.str zs) (.tup [.str [97], .str [97, 98]]) = .ok true := by
    rw [inD_t rfl]
    rcases B.zo with rfl | rfl <;> rfl
  have hfl : D.flats (ls.map Lim.d) = true := flats_of fun x hx => by
    obtain ⟨l, _, rfl⟩ := List.mem_map.mp hx
    exact l.flat
  have hlen : ¬ (4 < (ls.length : Int)) := by omega
  have hfl2 : D.flats [.str zs, .tup (ls.map Lim.d)] = true := by simp only [fls_c, fls_n, fl_s, fl_t, hfl, Bool.and_self]
  rw [callF_run C.ho C.bo rfl]
  simp only [f_is_book, bookD, rb_ok, rb_ex, rb_no, ro_ok, ro_ex, ro_no, ob_nx, ob_rt, ob_ex, ob_no, fin_rt, fin_nx, fin_ex, gv0, gvS, ev_var, rd_f, rd_t, ev_cst, ev_bin, ev_neg, ev_cmp, ev_chain, ev_and, ev_or, ev_not, ev_ite, ev_tup, ev_lst, ev_dct, ev_ix, ev_slice, ev_call, ev_bi, ev_meth, ev_comp, evs_nil, evs_cons, evp_nil, evp_cons, evo_none, evo_some, conds_nil, conds_cons, asBb, asI_int, blk_nil, blk_cons, ex_fz, ex_set, ex_unp, bdO_nil, bdO_cons, ex_mul, storeP_nil, storeP_cons, ex_put, ex_app, ex_exp, ex_ret, ex_raise, ex_ite, ex_for, forO_some, sv0, svS, fz_nil, fz_cons, fzAt0, fzAtS, fz1_s, fz1_n, wipe_nil, wipe_cons, wkS, wk_lst, wkT, wk_dic, wk_enumS, wk_enumT, wk_enumL, wk_zipS, List.set_cons_zero, List.set_cons_succ, initEnv, List.map_cons, List.map_nil, List.length_cons, List.length_nil, List.replicate, List.cons_append, List.nil_append, Nat.reduceAdd, Nat.reduceSub, Nat.add_zero, Nat.zero_add, Bool.false_eq_true, if_true, if_false, ite_true, ite_false, List.zip_cons_cons, List.zip_nil_left, c_eq, c_ne, c_in, c_nin, c_le, c_gt, c_ge, c_lt, c_isN, c_nisN, c_isB, c_nisB, isNon_n, isNon_b, isNon_i, isNon_s, isNon_t, isNon_l, eqD_ss, eqD_ii, eqD_bb, inD_s, b_add, b_sub, neg_i, bi_isiS, bi_isiI, fl_i, fl_s, fl_t, fl_l, fls_n, fls_c, ty_ii, ty_bi, ty_ss, ty_tt, bi_lenS, bi_lenT, bi_lenL, bi_lenD, bi_tupL, bi_intI, ix_t0, ix_t1, ix_l0, ix_l1, ix_t3, sl_t3, sl_t2, sl_s1, Bool.not_true, Bool.not_false, Bool.and_true, Bool.true_and, Bool.and_self, decide_true, decide_false, turn_nm, turn_tp, rdI, rdS, rdB, rdN, rdT, bi_isiT _ hfl, bi_isiT _ hfl2, hin, List.length_map]
  simp [rb_ok, rb_ex, rb_no, ro_ok, ro_ex, ro_no, ob_nx, ob_rt, ob_ex, ob_no, fin_rt, fin_nx, fin_ex, gv0, gvS, ev_var, rd_f, rd_t, ev_cst, ev_bin, ev_neg, ev_cmp, ev_chain, ev_and, ev_or, ev_not, ev_ite, ev_tup, ev_lst, ev_dct, ev_ix, ev_slice, ev_call, ev_bi, ev_meth, ev_comp, evs_nil, evs_cons, evp_nil, evp_cons, evo_none, evo_some, conds_nil, conds_cons, asBb, asI_int, blk_nil, blk_cons, ex_fz, ex_set, ex_unp, bdO_nil, bdO_cons, ex_mul, storeP_nil, storeP_cons, ex_put, ex_app, ex_exp, ex_ret, ex_raise, ex_ite, ex_for, forO_some, sv0, svS, fz_nil, fz_cons, fzAt0, fzAtS, fz1_s, fz1_n, wipe_nil, wipe_cons, wkS, wk_lst, wkT, wk_dic, wk_enumS, wk_enumT, wk_enumL, wk_zipS, List.set_cons_zero, List.set_cons_succ, initEnv, List.map_cons, List.map_nil, List.length_cons, List.length_nil, List.replicate, List.cons_append, List.nil_append, Nat.reduceAdd, Nat.reduceSub, Nat.add_zero, Nat.zero_add, Bool.false_eq_true, if_true, if_false, ite_true, ite_false, List.zip_cons_cons, List.zip_nil_left, c_eq, c_ne, c_in, c_nin, c_le, c_gt, c_ge, c_lt, c_isN, c_nisN, c_isB, c_nisB, isNon_n, isNon_b, isNon_i, isNon_s, isNon_t, isNon_l, eqD_ss, eqD_ii, eqD_bb, inD_s, b_add, b_sub, neg_i, bi_isiS, bi_isiI, fl_i, fl_s, fl_t, fl_l, fls_n, fls_c, ty_ii, ty_bi, ty_ss, ty_tt, bi_lenS, bi_lenT, bi_lenL, bi_lenD, bi_tupL, bi_intI, ix_t0, ix_t1, ix_l0, ix_l1, ix_t3, sl_t3, sl_t2, sl_s1, Bool.not_true, Bool.not_false, Bool.and_true, Bool.true_and, Bool.and_self, decide_true, decide_false, turn_nm, turn_tp, rdI, rdS, rdB, rdN, rdT, hlen, bi_isiT _ hfl, bi_isiT _ hfl2, hin]
  rw [comL_map (g := Lim.d) (fun l => some (.bl true)) (by omega) (fun l hm => by simp only [rb_ok, rb_ex, rb_no, ro_ok, ro_ex, ro_no, ob_nx, ob_rt, ob_ex, ob_no, fin_rt, fin_nx, fin_ex, gv0, gvS, ev_var, rd_f, rd_t, ev_cst, ev_bin, ev_neg, ev_cmp, ev_chain, ev_and, ev_or, ev_not, ev_ite, ev_tup, ev_lst, ev_dct, ev_ix, ev_slice, ev_call, ev_bi, ev_meth, ev_comp, evs_nil, evs_cons, evp_nil, evp_cons, evo_none, evo_some, conds_nil, conds_cons, asBb, asI_int, blk_nil, blk_cons, ex_fz, ex_set, ex_unp, bdO_nil, bdO_cons, ex_mul, storeP_nil, storeP_cons, ex_put, ex_app, ex_exp, ex_ret, ex_raise, ex_ite, ex_for, forO_some, sv0, svS, fz_nil, fz_cons, fzAt0, fzAtS, fz1_s, fz1_n, wipe_nil, wipe_cons, wkS, wk_lst, wkT, wk_dic, wk_enumS, wk_enumT, wk_enumL, wk_zipS, List.set_cons_zero, List.set_cons_succ, initEnv, List.map_cons, List.map_nil, List.length_cons, List.length_nil, List.replicate, List.cons_append, List.nil_append, Nat.reduceAdd, Nat.reduceSub, Nat.add_zero, Nat.zero_add, Bool.false_eq_true, if_true, if_false, ite_true, ite_false, List.zip_cons_cons, List.zip_nil_left, c_eq, c_ne, c_in, c_nin, c_le, c_gt, c_ge, c_lt, c_isN, c_nisN, c_isB, c_nisB, isNon_n, isNon_b, isNon_i, isNon_s, isNon_t, isNon_l, eqD_ss, eqD_ii, eqD_bb, inD_s, b_add, b_sub, neg_i, bi_isiS, bi_isiI, fl_i, fl_s, fl_t, fl_l, fls_n, fls_c, ty_ii, ty_bi, ty_ss, ty_tt, bi_lenS, bi_lenT, bi_lenL, bi_lenD, bi_tupL, bi_intI, ix_t0, ix_t1, ix_l0, ix_l1, ix_t3, sl_t3, sl_t2, sl_s1, Bool.not_true, Bool.not_false, Bool.and_true, Bool.true_and, Bool.and_self, decide_true, decide_false, turn_nm, turn_tp, rdI, rdS, rdB, rdN, rdT, s_has_limit C (B.all l hm)])]
  rw [filterMap_some (fun l => D.bl true)]
  have : ls.map (fun l => D.bl true) = (ls.map fun l => true).map D.bl := by simp
  rw [this]
  simp only [rb_ok, rb_ex, rb_no, ro_ok, ro_ex, ro_no, ob_nx, ob_rt, ob_ex, ob_no, fin_rt, fin_nx, fin_ex, gv0, gvS, ev_var, rd_f, rd_t, ev_cst, ev_bin, ev_neg, ev_cmp, ev_chain, ev_and, ev_or, ev_not, ev_ite, ev_tup, ev_lst, ev_dct, ev_ix, ev_slice, ev_call, ev_bi, ev_meth, ev_comp, evs_nil, evs_cons, evp_nil, evp_cons, evo_none, evo_some, conds_nil, conds_cons, asBb, asI_int, blk_nil, blk_cons, ex_fz, ex_set, ex_unp, bdO_nil, bdO_cons, ex_mul, storeP_nil, storeP_cons, ex_put, ex_app, ex_exp, ex_ret, ex_raise, ex_ite, ex_for, forO_some, sv0, svS, fz_nil, fz_cons, fzAt0, fzAtS, fz1_s, fz1_n, wipe_nil, wipe_cons, wkS, wk_lst, wkT, wk_dic, wk_enumS, wk_enumT, wk_enumL, wk_zipS, List.set_cons_zero, List.set_cons_succ, initEnv, List.map_cons, List.map_nil, List.length_cons, List.length_nil, List.replicate, List.cons_append, List.nil_append, Nat.reduceAdd, Nat.reduceSub, Nat.add_zero, Nat.zero_add, Bool.false_eq_true, if_true, if_false, ite_true, ite_false, List.zip_cons_cons, List.zip_nil_left, c_eq, c_ne, c_in, c_nin, c_le, c_gt, c_ge, c_lt, c_isN, c_nisN, c_isB, c_nisB, isNon_n, isNon_b, isNon_i, isNon_s, isNon_t, isNon_l, eqD_ss, eqD_ii, eqD_bb, inD_s, b_add, b_sub, neg_i, bi_isiS, bi_isiI, fl_i, fl_s, fl_t, fl_l, fls_n, fls_c, ty_ii, ty_bi, ty_ss, ty_tt, bi_lenS, bi_lenT, bi_lenL, bi_lenD, bi_tupL, bi_intI, ix_t0, ix_t1, ix_l0, ix_l1, ix_t3, sl_t3, sl_t2, sl_s1, Bool.not_true, Bool.not_false, Bool.and_true, Bool.true_and, Bool.and_self, decide_true, decide_false, turn_nm, turn_tp, rdI, rdS, rdB, rdN, rdT, bi_all]
  congr 2
  simp
theorem s_check_book (C : Chk F) {zs : List Nat} {ls : List Lim} (B : BookOk zs ls) : callF F (k + 5) "check_book" [bookD zs ls] = .ok .non := by
  rw [callF_run C.ho C.cb rfl]
  simp only [f_check_book, rb_ok, rb_ex, rb_no, ro_ok, ro_ex, ro_no, ob_nx, ob_rt, ob_ex, ob_no, fin_rt, fin_nx, fin_ex, gv0, gvS, ev_var, rd_f, rd_t, ev_cst, ev_bin, ev_neg, ev_cmp, ev_chain, ev_and, ev_or, ev_not, ev_ite, ev_tup, ev_lst, ev_dct, ev_ix, ev_slice, ev_call, ev_bi, ev_meth, ev_comp, evs_nil, evs_cons, evp_nil, evp_cons, evo_none, evo_some, conds_nil, conds_cons, asBb, asI_int, blk_nil, blk_cons, ex_fz, ex_set, ex_unp, bdO_nil, bdO_cons, ex_mul, storeP_nil, storeP_cons, ex_put, ex_app, ex_exp, ex_ret, ex_raise, ex_ite, ex_for, forO_some, sv0, svS, fz_nil, fz_cons, fzAt0, fzAtS, fz1_s, fz1_n, wipe_nil, wipe_cons, wkS, wk_lst, wkT, wk_dic, wk_enumS, wk_enumT, wk_enumL, wk_zipS, List.set_cons_zero, List.set_cons_succ, initEnv, List.map_cons, List.map_nil, List.length_cons, List.length_nil, List.replicate, List.cons_append, List.nil_append, Nat.reduceAdd, Nat.reduceSub, Nat.add_zero, Nat.zero_add, Bool.false_eq_true, if_true, if_false, ite_true, ite_false, List.zip_cons_cons, List.zip_nil_left, c_eq, c_ne, c_in, c_nin, c_le, c_gt, c_ge, c_lt, c_isN, c_nisN, c_isB, c_nisB, isNon_n, isNon_b, isNon_i, isNon_s, isNon_t, isNon_l, eqD_ss, eqD_ii, eqD_bb, inD_s, b_add, b_sub, neg_i, bi_isiS, bi_isiI, fl_i, fl_s, fl_t, fl_l, fls_n, fls_c, ty_ii, ty_bi, ty_ss, ty_tt, bi_lenS, bi_lenT, bi_lenL, bi_lenD, bi_tupL, bi_intI, ix_t0, ix_t1, ix_l0, ix_l1, ix_t3, sl_t3, sl_t2, sl_s1, Bool.not_true, Bool.not_false, Bool.and_true, Bool.true_and, Bool.and_self, decide_true, decide_false, turn_nm, turn_tp, rdI, rdS, rdB, rdN, rdT, s_is_book C B]
theorem s_are_days (C : Chk F) {zs : List Nat} {ls : List Lim} {cal : List Nat} (h : CalOk zs cal) (hl : cal.length ≤ 60) : callF F (k + 1) "are_days" [bookD zs ls, .str cal, .int 60] = .ok (.bl true) := by
  have := line_ge
  have hlen : (cal.length : Int) ≤ 60 := by omega
  rw [callF_run C.ho C.da rfl]
  simp only [f_are_days, bookD, rb_ok, rb_ex, rb_no, ro_ok, ro_ex, ro_no, ob_nx, ob_rt, ob_ex, ob_no, fin_rt, fin_nx, fin_ex, gv0, gvS, ev_var, rd_f, rd_t, ev_cst, ev_bin, ev_neg, ev_cmp, ev_chain, ev_and, ev_or, ev_not, ev_ite, ev_tup, ev_lst, ev_dct, ev_ix, ev_slice, ev_call, ev_bi, ev_meth, ev_comp, evs_nil, evs_cons, evp_nil, evp_cons, evo_none, evo_some, conds_nil, conds_cons, asBb, asI_int, blk_nil, blk_cons, ex_fz, ex_set, ex_unp, bdO_nil, bdO_cons, ex_mul, storeP_nil, storeP_cons, ex_put, ex_app, ex_exp, ex_ret, ex_raise, ex_ite, ex_for, forO_some, sv0, svS, fz_nil, fz_cons, fzAt0, fzAtS, fz1_s, fz1_n, wipe_nil, wipe_cons, wkS, wk_lst, wkT, wk_dic, wk_enumS, wk_enumT, wk_enumL, wk_zipS, List.set_cons_zero, List.set_cons_succ, initEnv, List.map_cons, List.map_nil, List.length_cons, List.length_nil, List.replicate, List.cons_append, List.nil_append, Nat.reduceAdd, Nat.reduceSub, Nat.add_zero, Nat.zero_add, Bool.false_eq_true, if_true, if_false, ite_true, ite_false, List.zip_cons_cons, List.zip_nil_left, c_eq, c_ne, c_in, c_nin, c_le, c_gt, c_ge, c_lt, c_isN, c_nisN, c_isB, c_nisB, isNon_n, isNon_b, isNon_i, isNon_s, isNon_t, isNon_l, eqD_ss, eqD_ii, eqD_bb, inD_s, b_add, b_sub, neg_i, bi_isiS, bi_isiI, fl_i, fl_s, fl_t, fl_l, fls_n, fls_c, ty_ii, ty_bi, ty_ss, ty_tt, bi_lenS, bi_lenT, bi_lenL, bi_lenD, bi_tupL, bi_intI, ix_t0, ix_t1, ix_l0, ix_l1, ix_t3, sl_t3, sl_t2, sl_s1, Bool.not_true, Bool.not_false, Bool.and_true, Bool.true_and, Bool.and_self, decide_true, decide_false, turn_nm, turn_tp, rdI, rdS, rdB, rdN, rdT, hlen]
  rw [comL_chars (fun c => some (.bl true)) (by omega) (fun c hc => by
    rcases h c hc with rfl | h
    · simp [rb_ok, rb_ex, rb_no, ro_ok, ro_ex, ro_no, ob_nx, ob_rt, ob_ex, ob_no, fin_rt, fin_nx, fin_ex, gv0, gvS, ev_var, rd_f, rd_t, ev_cst, ev_bin, ev_neg, ev_cmp, ev_chain, ev_and, ev_or, ev_not, ev_ite, ev_tup, ev_lst, ev_dct, ev_ix, ev_slice, ev_call, ev_bi, ev_meth, ev_comp, evs_nil, evs_cons, evp_nil, evp_cons, evo_none, evo_some, conds_nil, conds_cons, asBb, asI_int, blk_nil, blk_cons, ex_fz, ex_set, ex_unp, bdO_nil, bdO_cons, ex_mul, storeP_nil, storeP_cons, ex_put, ex_app, ex_exp, ex_ret, ex_raise, ex_ite, ex_for, forO_some, sv0, svS, fz_nil, fz_cons, fzAt0, fzAtS, fz1_s, fz1_n, wipe_nil, wipe_cons, wkS, wk_lst, wkT, wk_dic, wk_enumS, wk_enumT, wk_enumL, wk_zipS, List.set_cons_zero, List.set_cons_succ, initEnv, List.map_cons, List.map_nil, List.length_cons, List.length_nil, List.replicate, List.cons_append, List.nil_append, Nat.reduceAdd, Nat.reduceSub, Nat.add_zero, Nat.zero_add, Bool.false_eq_true, if_true, if_false, ite_true, ite_false, List.zip_cons_cons, List.zip_nil_left, c_eq, c_ne, c_in, c_nin, c_le, c_gt, c_ge, c_lt, c_isN, c_nisN, c_isB, c_nisB, isNon_n, isNon_b, isNon_i, isNon_s, isNon_t, isNon_l, eqD_ss, eqD_ii, eqD_bb, inD_s, b_add, b_sub, neg_i, bi_isiS, bi_isiI, fl_i, fl_s, fl_t, fl_l, fls_n, fls_c, ty_ii, ty_bi, ty_ss, ty_tt, bi_lenS, bi_lenT, bi_lenL, bi_lenD, bi_tupL, bi_intI, ix_t0, ix_t1, ix_l0, ix_l1, ix_t3, sl_t3, sl_t2, sl_s1, Bool.not_true, Bool.not_false, Bool.and_true, Bool.true_and, Bool.and_self, decide_true, decide_false, turn_nm, turn_tp, rdI, rdS, rdB, rdN, rdT]
    · have h : zs.contains c = true := by simpa using h
      by_cases q : c = 46 <;> simp [rb_ok, rb_ex, rb_no, ro_ok, ro_ex, ro_no, ob_nx, ob_rt, ob_ex, ob_no, fin_rt, fin_nx, fin_ex, gv0, gvS, ev_var, rd_f, rd_t, ev_cst, ev_bin, ev_neg, ev_cmp, ev_chain, ev_and, ev_or, ev_not, ev_ite, ev_tup, ev_lst, ev_dct, ev_ix, ev_slice, ev_call, ev_bi, ev_meth, ev_comp, evs_nil, evs_cons, evp_nil, evp_cons, evo_none, evo_some, conds_nil, conds_cons, asBb, asI_int, blk_nil, blk_cons, ex_fz, ex_set, ex_unp, bdO_nil, bdO_cons, ex_mul, storeP_nil, storeP_cons, ex_put, ex_app, ex_exp, ex_ret, ex_raise, ex_ite, ex_for, forO_some, sv0, svS, fz_nil, fz_cons, fzAt0, fzAtS, fz1_s, fz1_n, wipe_nil, wipe_cons, wkS, wk_lst, wkT, wk_dic, wk_enumS, wk_enumT, wk_enumL, wk_zipS, List.set_cons_zero, List.set_cons_succ, initEnv, List.map_cons, List.map_nil, List.length_cons, List.length_nil, List.replicate, List.cons_append, List.nil_append, Nat.reduceAdd, Nat.reduceSub, Nat.add_zero, Nat.zero_add, Bool.false_eq_true, if_true, if_false, ite_true, ite_false, List.zip_cons_cons, List.zip_nil_left, c_eq, c_ne, c_in, c_nin, c_le, c_gt, c_ge, c_lt, c_isN, c_nisN, c_isB, c_nisB, isNon_n, isNon_b, isNon_i, isNon_s, isNon_t, isNon_l, eqD_ss, eqD_ii, eqD_bb, inD_s, b_add, b_sub, neg_i, bi_isiS, bi_isiI, fl_i, fl_s, fl_t, fl_l, fls_n, fls_c, ty_ii, ty_bi, ty_ss, ty_tt, bi_lenS, bi_lenT, bi_lenL, bi_lenD, bi_tupL, bi_intI, ix_t0, ix_t1, ix_l0, ix_l1, ix_t3, sl_t3, sl_t2, sl_s1, Bool.not_true, Bool.not_false, Bool.and_true, Bool.true_and, Bool.and_self, decide_true, decide_false, turn_nm, turn_tp, rdI, rdS, rdB, rdN, rdT, h, q, -List.contains_eq_mem])]
  rw [filterMap_some (fun l => D.bl true)]
  have : cal.map (fun l => D.bl true) = (cal.map fun l => true).map D.bl := by simp
  simp only [this, rb_ok, rb_ex, rb_no, ro_ok, ro_ex, ro_no, ob_nx, ob_rt, ob_ex, ob_no, fin_rt, fin_nx, fin_ex, gv0, gvS, ev_var, rd_f, rd_t, ev_cst, ev_bin, ev_neg, ev_cmp, ev_chain, ev_and, ev_or, ev_not, ev_ite, ev_tup, ev_lst, ev_dct, ev_ix, ev_slice, ev_call, ev_bi, ev_meth, ev_comp, evs_nil, evs_cons, evp_nil, evp_cons, evo_none, evo_some, conds_nil, conds_cons, asBb, asI_int, blk_nil, blk_cons, ex_fz, ex_set, ex_unp, bdO_nil, bdO_cons, ex_mul, storeP_nil, storeP_cons, ex_put, ex_app, ex_exp, ex_ret, ex_raise, ex_ite, ex_for, forO_some, sv0, svS, fz_nil, fz_cons, fzAt0, fzAtS, fz1_s, fz1_n, wipe_nil, wipe_cons, wkS, wk_lst, wkT, wk_dic, wk_enumS, wk_enumT, wk_enumL, wk_zipS, List.set_cons_zero, List.set_cons_succ, initEnv, List.map_cons, List.map_nil, List.length_cons, List.length_nil, List.replicate, List.cons_append, List.nil_append, Nat.reduceAdd, Nat.reduceSub, Nat.add_zero, Nat.zero_add, Bool.false_eq_true, if_true, if_false, ite_true, ite_false, List.zip_cons_cons, List.zip_nil_left, c_eq, c_ne, c_in, c_nin, c_le, c_gt, c_ge, c_lt, c_isN, c_nisN, c_isB, c_nisB, isNon_n, isNon_b, isNon_i, isNon_s, isNon_t, isNon_l, eqD_ss, eqD_ii, eqD_bb, inD_s, b_add, b_sub, neg_i, bi_isiS, bi_isiI, fl_i, fl_s, fl_t, fl_l, fls_n, fls_c, ty_ii, ty_bi, ty_ss, ty_tt, bi_lenS, bi_lenT, bi_lenL, bi_lenD, bi_tupL, bi_intI, ix_t0, ix_t1, ix_l0, ix_l1, ix_t3, sl_t3, sl_t2, sl_s1, Bool.not_true, Bool.not_false, Bool.and_true, Bool.true_and, Bool.and_self, decide_true, decide_false, turn_nm, turn_tp, rdI, rdS, rdB, rdN, rdT, bi_all]
  congr 2
  simp
theorem s_check_cal (C : Chk F) {zs : List Nat} {ls : List Lim} (B : BookOk zs ls) {cal : List Nat} (h : CalOk zs cal) (hl : cal.length ≤ 60) : callF F (k + 6) "check_calendar" [bookD zs ls, .str cal] = .ok .non := by
  rw [callF_run C.ho C.cc rfl]
  simp only [f_check_calendar, rb_ok, rb_ex, rb_no, ro_ok, ro_ex, ro_no, ob_nx, ob_rt, ob_ex, ob_no, fin_rt, fin_nx, fin_ex, gv0, gvS, ev_var, rd_f, rd_t, ev_cst, ev_bin, ev_neg, ev_cmp, ev_chain, ev_and, ev_or, ev_not, ev_ite, ev_tup, ev_lst, ev_dct, ev_ix, ev_slice, ev_call, ev_bi, ev_meth, ev_comp, evs_nil, evs_cons, evp_nil, evp_cons, evo_none, evo_some, conds_nil, conds_cons, asBb, asI_int, blk_nil, blk_cons, ex_fz, ex_set, ex_unp, bdO_nil, bdO_cons, ex_mul, storeP_nil, storeP_cons, ex_put, ex_app, ex_exp, ex_ret, ex_raise, ex_ite, ex_for, forO_some, sv0, svS, fz_nil, fz_cons, fzAt0, fzAtS, fz1_s, fz1_n, wipe_nil, wipe_cons, wkS, wk_lst, wkT, wk_dic, wk_enumS, wk_enumT, wk_enumL, wk_zipS, List.set_cons_zero, List.set_cons_succ, initEnv, List.map_cons, List.map_nil, List.length_cons, List.length_nil, List.replicate, List.cons_append, List.nil_append, Nat.reduceAdd, Nat.reduceSub, Nat.add_zero, Nat.zero_add, Bool.false_eq_true, if_true, if_false, ite_true, ite_false, List.zip_cons_cons, List.zip_nil_left, c_eq, c_ne, c_in, c_nin, c_le, c_gt, c_ge, c_lt, c_isN, c_nisN, c_isB, c_nisB, isNon_n, isNon_b, isNon_i, isNon_s, isNon_t, isNon_l, eqD_ss, eqD_ii, eqD_bb, inD_s, b_add, b_sub, neg_i, bi_isiS, bi_isiI, fl_i, fl_s, fl_t, fl_l, fls_n, fls_c, ty_ii, ty_bi, ty_ss, ty_tt, bi_lenS, bi_lenT, bi_lenL, bi_lenD, bi_tupL, bi_intI, ix_t0, ix_t1, ix_l0, ix_l1, ix_t3, sl_t3, sl_t2, sl_s1, Bool.not_true, Bool.not_false, Bool.and_true, Bool.true_and, Bool.and_self, decide_true, decide_false, turn_nm, turn_tp, rdI, rdS, rdB, rdN, rdT, s_check_book C B, s_are_days (k := k + 4) C (ls := ls) h hl]
theorem s_days_of (C : Chk F) {zs : List Nat} {ls : List Lim} (B : BookOk zs ls) : callF F (k + 1) "days_of" [bookD zs ls] = .ok (.str (46 :: zs)) := by
  have := line_ge
  have hz : zs.length ≤ 2 := by rcases B.zo with rfl | rfl <;> decide
  rw [callF_run C.ho C.dy rfl]
  simp only [f_days_of, bookD, rb_ok, rb_ex, rb_no, ro_ok, ro_ex, ro_no, ob_nx, ob_rt, ob_ex, ob_no, fin_rt, fin_nx, fin_ex, gv0, gvS, ev_var, rd_f, rd_t, ev_cst, ev_bin, ev_neg, ev_cmp, ev_chain, ev_and, ev_or, ev_not, ev_ite, ev_tup, ev_lst, ev_dct, ev_ix, ev_slice, ev_call, ev_bi, ev_meth, ev_comp, evs_nil, evs_cons, evp_nil, evp_cons, evo_none, evo_some, conds_nil, conds_cons, asBb, asI_int, blk_nil, blk_cons, ex_fz, ex_set, ex_unp, bdO_nil, bdO_cons, ex_mul, storeP_nil, storeP_cons, ex_put, ex_app, ex_exp, ex_ret, ex_raise, ex_ite, ex_for, forO_some, sv0, svS, fz_nil, fz_cons, fzAt0, fzAtS, fz1_s, fz1_n, wipe_nil, wipe_cons, wkS, wk_lst, wkT, wk_dic, wk_enumS, wk_enumT, wk_enumL, wk_zipS, List.set_cons_zero, List.set_cons_succ, initEnv, List.map_cons, List.map_nil, List.length_cons, List.length_nil, List.replicate, List.cons_append, List.nil_append, Nat.reduceAdd, Nat.reduceSub, Nat.add_zero, Nat.zero_add, Bool.false_eq_true, if_true, if_false, ite_true, ite_false, List.zip_cons_cons, List.zip_nil_left, c_eq, c_ne, c_in, c_nin, c_le, c_gt, c_ge, c_lt, c_isN, c_nisN, c_isB, c_nisB, isNon_n, isNon_b, isNon_i, isNon_s, isNon_t, isNon_l, eqD_ss, eqD_ii, eqD_bb, inD_s, b_add, b_sub, neg_i, bi_isiS, bi_isiI, fl_i, fl_s, fl_t, fl_l, fls_n, fls_c, ty_ii, ty_bi, ty_ss, ty_tt, bi_lenS, bi_lenT, bi_lenL, bi_lenD, bi_tupL, bi_intI, ix_t0, ix_t1, ix_l0, ix_l1, ix_t3, sl_t3, sl_t2, sl_s1, Bool.not_true, Bool.not_false, Bool.and_true, Bool.true_and, Bool.and_self, decide_true, decide_false, turn_nm, turn_tp, rdI, rdS, rdB, rdN, rdT, b_adds (x := [46]) (y := zs) (by simp; omega)]
theorem s_find_past (J : JudP F) {cal : List Nat} (hl : cal.length ≤ 900) : callF F (k + 2) "find_past" [.str cal] = .ok (.str (lastN ([46, 46, 46, 46, 46] ++ cal) 5)) := by
  have := line_ge
  rw [callF_run J.ho J.fp rfl]
  have hle : 5 ≤ ([46, 46, 46, 46, 46] ++ cal).length := by simp
  have := s_last (k := k) J.ho J.lst hle
  have e : callF F (k + 1) "last" [.str ([46, 46, 46, 46, 46] ++ cal), .int 5] = _ := this
  simp only [List.cons_append, List.nil_append] at e
  simp only [f_find_past, rb_ok, rb_ex, rb_no, ro_ok, ro_ex, ro_no, ob_nx, ob_rt, ob_ex, ob_no, fin_rt, fin_nx, fin_ex, gv0, gvS, ev_var, rd_f, rd_t, ev_cst, ev_bin, ev_neg, ev_cmp, ev_chain, ev_and, ev_or, ev_not, ev_ite, ev_tup, ev_lst, ev_dct, ev_ix, ev_slice, ev_call, ev_bi, ev_meth, ev_comp, evs_nil, evs_cons, evp_nil, evp_cons, evo_none, evo_some, conds_nil, conds_cons, asBb, asI_int, blk_nil, blk_cons, ex_fz, ex_set, ex_unp, bdO_nil, bdO_cons, ex_mul, storeP_nil, storeP_cons, ex_put, ex_app, ex_exp, ex_ret, ex_raise, ex_ite, ex_for, forO_some, sv0, svS, fz_nil, fz_cons, fzAt0, fzAtS, fz1_s, fz1_n, wipe_nil, wipe_cons, wkS, wk_lst, wkT, wk_dic, wk_enumS, wk_enumT, wk_enumL, wk_zipS, List.set_cons_zero, List.set_cons_succ, initEnv, List.map_cons, List.map_nil, List.length_cons, List.length_nil, List.replicate, List.cons_append, List.nil_append, Nat.reduceAdd, Nat.reduceSub, Nat.add_zero, Nat.zero_add, Bool.false_eq_true, if_true, if_false, ite_true, ite_false, List.zip_cons_cons, List.zip_nil_left, c_eq, c_ne, c_in, c_nin, c_le, c_gt, c_ge, c_lt, c_isN, c_nisN, c_isB, c_nisB, isNon_n, isNon_b, isNon_i, isNon_s, isNon_t, isNon_l, eqD_ss, eqD_ii, eqD_bb, inD_s, b_add, b_sub, neg_i, bi_isiS, bi_isiI, fl_i, fl_s, fl_t, fl_l, fls_n, fls_c, ty_ii, ty_bi, ty_ss, ty_tt, bi_lenS, bi_lenT, bi_lenL, bi_lenD, bi_tupL, bi_intI, ix_t0, ix_t1, ix_l0, ix_l1, ix_t3, sl_t3, sl_t2, sl_s1, Bool.not_true, Bool.not_false, Bool.and_true, Bool.true_and, Bool.and_self, decide_true, decide_false, turn_nm, turn_tp, rdI, rdS, rdB, rdN, rdT, b_adds (x := [46, 46, 46, 46, 46]) (y := cal) (by simp; omega), e]
theorem s_find_broken (J : Jud2 F) {zs : List Nat} {ls : List Lim} (B : BookOk zs ls) (cal : List Nat) : callF F (k + 4) "find_broken" [bookD zs ls, .str cal] = .ok (match fb ls [46, 46, 46, 46, 46] 0 cal with | some p => .tup [.int (p.1 : Nat), .int (p.2 : Nat)] | none => .non) := by
  obtain ⟨ρ', h⟩ := fb_loop (k := k) J.toJud B.all B.many (N0 + 48) (some (.str cal, false)) cal 0 [46, 46, 46, 46, 46] none none none rfl
  rw [callF_run J.ho J.fb rfl]
  have fr : fresh noOw (.cst (.str [46, 46, 46, 46, 46])) = false := rfl
  have h2 := h
  simp only [fb_body, f_find_broken, loopOf] at h2
  simp only [f_find_broken, bookD, rb_ok, rb_ex, rb_no, ro_ok, ro_ex, ro_no, ob_nx, ob_rt, ob_ex, ob_no, fin_rt, fin_nx, fin_ex, gv0, gvS, ev_var, rd_f, rd_t, ev_cst, ev_bin, ev_neg, ev_cmp, ev_chain, ev_and, ev_or, ev_not, ev_ite, ev_tup, ev_lst, ev_dct, ev_ix, ev_slice, ev_call, ev_bi, ev_meth, ev_comp, evs_nil, evs_cons, evp_nil, evp_cons, evo_none, evo_some, conds_nil, conds_cons, asBb, asI_int, blk_nil, blk_cons, ex_fz, ex_set, ex_unp, bdO_nil, bdO_cons, ex_mul, storeP_nil, storeP_cons, ex_put, ex_app, ex_exp, ex_ret, ex_raise, ex_ite, ex_for, forO_some, sv0, svS, fz_nil, fz_cons, fzAt0, fzAtS, fz1_s, fz1_n, wipe_nil, wipe_cons, wkS, wk_lst, wkT, wk_dic, wk_enumS, wk_enumT, wk_enumL, wk_zipS, List.set_cons_zero, List.set_cons_succ, initEnv, List.map_cons, List.map_nil, List.length_cons, List.length_nil, List.replicate, List.cons_append, List.nil_append, Nat.reduceAdd, Nat.reduceSub, Nat.add_zero, Nat.zero_add, Bool.false_eq_true, if_true, if_false, ite_true, ite_false, List.zip_cons_cons, List.zip_nil_left, c_eq, c_ne, c_in, c_nin, c_le, c_gt, c_ge, c_lt, c_isN, c_nisN, c_isB, c_nisB, isNon_n, isNon_b, isNon_i, isNon_s, isNon_t, isNon_l, eqD_ss, eqD_ii, eqD_bb, inD_s, b_add, b_sub, neg_i, bi_isiS, bi_isiI, fl_i, fl_s, fl_t, fl_l, fls_n, fls_c, ty_ii, ty_bi, ty_ss, ty_tt, bi_lenS, bi_lenT, bi_lenL, bi_lenD, bi_tupL, bi_intI, ix_t0, ix_t1, ix_l0, ix_l1, ix_t3, sl_t3, sl_t2, sl_s1, Bool.not_true, Bool.not_false, Bool.and_true, Bool.true_and, Bool.and_self, decide_true, decide_false, turn_nm, turn_tp, rdI, rdS, rdB, rdN, rdT, fr, enumD_chars] at h2 ⊢
  rw [h2]
  cases fb ls [46, 46, 46, 46, 46] 0 cal <;> rfl
theorem s_allowed (J : Jud2 F) {zs : List Nat} {ls : List Lim} (B : BookOk zs ls) {cal : List Nat} (h : CalOk zs cal) (hl : cal.length ≤ 60) : callF F (k + 7) "is_allowed" [bookD zs ls, .str cal] = .ok (.bl (fb ls [46, 46, 46, 46, 46] 0 cal).isNone) := by
  rw [callF_run J.ho J.al rfl]
  simp only [f_is_allowed, rb_ok, rb_ex, rb_no, ro_ok, ro_ex, ro_no, ob_nx, ob_rt, ob_ex, ob_no, fin_rt, fin_nx, fin_ex, gv0, gvS, ev_var, rd_f, rd_t, ev_cst, ev_bin, ev_neg, ev_cmp, ev_chain, ev_and, ev_or, ev_not, ev_ite, ev_tup, ev_lst, ev_dct, ev_ix, ev_slice, ev_call, ev_bi, ev_meth, ev_comp, evs_nil, evs_cons, evp_nil, evp_cons, evo_none, evo_some, conds_nil, conds_cons, asBb, asI_int, blk_nil, blk_cons, ex_fz, ex_set, ex_unp, bdO_nil, bdO_cons, ex_mul, storeP_nil, storeP_cons, ex_put, ex_app, ex_exp, ex_ret, ex_raise, ex_ite, ex_for, forO_some, sv0, svS, fz_nil, fz_cons, fzAt0, fzAtS, fz1_s, fz1_n, wipe_nil, wipe_cons, wkS, wk_lst, wkT, wk_dic, wk_enumS, wk_enumT, wk_enumL, wk_zipS, List.set_cons_zero, List.set_cons_succ, initEnv, List.map_cons, List.map_nil, List.length_cons, List.length_nil, List.replicate, List.cons_append, List.nil_append, Nat.reduceAdd, Nat.reduceSub, Nat.add_zero, Nat.zero_add, Bool.false_eq_true, if_true, if_false, ite_true, ite_false, List.zip_cons_cons, List.zip_nil_left, c_eq, c_ne, c_in, c_nin, c_le, c_gt, c_ge, c_lt, c_isN, c_nisN, c_isB, c_nisB, isNon_n, isNon_b, isNon_i, isNon_s, isNon_t, isNon_l, eqD_ss, eqD_ii, eqD_bb, inD_s, b_add, b_sub, neg_i, bi_isiS, bi_isiI, fl_i, fl_s, fl_t, fl_l, fls_n, fls_c, ty_ii, ty_bi, ty_ss, ty_tt, bi_lenS, bi_lenT, bi_lenL, bi_lenD, bi_tupL, bi_intI, ix_t0, ix_t1, ix_l0, ix_l1, ix_t3, sl_t3, sl_t2, sl_s1, Bool.not_true, Bool.not_false, Bool.and_true, Bool.true_and, Bool.and_self, decide_true, decide_false, turn_nm, turn_tp, rdI, rdS, rdB, rdN, rdT, s_check_cal J.toChk B h hl, s_find_broken J B]
  cases fb ls [46, 46, 46, 46, 46] 0 cal <;> rfl
end
end Mp

end Sec_MpSe
section Sec_MpSf
set_option autoImplicit false
set_option linter.all false
set_option maxHeartbeats 4000000
set_option maxRecDepth 100000
namespace Mp
open PySem
def dr_tail : List S := f__law_drawn.body.drop 2
theorem dr_end {cf : Str → List D → R D} {m : Nat} {s0 s4 s5 : Slot} {kk cell : Int} {many : Nat} {o : Bool} (hm : 0 < many) :
    ∃ r : Nat, r < many ∧ fin (blk (ex noOw cf (m + 50)) dr_tail [s0, some (.int kk, false), some (.int many, false), some (.int cell, o), s4, s5]) = .ok (.int r) := by
  have a1 : ∀ x : Int, -18446744073709551616 < x % 2147483563 ∧ x % 2147483563 < 18446744073709551616 := fun x => by omega
  have a2 : ∀ x : Int, -18446744073709551616 < x % 2147483399 ∧ x % 2147483399 < 18446744073709551616 := fun x => by omega
  have b1 : ∀ i j : Int, bin .mul (.int (i % 2147483563)) (.int j) = .ok (.int (i % 2147483563 * j)) := fun i j => b_mul_l (a1 i)
  have b2 : ∀ i j : Int, bin .mul (.int (i % 2147483399)) (.int j) = .ok (.int (i % 2147483399 * j)) := fun i j => b_mul_l (a2 i)
  have b3 : ∀ j : Int, bin .mul (.int 104723) (.int j) = .ok (.int (104723 * j)) := fun j => b_mul_l (by omega)
  have c1 : ∀ i : Int, bin .mod (.int i) (.int 2147483563) = .ok (.int (i % 2147483563)) := fun i => b_mod (by decide)
  have c2 : ∀ i : Int, bin .mod (.int i) (.int 2147483399) = .ok (.int (i % 2147483399)) := fun i => b_mod (by decide)
  have c3 : ∀ i : Int, bin .mod (.int i) (.int 2147483647) = .ok (.int (i % 2147483647)) := fun i => b_mod (by decide)
  have c4 : ∀ i : Int, bin .mod (.int i) (.int many) = .ok (.int (i % many)) := fun i => b_mod (by omega)
  have d1 : ∀ i : Int, bin .fdiv (.int i) (.int 3) = .ok (.int (i / 3)) := fun i => b_fdiv' (by decide) (by decide)
  have d2 : ∀ i : Int, bin .fdiv (.int i) (.int 7) = .ok (.int (i / 7)) := fun i => b_fdiv' (by decide) (by decide)
  have d3 : ∀ i : Int, bin .fdiv (.int i) (.int 11) = .ok (.int (i / 11)) := fun i => b_fdiv' (by decide) (by decide)
  simp only [dr_tail, f__law_drawn, List.drop, rb_ok, rb_ex, rb_no, ro_ok, ro_ex, ro_no, ob_nx, ob_rt, ob_ex, ob_no, fin_rt, fin_nx, fin_ex, gv0, gvS, ev_var, rd_f, rd_t, ev_cst, ev_bin, ev_neg, ev_cmp, ev_chain, ev_and, ev_or, ev_not, ev_ite, ev_tup, ev_lst, ev_dct, ev_ix, ev_slice, ev_call, ev_bi, ev_meth, ev_comp, evs_nil, evs_cons, evp_nil, evp_cons, evo_none, evo_some, conds_nil, conds_cons, asBb, asI_int, blk_nil, blk_cons, ex_fz, ex_set, ex_unp, bdO_nil, bdO_cons, ex_mul, storeP_nil, storeP_cons, ex_put, ex_app, ex_exp, ex_ret, ex_raise, ex_ite, ex_for, forO_some, sv0, svS, fz_nil, fz_cons, fzAt0, fzAtS, fz1_s, fz1_n, wipe_nil, wipe_cons, wkS, wk_lst, wkT, wk_dic, wk_enumS, wk_enumT, wk_enumL, wk_zipS, List.set_cons_zero, List.set_cons_succ, initEnv, List.map_cons, List.map_nil, List.length_cons, List.length_nil, List.replicate, List.cons_append, List.nil_append, Nat.reduceAdd, Nat.reduceSub, Nat.add_zero, Nat.zero_add, Bool.false_eq_true, if_true, if_false, ite_true, ite_false, List.zip_cons_cons, List.zip_nil_left, c_eq, c_ne, c_in, c_nin, c_le, c_gt, c_ge, c_lt, c_isN, c_nisN, c_isB, c_nisB, isNon_n, isNon_b, isNon_i, isNon_s, isNon_t, isNon_l, eqD_ss, eqD_ii, eqD_bb, inD_s, b_add, b_sub, neg_i, bi_isiS, bi_isiI, fl_i, fl_s, fl_t, fl_l, fls_n, fls_c, ty_ii, ty_bi, ty_ss, ty_tt, bi_lenS, bi_lenT, bi_lenL, bi_lenD, bi_tupL, bi_intI, ix_t0, ix_t1, ix_l0, ix_l1, ix_t3, sl_t3, sl_t2, sl_s1, Bool.not_true, Bool.not_false, Bool.and_true, Bool.true_and, Bool.and_self, decide_true, decide_false, turn_nm, turn_tp, rdI, rdS, rdB, rdN, rdT, b1, b2, b3, c1, c2, c3, c4, d1, d2, d3]
  generalize ((_ : Int) / 11) = v
  have h1 : 0 ≤ v % many := Int.emod_nonneg _ (by omega)
  have h2 : v % many < many := Int.emod_lt_of_pos _ (by omega)
  exact ⟨(v % many).toNat, by omega, by rw [Int.toNat_of_nonneg h1]⟩
def dr_while : S := match f__law_drawn.body with
  | [_, .ite _ [_, _, .ite _ [_, w, _] _, _] _, _, _, _] => w
  | _ => .ret (.var 0)
theorem dr_loop {cf : Str → List D → R D} {s0 s1 s2 s3 : Slot} : ∀ (t : Nat) (m : Nat) (rest : Int) (o o' : Bool), ∃ (a b : Int) (o1 o2 : Bool), ex noOw cf (m + t + 20) dr_while [s0, s1, s2, s3, some (.int t, o), some (.int rest, o')] = .nx [s0, s1, s2, s3, some (.int b, o1), some (.int a, o2)]
  | 0, m, rest, o, o' => by
    refine ⟨rest, 0, o, o', ?_⟩
    unfold dr_while
    simp only [f__law_drawn, ex_whl, rb_ok, rb_ex, rb_no, ro_ok, ro_ex, ro_no, ob_nx, ob_rt, ob_ex, ob_no, fin_rt, fin_nx, fin_ex, gv0, gvS, ev_var, rd_f, rd_t, ev_cst, ev_bin, ev_neg, ev_cmp, ev_chain, ev_and, ev_or, ev_not, ev_ite, ev_tup, ev_lst, ev_dct, ev_ix, ev_slice, ev_call, ev_bi, ev_meth, ev_comp, evs_nil, evs_cons, evp_nil, evp_cons, evo_none, evo_some, conds_nil, conds_cons, asBb, asI_int, blk_nil, blk_cons, ex_fz, ex_set, ex_unp, bdO_nil, bdO_cons, ex_mul, storeP_nil, storeP_cons, ex_put, ex_app, ex_exp, ex_ret, ex_raise, ex_ite, ex_for, forO_some, sv0, svS, fz_nil, fz_cons, fzAt0, fzAtS, fz1_s, fz1_n, wipe_nil, wipe_cons, wkS, wk_lst, wkT, wk_dic, wk_enumS, wk_enumT, wk_enumL, wk_zipS, List.set_cons_zero, List.set_cons_succ, initEnv, List.map_cons, List.map_nil, List.length_cons, List.length_nil, List.replicate, List.cons_append, List.nil_append, Nat.reduceAdd, Nat.reduceSub, Nat.add_zero, Nat.zero_add, Bool.false_eq_true, if_true, if_false, ite_true, ite_false, List.zip_cons_cons, List.zip_nil_left, c_eq, c_ne, c_in, c_nin, c_le, c_gt, c_ge, c_lt, c_isN, c_nisN, c_isB, c_nisB, isNon_n, isNon_b, isNon_i, isNon_s, isNon_t, isNon_l, eqD_ss, eqD_ii, eqD_bb, inD_s, b_add, b_sub, neg_i, bi_isiS, bi_isiI, fl_i, fl_s, fl_t, fl_l, fls_n, fls_c, ty_ii, ty_bi, ty_ss, ty_tt, bi_lenS, bi_lenT, bi_lenL, bi_lenD, bi_tupL, bi_intI, ix_t0, ix_t1, ix_l0, ix_l1, ix_t3, sl_t3, sl_t2, sl_s1, Bool.not_true, Bool.not_false, Bool.and_true, Bool.true_and, Bool.and_self, decide_true, decide_false, turn_nm, turn_tp, rdI, rdS, rdB, rdN, rdT]
    by_cases h : 0 < rest <;> simp [h, rb_ok, rb_ex, rb_no, ro_ok, ro_ex, ro_no, ob_nx, ob_rt, ob_ex, ob_no, fin_rt, fin_nx, fin_ex, gv0, gvS, ev_var, rd_f, rd_t, ev_cst, ev_bin, ev_neg, ev_cmp, ev_chain, ev_and, ev_or, ev_not, ev_ite, ev_tup, ev_lst, ev_dct, ev_ix, ev_slice, ev_call, ev_bi, ev_meth, ev_comp, evs_nil, evs_cons, evp_nil, evp_cons, evo_none, evo_some, conds_nil, conds_cons, asBb, asI_int, blk_nil, blk_cons, ex_fz, ex_set, ex_unp, bdO_nil, bdO_cons, ex_mul, storeP_nil, storeP_cons, ex_put, ex_app, ex_exp, ex_ret, ex_raise, ex_ite, ex_for, forO_some, sv0, svS, fz_nil, fz_cons, fzAt0, fzAtS, fz1_s, fz1_n, wipe_nil, wipe_cons, wkS, wk_lst, wkT, wk_dic, wk_enumS, wk_enumT, wk_enumL, wk_zipS, List.set_cons_zero, List.set_cons_succ, initEnv, List.map_cons, List.map_nil, List.length_cons, List.length_nil, List.replicate, List.cons_append, List.nil_append, Nat.reduceAdd, Nat.reduceSub, Nat.add_zero, Nat.zero_add, Bool.false_eq_true, if_true, if_false, ite_true, ite_false, List.zip_cons_cons, List.zip_nil_left, c_eq, c_ne, c_in, c_nin, c_le, c_gt, c_ge, c_lt, c_isN, c_nisN, c_isB, c_nisB, isNon_n, isNon_b, isNon_i, isNon_s, isNon_t, isNon_l, eqD_ss, eqD_ii, eqD_bb, inD_s, b_add, b_sub, neg_i, bi_isiS, bi_isiI, fl_i, fl_s, fl_t, fl_l, fls_n, fls_c, ty_ii, ty_bi, ty_ss, ty_tt, bi_lenS, bi_lenT, bi_lenL, bi_lenD, bi_tupL, bi_intI, ix_t0, ix_t1, ix_l0, ix_l1, ix_t3, sl_t3, sl_t2, sl_s1, Bool.not_true, Bool.not_false, Bool.and_true, Bool.true_and, Bool.and_self, decide_true, decide_false, turn_nm, turn_tp, rdI, rdS, rdB, rdN, rdT]
  | t + 1, m, rest, o, o' => by
    by_cases h : 0 < rest
    · obtain ⟨a, b, o1, o2, ih⟩ := dr_loop (cf := cf) (s0 := s0) (s1 := s1) (s2 := s2) (s3 := s3) t m (rest / 1000000) false false
      refine ⟨a, b, o1, o2, ?_⟩
      have e : ((t + 1 : Nat) : Int) - 1 = t := by omega
      have d1 : bin .fdiv (.int rest) (.int 1000000) = .ok (.int (rest / 1000000)) := b_fdiv' (by decide) (by decide)
      have ht : (0 : Int) < ((t + 1 : Nat) : Int) := by omega
      have f1 : m + (t + 1) + 20 = (m + t + 20) + 1 := by omega
      have f2 : m + t + 20 = (m + t + 10) + 10 := by omega
      have fr1 : fresh noOw (.bin .fdiv (.var 5) (.cst (.int (1000000)))) = false := rfl
      have fr2 : fresh noOw (.bin .sub (.var 4) (.cst (.int (1)))) = false := rfl
      have hw : dr_while = .whl (.and (.cmp .gt (.var 5) (.cst (.int (0)))) (.cmp .gt (.var 4) (.cst (.int (0))))) [(.set 5 (.bin .fdiv (.var 5) (.cst (.int (1000000))))), (.set 4 (.bin .sub (.var 4) (.cst (.int (1)))))] := rfl
      rw [f1, hw, ex_whl, ← hw]
      rw [f2] at ih ⊢
      simp only [rb_ok, rb_ex, rb_no, ro_ok, ro_ex, ro_no, ob_nx, ob_rt, ob_ex, ob_no, fin_rt, fin_nx, fin_ex, gv0, gvS, ev_var, rd_f, rd_t, ev_cst, ev_bin, ev_neg, ev_cmp, ev_chain, ev_and, ev_or, ev_not, ev_ite, ev_tup, ev_lst, ev_dct, ev_ix, ev_slice, ev_call, ev_bi, ev_meth, ev_comp, evs_nil, evs_cons, evp_nil, evp_cons, evo_none, evo_some, conds_nil, conds_cons, asBb, asI_int, blk_nil, blk_cons, ex_fz, ex_set, ex_unp, bdO_nil, bdO_cons, ex_mul, storeP_nil, storeP_cons, ex_put, ex_app, ex_exp, ex_ret, ex_raise, ex_ite, ex_for, forO_some, sv0, svS, fz_nil, fz_cons, fzAt0, fzAtS, fz1_s, fz1_n, wipe_nil, wipe_cons, wkS, wk_lst, wkT, wk_dic, wk_enumS, wk_enumT, wk_enumL, wk_zipS, List.set_cons_zero, List.set_cons_succ, initEnv, List.map_cons, List.map_nil, List.length_cons, List.length_nil, List.replicate, List.cons_append, List.nil_append, Nat.reduceAdd, Nat.reduceSub, Nat.add_zero, Nat.zero_add, Bool.false_eq_true, if_true, if_false, ite_true, ite_false, List.zip_cons_cons, List.zip_nil_left, c_eq, c_ne, c_in, c_nin, c_le, c_gt, c_ge, c_lt, c_isN, c_nisN, c_isB, c_nisB, isNon_n, isNon_b, isNon_i, isNon_s, isNon_t, isNon_l, eqD_ss, eqD_ii, eqD_bb, inD_s, b_add, b_sub, neg_i, bi_isiS, bi_isiI, fl_i, fl_s, fl_t, fl_l, fls_n, fls_c, ty_ii, ty_bi, ty_ss, ty_tt, bi_lenS, bi_lenT, bi_lenL, bi_lenD, bi_tupL, bi_intI, ix_t0, ix_t1, ix_l0, ix_l1, ix_t3, sl_t3, sl_t2, sl_s1, Bool.not_true, Bool.not_false, Bool.and_true, Bool.true_and, Bool.and_self, decide_true, decide_false, turn_nm, turn_tp, rdI, rdS, rdB, rdN, rdT, h, ht, d1, e, fr1, fr2, ih]
    · refine ⟨rest, ((t + 1 : Nat) : Int), o, o', ?_⟩
      have f1 : m + (t + 1) + 20 = (m + t + 1) + 20 := by omega
      rw [f1]
      unfold dr_while
      simp only [f__law_drawn, ex_whl, rb_ok, rb_ex, rb_no, ro_ok, ro_ex, ro_no, ob_nx, ob_rt, ob_ex, ob_no, fin_rt, fin_nx, fin_ex, gv0, gvS, ev_var, rd_f, rd_t, ev_cst, ev_bin, ev_neg, ev_cmp, ev_chain, ev_and, ev_or, ev_not, ev_ite, ev_tup, ev_lst, ev_dct, ev_ix, ev_slice, ev_call, ev_bi, ev_meth, ev_comp, evs_nil, evs_cons, evp_nil, evp_cons, evo_none, evo_some, conds_nil, conds_cons, asBb, asI_int, blk_nil, blk_cons, ex_fz, ex_set, ex_unp, bdO_nil, bdO_cons, ex_mul, storeP_nil, storeP_cons, ex_put, ex_app, ex_exp, ex_ret, ex_raise, ex_ite, ex_for, forO_some, sv0, svS, fz_nil, fz_cons, fzAt0, fzAtS, fz1_s, fz1_n, wipe_nil, wipe_cons, wkS, wk_lst, wkT, wk_dic, wk_enumS, wk_enumT, wk_enumL, wk_zipS, List.set_cons_zero, List.set_cons_succ, initEnv, List.map_cons, List.map_nil, List.length_cons, List.length_nil, List.replicate, List.cons_append, List.nil_append, Nat.reduceAdd, Nat.reduceSub, Nat.add_zero, Nat.zero_add, Bool.false_eq_true, if_true, if_false, ite_true, ite_false, List.zip_cons_cons, List.zip_nil_left, c_eq, c_ne, c_in, c_nin, c_le, c_gt, c_ge, c_lt, c_isN, c_nisN, c_isB, c_nisB, isNon_n, isNon_b, isNon_i, isNon_s, isNon_t, isNon_l, eqD_ss, eqD_ii, eqD_bb, inD_s, b_add, b_sub, neg_i, bi_isiS, bi_isiI, fl_i, fl_s, fl_t, fl_l, fls_n, fls_c, ty_ii, ty_bi, ty_ss, ty_tt, bi_lenS, bi_lenT, bi_lenL, bi_lenD, bi_tupL, bi_intI, ix_t0, ix_t1, ix_l0, ix_l1, ix_t3, sl_t3, sl_t2, sl_s1, Bool.not_true, Bool.not_false, Bool.and_true, Bool.true_and, Bool.and_self, decide_true, decide_false, turn_nm, turn_tp, rdI, rdS, rdB, rdN, rdT, h]
end Mp

end Sec_MpSf
section Sec_MpSg
set_option autoImplicit false
set_option linter.all false
set_option maxHeartbeats 4000000
set_option maxRecDepth 100000
namespace Mp
open PySem
theorem noOw_call (f : Str) (es : List E) : fresh noOw (.call f es) = false := rfl
theorem ints_flat (ns : List Int) : ∀ x ∈ ns.map D.int, x.flat = true := fun x hx => by
  obtain ⟨i, _, rfl⟩ := List.mem_map.mp hx
  rfl
theorem ints_depth (ns : List Int) : ∀ x ∈ ns.map D.int, x.depth ≤ 50 := fun x hx => by
  obtain ⟨i, _, rfl⟩ := List.mem_map.mp hx
  exact Nat.zero_le _
theorem blk_app (f : S → Env → Out) (ss ts : List S) (ρ : Env) : blk f (ss ++ ts) ρ = (blk f ss ρ).bind fun ρ => blk f ts ρ := by
  induction ss generalizing ρ with
  | nil => rfl
  | cons s r ih =>
    show (f s ρ).bind (fun ρ => blk f (r ++ ts) ρ) = ((f s ρ).bind fun ρ => blk f r ρ).bind fun ρ => blk f ts ρ
    cases f s ρ with
    | nx ρ' => exact ih ρ'
    | _ => rfl
theorem s_drawn {F : Str → Option Fn} (ho : owF F = noOw) (h : Has F "_law_drawn" f__law_drawn) {k : Nat} {ns : List Int} (hns : ns.length ≤ 63) (kk : Nat) {many : Nat} (hm : 0 < many) :
    ∃ r : Nat, r < many ∧ callF F (k + 1) "_law_drawn" [.lst (ns.map .int), .int kk, .int many] = .ok (.int r) := by
  rw [callF_run ho h rfl]
  have hb : f__law_drawn.body = f__law_drawn.body.take 2 ++ dr_tail := rfl
  rw [hb, blk_app]
  have ee := eqD_emp (ints_flat ns) (ints_depth ns)
  have m7 : bin .mul (.int 7) (.int kk) = .ok (.int (7 * kk)) := b_mul_l (by decide)
  have fr1 : fresh noOw (.bin .mul (.cst (.int (7))) (.var 1)) = false := rfl
  by_cases hn : ns = []
  · subst hn
    have e1 : ([] : List Int).map D.int = [] := rfl
    rw [e1]
    have : blk (ex noOw (callF F k) (N0 + 100)) (List.take 2 f__law_drawn.body) (initEnv f__law_drawn.names.length [.lst [], .int kk, .int many])
        = .nx [some (.lst [], false), some (.int kk, false), some (.int many, false), some (.int (7 * kk), false), none, none] := by
      have e2 : eqD (.lst []) (.lst []) = .ok true := ee
      simp only [f__law_drawn, List.take, rb_ok, rb_ex, rb_no, ro_ok, ro_ex, ro_no, ob_nx, ob_rt, ob_ex, ob_no, fin_rt, fin_nx, fin_ex, gv0, gvS, ev_var, rd_f, rd_t, ev_cst, ev_bin, ev_neg, ev_cmp, ev_chain, ev_and, ev_or, ev_not, ev_ite, ev_tup, ev_lst, ev_dct, ev_ix, ev_slice, ev_call, ev_bi, ev_meth, ev_comp, evs_nil, evs_cons, evp_nil, evp_cons, evo_none, evo_some, conds_nil, conds_cons, asBb, asI_int, blk_nil, blk_cons, ex_fz, ex_set, ex_unp, bdO_nil, bdO_cons, ex_mul, storeP_nil, storeP_cons, ex_put, ex_app, ex_exp, ex_ret, ex_raise, ex_ite, ex_for, forO_some, sv0, svS, fz_nil, fz_cons, fzAt0, fzAtS, fz1_s, fz1_n, wipe_nil, wipe_cons, wkS, wk_lst, wkT, wk_dic, wk_enumS, wk_enumT, wk_enumL, wk_zipS, List.set_cons_zero, List.set_cons_succ, initEnv, List.map_cons, List.map_nil, List.length_cons, List.length_nil, List.replicate, List.cons_append, List.nil_append, Nat.reduceAdd, Nat.reduceSub, Nat.add_zero, Nat.zero_add, Bool.false_eq_true, if_true, if_false, ite_true, ite_false, List.zip_cons_cons, List.zip_nil_left, c_eq, c_ne, c_in, c_nin, c_le, c_gt, c_ge, c_lt, c_isN, c_nisN, c_isB, c_nisB, isNon_n, isNon_b, isNon_i, isNon_s, isNon_t, isNon_l, eqD_ss, eqD_ii, eqD_bb, inD_s, b_add, b_sub, neg_i, bi_isiS, bi_isiI, fl_i, fl_s, fl_t, fl_l, fls_n, fls_c, ty_ii, ty_bi, ty_ss, ty_tt, bi_lenS, bi_lenT, bi_lenL, bi_lenD, bi_tupL, bi_intI, ix_t0, ix_t1, ix_l0, ix_l1, ix_t3, sl_t3, sl_t2, sl_s1, Bool.not_true, Bool.not_false, Bool.and_true, Bool.true_and, Bool.and_self, decide_true, decide_false, turn_nm, turn_tp, rdI, rdS, rdB, rdN, rdT, m7, fr1, e2]
    rw [this, ob_nx]
    exact dr_end hm
  · have hl : 0 < ns.length := List.length_pos_iff.mpr hn
    have hemp : (ns.map D.int).isEmpty = false := by
      cases ns with
      | nil => cases hn rfl
      | cons a r => rfl
    rw [hemp] at ee
    obtain ⟨cell, hc⟩ : ∃ cell, ns[kk % ns.length]? = some cell := ⟨_, List.getElem?_eq_getElem (Nat.mod_lt _ hl)⟩
    have m1 : bin .mod (.int kk) (.int ns.length) = .ok (.int ((kk % ns.length : Nat) : Int)) := by
      rw [b_mod (by omega)]
      rfl
    have i1 : ix (.lst (ns.map D.int)) (.int ((kk % ns.length : Nat) : Int)) = .ok (.int cell) := ix_lN (by rw [List.getElem?_map, hc]; rfl)
    have hbig : (ns.length : Int) < 18446744073709551616 := by omega
    · have m2 : bin .fdiv (.int kk) (.int ns.length) = .ok (.int ((kk / ns.length : Nat) : Int)) := by
        rw [b_fdiv' (by omega) hbig]
        rfl
      have m3 : bin .fdiv (.int cell) (.int 1000000000000000000) = .ok (.int (cell / 1000000000000000000)) := b_fdiv' (by decide) (by decide)
      have m4 : ∀ j : Int, bin .mul (.int 6553) (.int j) = .ok (.int (6553 * j)) := fun j => b_mul_l (by decide)
      have fr2 : fresh noOw (.ix (.var 0) (.bin .mod (.bi .int [(.var 1)]) (.bi .len [(.var 0)]))) = false := rfl
      have fr3 : fresh noOw (.bin .fdiv (.var 1) (.bi .len [(.var 0)])) = false := rfl
      have fr4 : fresh noOw (.bin .fdiv (.var 3) (.bin .pow (.cst (.int (10))) (.cst (.int (18))))) = false := rfl
      have fr5 : fresh noOw (.bin .add (.var 3) (.bin .mul (.cst (.int (6553))) (.bin .fdiv (.var 1) (.bi .len [(.var 0)])))) = true := rfl
      have c1 : ∀ i : Int, bin .mod (.int i) (.int 1000000) = .ok (.int (i % 1000000)) := fun i => b_mod (by decide)
      have c4 : ∀ i : Int, bin .mod (.int i) (.int many) = .ok (.int (i % many)) := fun i => b_mod (by omega)
      -- the end behind the draw
      have go : ∀ (s4 s5 : Slot), ∃ r : Nat, r < many ∧ fin ((Out.nx [some (.lst (ns.map D.int), false), some (.int kk, false), some (.int many, false), some (.int (cell + 6553 * ((kk / ns.length : Nat) : Int)), true), s4, s5]).bind fun ρ => blk (ex noOw (callF F k) (N0 + 100)) dr_tail ρ) = .ok (.int r) := fun s4 s5 => dr_end hm
      by_cases h1 : (1000000000000000000 : Int) ≤ cell ∧ ((kk / ns.length : Nat) : Int) < 60
      · obtain ⟨h1, h2⟩ := h1
        obtain ⟨a, b, o1, o2, hw⟩ := dr_loop (cf := callF F k) (s0 := some (.lst (ns.map D.int), false)) (s1 := some (.int kk, false)) (s2 := some (.int many, false)) (s3 := some (.int cell, false)) (kk / ns.length) (N0 + 78 - kk / ns.length) (cell / 1000000000000000000) false false
        have f1 : N0 + 78 - kk / ns.length + kk / ns.length + 20 = N0 + 98 := by omega
        rw [f1] at hw
        simp only [dr_while, f__law_drawn] at hw
        by_cases h3 : 0 < a
        · have key : ∀ v : Int, ∃ r : Nat, r < many ∧ (R.ok (D.int (v % many)) : R D) = .ok (.int r) := fun v => by
            have q1 : 0 ≤ v % many := Int.emod_nonneg _ (by omega)
            have q2 : v % many < many := Int.emod_lt_of_pos _ (by omega)
            exact ⟨(v % many).toNat, by omega, by rw [Int.toNat_of_nonneg q1]⟩
          simp only [f__law_drawn, List.take, rb_ok, rb_ex, rb_no, ro_ok, ro_ex, ro_no, ob_nx, ob_rt, ob_ex, ob_no, fin_rt, fin_nx, fin_ex, gv0, gvS, ev_var, rd_f, rd_t, ev_cst, ev_bin, ev_neg, ev_cmp, ev_chain, ev_and, ev_or, ev_not, ev_ite, ev_tup, ev_lst, ev_dct, ev_ix, ev_slice, ev_call, ev_bi, ev_meth, ev_comp, evs_nil, evs_cons, evp_nil, evp_cons, evo_none, evo_some, conds_nil, conds_cons, asBb, asI_int, blk_nil, blk_cons, ex_fz, ex_set, ex_unp, bdO_nil, bdO_cons, ex_mul, storeP_nil, storeP_cons, ex_put, ex_app, ex_exp, ex_ret, ex_raise, ex_ite, ex_for, forO_some, sv0, svS, fz_nil, fz_cons, fzAt0, fzAtS, fz1_s, fz1_n, wipe_nil, wipe_cons, wkS, wk_lst, wkT, wk_dic, wk_enumS, wk_enumT, wk_enumL, wk_zipS, List.set_cons_zero, List.set_cons_succ, initEnv, List.map_cons, List.map_nil, List.length_cons, List.length_nil, List.replicate, List.cons_append, List.nil_append, Nat.reduceAdd, Nat.reduceSub, Nat.add_zero, Nat.zero_add, Bool.false_eq_true, if_true, if_false, ite_true, ite_false, List.zip_cons_cons, List.zip_nil_left, c_eq, c_ne, c_in, c_nin, c_le, c_gt, c_ge, c_lt, c_isN, c_nisN, c_isB, c_nisB, isNon_n, isNon_b, isNon_i, isNon_s, isNon_t, isNon_l, eqD_ss, eqD_ii, eqD_bb, inD_s, b_add, b_sub, neg_i, bi_isiS, bi_isiI, fl_i, fl_s, fl_t, fl_l, fls_n, fls_c, ty_ii, ty_bi, ty_ss, ty_tt, bi_lenS, bi_lenT, bi_lenL, bi_lenD, bi_tupL, bi_intI, ix_t0, ix_t1, ix_l0, ix_l1, ix_t3, sl_t3, sl_t2, sl_s1, Bool.not_true, Bool.not_false, Bool.and_true, Bool.true_and, Bool.and_self, decide_true, decide_false, turn_nm, turn_tp, rdI, rdS, rdB, rdN, rdT, m7, fr1, ee, m1, i1, m2, m3, m4, fr2, fr3, fr4, b_pow18, h1, h2, hw, h3, c1, c4, List.length_map]
          exact key _
        · simp only [f__law_drawn, List.take, rb_ok, rb_ex, rb_no, ro_ok, ro_ex, ro_no, ob_nx, ob_rt, ob_ex, ob_no, fin_rt, fin_nx, fin_ex, gv0, gvS, ev_var, rd_f, rd_t, ev_cst, ev_bin, ev_neg, ev_cmp, ev_chain, ev_and, ev_or, ev_not, ev_ite, ev_tup, ev_lst, ev_dct, ev_ix, ev_slice, ev_call, ev_bi, ev_meth, ev_comp, evs_nil, evs_cons, evp_nil, evp_cons, evo_none, evo_some, conds_nil, conds_cons, asBb, asI_int, blk_nil, blk_cons, ex_fz, ex_set, ex_unp, bdO_nil, bdO_cons, ex_mul, storeP_nil, storeP_cons, ex_put, ex_app, ex_exp, ex_ret, ex_raise, ex_ite, ex_for, forO_some, sv0, svS, fz_nil, fz_cons, fzAt0, fzAtS, fz1_s, fz1_n, wipe_nil, wipe_cons, wkS, wk_lst, wkT, wk_dic, wk_enumS, wk_enumT, wk_enumL, wk_zipS, List.set_cons_zero, List.set_cons_succ, initEnv, List.map_cons, List.map_nil, List.length_cons, List.length_nil, List.replicate, List.cons_append, List.nil_append, Nat.reduceAdd, Nat.reduceSub, Nat.add_zero, Nat.zero_add, Bool.false_eq_true, if_true, if_false, ite_true, ite_false, List.zip_cons_cons, List.zip_nil_left, c_eq, c_ne, c_in, c_nin, c_le, c_gt, c_ge, c_lt, c_isN, c_nisN, c_isB, c_nisB, isNon_n, isNon_b, isNon_i, isNon_s, isNon_t, isNon_l, eqD_ss, eqD_ii, eqD_bb, inD_s, b_add, b_sub, neg_i, bi_isiS, bi_isiI, fl_i, fl_s, fl_t, fl_l, fls_n, fls_c, ty_ii, ty_bi, ty_ss, ty_tt, bi_lenS, bi_lenT, bi_lenL, bi_lenD, bi_tupL, bi_intI, ix_t0, ix_t1, ix_l0, ix_l1, ix_t3, sl_t3, sl_t2, sl_s1, Bool.not_true, Bool.not_false, Bool.and_true, Bool.true_and, Bool.and_self, decide_true, decide_false, turn_nm, turn_tp, rdI, rdS, rdB, rdN, rdT, m7, fr1, ee, m1, i1, m2, m3, m4, fr2, fr3, fr4, fr5, b_pow18, h1, h2, hw, h3, List.length_map]
          exact go _ _
      · by_cases h3 : (1000000000000000000 : Int) ≤ cell
        · have h4 : ¬ ((kk / ns.length : Nat) : Int) < 60 := fun q => h1 ⟨h3, q⟩
          simp only [f__law_drawn, List.take, rb_ok, rb_ex, rb_no, ro_ok, ro_ex, ro_no, ob_nx, ob_rt, ob_ex, ob_no, fin_rt, fin_nx, fin_ex, gv0, gvS, ev_var, rd_f, rd_t, ev_cst, ev_bin, ev_neg, ev_cmp, ev_chain, ev_and, ev_or, ev_not, ev_ite, ev_tup, ev_lst, ev_dct, ev_ix, ev_slice, ev_call, ev_bi, ev_meth, ev_comp, evs_nil, evs_cons, evp_nil, evp_cons, evo_none, evo_some, conds_nil, conds_cons, asBb, asI_int, blk_nil, blk_cons, ex_fz, ex_set, ex_unp, bdO_nil, bdO_cons, ex_mul, storeP_nil, storeP_cons, ex_put, ex_app, ex_exp, ex_ret, ex_raise, ex_ite, ex_for, forO_some, sv0, svS, fz_nil, fz_cons, fzAt0, fzAtS, fz1_s, fz1_n, wipe_nil, wipe_cons, wkS, wk_lst, wkT, wk_dic, wk_enumS, wk_enumT, wk_enumL, wk_zipS, List.set_cons_zero, List.set_cons_succ, initEnv, List.map_cons, List.map_nil, List.length_cons, List.length_nil, List.replicate, List.cons_append, List.nil_append, Nat.reduceAdd, Nat.reduceSub, Nat.add_zero, Nat.zero_add, Bool.false_eq_true, if_true, if_false, ite_true, ite_false, List.zip_cons_cons, List.zip_nil_left, c_eq, c_ne, c_in, c_nin, c_le, c_gt, c_ge, c_lt, c_isN, c_nisN, c_isB, c_nisB, isNon_n, isNon_b, isNon_i, isNon_s, isNon_t, isNon_l, eqD_ss, eqD_ii, eqD_bb, inD_s, b_add, b_sub, neg_i, bi_isiS, bi_isiI, fl_i, fl_s, fl_t, fl_l, fls_n, fls_c, ty_ii, ty_bi, ty_ss, ty_tt, bi_lenS, bi_lenT, bi_lenL, bi_lenD, bi_tupL, bi_intI, ix_t0, ix_t1, ix_l0, ix_l1, ix_t3, sl_t3, sl_t2, sl_s1, Bool.not_true, Bool.not_false, Bool.and_true, Bool.true_and, Bool.and_self, decide_true, decide_false, turn_nm, turn_tp, rdI, rdS, rdB, rdN, rdT, m7, fr1, ee, m1, i1, m2, m3, m4, fr2, fr3, fr4, fr5, b_pow18, h3, h4, List.length_map]
          exact go _ _
        · simp only [f__law_drawn, List.take, rb_ok, rb_ex, rb_no, ro_ok, ro_ex, ro_no, ob_nx, ob_rt, ob_ex, ob_no, fin_rt, fin_nx, fin_ex, gv0, gvS, ev_var, rd_f, rd_t, ev_cst, ev_bin, ev_neg, ev_cmp, ev_chain, ev_and, ev_or, ev_not, ev_ite, ev_tup, ev_lst, ev_dct, ev_ix, ev_slice, ev_call, ev_bi, ev_meth, ev_comp, evs_nil, evs_cons, evp_nil, evp_cons, evo_none, evo_some, conds_nil, conds_cons, asBb, asI_int, blk_nil, blk_cons, ex_fz, ex_set, ex_unp, bdO_nil, bdO_cons, ex_mul, storeP_nil, storeP_cons, ex_put, ex_app, ex_exp, ex_ret, ex_raise, ex_ite, ex_for, forO_some, sv0, svS, fz_nil, fz_cons, fzAt0, fzAtS, fz1_s, fz1_n, wipe_nil, wipe_cons, wkS, wk_lst, wkT, wk_dic, wk_enumS, wk_enumT, wk_enumL, wk_zipS, List.set_cons_zero, List.set_cons_succ, initEnv, List.map_cons, List.map_nil, List.length_cons, List.length_nil, List.replicate, List.cons_append, List.nil_append, Nat.reduceAdd, Nat.reduceSub, Nat.add_zero, Nat.zero_add, Bool.false_eq_true, if_true, if_false, ite_true, ite_false, List.zip_cons_cons, List.zip_nil_left, c_eq, c_ne, c_in, c_nin, c_le, c_gt, c_ge, c_lt, c_isN, c_nisN, c_isB, c_nisB, isNon_n, isNon_b, isNon_i, isNon_s, isNon_t, isNon_l, eqD_ss, eqD_ii, eqD_bb, inD_s, b_add, b_sub, neg_i, bi_isiS, bi_isiI, fl_i, fl_s, fl_t, fl_l, fls_n, fls_c, ty_ii, ty_bi, ty_ss, ty_tt, bi_lenS, bi_lenT, bi_lenL, bi_lenD, bi_tupL, bi_intI, ix_t0, ix_t1, ix_l0, ix_l1, ix_t3, sl_t3, sl_t2, sl_s1, Bool.not_true, Bool.not_false, Bool.and_true, Bool.true_and, Bool.and_self, decide_true, decide_false, turn_nm, turn_tp, rdI, rdS, rdB, rdN, rdT, m7, fr1, ee, m1, i1, m2, m3, m4, fr2, fr3, fr4, fr5, b_pow18, h3, List.length_map]
          exact go _ _
end Mp

end Sec_MpSg
section Sec_MpSh
set_option autoImplicit false
set_option linter.all false
set_option maxHeartbeats 4000000
set_option maxRecDepth 100000
namespace Mp
open PySem
theorem ix_l2 (a b c : D) (r : List D) : ix (.lst (a :: b :: c :: r)) (.int 2) = .ok c := ix_tN (i := 2) rfl
theorem ix_l3 (a b c d : D) (r : List D) : ix (.lst (a :: b :: c :: d :: r)) (.int 3) = .ok d := ix_tN (i := 3) rfl
theorem ix_l4 (a b c d e : D) (r : List D) : ix (.lst (a :: b :: c :: d :: e :: r)) (.int 4) = .ok e := ix_tN (i := 4) rfl
structure Draw (F : Str → Option Fn) : Prop where
  ho : owF F = noOw
  dr : Has F "_law_drawn" f__law_drawn
  li : Has F "_law_limit" f__law_limit
  ra : Has F "_law_raw" f__law_raw
section
variable {F : Str → Option Fn} {k : Nat}
theorem s_limit (R : Draw F) {ns : List Int} (hns : ns.length ≤ 63) (at_ : Nat) {zs : List Nat} (hz : zs = [97] ∨ zs = [97, 98]) :
    ∃ l : Lim, l.Ok zs ∧ (∀ z c n, l = .most z c n → 1 ≤ c ∧ c ≤ 3) ∧ callF F (k + 2) "_law_limit" [.lst (ns.map .int), .int at_, .str zs] = .ok l.d := by
  obtain ⟨r1, b1, h1⟩ := s_drawn (k := k) R.ho R.dr hns at_ (many := 4) (by decide)
  obtain ⟨r2, b2, h2⟩ := s_drawn (k := k) R.ho R.dr hns (at_ + 1) (many := 5) (by decide)
  obtain ⟨r3, b3, h3⟩ := s_drawn (k := k) R.ho R.dr hns (at_ + 2) (many := 3) (by decide)
  obtain ⟨r4, b4, h4⟩ := s_drawn (k := k) R.ho R.dr hns (at_ + 3) (many := 6) (by decide)
  obtain ⟨r5, b5, h5⟩ := s_drawn (k := k) R.ho R.dr hns (at_ + 3) (many := 5) (by decide)
  have h2 : callF F (k + 1) "_law_drawn" [.lst (ns.map .int), .int ((at_ : Int) + 1), .int 5] = .ok (.int r2) := h2
  have h1 : callF F (k + 1) "_law_drawn" [.lst (ns.map .int), .int (at_ : Int), .int 4] = .ok (.int r1) := h1
  have h3 : callF F (k + 1) "_law_drawn" [.lst (ns.map .int), .int ((at_ : Int) + 2), .int 3] = .ok (.int r3) := h3
  have h4 : callF F (k + 1) "_law_drawn" [.lst (ns.map .int), .int ((at_ : Int) + 3), .int 6] = .ok (.int r4) := h4
  have h5 : callF F (k + 1) "_law_drawn" [.lst (ns.map .int), .int ((at_ : Int) + 3), .int 5] = .ok (.int r5) := h5
  -- the zones
  obtain ⟨z, hZ, hs, hsome⟩ : ∃ z, Zs z ∧ (∀ c ∈ z, c ∈ zs) ∧ ∀ m t ρ, getv ρ 0 = some (.lst (ns.map .int), false) → getv ρ 1 = some (.int at_, false) → getv ρ 2 = some (.str zs, false) →
      ev (callF F (k + 1)) (m + 50) t (.ite (.cmp .eq (.var 2) (.cst (.str [97]))) (.cst (.str [97])) (.ix (.lst [(.cst (.str [97])), (.cst (.str [98])), (.cst (.str [97, 98])), (.cst (.str [97, 98]))]) (.call "_law_drawn" [(.var 0), (.var 1), (.cst (.int (4)))]))) ρ = .ok (.str z) := by
    rcases hz with rfl | rfl
    · exact ⟨[97], .inl rfl, fun c h => h, fun m t ρ g0 g1 g2 => by simp only [rb_ok, rb_ex, rb_no, ro_ok, ro_ex, ro_no, ob_nx, ob_rt, ob_ex, ob_no, fin_rt, fin_nx, fin_ex, gv0, gvS, ev_var, rd_f, rd_t, ev_cst, ev_bin, ev_neg, ev_cmp, ev_chain, ev_and, ev_or, ev_not, ev_ite, ev_tup, ev_lst, ev_dct, ev_ix, ev_slice, ev_call, ev_bi, ev_meth, ev_comp, evs_nil, evs_cons, evp_nil, evp_cons, evo_none, evo_some, conds_nil, conds_cons, asBb, asI_int, blk_nil, blk_cons, ex_fz, ex_set, ex_unp, bdO_nil, bdO_cons, ex_mul, storeP_nil, storeP_cons, ex_put, ex_app, ex_exp, ex_ret, ex_raise, ex_ite, ex_for, forO_some, sv0, svS, fz_nil, fz_cons, fzAt0, fzAtS, fz1_s, fz1_n, wipe_nil, wipe_cons, wkS, wk_lst, wkT, wk_dic, wk_enumS, wk_enumT, wk_enumL, wk_zipS, List.set_cons_zero, List.set_cons_succ, initEnv, List.map_cons, List.map_nil, List.length_cons, List.length_nil, List.replicate, List.cons_append, List.nil_append, Nat.reduceAdd, Nat.reduceSub, Nat.add_zero, Nat.zero_add, Bool.false_eq_true, if_true, if_false, ite_true, ite_false, List.zip_cons_cons, List.zip_nil_left, c_eq, c_ne, c_in, c_nin, c_le, c_gt, c_ge, c_lt, c_isN, c_nisN, c_isB, c_nisB, isNon_n, isNon_b, isNon_i, isNon_s, isNon_t, isNon_l, eqD_ss, eqD_ii, eqD_bb, inD_s, b_add, b_sub, neg_i, bi_isiS, bi_isiI, fl_i, fl_s, fl_t, fl_l, fls_n, fls_c, ty_ii, ty_bi, ty_ss, ty_tt, bi_lenS, bi_lenT, bi_lenL, bi_lenD, bi_tupL, bi_intI, ix_t0, ix_t1, ix_l0, ix_l1, ix_t3, sl_t3, sl_t2, sl_s1, Bool.not_true, Bool.not_false, Bool.and_true, Bool.true_and, Bool.and_self, decide_true, decide_false, turn_nm, turn_tp, rdI, rdS, rdB, rdN, rdT, g0, g1, g2]⟩
    · have : r1 = 0 ∨ r1 = 1 ∨ r1 = 2 ∨ r1 = 3 := by omega
      rcases this with rfl | rfl | rfl | rfl
      · exact ⟨[97], .inl rfl, by simp, fun m t ρ g0 g1 g2 => by simp [rb_ok, rb_ex, rb_no, ro_ok, ro_ex, ro_no, ob_nx, ob_rt, ob_ex, ob_no, fin_rt, fin_nx, fin_ex, gv0, gvS, ev_var, rd_f, rd_t, ev_cst, ev_bin, ev_neg, ev_cmp, ev_chain, ev_and, ev_or, ev_not, ev_ite, ev_tup, ev_lst, ev_dct, ev_ix, ev_slice, ev_call, ev_bi, ev_meth, ev_comp, evs_nil, evs_cons, evp_nil, evp_cons, evo_none, evo_some, conds_nil, conds_cons, asBb, asI_int, blk_nil, blk_cons, ex_fz, ex_set, ex_unp, bdO_nil, bdO_cons, ex_mul, storeP_nil, storeP_cons, ex_put, ex_app, ex_exp, ex_ret, ex_raise, ex_ite, ex_for, forO_some, sv0, svS, fz_nil, fz_cons, fzAt0, fzAtS, fz1_s, fz1_n, wipe_nil, wipe_cons, wkS, wk_lst, wkT, wk_dic, wk_enumS, wk_enumT, wk_enumL, wk_zipS, List.set_cons_zero, List.set_cons_succ, initEnv, List.map_cons, List.map_nil, List.length_cons, List.length_nil, List.replicate, List.cons_append, List.nil_append, Nat.reduceAdd, Nat.reduceSub, Nat.add_zero, Nat.zero_add, Bool.false_eq_true, if_true, if_false, ite_true, ite_false, List.zip_cons_cons, List.zip_nil_left, c_eq, c_ne, c_in, c_nin, c_le, c_gt, c_ge, c_lt, c_isN, c_nisN, c_isB, c_nisB, isNon_n, isNon_b, isNon_i, isNon_s, isNon_t, isNon_l, eqD_ss, eqD_ii, eqD_bb, inD_s, b_add, b_sub, neg_i, bi_isiS, bi_isiI, fl_i, fl_s, fl_t, fl_l, fls_n, fls_c, ty_ii, ty_bi, ty_ss, ty_tt, bi_lenS, bi_lenT, bi_lenL, bi_lenD, bi_tupL, bi_intI, ix_t0, ix_t1, ix_l0, ix_l1, ix_t3, sl_t3, sl_t2, sl_s1, Bool.not_true, Bool.not_false, Bool.and_true, Bool.true_and, Bool.and_self, decide_true, decide_false, turn_nm, turn_tp, rdI, rdS, rdB, rdN, rdT, g0, g1, g2, h1]⟩
      · exact ⟨[98], .inr (.inl rfl), by simp, fun m t ρ g0 g1 g2 => by simp [rb_ok, rb_ex, rb_no, ro_ok, ro_ex, ro_no, ob_nx, ob_rt, ob_ex, ob_no, fin_rt, fin_nx, fin_ex, gv0, gvS, ev_var, rd_f, rd_t, ev_cst, ev_bin, ev_neg, ev_cmp, ev_chain, ev_and, ev_or, ev_not, ev_ite, ev_tup, ev_lst, ev_dct, ev_ix, ev_slice, ev_call, ev_bi, ev_meth, ev_comp, evs_nil, evs_cons, evp_nil, evp_cons, evo_none, evo_some, conds_nil, conds_cons, asBb, asI_int, blk_nil, blk_cons, ex_fz, ex_set, ex_unp, bdO_nil, bdO_cons, ex_mul, storeP_nil, storeP_cons, ex_put, ex_app, ex_exp, ex_ret, ex_raise, ex_ite, ex_for, forO_some, sv0, svS, fz_nil, fz_cons, fzAt0, fzAtS, fz1_s, fz1_n, wipe_nil, wipe_cons, wkS, wk_lst, wkT, wk_dic, wk_enumS, wk_enumT, wk_enumL, wk_zipS, List.set_cons_zero, List.set_cons_succ, initEnv, List.map_cons, List.map_nil, List.length_cons, List.length_nil, List.replicate, List.cons_append, List.nil_append, Nat.reduceAdd, Nat.reduceSub, Nat.add_zero, Nat.zero_add, Bool.false_eq_true, if_true, if_false, ite_true, ite_false, List.zip_cons_cons, List.zip_nil_left, c_eq, c_ne, c_in, c_nin, c_le, c_gt, c_ge, c_lt, c_isN, c_nisN, c_isB, c_nisB, isNon_n, isNon_b, isNon_i, isNon_s, isNon_t, isNon_l, eqD_ss, eqD_ii, eqD_bb, inD_s, b_add, b_sub, neg_i, bi_isiS, bi_isiI, fl_i, fl_s, fl_t, fl_l, fls_n, fls_c, ty_ii, ty_bi, ty_ss, ty_tt, bi_lenS, bi_lenT, bi_lenL, bi_lenD, bi_tupL, bi_intI, ix_t0, ix_t1, ix_l0, ix_l1, ix_t3, sl_t3, sl_t2, sl_s1, Bool.not_true, Bool.not_false, Bool.and_true, Bool.true_and, Bool.and_self, decide_true, decide_false, turn_nm, turn_tp, rdI, rdS, rdB, rdN, rdT, g0, g1, g2, h1]⟩
      · exact ⟨[97, 98], .inr (.inr rfl), by simp, fun m t ρ g0 g1 g2 => by simp [rb_ok, rb_ex, rb_no, ro_ok, ro_ex, ro_no, ob_nx, ob_rt, ob_ex, ob_no, fin_rt, fin_nx, fin_ex, gv0, gvS, ev_var, rd_f, rd_t, ev_cst, ev_bin, ev_neg, ev_cmp, ev_chain, ev_and, ev_or, ev_not, ev_ite, ev_tup, ev_lst, ev_dct, ev_ix, ev_slice, ev_call, ev_bi, ev_meth, ev_comp, evs_nil, evs_cons, evp_nil, evp_cons, evo_none, evo_some, conds_nil, conds_cons, asBb, asI_int, blk_nil, blk_cons, ex_fz, ex_set, ex_unp, bdO_nil, bdO_cons, ex_mul, storeP_nil, storeP_cons, ex_put, ex_app, ex_exp, ex_ret, ex_raise, ex_ite, ex_for, forO_some, sv0, svS, fz_nil, fz_cons, fzAt0, fzAtS, fz1_s, fz1_n, wipe_nil, wipe_cons, wkS, wk_lst, wkT, wk_dic, wk_enumS, wk_enumT, wk_enumL, wk_zipS, List.set_cons_zero, List.set_cons_succ, initEnv, List.map_cons, List.map_nil, List.length_cons, List.length_nil, List.replicate, List.cons_append, List.nil_append, Nat.reduceAdd, Nat.reduceSub, Nat.add_zero, Nat.zero_add, Bool.false_eq_true, if_true, if_false, ite_true, ite_false, List.zip_cons_cons, List.zip_nil_left, c_eq, c_ne, c_in, c_nin, c_le, c_gt, c_ge, c_lt, c_isN, c_nisN, c_isB, c_nisB, isNon_n, isNon_b, isNon_i, isNon_s, isNon_t, isNon_l, eqD_ss, eqD_ii, eqD_bb, inD_s, b_add, b_sub, neg_i, bi_isiS, bi_isiI, fl_i, fl_s, fl_t, fl_l, fls_n, fls_c, ty_ii, ty_bi, ty_ss, ty_tt, bi_lenS, bi_lenT, bi_lenL, bi_lenD, bi_tupL, bi_intI, ix_t0, ix_t1, ix_l0, ix_l1, ix_t3, sl_t3, sl_t2, sl_s1, Bool.not_true, Bool.not_false, Bool.and_true, Bool.true_and, Bool.and_self, decide_true, decide_false, turn_nm, turn_tp, rdI, rdS, rdB, rdN, rdT, g0, g1, g2, h1, ix_l2]⟩
      · exact ⟨[97, 98], .inr (.inr rfl), by simp, fun m t ρ g0 g1 g2 => by simp [rb_ok, rb_ex, rb_no, ro_ok, ro_ex, ro_no, ob_nx, ob_rt, ob_ex, ob_no, fin_rt, fin_nx, fin_ex, gv0, gvS, ev_var, rd_f, rd_t, ev_cst, ev_bin, ev_neg, ev_cmp, ev_chain, ev_and, ev_or, ev_not, ev_ite, ev_tup, ev_lst, ev_dct, ev_ix, ev_slice, ev_call, ev_bi, ev_meth, ev_comp, evs_nil, evs_cons, evp_nil, evp_cons, evo_none, evo_some, conds_nil, conds_cons, asBb, asI_int, blk_nil, blk_cons, ex_fz, ex_set, ex_unp, bdO_nil, bdO_cons, ex_mul, storeP_nil, storeP_cons, ex_put, ex_app, ex_exp, ex_ret, ex_raise, ex_ite, ex_for, forO_some, sv0, svS, fz_nil, fz_cons, fzAt0, fzAtS, fz1_s, fz1_n, wipe_nil, wipe_cons, wkS, wk_lst, wkT, wk_dic, wk_enumS, wk_enumT, wk_enumL, wk_zipS, List.set_cons_zero, List.set_cons_succ, initEnv, List.map_cons, List.map_nil, List.length_cons, List.length_nil, List.replicate, List.cons_append, List.nil_append, Nat.reduceAdd, Nat.reduceSub, Nat.add_zero, Nat.zero_add, Bool.false_eq_true, if_true, if_false, ite_true, ite_false, List.zip_cons_cons, List.zip_nil_left, c_eq, c_ne, c_in, c_nin, c_le, c_gt, c_ge, c_lt, c_isN, c_nisN, c_isB, c_nisB, isNon_n, isNon_b, isNon_i, isNon_s, isNon_t, isNon_l, eqD_ss, eqD_ii, eqD_bb, inD_s, b_add, b_sub, neg_i, bi_isiS, bi_isiI, fl_i, fl_s, fl_t, fl_l, fls_n, fls_c, ty_ii, ty_bi, ty_ss, ty_tt, bi_lenS, bi_lenT, bi_lenL, bi_lenD, bi_tupL, bi_intI, ix_t0, ix_t1, ix_l0, ix_l1, ix_t3, sl_t3, sl_t2, sl_s1, Bool.not_true, Bool.not_false, Bool.and_true, Bool.true_and, Bool.and_self, decide_true, decide_false, turn_nm, turn_tp, rdI, rdS, rdB, rdN, rdT, g0, g1, g2, h1, ix_l3]⟩
  have hsome' := hsome (N0 + 48) false [some (.lst (ns.map .int), false), some (.int at_, false), some (.str zs, false), none, none] rfl rfl rfl
  have fr1 : fresh noOw (.ite (.cmp .eq (.var 2) (.cst (.str [97]))) (.cst (.str [97])) (.ix (.lst [(.cst (.str [97])), (.cst (.str [98])), (.cst (.str [97, 98])), (.cst (.str [97, 98]))]) (.call "_law_drawn" [(.var 0), (.var 1), (.cst (.int (4)))]))) = false := rfl
  have fr2 : fresh noOw (.ix (.lst [(.cst (.str [109, 111, 115, 116])), (.cst (.str [109, 111, 115, 116])), (.cst (.str [114, 111, 119])), (.cst (.str [103, 97, 112])), (.cst (.str [115, 116, 97, 114, 116, 115]))]) (.call "_law_drawn" [(.var 0), (.bin .add (.var 1) (.cst (.int (1)))), (.cst (.int (5)))])) = false := rfl
  rw [callF_run R.ho R.li rfl]
  have start : ∀ rest : List S, blk (ex noOw (callF F (k + 1)) (N0 + 100)) (f__law_limit.body.take 1 ++ rest) (initEnv f__law_limit.names.length [.lst (ns.map .int), .int at_, .str zs])
      = blk (ex noOw (callF F (k + 1)) (N0 + 100)) rest [some (.lst (ns.map .int), false), some (.int at_, false), some (.str zs, false), some (.str z, false), none] := fun rest => by
    rw [blk_app]
    have : blk (ex noOw (callF F (k + 1)) (N0 + 100)) (f__law_limit.body.take 1) (initEnv f__law_limit.names.length [.lst (ns.map .int), .int at_, .str zs]) = .nx [some (.lst (ns.map .int), false), some (.int at_, false), some (.str zs, false), some (.str z, false), none] := by
      simp only [f__law_limit, List.take, blk_cons, blk_nil, ex_fz, ex_set, fr1, initEnv, List.map_cons, List.map_nil, List.length_cons, List.length_nil, List.replicate, List.cons_append, List.nil_append, Nat.reduceAdd, Nat.reduceSub, Nat.add_zero, Nat.zero_add, fz_cons, fz_nil, fzAt0, fzAtS, fz1_s]
      rw [hsome']
      rfl
    rw [this]
    rfl
  have eb : f__law_limit.body = f__law_limit.body.take 1 ++ f__law_limit.body.drop 1 := rfl
  rw [eb, start]
  have : r2 = 0 ∨ r2 = 1 ∨ r2 = 2 ∨ r2 = 3 ∨ r2 = 4 := by omega
  rcases this with rfl | rfl | rfl | rfl | rfl
  · refine ⟨.most z (1 + r3) (1 + r4), ⟨hZ, hs, ⟨by omega, by omega, by omega⟩⟩, fun _ _ _ e => (by cases e; omega), ?_⟩
    simp [f__law_limit, List.drop, rb_ok, rb_ex, rb_no, ro_ok, ro_ex, ro_no, ob_nx, ob_rt, ob_ex, ob_no, fin_rt, fin_nx, fin_ex, gv0, gvS, ev_var, rd_f, rd_t, ev_cst, ev_bin, ev_neg, ev_cmp, ev_chain, ev_and, ev_or, ev_not, ev_ite, ev_tup, ev_lst, ev_dct, ev_ix, ev_slice, ev_call, ev_bi, ev_meth, ev_comp, evs_nil, evs_cons, evp_nil, evp_cons, evo_none, evo_some, conds_nil, conds_cons, asBb, asI_int, blk_nil, blk_cons, ex_fz, ex_set, ex_unp, bdO_nil, bdO_cons, ex_mul, storeP_nil, storeP_cons, ex_put, ex_app, ex_exp, ex_ret, ex_raise, ex_ite, ex_for, forO_some, sv0, svS, fz_nil, fz_cons, fzAt0, fzAtS, fz1_s, fz1_n, wipe_nil, wipe_cons, wkS, wk_lst, wkT, wk_dic, wk_enumS, wk_enumT, wk_enumL, wk_zipS, List.set_cons_zero, List.set_cons_succ, initEnv, List.map_cons, List.map_nil, List.length_cons, List.length_nil, List.replicate, List.cons_append, List.nil_append, Nat.reduceAdd, Nat.reduceSub, Nat.add_zero, Nat.zero_add, Bool.false_eq_true, if_true, if_false, ite_true, ite_false, List.zip_cons_cons, List.zip_nil_left, c_eq, c_ne, c_in, c_nin, c_le, c_gt, c_ge, c_lt, c_isN, c_nisN, c_isB, c_nisB, isNon_n, isNon_b, isNon_i, isNon_s, isNon_t, isNon_l, eqD_ss, eqD_ii, eqD_bb, inD_s, b_add, b_sub, neg_i, bi_isiS, bi_isiI, fl_i, fl_s, fl_t, fl_l, fls_n, fls_c, ty_ii, ty_bi, ty_ss, ty_tt, bi_lenS, bi_lenT, bi_lenL, bi_lenD, bi_tupL, bi_intI, ix_t0, ix_t1, ix_l0, ix_l1, ix_t3, sl_t3, sl_t2, sl_s1, Bool.not_true, Bool.not_false, Bool.and_true, Bool.true_and, Bool.and_self, decide_true, decide_false, turn_nm, turn_tp, rdI, rdS, rdB, rdN, rdT, h2, h3, h4, fr2, Lim.d]
  · refine ⟨.most z (1 + r3) (1 + r4), ⟨hZ, hs, ⟨by omega, by omega, by omega⟩⟩, fun _ _ _ e => (by cases e; omega), ?_⟩
    simp [f__law_limit, List.drop, rb_ok, rb_ex, rb_no, ro_ok, ro_ex, ro_no, ob_nx, ob_rt, ob_ex, ob_no, fin_rt, fin_nx, fin_ex, gv0, gvS, ev_var, rd_f, rd_t, ev_cst, ev_bin, ev_neg, ev_cmp, ev_chain, ev_and, ev_or, ev_not, ev_ite, ev_tup, ev_lst, ev_dct, ev_ix, ev_slice, ev_call, ev_bi, ev_meth, ev_comp, evs_nil, evs_cons, evp_nil, evp_cons, evo_none, evo_some, conds_nil, conds_cons, asBb, asI_int, blk_nil, blk_cons, ex_fz, ex_set, ex_unp, bdO_nil, bdO_cons, ex_mul, storeP_nil, storeP_cons, ex_put, ex_app, ex_exp, ex_ret, ex_raise, ex_ite, ex_for, forO_some, sv0, svS, fz_nil, fz_cons, fzAt0, fzAtS, fz1_s, fz1_n, wipe_nil, wipe_cons, wkS, wk_lst, wkT, wk_dic, wk_enumS, wk_enumT, wk_enumL, wk_zipS, List.set_cons_zero, List.set_cons_succ, initEnv, List.map_cons, List.map_nil, List.length_cons, List.length_nil, List.replicate, List.cons_append, List.nil_append, Nat.reduceAdd, Nat.reduceSub, Nat.add_zero, Nat.zero_add, Bool.false_eq_true, if_true, if_false, ite_true, ite_false, List.zip_cons_cons, List.zip_nil_left, c_eq, c_ne, c_in, c_nin, c_le, c_gt, c_ge, c_lt, c_isN, c_nisN, c_isB, c_nisB, isNon_n, isNon_b, isNon_i, isNon_s, isNon_t, isNon_l, eqD_ss, eqD_ii, eqD_bb, inD_s, b_add, b_sub, neg_i, bi_isiS, bi_isiI, fl_i, fl_s, fl_t, fl_l, fls_n, fls_c, ty_ii, ty_bi, ty_ss, ty_tt, bi_lenS, bi_lenT, bi_lenL, bi_lenD, bi_tupL, bi_intI, ix_t0, ix_t1, ix_l0, ix_l1, ix_t3, sl_t3, sl_t2, sl_s1, Bool.not_true, Bool.not_false, Bool.and_true, Bool.true_and, Bool.and_self, decide_true, decide_false, turn_nm, turn_tp, rdI, rdS, rdB, rdN, rdT, h2, h3, h4, fr2, Lim.d]
  · refine ⟨.row z (1 + r3), ⟨hZ, hs, (by omega : 1 + r3 ≤ 5)⟩, fun _ _ _ e => (nomatch e), ?_⟩
    simp [f__law_limit, List.drop, rb_ok, rb_ex, rb_no, ro_ok, ro_ex, ro_no, ob_nx, ob_rt, ob_ex, ob_no, fin_rt, fin_nx, fin_ex, gv0, gvS, ev_var, rd_f, rd_t, ev_cst, ev_bin, ev_neg, ev_cmp, ev_chain, ev_and, ev_or, ev_not, ev_ite, ev_tup, ev_lst, ev_dct, ev_ix, ev_slice, ev_call, ev_bi, ev_meth, ev_comp, evs_nil, evs_cons, evp_nil, evp_cons, evo_none, evo_some, conds_nil, conds_cons, asBb, asI_int, blk_nil, blk_cons, ex_fz, ex_set, ex_unp, bdO_nil, bdO_cons, ex_mul, storeP_nil, storeP_cons, ex_put, ex_app, ex_exp, ex_ret, ex_raise, ex_ite, ex_for, forO_some, sv0, svS, fz_nil, fz_cons, fzAt0, fzAtS, fz1_s, fz1_n, wipe_nil, wipe_cons, wkS, wk_lst, wkT, wk_dic, wk_enumS, wk_enumT, wk_enumL, wk_zipS, List.set_cons_zero, List.set_cons_succ, initEnv, List.map_cons, List.map_nil, List.length_cons, List.length_nil, List.replicate, List.cons_append, List.nil_append, Nat.reduceAdd, Nat.reduceSub, Nat.add_zero, Nat.zero_add, Bool.false_eq_true, if_true, if_false, ite_true, ite_false, List.zip_cons_cons, List.zip_nil_left, c_eq, c_ne, c_in, c_nin, c_le, c_gt, c_ge, c_lt, c_isN, c_nisN, c_isB, c_nisB, isNon_n, isNon_b, isNon_i, isNon_s, isNon_t, isNon_l, eqD_ss, eqD_ii, eqD_bb, inD_s, b_add, b_sub, neg_i, bi_isiS, bi_isiI, fl_i, fl_s, fl_t, fl_l, fls_n, fls_c, ty_ii, ty_bi, ty_ss, ty_tt, bi_lenS, bi_lenT, bi_lenL, bi_lenD, bi_tupL, bi_intI, ix_t0, ix_t1, ix_l0, ix_l1, ix_t3, sl_t3, sl_t2, sl_s1, Bool.not_true, Bool.not_false, Bool.and_true, Bool.true_and, Bool.and_self, decide_true, decide_false, turn_nm, turn_tp, rdI, rdS, rdB, rdN, rdT, h2, h3, h4, fr2, Lim.d, ix_l2]
  · refine ⟨.gap z (1 + r3), ⟨hZ, hs, ⟨by omega, by omega⟩⟩, fun _ _ _ e => (nomatch e), ?_⟩
    simp [f__law_limit, List.drop, rb_ok, rb_ex, rb_no, ro_ok, ro_ex, ro_no, ob_nx, ob_rt, ob_ex, ob_no, fin_rt, fin_nx, fin_ex, gv0, gvS, ev_var, rd_f, rd_t, ev_cst, ev_bin, ev_neg, ev_cmp, ev_chain, ev_and, ev_or, ev_not, ev_ite, ev_tup, ev_lst, ev_dct, ev_ix, ev_slice, ev_call, ev_bi, ev_meth, ev_comp, evs_nil, evs_cons, evp_nil, evp_cons, evo_none, evo_some, conds_nil, conds_cons, asBb, asI_int, blk_nil, blk_cons, ex_fz, ex_set, ex_unp, bdO_nil, bdO_cons, ex_mul, storeP_nil, storeP_cons, ex_put, ex_app, ex_exp, ex_ret, ex_raise, ex_ite, ex_for, forO_some, sv0, svS, fz_nil, fz_cons, fzAt0, fzAtS, fz1_s, fz1_n, wipe_nil, wipe_cons, wkS, wk_lst, wkT, wk_dic, wk_enumS, wk_enumT, wk_enumL, wk_zipS, List.set_cons_zero, List.set_cons_succ, initEnv, List.map_cons, List.map_nil, List.length_cons, List.length_nil, List.replicate, List.cons_append, List.nil_append, Nat.reduceAdd, Nat.reduceSub, Nat.add_zero, Nat.zero_add, Bool.false_eq_true, if_true, if_false, ite_true, ite_false, List.zip_cons_cons, List.zip_nil_left, c_eq, c_ne, c_in, c_nin, c_le, c_gt, c_ge, c_lt, c_isN, c_nisN, c_isB, c_nisB, isNon_n, isNon_b, isNon_i, isNon_s, isNon_t, isNon_l, eqD_ss, eqD_ii, eqD_bb, inD_s, b_add, b_sub, neg_i, bi_isiS, bi_isiI, fl_i, fl_s, fl_t, fl_l, fls_n, fls_c, ty_ii, ty_bi, ty_ss, ty_tt, bi_lenS, bi_lenT, bi_lenL, bi_lenD, bi_tupL, bi_intI, ix_t0, ix_t1, ix_l0, ix_l1, ix_t3, sl_t3, sl_t2, sl_s1, Bool.not_true, Bool.not_false, Bool.and_true, Bool.true_and, Bool.and_self, decide_true, decide_false, turn_nm, turn_tp, rdI, rdS, rdB, rdN, rdT, h2, h3, h4, fr2, Lim.d, ix_l3]
  · refine ⟨.starts z r3 (1 + r5), ⟨hZ, hs, ⟨by omega, by omega, by omega⟩⟩, fun _ _ _ e => (nomatch e), ?_⟩
    simp [f__law_limit, List.drop, rb_ok, rb_ex, rb_no, ro_ok, ro_ex, ro_no, ob_nx, ob_rt, ob_ex, ob_no, fin_rt, fin_nx, fin_ex, gv0, gvS, ev_var, rd_f, rd_t, ev_cst, ev_bin, ev_neg, ev_cmp, ev_chain, ev_and, ev_or, ev_not, ev_ite, ev_tup, ev_lst, ev_dct, ev_ix, ev_slice, ev_call, ev_bi, ev_meth, ev_comp, evs_nil, evs_cons, evp_nil, evp_cons, evo_none, evo_some, conds_nil, conds_cons, asBb, asI_int, blk_nil, blk_cons, ex_fz, ex_set, ex_unp, bdO_nil, bdO_cons, ex_mul, storeP_nil, storeP_cons, ex_put, ex_app, ex_exp, ex_ret, ex_raise, ex_ite, ex_for, forO_some, sv0, svS, fz_nil, fz_cons, fzAt0, fzAtS, fz1_s, fz1_n, wipe_nil, wipe_cons, wkS, wk_lst, wkT, wk_dic, wk_enumS, wk_enumT, wk_enumL, wk_zipS, List.set_cons_zero, List.set_cons_succ, initEnv, List.map_cons, List.map_nil, List.length_cons, List.length_nil, List.replicate, List.cons_append, List.nil_append, Nat.reduceAdd, Nat.reduceSub, Nat.add_zero, Nat.zero_add, Bool.false_eq_true, if_true, if_false, ite_true, ite_false, List.zip_cons_cons, List.zip_nil_left, c_eq, c_ne, c_in, c_nin, c_le, c_gt, c_ge, c_lt, c_isN, c_nisN, c_isB, c_nisB, isNon_n, isNon_b, isNon_i, isNon_s, isNon_t, isNon_l, eqD_ss, eqD_ii, eqD_bb, inD_s, b_add, b_sub, neg_i, bi_isiS, bi_isiI, fl_i, fl_s, fl_t, fl_l, fls_n, fls_c, ty_ii, ty_bi, ty_ss, ty_tt, bi_lenS, bi_lenT, bi_lenL, bi_lenD, bi_tupL, bi_intI, ix_t0, ix_t1, ix_l0, ix_l1, ix_t3, sl_t3, sl_t2, sl_s1, Bool.not_true, Bool.not_false, Bool.and_true, Bool.true_and, Bool.and_self, decide_true, decide_false, turn_nm, turn_tp, rdI, rdS, rdB, rdN, rdT, h2, h3, h5, fr2, Lim.d, ix_l4]
end
end Mp

end Sec_MpSh
section Sec_MpSi
set_option autoImplicit false
set_option linter.all false
set_option maxHeartbeats 4000000
set_option maxRecDepth 100000
namespace Mp
open PySem
section
variable {F : Str → Option Fn} {k : Nat}
theorem small_nat {n : Nat} (h : n ≤ 1000) : small (n : Int) = true := small_of ⟨by omega, by omega⟩
theorem rngUp0 (n : Nat) : rngUp 0 n = (List.range n).map fun (k : Nat) => D.int k := by
  unfold rngUp
  congr 1
  funext k
  rw [Int.zero_add]
theorem s_raw (R : Draw F) {ns : List Int} (hns : ns.length ≤ 63) (at_ : Nat) {m : Nat} (hm : m ≤ 3) :
    ∃ zs ls, BookOk zs ls ∧ ls.length ≤ m ∧ callF F (k + 3) "_law_raw" [.lst (ns.map .int), .int at_, .int m] = .ok (bookD zs ls) := by
  have lg := line_ge
  obtain ⟨r1, b1, h1⟩ := s_drawn (k := k + 1) R.ho R.dr hns at_ (many := 3) (by decide)
  obtain ⟨r2, b2, h2⟩ := s_drawn (k := k + 1) R.ho R.dr hns (at_ + 1) (many := m + 1) (by omega)
  have h1 : callF F (k + 2) "_law_drawn" [.lst (ns.map .int), .int (at_ : Int), .int 3] = .ok (.int r1) := h1
  have h2 : callF F (k + 2) "_law_drawn" [.lst (ns.map .int), .int ((at_ : Int) + 1), .int ((m : Int) + 1)] = .ok (.int r2) := h2
  obtain ⟨zs, hz, i1⟩ : ∃ zs : List Nat, (zs = [97] ∨ zs = [97, 98]) ∧ ix (.lst [.str [97], .str [97], .str [97, 98]]) (.int r1) = .ok (.str zs) := by
    have : r1 = 0 ∨ r1 = 1 ∨ r1 = 2 := by omega
    rcases this with rfl | rfl | rfl
    · exact ⟨[97], .inl rfl, ix_lN rfl⟩
    · exact ⟨[97], .inl rfl, ix_lN rfl⟩
    · exact ⟨[97, 98], .inr rfl, ix_lN rfl⟩
  have L := fun j : Nat => s_limit (k := k) R hns (at_ + 2 + 5 * j) hz
  let l := fun j : Nat => Classical.choose (L j)
  have hl := fun j : Nat => Classical.choose_spec (L j)
  refine ⟨zs, (List.range r2).map l, ⟨hz, by simp; omega, fun x hx => ?_⟩, by simp; omega, ?_⟩
  · obtain ⟨j, _, rfl⟩ := List.mem_map.mp hx
    exact (hl j).1
  have fr1 : fresh noOw (.ix (.lst [(.cst (.str [97])), (.cst (.str [97])), (.cst (.str [97, 98]))]) (.call "_law_drawn" [(.var 0), (.var 1), (.cst (.int (3)))])) = false := rfl
  have m5 : ∀ j : Nat, bin .mul (.int 5) (.int (j : Nat)) = .ok (.int (5 * (j : Int))) := fun j => b_mul_l (by decide)
  have fr2 : ∀ own g kk its cs e, fresh noOw (.comp own g kk its cs e) = true := fun _ _ _ _ _ _ => rfl
  have t2 : blk (ex noOw (callF F (k + 2)) (N0 + 100)) (f__law_raw.body.take 2) (initEnv f__law_raw.names.length [.lst (ns.map .int), .int at_, .int m])
      = .nx [some (.lst (ns.map .int), false), some (.int at_, false), some (.int m, false), some (.str zs, false), some (.lst (((List.range r2).map l).map Lim.d), true), none, none] := by
    simp only [f__law_raw, List.take, rb_ok, rb_ex, rb_no, ro_ok, ro_ex, ro_no, ob_nx, ob_rt, ob_ex, ob_no, fin_rt, fin_nx, fin_ex, gv0, gvS, ev_var, rd_f, rd_t, ev_cst, ev_bin, ev_neg, ev_cmp, ev_chain, ev_and, ev_or, ev_not, ev_ite, ev_tup, ev_lst, ev_dct, ev_ix, ev_slice, ev_call, ev_bi, ev_meth, ev_comp, evs_nil, evs_cons, evp_nil, evp_cons, evo_none, evo_some, conds_nil, conds_cons, asBb, asI_int, blk_nil, blk_cons, ex_fz, ex_set, ex_unp, bdO_nil, bdO_cons, ex_mul, storeP_nil, storeP_cons, ex_put, ex_app, ex_exp, ex_ret, ex_raise, ex_ite, ex_for, forO_some, sv0, svS, fz_nil, fz_cons, fzAt0, fzAtS, fz1_s, fz1_n, wipe_nil, wipe_cons, wkS, wk_lst, wkT, wk_dic, wk_enumS, wk_enumT, wk_enumL, wk_zipS, List.set_cons_zero, List.set_cons_succ, initEnv, List.map_cons, List.map_nil, List.length_cons, List.length_nil, List.replicate, List.cons_append, List.nil_append, Nat.reduceAdd, Nat.reduceSub, Nat.add_zero, Nat.zero_add, Bool.false_eq_true, if_true, if_false, ite_true, ite_false, List.zip_cons_cons, List.zip_nil_left, c_eq, c_ne, c_in, c_nin, c_le, c_gt, c_ge, c_lt, c_isN, c_nisN, c_isB, c_nisB, isNon_n, isNon_b, isNon_i, isNon_s, isNon_t, isNon_l, eqD_ss, eqD_ii, eqD_bb, inD_s, b_add, b_sub, neg_i, bi_isiS, bi_isiI, fl_i, fl_s, fl_t, fl_l, fls_n, fls_c, ty_ii, ty_bi, ty_ss, ty_tt, bi_lenS, bi_lenT, bi_lenL, bi_lenD, bi_tupL, bi_intI, ix_t0, ix_t1, ix_l0, ix_l1, ix_t3, sl_t3, sl_t2, sl_s1, Bool.not_true, Bool.not_false, Bool.and_true, Bool.true_and, Bool.and_self, decide_true, decide_false, turn_nm, turn_tp, rdI, rdS, rdB, rdN, rdT, h1, h2, i1, fr1, fr2, wk_rng (small_nat (show r2 ≤ 1000 by omega)), Int.toNat_natCast, rngUp0]
    rw [comL_map (f := fun j : Nat => some (l j).d) (by simp; omega) (fun j hj => by
      have := (hl j).2.2
      simp only [rb_ok, rb_ex, rb_no, ro_ok, ro_ex, ro_no, ob_nx, ob_rt, ob_ex, ob_no, fin_rt, fin_nx, fin_ex, gv0, gvS, ev_var, rd_f, rd_t, ev_cst, ev_bin, ev_neg, ev_cmp, ev_chain, ev_and, ev_or, ev_not, ev_ite, ev_tup, ev_lst, ev_dct, ev_ix, ev_slice, ev_call, ev_bi, ev_meth, ev_comp, evs_nil, evs_cons, evp_nil, evp_cons, evo_none, evo_some, conds_nil, conds_cons, asBb, asI_int, blk_nil, blk_cons, ex_fz, ex_set, ex_unp, bdO_nil, bdO_cons, ex_mul, storeP_nil, storeP_cons, ex_put, ex_app, ex_exp, ex_ret, ex_raise, ex_ite, ex_for, forO_some, sv0, svS, fz_nil, fz_cons, fzAt0, fzAtS, fz1_s, fz1_n, wipe_nil, wipe_cons, wkS, wk_lst, wkT, wk_dic, wk_enumS, wk_enumT, wk_enumL, wk_zipS, List.set_cons_zero, List.set_cons_succ, initEnv, List.map_cons, List.map_nil, List.length_cons, List.length_nil, List.replicate, List.cons_append, List.nil_append, Nat.reduceAdd, Nat.reduceSub, Nat.add_zero, Nat.zero_add, Bool.false_eq_true, if_true, if_false, ite_true, ite_false, List.zip_cons_cons, List.zip_nil_left, c_eq, c_ne, c_in, c_nin, c_le, c_gt, c_ge, c_lt, c_isN, c_nisN, c_isB, c_nisB, isNon_n, isNon_b, isNon_i, isNon_s, isNon_t, isNon_l, eqD_ss, eqD_ii, eqD_bb, inD_s, b_add, b_sub, neg_i, bi_isiS, bi_isiI, fl_i, fl_s, fl_t, fl_l, fls_n, fls_c, ty_ii, ty_bi, ty_ss, ty_tt, bi_lenS, bi_lenT, bi_lenL, bi_lenD, bi_tupL, bi_intI, ix_t0, ix_t1, ix_l0, ix_l1, ix_t3, sl_t3, sl_t2, sl_s1, Bool.not_true, Bool.not_false, Bool.and_true, Bool.true_and, Bool.and_self, decide_true, decide_false, turn_nm, turn_tp, rdI, rdS, rdB, rdN, rdT, m5]
      have e : ((at_ : Int) + 2 + 5 * (j : Int)) = ((at_ + 2 + 5 * j : Nat) : Int) := by omega
      rw [e, this]
      rfl)]
    rw [filterMap_some, List.map_map]
    rfl
  have eb : f__law_raw.body = f__law_raw.body.take 2 ++ f__law_raw.body.drop 2 := rfl
  rw [callF_run R.ho R.ra rfl, eb, blk_app, t2]
  simp only [f__law_raw, List.drop, rb_ok, rb_ex, rb_no, ro_ok, ro_ex, ro_no, ob_nx, ob_rt, ob_ex, ob_no, fin_rt, fin_nx, fin_ex, gv0, gvS, ev_var, rd_f, rd_t, ev_cst, ev_bin, ev_neg, ev_cmp, ev_chain, ev_and, ev_or, ev_not, ev_ite, ev_tup, ev_lst, ev_dct, ev_ix, ev_slice, ev_call, ev_bi, ev_meth, ev_comp, evs_nil, evs_cons, evp_nil, evp_cons, evo_none, evo_some, conds_nil, conds_cons, asBb, asI_int, blk_nil, blk_cons, ex_fz, ex_set, ex_unp, bdO_nil, bdO_cons, ex_mul, storeP_nil, storeP_cons, ex_put, ex_app, ex_exp, ex_ret, ex_raise, ex_ite, ex_for, forO_some, sv0, svS, fz_nil, fz_cons, fzAt0, fzAtS, fz1_s, fz1_n, wipe_nil, wipe_cons, wkS, wk_lst, wkT, wk_dic, wk_enumS, wk_enumT, wk_enumL, wk_zipS, List.set_cons_zero, List.set_cons_succ, initEnv, List.map_cons, List.map_nil, List.length_cons, List.length_nil, List.replicate, List.cons_append, List.nil_append, Nat.reduceAdd, Nat.reduceSub, Nat.add_zero, Nat.zero_add, Bool.false_eq_true, if_true, if_false, ite_true, ite_false, List.zip_cons_cons, List.zip_nil_left, c_eq, c_ne, c_in, c_nin, c_le, c_gt, c_ge, c_lt, c_isN, c_nisN, c_isB, c_nisB, isNon_n, isNon_b, isNon_i, isNon_s, isNon_t, isNon_l, eqD_ss, eqD_ii, eqD_bb, inD_s, b_add, b_sub, neg_i, bi_isiS, bi_isiI, fl_i, fl_s, fl_t, fl_l, fls_n, fls_c, ty_ii, ty_bi, ty_ss, ty_tt, bi_lenS, bi_lenT, bi_lenL, bi_lenD, bi_tupL, bi_intI, ix_t0, ix_t1, ix_l0, ix_l1, ix_t3, sl_t3, sl_t2, sl_s1, Bool.not_true, Bool.not_false, Bool.and_true, Bool.true_and, Bool.and_self, decide_true, decide_false, turn_nm, turn_tp, rdI, rdS, rdB, rdN, rdT]
  rfl
/-- what the law says of a limit -/
def lbrk : Lim → List Nat → Bool
  | _, _ => false
end
end Mp

end Sec_MpSi
section Sec_MpSj
set_option autoImplicit false
set_option linter.all false
set_option maxHeartbeats 4000000
set_option maxRecDepth 100000
namespace Mp
open PySem
theorem kd1 : decide (([114, 111, 119] : List Nat) = [109, 111, 115, 116]) = false := rfl
theorem kd2 : decide (([103, 97, 112] : List Nat) = [109, 111, 115, 116]) = false := rfl
theorem kd3 : decide (([103, 97, 112] : List Nat) = [114, 111, 119]) = false := rfl
theorem kd4 : decide (([115, 116, 97, 114, 116, 115] : List Nat) = [109, 111, 115, 116]) = false := rfl
theorem kd5 : decide (([115, 116, 97, 114, 116, 115] : List Nat) = [114, 111, 119]) = false := rfl
theorem kd6 : decide (([115, 116, 97, 114, 116, 115] : List Nat) = [103, 97, 112]) = false := rfl
theorem sl_lN {xs : List D} {i : Nat} (h : i ≤ xs.length) : slice (.lst xs) (some (i : Int)) none = .ok (.lst (xs.drop i)) := by
  show R.ok (D.lst (cut xs (some (i : Int)) none)) = _
  unfold cut
  rw [sIx_of _ _ _ h]
  have : sIx xs.length xs.length none = xs.length := rfl
  rw [this]
  congr 2
  rw [List.take_of_length_le]
  simp
theorem sl_lNN {xs : List D} {i j : Nat} (h : i ≤ xs.length) (h2 : j ≤ xs.length) : slice (.lst xs) (some (i : Int)) (some (j : Int)) = .ok (.lst ((xs.drop i).take (j - i))) := by
  show R.ok (D.lst (cut xs (some (i : Int)) (some (j : Int)))) = _
  unfold cut
  rw [sIx_of _ _ _ h, sIx_of _ _ _ h2]
theorem intsD_bl (bs : List Bool) : intsD (bs.map D.bl) = some (bs.map fun b => if b = true then 1 else 0) := by
  induction bs with
  | nil => rfl
  | cons b r ih =>
    rw [List.map_cons]
    show (intsD (r.map D.bl)).map ((if b = true then 1 else 0) :: ·) = _
    rw [ih]
    rfl
theorem sum_bl (bs : List Bool) : (bs.map fun b => if b = true then (1 : Int) else 0).sum = ((bs.countP id : Nat) : Int) := by
  induction bs with
  | nil => rfl
  | cons b r ih =>
    rw [List.map_cons, List.sum_cons, ih, List.countP_cons]
    cases b <;> simp <;> omega
theorem bi_sumB (bs : List Bool) : bi .sum [.lst (bs.map D.bl)] = .ok (.int ((bs.countP id : Nat) : Int)) := by
  show (ofO (intsD (bs.map D.bl))).bind _ = _
  rw [intsD_bl]
  show R.ok (D.int _) = _
  rw [sum_bl]
theorem cnt_map (z days : List Nat) : cnt z days = (days.map fun c => z.contains c).countP id := by
  unfold cnt
  rw [List.countP_map]
  rfl
theorem cnt_le (z days : List Nat) : cnt z days ≤ days.length := List.countP_le_length
theorem cnt_all (z days : List Nat) : cnt z days = days.length ↔ (days.map fun c => z.contains c).all id = true := by
  unfold cnt
  rw [List.countP_eq_length]
  simp
theorem cnt_any (z days : List Nat) : decide (0 < cnt z days) = (days.map fun c => z.contains c).any id := by
  unfold cnt
  rw [Bool.eq_iff_iff]
  simp [List.countP_pos_iff]
theorem noAway {z : List Nat} (h : Zs z) : z.contains 46 = false := by rcases h with rfl | rfl | rfl <;> rfl
/-- the starts told by places -/
def begun (H : List Bool) (lo n : Nat) : Nat := ((List.range n).filterMap fun k => if ((H[lo + k]?.getD false) && !(H[lo + k - 1]?.getD false)) = true then some (D.int ((lo + k : Nat) : Int)) else none).length
theorem begun_eq : ∀ b1 b2 b3 b4 b5 b6 : Bool, ∀ n : Fin 6, begun [false, false, b1, b2, b3, b4, b5, b6] (8 - n.val) n.val = ((([b1, b2, b3, b4, b5, b6].drop (6 - (n.val + 1))).zip ([b1, b2, b3, b4, b5, b6].drop (6 - (n.val + 1))).tail).countP fun p => p.2 && !p.1) := by decide +kernel
theorem row_eq : ∀ b1 b2 b3 b4 b5 b6 : Bool, ∀ n : Fin 6, ([false, false, b1, b2, b3, b4, b5, b6].drop (7 - n.val)).all id = (b6 && decide (([b1, b2, b3, b4, b5].drop (5 - n.val)).countP id = n.val)) := by decide +kernel
theorem gap_eq : ∀ b1 b2 b3 b4 b5 b6 : Bool, ∀ n : Fin 6, (([false, false, b1, b2, b3, b4, b5, b6].drop (7 - n.val)).take (7 - (7 - n.val))).any id = decide (0 < ([b1, b2, b3, b4, b5].drop (5 - n.val)).countP id) := by decide +kernel
section
variable {F : Str → Option Fn} {k : Nat}
theorem s_lbreaks (ho : owF F = noOw) (h : Has F "_law_breaks" f__law_breaks) {zs : List Nat} {l : Lim} (hl : l.Ok zs) {past : List Nat} (hp : past.length = 5) (c : Nat) : callF F (k + 1) "_law_breaks" [l.d, .str ([46, 46] ++ past ++ [c])] = .ok (.bl (brk l past c)) := by
  have lg := line_ge
  obtain ⟨a1, a2, a3, a4, a5, rfl⟩ : ∃ a1 a2 a3 a4 a5, past = [a1, a2, a3, a4, a5] := by
    match past, hp with
    | [a1, a2, a3, a4, a5], _ => exact ⟨a1, a2, a3, a4, a5, rfl⟩
  have hz := noAway hl.z
  have l8 : ([46, 46] ++ [a1, a2, a3, a4, a5] ++ [c]).length = 8 := rfl
  have fr1 : ∀ own g kk its cs e, fresh noOw (.comp own g kk its cs e) = true := fun _ _ _ _ _ _ => rfl
  have fr2 : ∀ a b, fresh noOw (.and a b) = false := fun _ _ => rfl
  -- what is held
  have held : ∀ (z : List Nat) (ρ : Env) (m : Nat), z.contains 46 = false → getv (ρ.set 9 (some (.str [46], false))) 3 = some (.str z, false) → True := fun _ _ _ _ _ => trivial
  rw [callF_run ho h rfl]
  have first : ∀ (z kd : List Nat) (c' : Nat) (rest : List D), z.contains 46 = false → l.d = .tup (.str kd :: .str z :: .int c' :: rest) →
      blk (ex noOw (callF F k) (N0 + 100)) (f__law_breaks.body.take 2) (initEnv f__law_breaks.names.length [l.d, .str ([46, 46] ++ [a1, a2, a3, a4, a5] ++ [c])])
      = .nx [some (l.d, false), some (.str ([46, 46] ++ [a1, a2, a3, a4, a5] ++ [c]), false), some (.str kd, false), some (.str z, false), some (.int c', false),
          some (.lst ([false, false, z.contains a1, z.contains a2, z.contains a3, z.contains a4, z.contains a5, z.contains c].map D.bl), true), none, none, none, none, none] := fun z kd c' rest hz e => by
    rw [e]
    simp only [f__law_breaks, List.take, rb_ok, rb_ex, rb_no, ro_ok, ro_ex, ro_no, ob_nx, ob_rt, ob_ex, ob_no, fin_rt, fin_nx, fin_ex, gv0, gvS, ev_var, rd_f, rd_t, ev_cst, ev_bin, ev_neg, ev_cmp, ev_chain, ev_and, ev_or, ev_not, ev_ite, ev_tup, ev_lst, ev_dct, ev_ix, ev_slice, ev_call, ev_bi, ev_meth, ev_comp, evs_nil, evs_cons, evp_nil, evp_cons, evo_none, evo_some, conds_nil, conds_cons, asBb, asI_int, blk_nil, blk_cons, ex_fz, ex_set, ex_unp, bdO_nil, bdO_cons, ex_mul, storeP_nil, storeP_cons, ex_put, ex_app, ex_exp, ex_ret, ex_raise, ex_ite, ex_for, forO_some, sv0, svS, fz_nil, fz_cons, fzAt0, fzAtS, fz1_s, fz1_n, wipe_nil, wipe_cons, wkS, wk_lst, wkT, wk_dic, wk_enumS, wk_enumT, wk_enumL, wk_zipS, List.set_cons_zero, List.set_cons_succ, initEnv, List.map_cons, List.map_nil, List.length_cons, List.length_nil, List.replicate, List.cons_append, List.nil_append, Nat.reduceAdd, Nat.reduceSub, Nat.add_zero, Nat.zero_add, Bool.false_eq_true, if_true, if_false, ite_true, ite_false, List.zip_cons_cons, List.zip_nil_left, c_eq, c_ne, c_in, c_nin, c_le, c_gt, c_ge, c_lt, c_isN, c_nisN, c_isB, c_nisB, isNon_n, isNon_b, isNon_i, isNon_s, isNon_t, isNon_l, eqD_ss, eqD_ii, eqD_bb, inD_s, b_add, b_sub, neg_i, bi_isiS, bi_isiI, fl_i, fl_s, fl_t, fl_l, fls_n, fls_c, ty_ii, ty_bi, ty_ss, ty_tt, bi_lenS, bi_lenT, bi_lenL, bi_lenD, bi_tupL, bi_intI, ix_t0, ix_t1, ix_l0, ix_l1, ix_t3, sl_t3, sl_t2, sl_s1, Bool.not_true, Bool.not_false, Bool.and_true, Bool.true_and, Bool.and_self, decide_true, decide_false, turn_nm, turn_tp, rdI, rdS, rdB, rdN, rdT, fr1]
    rw [comL_chars (fun c => some (.bl (z.contains c))) (by simp; omega) (fun c hc => by simp only [rb_ok, rb_ex, rb_no, ro_ok, ro_ex, ro_no, ob_nx, ob_rt, ob_ex, ob_no, fin_rt, fin_nx, fin_ex, gv0, gvS, ev_var, rd_f, rd_t, ev_cst, ev_bin, ev_neg, ev_cmp, ev_chain, ev_and, ev_or, ev_not, ev_ite, ev_tup, ev_lst, ev_dct, ev_ix, ev_slice, ev_call, ev_bi, ev_meth, ev_comp, evs_nil, evs_cons, evp_nil, evp_cons, evo_none, evo_some, conds_nil, conds_cons, asBb, asI_int, blk_nil, blk_cons, ex_fz, ex_set, ex_unp, bdO_nil, bdO_cons, ex_mul, storeP_nil, storeP_cons, ex_put, ex_app, ex_exp, ex_ret, ex_raise, ex_ite, ex_for, forO_some, sv0, svS, fz_nil, fz_cons, fzAt0, fzAtS, fz1_s, fz1_n, wipe_nil, wipe_cons, wkS, wk_lst, wkT, wk_dic, wk_enumS, wk_enumT, wk_enumL, wk_zipS, List.set_cons_zero, List.set_cons_succ, initEnv, List.map_cons, List.map_nil, List.length_cons, List.length_nil, List.replicate, List.cons_append, List.nil_append, Nat.reduceAdd, Nat.reduceSub, Nat.add_zero, Nat.zero_add, Bool.false_eq_true, if_true, if_false, ite_true, ite_false, List.zip_cons_cons, List.zip_nil_left, c_eq, c_ne, c_in, c_nin, c_le, c_gt, c_ge, c_lt, c_isN, c_nisN, c_isB, c_nisB, isNon_n, isNon_b, isNon_i, isNon_s, isNon_t, isNon_l, eqD_ss, eqD_ii, eqD_bb, inD_s, b_add, b_sub, neg_i, bi_isiS, bi_isiI, fl_i, fl_s, fl_t, fl_l, fls_n, fls_c, ty_ii, ty_bi, ty_ss, ty_tt, bi_lenS, bi_lenT, bi_lenL, bi_lenD, bi_tupL, bi_intI, ix_t0, ix_t1, ix_l0, ix_l1, ix_t3, sl_t3, sl_t2, sl_s1, Bool.not_true, Bool.not_false, Bool.and_true, Bool.true_and, Bool.and_self, decide_true, decide_false, turn_nm, turn_tp, rdI, rdS, rdB, rdN, rdT])]
    rw [filterMap_some]
    simp only [List.map_cons, List.map_nil, hz, rb_ok, rb_ex, rb_no, ro_ok, ro_ex, ro_no, ob_nx, ob_rt, ob_ex, ob_no, fin_rt, fin_nx, fin_ex, gv0, gvS, ev_var, rd_f, rd_t, ev_cst, ev_bin, ev_neg, ev_cmp, ev_chain, ev_and, ev_or, ev_not, ev_ite, ev_tup, ev_lst, ev_dct, ev_ix, ev_slice, ev_call, ev_bi, ev_meth, ev_comp, evs_nil, evs_cons, evp_nil, evp_cons, evo_none, evo_some, conds_nil, conds_cons, asBb, asI_int, blk_nil, blk_cons, ex_fz, ex_set, ex_unp, bdO_nil, bdO_cons, ex_mul, storeP_nil, storeP_cons, ex_put, ex_app, ex_exp, ex_ret, ex_raise, ex_ite, ex_for, forO_some, sv0, svS, fz_nil, fz_cons, fzAt0, fzAtS, fz1_s, fz1_n, wipe_nil, wipe_cons, wkS, wk_lst, wkT, wk_dic, wk_enumS, wk_enumT, wk_enumL, wk_zipS, List.set_cons_zero, List.set_cons_succ, initEnv, List.map_cons, List.map_nil, List.length_cons, List.length_nil, List.replicate, List.cons_append, List.nil_append, Nat.reduceAdd, Nat.reduceSub, Nat.add_zero, Nat.zero_add, Bool.false_eq_true, if_true, if_false, ite_true, ite_false, List.zip_cons_cons, List.zip_nil_left, c_eq, c_ne, c_in, c_nin, c_le, c_gt, c_ge, c_lt, c_isN, c_nisN, c_isB, c_nisB, isNon_n, isNon_b, isNon_i, isNon_s, isNon_t, isNon_l, eqD_ss, eqD_ii, eqD_bb, inD_s, b_add, b_sub, neg_i, bi_isiS, bi_isiI, fl_i, fl_s, fl_t, fl_l, fls_n, fls_c, ty_ii, ty_bi, ty_ss, ty_tt, bi_lenS, bi_lenT, bi_lenL, bi_lenD, bi_tupL, bi_intI, ix_t0, ix_t1, ix_l0, ix_l1, ix_t3, sl_t3, sl_t2, sl_s1, Bool.not_true, Bool.not_false, Bool.and_true, Bool.true_and, Bool.and_self, decide_true, decide_false, turn_nm, turn_tp, rdI, rdS, rdB, rdN, rdT]
  have eb : f__law_breaks.body = f__law_breaks.body.take 2 ++ f__law_breaks.body.drop 2 := rfl
  rw [eb, blk_app]
  have hzz := hz
  generalize hH : ([false, false, l.z.contains a1, l.z.contains a2, l.z.contains a3, l.z.contains a4, l.z.contains a5, l.z.contains c] : List Bool) = Hb at *
  have hlen : Hb.length = 8 := by rw [← hH]; rfl
  have hlenI : ((Hb.map D.bl).length : Int) = 8 := by rw [List.length_map, hlen]; rfl
  have cm : ([a1, a2, a3, a4, a5] ++ [c]).map (fun c => l.z.contains c) = Hb.drop 2 := by rw [← hH]; rfl
  have cm5 : ([a1, a2, a3, a4, a5] : List Nat).map (fun c => l.z.contains c) = (Hb.drop 2).take 5 := by rw [← hH]; rfl
  have i7 : ix (.lst (Hb.map D.bl)) (.int (-1)) = .ok (.bl (l.z.contains c)) := by rw [← hH]; rfl
  have i6 : ix (.lst (Hb.map D.bl)) (.int (-2)) = .ok (.bl (l.z.contains a5)) := by rw [← hH]; rfl
  cases l with
  | most z c' n =>
    obtain ⟨_, _, hn⟩ := hl
    have hn : c' ≤ 6 ∧ 1 ≤ n ∧ n ≤ 6 := hn
    have fst := first z _ c' _ hz rfl
    have hH : [false, false, z.contains a1, z.contains a2, z.contains a3, z.contains a4, z.contains a5, z.contains c] = Hb := hH
    rw [hH] at fst
    rw [fst]
    have e8 : (8 : Int) - n = ((8 - n : Nat) : Int) := by omega
    have sl := sl_lN (xs := Hb.map D.bl) (i := 8 - n) (by simp; omega)
    rw [← List.map_drop] at sl
    simp only [Lim.d, f__law_breaks, List.drop, rb_ok, rb_ex, rb_no, ro_ok, ro_ex, ro_no, ob_nx, ob_rt, ob_ex, ob_no, fin_rt, fin_nx, fin_ex, gv0, gvS, ev_var, rd_f, rd_t, ev_cst, ev_bin, ev_neg, ev_cmp, ev_chain, ev_and, ev_or, ev_not, ev_ite, ev_tup, ev_lst, ev_dct, ev_ix, ev_slice, ev_call, ev_bi, ev_meth, ev_comp, evs_nil, evs_cons, evp_nil, evp_cons, evo_none, evo_some, conds_nil, conds_cons, asBb, asI_int, blk_nil, blk_cons, ex_fz, ex_set, ex_unp, bdO_nil, bdO_cons, ex_mul, storeP_nil, storeP_cons, ex_put, ex_app, ex_exp, ex_ret, ex_raise, ex_ite, ex_for, forO_some, sv0, svS, fz_nil, fz_cons, fzAt0, fzAtS, fz1_s, fz1_n, wipe_nil, wipe_cons, wkS, wk_lst, wkT, wk_dic, wk_enumS, wk_enumT, wk_enumL, wk_zipS, List.set_cons_zero, List.set_cons_succ, initEnv, List.map_cons, List.map_nil, List.length_cons, List.length_nil, List.replicate, List.cons_append, List.nil_append, Nat.reduceAdd, Nat.reduceSub, Nat.add_zero, Nat.zero_add, Bool.false_eq_true, if_true, if_false, ite_true, ite_false, List.zip_cons_cons, List.zip_nil_left, c_eq, c_ne, c_in, c_nin, c_le, c_gt, c_ge, c_lt, c_isN, c_nisN, c_isB, c_nisB, isNon_n, isNon_b, isNon_i, isNon_s, isNon_t, isNon_l, eqD_ss, eqD_ii, eqD_bb, inD_s, b_add, b_sub, neg_i, bi_isiS, bi_isiI, fl_i, fl_s, fl_t, fl_l, fls_n, fls_c, ty_ii, ty_bi, ty_ss, ty_tt, bi_lenS, bi_lenT, bi_lenL, bi_lenD, bi_tupL, bi_intI, ix_t0, ix_t1, ix_l0, ix_l1, ix_t3, sl_t3, sl_t2, sl_s1, Bool.not_true, Bool.not_false, Bool.and_true, Bool.true_and, Bool.and_self, decide_true, decide_false, turn_nm, turn_tp, rdI, rdS, rdB, rdN, rdT, hlenI, e8, sl, bi_sumB]
    congr 2
    simp only [brk]
    rw [cnt_map]
    unfold lastN
    rw [List.map_drop]
    have cm : ([a1, a2, a3, a4, a5] ++ [c]).map (fun c => z.contains c) = Hb.drop 2 := cm
    rw [cm, List.drop_drop]
    have e9 : 2 + (([a1, a2, a3, a4, a5] ++ [c]).length - n) = 8 - n := by
      show 2 + (6 - n) = 8 - n
      omega
    rw [e9]
    simp
  | row z c' =>
    obtain ⟨_, _, hn⟩ := hl
    have hn : c' ≤ 5 := hn
    have fst := first z _ c' _ hz rfl
    have hH : [false, false, z.contains a1, z.contains a2, z.contains a3, z.contains a4, z.contains a5, z.contains c] = Hb := hH
    rw [hH] at fst
    rw [fst]
    have i7 : ix (.lst (Hb.map D.bl)) (.int (-1)) = .ok (.bl (z.contains c)) := i7
    have i6 : ix (.lst (Hb.map D.bl)) (.int (-2)) = .ok (.bl (z.contains a5)) := i6
    have e8 : (8 : Int) - c' - 1 = ((7 - c' : Nat) : Int) := by omega
    have c8 : (c' : Int) < 8 := by omega
    have sl := sl_lN (xs := Hb.map D.bl) (i := 7 - c') (by simp; omega)
    rw [← List.map_drop] at sl
    have re := row_eq (z.contains a1) (z.contains a2) (z.contains a3) (z.contains a4) (z.contains a5) (z.contains c) ⟨c', by omega⟩
    rw [hH] at re
    have eb2 : brk (.row z c') [a1, a2, a3, a4, a5] c = (Hb.drop (7 - c')).all id := by
      rw [re]
      simp only [brk]
      rw [cnt_map]
      unfold lastN
      rw [List.map_drop]
      rfl
    rw [eb2]
    cases q1 : z.contains c <;> cases q2 : z.contains a5
    all_goals
      rw [q1] at i7
      rw [q2] at i6
      simp only [Lim.d, f__law_breaks, List.drop, rb_ok, rb_ex, rb_no, ro_ok, ro_ex, ro_no, ob_nx, ob_rt, ob_ex, ob_no, fin_rt, fin_nx, fin_ex, gv0, gvS, ev_var, rd_f, rd_t, ev_cst, ev_bin, ev_neg, ev_cmp, ev_chain, ev_and, ev_or, ev_not, ev_ite, ev_tup, ev_lst, ev_dct, ev_ix, ev_slice, ev_call, ev_bi, ev_meth, ev_comp, evs_nil, evs_cons, evp_nil, evp_cons, evo_none, evo_some, conds_nil, conds_cons, asBb, asI_int, blk_nil, blk_cons, ex_fz, ex_set, ex_unp, bdO_nil, bdO_cons, ex_mul, storeP_nil, storeP_cons, ex_put, ex_app, ex_exp, ex_ret, ex_raise, ex_ite, ex_for, forO_some, sv0, svS, fz_nil, fz_cons, fzAt0, fzAtS, fz1_s, fz1_n, wipe_nil, wipe_cons, wkS, wk_lst, wkT, wk_dic, wk_enumS, wk_enumT, wk_enumL, wk_zipS, List.set_cons_zero, List.set_cons_succ, initEnv, List.map_cons, List.map_nil, List.length_cons, List.length_nil, List.replicate, List.cons_append, List.nil_append, Nat.reduceAdd, Nat.reduceSub, Nat.add_zero, Nat.zero_add, Bool.false_eq_true, if_true, if_false, ite_true, ite_false, List.zip_cons_cons, List.zip_nil_left, c_eq, c_ne, c_in, c_nin, c_le, c_gt, c_ge, c_lt, c_isN, c_nisN, c_isB, c_nisB, isNon_n, isNon_b, isNon_i, isNon_s, isNon_t, isNon_l, eqD_ss, eqD_ii, eqD_bb, inD_s, b_add, b_sub, neg_i, bi_isiS, bi_isiI, fl_i, fl_s, fl_t, fl_l, fls_n, fls_c, ty_ii, ty_bi, ty_ss, ty_tt, bi_lenS, bi_lenT, bi_lenL, bi_lenD, bi_tupL, bi_intI, ix_t0, ix_t1, ix_l0, ix_l1, ix_t3, sl_t3, sl_t2, sl_s1, Bool.not_true, Bool.not_false, Bool.and_true, Bool.true_and, Bool.and_self, decide_true, decide_false, turn_nm, turn_tp, rdI, rdS, rdB, rdN, rdT, hlenI, e8, c8, sl, i7, i6, bi_all, fr2, kd1, eq_self]
  | gap z c' =>
    obtain ⟨_, _, hn⟩ := hl
    have hn : 1 ≤ c' ∧ c' ≤ 5 := hn
    have fst := first z _ c' _ hz rfl
    have hH : [false, false, z.contains a1, z.contains a2, z.contains a3, z.contains a4, z.contains a5, z.contains c] = Hb := hH
    rw [hH] at fst
    rw [fst]
    have i7 : ix (.lst (Hb.map D.bl)) (.int (-1)) = .ok (.bl (z.contains c)) := i7
    have i6 : ix (.lst (Hb.map D.bl)) (.int (-2)) = .ok (.bl (z.contains a5)) := i6
    have e8 : (8 : Int) - c' - 1 = ((7 - c' : Nat) : Int) := by omega
    have e7 : (8 : Int) - 1 = ((7 : Nat) : Int) := by omega
    have sl := sl_lNN (xs := Hb.map D.bl) (i := 7 - c') (j := 7) (by simp; omega) (by simp; omega)
    rw [← List.map_drop, ← List.map_take] at sl
    have re := gap_eq (z.contains a1) (z.contains a2) (z.contains a3) (z.contains a4) (z.contains a5) (z.contains c) ⟨c', by omega⟩
    rw [hH] at re
    have eb2 : brk (.gap z c') [a1, a2, a3, a4, a5] c = (z.contains c && (!z.contains a5 && ((Hb.drop (7 - c')).take (7 - (7 - c'))).any id)) := by
      rw [re]
      simp only [brk]
      rw [cnt_map]
      unfold lastN
      rw [List.map_drop]
      rfl
    rw [eb2]
    cases q1 : z.contains c <;> cases q2 : z.contains a5
    all_goals
      rw [q1] at i7
      rw [q2] at i6
      simp only [Lim.d, f__law_breaks, List.drop, rb_ok, rb_ex, rb_no, ro_ok, ro_ex, ro_no, ob_nx, ob_rt, ob_ex, ob_no, fin_rt, fin_nx, fin_ex, gv0, gvS, ev_var, rd_f, rd_t, ev_cst, ev_bin, ev_neg, ev_cmp, ev_chain, ev_and, ev_or, ev_not, ev_ite, ev_tup, ev_lst, ev_dct, ev_ix, ev_slice, ev_call, ev_bi, ev_meth, ev_comp, evs_nil, evs_cons, evp_nil, evp_cons, evo_none, evo_some, conds_nil, conds_cons, asBb, asI_int, blk_nil, blk_cons, ex_fz, ex_set, ex_unp, bdO_nil, bdO_cons, ex_mul, storeP_nil, storeP_cons, ex_put, ex_app, ex_exp, ex_ret, ex_raise, ex_ite, ex_for, forO_some, sv0, svS, fz_nil, fz_cons, fzAt0, fzAtS, fz1_s, fz1_n, wipe_nil, wipe_cons, wkS, wk_lst, wkT, wk_dic, wk_enumS, wk_enumT, wk_enumL, wk_zipS, List.set_cons_zero, List.set_cons_succ, initEnv, List.map_cons, List.map_nil, List.length_cons, List.length_nil, List.replicate, List.cons_append, List.nil_append, Nat.reduceAdd, Nat.reduceSub, Nat.add_zero, Nat.zero_add, Bool.false_eq_true, if_true, if_false, ite_true, ite_false, List.zip_cons_cons, List.zip_nil_left, c_eq, c_ne, c_in, c_nin, c_le, c_gt, c_ge, c_lt, c_isN, c_nisN, c_isB, c_nisB, isNon_n, isNon_b, isNon_i, isNon_s, isNon_t, isNon_l, eqD_ss, eqD_ii, eqD_bb, inD_s, b_add, b_sub, neg_i, bi_isiS, bi_isiI, fl_i, fl_s, fl_t, fl_l, fls_n, fls_c, ty_ii, ty_bi, ty_ss, ty_tt, bi_lenS, bi_lenT, bi_lenL, bi_lenD, bi_tupL, bi_intI, ix_t0, ix_t1, ix_l0, ix_l1, ix_t3, sl_t3, sl_t2, sl_s1, Bool.not_true, Bool.not_false, Bool.and_true, Bool.true_and, Bool.and_self, decide_true, decide_false, turn_nm, turn_tp, rdI, rdS, rdB, rdN, rdT, hlenI, e8, e7, sl, i7, i6, bi_any, fr2, kd2, kd3, eq_self, Bool.false_and]
  | starts z c' n =>
    obtain ⟨_, _, hn⟩ := hl
    have hn : c' ≤ 5 ∧ 1 ≤ n ∧ n ≤ 5 := hn
    have fst := first z _ c' _ hz rfl
    have hH : [false, false, z.contains a1, z.contains a2, z.contains a3, z.contains a4, z.contains a5, z.contains c] = Hb := hH
    rw [hH] at fst
    rw [fst]
    have i7 : ix (.lst (Hb.map D.bl)) (.int (-1)) = .ok (.bl (z.contains c)) := i7
    have i6 : ix (.lst (Hb.map D.bl)) (.int (-2)) = .ok (.bl (z.contains a5)) := i6
    have e8 : (8 : Int) - n = ((8 - n : Nat) : Int) := by omega
    have rg : walkOf 3 [.int ((8 - n : Nat) : Int), .int 8] = some ((List.range n).map fun (j : Nat) => D.int ((8 - n + j : Nat) : Int)) := by
      have h8 : small (8 : Int) = true := small_of (by decide)
      rw [wk_rng2 (small_nat (n := 8 - n) (by omega)) h8]
      have : ((8 : Int) - ((8 - n : Nat) : Int)).toNat = n := by omega
      rw [this]
      rfl
    have re := begun_eq (z.contains a1) (z.contains a2) (z.contains a3) (z.contains a4) (z.contains a5) (z.contains c) ⟨n, by omega⟩
    rw [hH] at re
    have es : strt z (lastN ([a1, a2, a3, a4, a5] ++ [c]) (n + 1)) = begun Hb (8 - n) n := by
      refine Eq.trans ?_ re.symm
      have : n = 1 ∨ n = 2 ∨ n = 3 ∨ n = 4 ∨ n = 5 := by omega
      rcases this with rfl | rfl | rfl | rfl | rfl <;> rfl
    have eb2 : brk (.starts z c' n) [a1, a2, a3, a4, a5] c = (z.contains c && (!z.contains a5 && decide (c' < begun Hb (8 - n) n))) := by
      rw [← es]
      rfl
    rw [eb2]
    have ixh : ∀ j : Nat, j < 8 → ix (.lst (Hb.map D.bl)) (.int (j : Nat)) = .ok (.bl (Hb[j]?.getD false)) := fun j hj => by
      refine ix_lN ?_
      rw [List.getElem?_map, List.getElem?_eq_getElem (by omega)]
      rfl
    have cl : ∀ s0 s1 s2 s3 s4 s6 : Slot, comL (some ((List.range n).map fun (j : Nat) => D.int ((8 - n + j : Nat) : Int))) (turn (callF F k) (N0 + 98) (.nm 10) [(.and (.ix (.var 5) (.var 10)) (.not (.ix (.var 5) (.bin .sub (.var 10) (.cst (.int (1)))))))] (.var 10) [s0, s1, s2, s3, s4, some (.lst (Hb.map D.bl), true), s6, none, none, none, none])
        = .ok (.lst ((List.range n).filterMap fun k => if ((Hb[8 - n + k]?.getD false) && !(Hb[8 - n + k - 1]?.getD false)) = true then some (D.int ((8 - n + k : Nat) : Int)) else none)) := fun s0 s1 s2 s3 s4 s6 => by
      rw [comL_map (f := fun k : Nat => if ((Hb[8 - n + k]?.getD false) && !(Hb[8 - n + k - 1]?.getD false)) = true then some (D.int ((8 - n + k : Nat) : Int)) else none) (by simp; omega) (fun j hj => by
        have hj : j < n := List.mem_range.mp hj
        have e1 : ((8 - n + j : Nat) : Int) - 1 = ((8 - n + j - 1 : Nat) : Int) := by omega
        simp only [rb_ok, rb_ex, rb_no, ro_ok, ro_ex, ro_no, ob_nx, ob_rt, ob_ex, ob_no, fin_rt, fin_nx, fin_ex, gv0, gvS, ev_var, rd_f, rd_t, ev_cst, ev_bin, ev_neg, ev_cmp, ev_chain, ev_and, ev_or, ev_not, ev_ite, ev_tup, ev_lst, ev_dct, ev_ix, ev_slice, ev_call, ev_bi, ev_meth, ev_comp, evs_nil, evs_cons, evp_nil, evp_cons, evo_none, evo_some, conds_nil, conds_cons, asBb, asI_int, blk_nil, blk_cons, ex_fz, ex_set, ex_unp, bdO_nil, bdO_cons, ex_mul, storeP_nil, storeP_cons, ex_put, ex_app, ex_exp, ex_ret, ex_raise, ex_ite, ex_for, forO_some, sv0, svS, fz_nil, fz_cons, fzAt0, fzAtS, fz1_s, fz1_n, wipe_nil, wipe_cons, wkS, wk_lst, wkT, wk_dic, wk_enumS, wk_enumT, wk_enumL, wk_zipS, List.set_cons_zero, List.set_cons_succ, initEnv, List.map_cons, List.map_nil, List.length_cons, List.length_nil, List.replicate, List.cons_append, List.nil_append, Nat.reduceAdd, Nat.reduceSub, Nat.add_zero, Nat.zero_add, Bool.false_eq_true, if_true, if_false, ite_true, ite_false, List.zip_cons_cons, List.zip_nil_left, c_eq, c_ne, c_in, c_nin, c_le, c_gt, c_ge, c_lt, c_isN, c_nisN, c_isB, c_nisB, isNon_n, isNon_b, isNon_i, isNon_s, isNon_t, isNon_l, eqD_ss, eqD_ii, eqD_bb, inD_s, b_add, b_sub, neg_i, bi_isiS, bi_isiI, fl_i, fl_s, fl_t, fl_l, fls_n, fls_c, ty_ii, ty_bi, ty_ss, ty_tt, bi_lenS, bi_lenT, bi_lenL, bi_lenD, bi_tupL, bi_intI, ix_t0, ix_t1, ix_l0, ix_l1, ix_t3, sl_t3, sl_t2, sl_s1, Bool.not_true, Bool.not_false, Bool.and_true, Bool.true_and, Bool.and_self, decide_true, decide_false, turn_nm, turn_tp, rdI, rdS, rdB, rdN, rdT, ixh (8 - n + j) (by omega), e1, ixh (8 - n + j - 1) (by omega)]
        cases Hb[8 - n + j]?.getD false <;> cases Hb[8 - n + j - 1]?.getD false <;> simp only [rb_ok, rb_ex, rb_no, ro_ok, ro_ex, ro_no, ob_nx, ob_rt, ob_ex, ob_no, fin_rt, fin_nx, fin_ex, gv0, gvS, ev_var, rd_f, rd_t, ev_cst, ev_bin, ev_neg, ev_cmp, ev_chain, ev_and, ev_or, ev_not, ev_ite, ev_tup, ev_lst, ev_dct, ev_ix, ev_slice, ev_call, ev_bi, ev_meth, ev_comp, evs_nil, evs_cons, evp_nil, evp_cons, evo_none, evo_some, conds_nil, conds_cons, asBb, asI_int, blk_nil, blk_cons, ex_fz, ex_set, ex_unp, bdO_nil, bdO_cons, ex_mul, storeP_nil, storeP_cons, ex_put, ex_app, ex_exp, ex_ret, ex_raise, ex_ite, ex_for, forO_some, sv0, svS, fz_nil, fz_cons, fzAt0, fzAtS, fz1_s, fz1_n, wipe_nil, wipe_cons, wkS, wk_lst, wkT, wk_dic, wk_enumS, wk_enumT, wk_enumL, wk_zipS, List.set_cons_zero, List.set_cons_succ, initEnv, List.map_cons, List.map_nil, List.length_cons, List.length_nil, List.replicate, List.cons_append, List.nil_append, Nat.reduceAdd, Nat.reduceSub, Nat.add_zero, Nat.zero_add, Bool.false_eq_true, if_true, if_false, ite_true, ite_false, List.zip_cons_cons, List.zip_nil_left, c_eq, c_ne, c_in, c_nin, c_le, c_gt, c_ge, c_lt, c_isN, c_nisN, c_isB, c_nisB, isNon_n, isNon_b, isNon_i, isNon_s, isNon_t, isNon_l, eqD_ss, eqD_ii, eqD_bb, inD_s, b_add, b_sub, neg_i, bi_isiS, bi_isiI, fl_i, fl_s, fl_t, fl_l, fls_n, fls_c, ty_ii, ty_bi, ty_ss, ty_tt, bi_lenS, bi_lenT, bi_lenL, bi_lenD, bi_tupL, bi_intI, ix_t0, ix_t1, ix_l0, ix_l1, ix_t3, sl_t3, sl_t2, sl_s1, Bool.not_true, Bool.not_false, Bool.and_true, Bool.true_and, Bool.and_self, decide_true, decide_false, turn_nm, turn_tp, rdI, rdS, rdB, rdN, rdT, Bool.false_and])]
    have hbeg : ∀ b : Nat, decide ((c' : Int) < ((b : Nat) : Int)) = decide (c' < b) := fun b => by
      rw [decide_eq_decide]
      omega
    cases q1 : z.contains c <;> cases q2 : z.contains a5
    all_goals
      rw [q1] at i7
      rw [q2] at i6
      simp only [Lim.d, f__law_breaks, List.drop, rb_ok, rb_ex, rb_no, ro_ok, ro_ex, ro_no, ob_nx, ob_rt, ob_ex, ob_no, fin_rt, fin_nx, fin_ex, gv0, gvS, ev_var, rd_f, rd_t, ev_cst, ev_bin, ev_neg, ev_cmp, ev_chain, ev_and, ev_or, ev_not, ev_ite, ev_tup, ev_lst, ev_dct, ev_ix, ev_slice, ev_call, ev_bi, ev_meth, ev_comp, evs_nil, evs_cons, evp_nil, evp_cons, evo_none, evo_some, conds_nil, conds_cons, asBb, asI_int, blk_nil, blk_cons, ex_fz, ex_set, ex_unp, bdO_nil, bdO_cons, ex_mul, storeP_nil, storeP_cons, ex_put, ex_app, ex_exp, ex_ret, ex_raise, ex_ite, ex_for, forO_some, sv0, svS, fz_nil, fz_cons, fzAt0, fzAtS, fz1_s, fz1_n, wipe_nil, wipe_cons, wkS, wk_lst, wkT, wk_dic, wk_enumS, wk_enumT, wk_enumL, wk_zipS, List.set_cons_zero, List.set_cons_succ, initEnv, List.map_cons, List.map_nil, List.length_cons, List.length_nil, List.replicate, List.cons_append, List.nil_append, Nat.reduceAdd, Nat.reduceSub, Nat.add_zero, Nat.zero_add, Bool.false_eq_true, if_true, if_false, ite_true, ite_false, List.zip_cons_cons, List.zip_nil_left, c_eq, c_ne, c_in, c_nin, c_le, c_gt, c_ge, c_lt, c_isN, c_nisN, c_isB, c_nisB, isNon_n, isNon_b, isNon_i, isNon_s, isNon_t, isNon_l, eqD_ss, eqD_ii, eqD_bb, inD_s, b_add, b_sub, neg_i, bi_isiS, bi_isiI, fl_i, fl_s, fl_t, fl_l, fls_n, fls_c, ty_ii, ty_bi, ty_ss, ty_tt, bi_lenS, bi_lenT, bi_lenL, bi_lenD, bi_tupL, bi_intI, ix_t0, ix_t1, ix_l0, ix_l1, ix_t3, sl_t3, sl_t2, sl_s1, Bool.not_true, Bool.not_false, Bool.and_true, Bool.true_and, Bool.and_self, decide_true, decide_false, turn_nm, turn_tp, rdI, rdS, rdB, rdN, rdT, hlenI, e8, rg, i7, i6, fr1, fr2, kd4, kd5, kd6, eq_self, Bool.false_and, cl, hbeg]
    rfl
end
end Mp

end Sec_MpSj
section Sec_MpSk
set_option autoImplicit false
set_option linter.all false
set_option maxHeartbeats 4000000
set_option maxRecDepth 100000
namespace Mp
open PySem
/-! ### calendars: plain laws -/
def never : List Nat := [46, 46, 46, 46, 46]
def run : List Nat → List Nat → List Nat
  | p, [] => p
  | p, d :: r => run (p.tail ++ [d]) r
/-- day by day, nothing broken -/
def okC (ls : List Lim) : List Nat → List Nat → Bool
  | _, [] => true
  | p, d :: r => canF ls p d && okC ls (p.tail ++ [d]) r
theorem run_app : ∀ (x y p : List Nat), run p (x ++ y) = run (run p x) y
  | [], _, _ => rfl
  | d :: x, y, p => run_app x y (p.tail ++ [d])
theorem okC_app (ls : List Lim) : ∀ (x y p : List Nat), okC ls p (x ++ y) = (okC ls p x && okC ls (run p x) y)
  | [], _, _ => by simp [okC, run]
  | d :: x, y, p => by
    show (canF ls p d && okC ls (p.tail ++ [d]) (x ++ y)) = ((canF ls p d && okC ls (p.tail ++ [d]) x) && okC ls (run (p.tail ++ [d]) x) y)
    rw [okC_app ls x y (p.tail ++ [d]), Bool.and_assoc]
theorem step_len {p : List Nat} (h : p.length = 5) (d : Nat) : (p.tail ++ [d]).length = 5 := by
  rw [List.length_append, List.length_tail, h]
  rfl
theorem run_len : ∀ (x p : List Nat), p.length = 5 → (run p x).length = 5
  | [], _, h => h
  | d :: x, p, h => run_len x (p.tail ++ [d]) (step_len h d)
theorem run_eq : ∀ (x p : List Nat), p.length = 5 → run p x = lastN (p ++ x) 5
  | [], p, h => by
    show p = lastN (p ++ []) 5
    rw [List.append_nil]
    unfold lastN
    rw [h]
    rfl
  | d :: x, p, h => by
    show run (p.tail ++ [d]) x = _
    rw [run_eq x (p.tail ++ [d]) (step_len h d)]
    cases p with
    | nil => cases h
    | cons a q =>
      unfold lastN
      have e1 : ((a :: q).tail ++ [d] ++ x) = q ++ d :: x := by simp
      have e2 : (a :: q ++ d :: x) = a :: (q ++ d :: x) := rfl
      have h : q.length = 4 := by simpa using h
      rw [e1, e2]
      have e3 : (a :: (q ++ d :: x)).length - 5 = ((q ++ d :: x).length - 5) + 1 := by simp; omega
      rw [e3, List.drop_succ_cons]
theorem run_never (x : List Nat) : run never x = lastN ([46, 46, 46, 46, 46] ++ x) 5 := run_eq x never rfl
theorem run_self {p : List Nat} (h : p.length = 5) : run never p = p := by
  rw [run_never]
  unfold lastN
  have : ([46, 46, 46, 46, 46] ++ p).length - 5 = ([46, 46, 46, 46, 46] : List Nat).length := by simp; omega
  rw [this, List.drop_left]
theorem findIdx_none (ls : List Lim) (p : List Nat) (d : Nat) : (ls.findIdx? fun l => brk l p d) = none ↔ canF ls p d = true := by
  unfold canF
  rw [List.findIdx?_eq_none_iff]
  simp
theorem fb_none (ls : List Lim) : ∀ (x p : List Nat) (n : Nat), fb ls p n x = none ↔ okC ls p x = true
  | [], _, _ => by simp [fb, okC]
  | d :: x, p, n => by
    have ih := fb_none ls x (p.tail ++ [d]) (n + 1)
    have f := findIdx_none ls p d
    simp only [fb, okC, Bool.and_eq_true]
    cases q : ls.findIdx? fun l => brk l p d with
    | none =>
      simp only [q, true_iff] at f
      simp only [f, true_and]
      exact ih
    | some i =>
      simp only [q] at f
      have f : ¬ canF ls p d = true := fun h => by have := f.mpr h; cases this
      simp [f]
theorem fb_of {ls : List Lim} {d i : Nat} {r : List Nat} : ∀ (x p : List Nat) (n : Nat), okC ls p x = true → (ls.findIdx? fun l => brk l (run p x) d) = some i → fb ls p n (x ++ d :: r) = some (n + x.length, i)
  | [], p, n, _, h => by
    have h : (ls.findIdx? fun l => brk l p d) = some i := h
    show (match ls.findIdx? fun l => brk l p d with | some i => some (n, i) | none => fb ls (p.tail ++ [d]) (n + 1) r) = _
    rw [h]
    rfl
  | e :: x, p, n, g, h => by
    have g : (canF ls p e && okC ls (p.tail ++ [e]) x) = true := g
    rw [Bool.and_eq_true] at g
    have q := (findIdx_none ls p e).mpr g.1
    show (match ls.findIdx? fun l => brk l p e with | some i => some (n, i) | none => fb ls (p.tail ++ [e]) (n + 1) (x ++ d :: r)) = _
    rw [q]
    show fb ls (p.tail ++ [e]) (n + 1) (x ++ d :: r) = _
    rw [fb_of x (p.tail ++ [e]) (n + 1) g.2 h]
    congr 2
    rw [List.length_cons]
    omega
theorem fb_some {ls : List Lim} {q : Nat × Nat} : ∀ (cal p : List Nat) (n : Nat), fb ls p n cal = some q →
    ∃ x d r, cal = x ++ d :: r ∧ okC ls p x = true ∧ (ls.findIdx? fun l => brk l (run p x) d) = some q.2 ∧ q.1 = n + x.length
  | [], _, _, h => by cases h
  | d :: cal, p, n, h => by
    have h : (match ls.findIdx? fun l => brk l p d with | some i => some (n, i) | none => fb ls (p.tail ++ [d]) (n + 1) cal) = some q := h
    cases f : ls.findIdx? fun l => brk l p d with
    | some i =>
      rw [f] at h
      have h : (n, i) = q := Option.some.inj h
      rw [← h]
      exact ⟨[], d, cal, rfl, rfl, f, rfl⟩
    | none =>
      rw [f] at h
      obtain ⟨x, e, r, h1, h2, h3, h4⟩ := fb_some cal (p.tail ++ [d]) (n + 1) h
      refine ⟨d :: x, e, r, by rw [h1]; rfl, ?_, h3, by rw [h4, List.length_cons]; omega⟩
      show (canF ls p d && okC ls (p.tail ++ [d]) x) = true
      rw [(findIdx_none ls p d).mp f, h2]
      rfl
theorem canF_sub {ls ls' : List Lim} (h : ∀ l ∈ ls', l ∈ ls) {p : List Nat} {d : Nat} (c : canF ls p d = true) : canF ls' p d = true := by
  unfold canF at *
  simp only [Bool.not_eq_true', List.any_eq_false] at *
  exact fun l hl => c l (h l hl)
theorem okC_sub {ls ls' : List Lim} (h : ∀ l ∈ ls', l ∈ ls) : ∀ (x p : List Nat), okC ls p x = true → okC ls' p x = true
  | [], _, _ => rfl
  | d :: x, p, g => by
    have g : (canF ls p d && okC ls (p.tail ++ [d]) x) = true := g
    rw [Bool.and_eq_true] at g
    show (canF ls' p d && okC ls' (p.tail ++ [d]) x) = true
    rw [canF_sub h g.1, okC_sub h x _ g.2]
    rfl
/-- what makes a day away possible -/
def Good (ls : List Lim) (p : List Nat) : Prop := ∀ l ∈ ls, ∀ z c n, l = .most z c n → cnt z (lastN p (n - 1)) ≤ c
theorem cnt_app (z x y : List Nat) : cnt z (x ++ y) = cnt z x + cnt z y := List.countP_append
theorem lastN_snoc {p : List Nat} (d : Nat) {n : Nat} (h1 : 1 ≤ n) (h : n ≤ p.length + 1) : lastN (p ++ [d]) n = lastN p (n - 1) ++ [d] := by
  unfold lastN
  rw [List.length_append, List.drop_append_of_le_length (by simp; omega)]
  congr 2
  simp
  omega
theorem cnt_zero {z x : List Nat} (h : ∀ c ∈ x, z.contains c = false) : cnt z x = 0 := by
  unfold cnt
  rw [List.countP_eq_zero]
  intro c hc
  rw [h c hc]
  decide
theorem good_never {zs : List Nat} {ls : List Lim} (hl : ∀ l ∈ ls, l.Ok zs) : Good ls never := fun l hm z c n e => by
  have hz := noAway (hl l hm).z
  rw [e] at hz
  have : cnt z (lastN never (n - 1)) = 0 := cnt_zero fun c hc => by
    have : c ∈ never := List.mem_of_mem_drop hc
    have : c = 46 := by
      unfold never at this
      simpa using this
    rw [this]
    exact hz
  omega
theorem good_away {zs : List Nat} {ls : List Lim} (hl : ∀ l ∈ ls, l.Ok zs) {p : List Nat} (hp : p.length = 5) (g : Good ls p) : canF ls p 46 = true := by
  unfold canF
  simp only [Bool.not_eq_true', List.any_eq_false, Bool.not_eq_true]
  intro l hm
  have hz := noAway (hl l hm).z
  have hn := (hl l hm).nums
  cases l with
  | most z c n =>
    have hz : z.contains 46 = false := hz
    have hn : c ≤ 6 ∧ 1 ≤ n ∧ n ≤ 6 := hn
    have := g _ hm z c n rfl
    show decide (c < cnt z (lastN (p ++ [46]) n)) = false
    rw [decide_eq_false_iff_not, lastN_snoc 46 hn.2.1 (by omega), cnt_app, cnt_zero (x := [46]) (fun c hc => by
      have : c = 46 := by simpa using hc
      rw [this]
      exact hz)]
    omega
  | row z c =>
    have hz : z.contains 46 = false := hz
    simp only [brk, hz, Bool.false_and]
  | gap z c =>
    have hz : z.contains 46 = false := hz
    simp only [brk, hz, Bool.false_and]
  | starts z c n =>
    have hz : z.contains 46 = false := hz
    simp only [brk, hz, Bool.false_and]
theorem cnt_drop_le (z x : List Nat) (n : Nat) : cnt z (x.drop n) ≤ cnt z x := (List.drop_sublist n x).countP_le
theorem good_step {zs : List Nat} {ls : List Lim} (hl : ∀ l ∈ ls, l.Ok zs) {p : List Nat} (hp : p.length = 5) {d : Nat} (c : canF ls p d = true) : Good ls (p.tail ++ [d]) := fun l hm z c' n e => by
  have hn := (hl l hm).nums
  rw [e] at hn
  have hn : c' ≤ 6 ∧ 1 ≤ n ∧ n ≤ 6 := hn
  unfold canF at c
  simp only [Bool.not_eq_true', List.any_eq_false, Bool.not_eq_true] at c
  have c := c l hm
  rw [e] at c
  have c : decide (c' < cnt z (lastN (p ++ [d]) n)) = false := c
  rw [decide_eq_false_iff_not] at c
  have : cnt z (lastN (p.tail ++ [d]) (n - 1)) ≤ cnt z (lastN (p ++ [d]) n) := by
    cases p with
    | nil => cases hp
    | cons a t =>
      have ht : t.length = 4 := by simpa using hp
      have e1 : lastN ((a :: t).tail ++ [d]) (n - 1) = ((a :: t) ++ [d]).drop (7 - n) := by
        unfold lastN
        show List.drop ((t ++ [d]).length - (n - 1)) (t ++ [d]) = List.drop (7 - n) (a :: (t ++ [d]))
        have : 7 - n = ((t ++ [d]).length - (n - 1)) + 1 := by simp; omega
        rw [this, List.drop_succ_cons]
      have e2 : lastN ((a :: t) ++ [d]) n = ((a :: t) ++ [d]).drop (6 - n) := by
        unfold lastN
        congr 1
        simp
        omega
      rw [e1, e2]
      have : 7 - n = (6 - n) + 1 := by omega
      rw [this, ← List.drop_drop]
      exact cnt_drop_le _ _ _
  omega
theorem good_run {zs : List Nat} {ls : List Lim} (hl : ∀ l ∈ ls, l.Ok zs) : ∀ (x p : List Nat), p.length = 5 → Good ls p → okC ls p x = true → Good ls (run p x)
  | [], _, _, g, _ => g
  | d :: x, p, hp, g, h => by
    have h : (canF ls p d && okC ls (p.tail ++ [d]) x) = true := h
    rw [Bool.and_eq_true] at h
    exact good_run hl x (p.tail ++ [d]) (step_len hp d) (good_step hl hp h.1) h.2
theorem okC_away {zs : List Nat} {ls : List Lim} (hl : ∀ l ∈ ls, l.Ok zs) : ∀ (n : Nat) (p : List Nat), p.length = 5 → Good ls p → okC ls p (List.replicate n 46) = true
  | 0, _, _, _ => rfl
  | n + 1, p, hp, g => by
    show (canF ls p 46 && okC ls (p.tail ++ [46]) (List.replicate n 46)) = true
    have := good_away hl hp g
    rw [this, okC_away hl n (p.tail ++ [46]) (step_len hp 46) (good_step hl hp this)]
    rfl
theorem CalOk_app {zs x y : List Nat} (h1 : CalOk zs x) (h2 : CalOk zs y) : CalOk zs (x ++ y) := fun c hc => by
  rcases List.mem_append.mp hc with h | h
  · exact h1 c h
  · exact h2 c h
theorem CalOk_sub {zs x y : List Nat} (h1 : CalOk zs x) (h : ∀ c ∈ y, c ∈ x) : CalOk zs y := fun c hc => h1 c (h c hc)
theorem CalOk_run {zs : List Nat} : ∀ (x p : List Nat), CalOk zs p → CalOk zs x → CalOk zs (run p x)
  | [], _, h, _ => h
  | d :: x, p, h, h2 => CalOk_run x (p.tail ++ [d]) (CalOk_app (CalOk_sub h fun c hc => List.mem_of_mem_tail hc) fun c hc => h2 c (by
      have : c = d := by simpa using hc
      rw [this]
      exact List.mem_cons_self)) fun c hc => h2 c (List.mem_cons_of_mem _ hc)
theorem CalOk_never {zs : List Nat} : CalOk zs never := fun c hc => .inl (by unfold never at hc; simpa using hc)
end Mp

end Sec_MpSk
section Sec_MpSl
set_option autoImplicit false
set_option linter.all false
set_option maxHeartbeats 4000000
set_option maxRecDepth 100000
namespace Mp
open PySem
def fbD : Option (Nat × Nat) → D
  | some p => .tup [.int (p.1 : Nat), .int (p.2 : Nat)]
  | none => .non
structure Jud3 (F : Str → Option Fn) : Prop extends JudP F where
  df : Has F "days_after" f_days_after
  ca : Has F "check_allowed" f_check_allowed
  nd : Has F "next_days" f_next_days
structure Jud4 (F : Str → Option Fn) : Prop extends Jud3 F where
  fi : Has F "first_broken" f_first_broken
  po : Has F "past_of" f_past_of
structure LawA (F : Str → Option Fn) : Prop where
  ho : owF F = noOw
  dr : Has F "_law_drawn" f__law_drawn
  lb : Has F "_law_breaks" f__law_breaks
  la : Has F "_law_after" f__law_after
structure LawC (F : Str → Option Fn) : Prop extends LawA F where
  lc : Has F "_law_calendar" f__law_calendar
structure LawD (F : Str → Option Fn) : Prop extends LawA F where
  ld : Has F "_law_days" f__law_days
structure LawW (F : Str → Option Fn) : Prop extends LawC F, LawD F
/-- the days that may follow -/
def dl (zs : List Nat) (ls : List Lim) (p : List Nat) : List Nat := (46 :: zs).filter fun c => canF ls p c
theorem filterMap_if {α β : Type} (p : α → Bool) (f : α → β) : ∀ l : List α, (l.filterMap fun x => if p x = true then some (f x) else none) = (l.filter p).map f
  | [] => rfl
  | a :: r => by
    have ih := filterMap_if p f r
    cases h : p a with
    | true => rw [List.filterMap_cons_some (by rw [h]; rfl), List.filter_cons_of_pos h, List.map_cons, ih]
    | false => rw [List.filterMap_cons_none (by rw [h]; rfl), List.filter_cons_of_neg (by rw [h]; decide), ih]
theorem none_canF (ls : List Lim) (p : List Nat) (d : Nat) : ((ls.filter fun l => brk l p d).map Lim.d).isEmpty = canF ls p d := by
  rw [Bool.eq_iff_iff]
  simp [canF]
theorem dl_mem {zs : List Nat} {ls : List Lim} {p : List Nat} {d : Nat} : d ∈ dl zs ls p ↔ (d = 46 ∨ d ∈ zs) ∧ canF ls p d = true := by
  unfold dl
  simp
theorem fb_isNone (ls : List Lim) (cal : List Nat) : (fb ls never 0 cal).isNone = okC ls never cal := by
  rw [Bool.eq_iff_iff, Option.isNone_iff_eq_none, fb_none]
section
variable {F : Str → Option Fn} {k : Nat} {zs : List Nat} {ls : List Lim} {cal : List Nat}
theorem s_fb (J : Jud2 F) (B : BookOk zs ls) (cal : List Nat) : callF F (k + 4) "find_broken" [bookD zs ls, .str cal] = .ok (fbD (fb ls never 0 cal)) := by
  rw [s_find_broken (k := k) J B cal]
  show R.ok (match fb ls never 0 cal with | some p => _ | none => _) = _
  cases fb ls never 0 cal <;> rfl
theorem s_allow (J : Jud2 F) (B : BookOk zs ls) (h : CalOk zs cal) (hl : cal.length ≤ 60) : callF F (k + 7) "is_allowed" [bookD zs ls, .str cal] = .ok (.bl (okC ls never cal)) := by
  rw [s_allowed (k := k) J B h hl, ← fb_isNone]
  rfl
theorem s_fp (J : JudP F) (hl : cal.length ≤ 900) : callF F (k + 2) "find_past" [.str cal] = .ok (.str (run never cal)) := by
  rw [run_never]
  exact s_find_past J hl
theorem s_first (J : Jud4 F) (B : BookOk zs ls) (h : CalOk zs cal) (hl : cal.length ≤ 60) : callF F (k + 7) "first_broken" [bookD zs ls, .str cal] = .ok (fbD (fb ls never 0 cal)) := by
  rw [callF_run J.ho J.fi rfl]
  simp only [f_first_broken, rb_ok, rb_ex, rb_no, ro_ok, ro_ex, ro_no, ob_nx, ob_rt, ob_ex, ob_no, fin_rt, fin_nx, fin_ex, gv0, gvS, ev_var, rd_f, rd_t, ev_cst, ev_bin, ev_neg, ev_cmp, ev_chain, ev_and, ev_or, ev_not, ev_ite, ev_tup, ev_lst, ev_dct, ev_ix, ev_slice, ev_call, ev_bi, ev_meth, ev_comp, evs_nil, evs_cons, evp_nil, evp_cons, evo_none, evo_some, conds_nil, conds_cons, asBb, asI_int, blk_nil, blk_cons, ex_fz, ex_set, ex_unp, bdO_nil, bdO_cons, ex_mul, storeP_nil, storeP_cons, ex_put, ex_app, ex_exp, ex_ret, ex_raise, ex_ite, ex_for, forO_some, sv0, svS, fz_nil, fz_cons, fzAt0, fzAtS, fz1_s, fz1_n, wipe_nil, wipe_cons, wkS, wk_lst, wkT, wk_dic, wk_enumS, wk_enumT, wk_enumL, wk_zipS, List.set_cons_zero, List.set_cons_succ, initEnv, List.map_cons, List.map_nil, List.length_cons, List.length_nil, List.replicate, List.cons_append, List.nil_append, Nat.reduceAdd, Nat.reduceSub, Nat.add_zero, Nat.zero_add, Bool.false_eq_true, if_true, if_false, ite_true, ite_false, List.zip_cons_cons, List.zip_nil_left, c_eq, c_ne, c_in, c_nin, c_le, c_gt, c_ge, c_lt, c_isN, c_nisN, c_isB, c_nisB, isNon_n, isNon_b, isNon_i, isNon_s, isNon_t, isNon_l, eqD_ss, eqD_ii, eqD_bb, inD_s, b_add, b_sub, neg_i, bi_isiS, bi_isiI, fl_i, fl_s, fl_t, fl_l, fls_n, fls_c, ty_ii, ty_bi, ty_ss, ty_tt, bi_lenS, bi_lenT, bi_lenL, bi_lenD, bi_tupL, bi_intI, ix_t0, ix_t1, ix_l0, ix_l1, ix_t3, sl_t3, sl_t2, sl_s1, Bool.not_true, Bool.not_false, Bool.and_true, Bool.true_and, Bool.and_self, decide_true, decide_false, turn_nm, turn_tp, rdI, rdS, rdB, rdN, rdT, s_check_cal J.toJud2.toChk B h hl, s_fb J.toJud2 B]
theorem s_past (J : Jud4 F) (B : BookOk zs ls) (h : CalOk zs cal) (hl : cal.length ≤ 60) : callF F (k + 7) "past_of" [bookD zs ls, .str cal] = .ok (.str (run never cal)) := by
  rw [callF_run J.ho J.po rfl]
  simp only [f_past_of, rb_ok, rb_ex, rb_no, ro_ok, ro_ex, ro_no, ob_nx, ob_rt, ob_ex, ob_no, fin_rt, fin_nx, fin_ex, gv0, gvS, ev_var, rd_f, rd_t, ev_cst, ev_bin, ev_neg, ev_cmp, ev_chain, ev_and, ev_or, ev_not, ev_ite, ev_tup, ev_lst, ev_dct, ev_ix, ev_slice, ev_call, ev_bi, ev_meth, ev_comp, evs_nil, evs_cons, evp_nil, evp_cons, evo_none, evo_some, conds_nil, conds_cons, asBb, asI_int, blk_nil, blk_cons, ex_fz, ex_set, ex_unp, bdO_nil, bdO_cons, ex_mul, storeP_nil, storeP_cons, ex_put, ex_app, ex_exp, ex_ret, ex_raise, ex_ite, ex_for, forO_some, sv0, svS, fz_nil, fz_cons, fzAt0, fzAtS, fz1_s, fz1_n, wipe_nil, wipe_cons, wkS, wk_lst, wkT, wk_dic, wk_enumS, wk_enumT, wk_enumL, wk_zipS, List.set_cons_zero, List.set_cons_succ, initEnv, List.map_cons, List.map_nil, List.length_cons, List.length_nil, List.replicate, List.cons_append, List.nil_append, Nat.reduceAdd, Nat.reduceSub, Nat.add_zero, Nat.zero_add, Bool.false_eq_true, if_true, if_false, ite_true, ite_false, List.zip_cons_cons, List.zip_nil_left, c_eq, c_ne, c_in, c_nin, c_le, c_gt, c_ge, c_lt, c_isN, c_nisN, c_isB, c_nisB, isNon_n, isNon_b, isNon_i, isNon_s, isNon_t, isNon_l, eqD_ss, eqD_ii, eqD_bb, inD_s, b_add, b_sub, neg_i, bi_isiS, bi_isiI, fl_i, fl_s, fl_t, fl_l, fls_n, fls_c, ty_ii, ty_bi, ty_ss, ty_tt, bi_lenS, bi_lenT, bi_lenL, bi_lenD, bi_tupL, bi_intI, ix_t0, ix_t1, ix_l0, ix_l1, ix_t3, sl_t3, sl_t2, sl_s1, Bool.not_true, Bool.not_false, Bool.and_true, Bool.true_and, Bool.and_self, decide_true, decide_false, turn_nm, turn_tp, rdI, rdS, rdB, rdN, rdT, s_check_cal J.toJud2.toChk B h hl, s_fp J.toJudP (show cal.length ≤ 900 by omega)]
theorem s_days_after (J : Jud3 F) (B : BookOk zs ls) {past : List Nat} (hp : past.length = 5) : callF F (k + 4) "days_after" [bookD zs ls, .str past] = .ok (.lst (chars (dl zs ls past))) := by
  have lg := line_ge
  have hz : zs.length ≤ 2 := by rcases B.zo with rfl | rfl <;> decide
  rw [callF_run J.ho J.df rfl]
  simp only [f_days_after, rb_ok, rb_ex, rb_no, ro_ok, ro_ex, ro_no, ob_nx, ob_rt, ob_ex, ob_no, fin_rt, fin_nx, fin_ex, gv0, gvS, ev_var, rd_f, rd_t, ev_cst, ev_bin, ev_neg, ev_cmp, ev_chain, ev_and, ev_or, ev_not, ev_ite, ev_tup, ev_lst, ev_dct, ev_ix, ev_slice, ev_call, ev_bi, ev_meth, ev_comp, evs_nil, evs_cons, evp_nil, evp_cons, evo_none, evo_some, conds_nil, conds_cons, asBb, asI_int, blk_nil, blk_cons, ex_fz, ex_set, ex_unp, bdO_nil, bdO_cons, ex_mul, storeP_nil, storeP_cons, ex_put, ex_app, ex_exp, ex_ret, ex_raise, ex_ite, ex_for, forO_some, sv0, svS, fz_nil, fz_cons, fzAt0, fzAtS, fz1_s, fz1_n, wipe_nil, wipe_cons, wkS, wk_lst, wkT, wk_dic, wk_enumS, wk_enumT, wk_enumL, wk_zipS, List.set_cons_zero, List.set_cons_succ, initEnv, List.map_cons, List.map_nil, List.length_cons, List.length_nil, List.replicate, List.cons_append, List.nil_append, Nat.reduceAdd, Nat.reduceSub, Nat.add_zero, Nat.zero_add, Bool.false_eq_true, if_true, if_false, ite_true, ite_false, List.zip_cons_cons, List.zip_nil_left, c_eq, c_ne, c_in, c_nin, c_le, c_gt, c_ge, c_lt, c_isN, c_nisN, c_isB, c_nisB, isNon_n, isNon_b, isNon_i, isNon_s, isNon_t, isNon_l, eqD_ss, eqD_ii, eqD_bb, inD_s, b_add, b_sub, neg_i, bi_isiS, bi_isiI, fl_i, fl_s, fl_t, fl_l, fls_n, fls_c, ty_ii, ty_bi, ty_ss, ty_tt, bi_lenS, bi_lenT, bi_lenL, bi_lenD, bi_tupL, bi_intI, ix_t0, ix_t1, ix_l0, ix_l1, ix_t3, sl_t3, sl_t2, sl_s1, Bool.not_true, Bool.not_false, Bool.and_true, Bool.true_and, Bool.and_self, decide_true, decide_false, turn_nm, turn_tp, rdI, rdS, rdB, rdN, rdT, s_days_of J.toJud2.toChk B]
  rw [comL_chars (fun c => if canF ls past c = true then some (.str [c]) else none) (by simp; omega) (fun c hc => by
    simp only [rb_ok, rb_ex, rb_no, ro_ok, ro_ex, ro_no, ob_nx, ob_rt, ob_ex, ob_no, fin_rt, fin_nx, fin_ex, gv0, gvS, ev_var, rd_f, rd_t, ev_cst, ev_bin, ev_neg, ev_cmp, ev_chain, ev_and, ev_or, ev_not, ev_ite, ev_tup, ev_lst, ev_dct, ev_ix, ev_slice, ev_call, ev_bi, ev_meth, ev_comp, evs_nil, evs_cons, evp_nil, evp_cons, evo_none, evo_some, conds_nil, conds_cons, asBb, asI_int, blk_nil, blk_cons, ex_fz, ex_set, ex_unp, bdO_nil, bdO_cons, ex_mul, storeP_nil, storeP_cons, ex_put, ex_app, ex_exp, ex_ret, ex_raise, ex_ite, ex_for, forO_some, sv0, svS, fz_nil, fz_cons, fzAt0, fzAtS, fz1_s, fz1_n, wipe_nil, wipe_cons, wkS, wk_lst, wkT, wk_dic, wk_enumS, wk_enumT, wk_enumL, wk_zipS, List.set_cons_zero, List.set_cons_succ, initEnv, List.map_cons, List.map_nil, List.length_cons, List.length_nil, List.replicate, List.cons_append, List.nil_append, Nat.reduceAdd, Nat.reduceSub, Nat.add_zero, Nat.zero_add, Bool.false_eq_true, if_true, if_false, ite_true, ite_false, List.zip_cons_cons, List.zip_nil_left, c_eq, c_ne, c_in, c_nin, c_le, c_gt, c_ge, c_lt, c_isN, c_nisN, c_isB, c_nisB, isNon_n, isNon_b, isNon_i, isNon_s, isNon_t, isNon_l, eqD_ss, eqD_ii, eqD_bb, inD_s, b_add, b_sub, neg_i, bi_isiS, bi_isiI, fl_i, fl_s, fl_t, fl_l, fls_n, fls_c, ty_ii, ty_bi, ty_ss, ty_tt, bi_lenS, bi_lenT, bi_lenL, bi_lenD, bi_tupL, bi_intI, ix_t0, ix_t1, ix_l0, ix_l1, ix_t3, sl_t3, sl_t2, sl_s1, Bool.not_true, Bool.not_false, Bool.and_true, Bool.true_and, Bool.and_self, decide_true, decide_false, turn_nm, turn_tp, rdI, rdS, rdB, rdN, rdT, s_can J.toJud2.toJud B.all (Nat.le_trans B.many (by decide)) hp c]
    by_cases z : canF ls past c = true <;> simp [z, rb_ok, rb_ex, rb_no, ro_ok, ro_ex, ro_no, ob_nx, ob_rt, ob_ex, ob_no, fin_rt, fin_nx, fin_ex, gv0, gvS, ev_var, rd_f, rd_t, ev_cst, ev_bin, ev_neg, ev_cmp, ev_chain, ev_and, ev_or, ev_not, ev_ite, ev_tup, ev_lst, ev_dct, ev_ix, ev_slice, ev_call, ev_bi, ev_meth, ev_comp, evs_nil, evs_cons, evp_nil, evp_cons, evo_none, evo_some, conds_nil, conds_cons, asBb, asI_int, blk_nil, blk_cons, ex_fz, ex_set, ex_unp, bdO_nil, bdO_cons, ex_mul, storeP_nil, storeP_cons, ex_put, ex_app, ex_exp, ex_ret, ex_raise, ex_ite, ex_for, forO_some, sv0, svS, fz_nil, fz_cons, fzAt0, fzAtS, fz1_s, fz1_n, wipe_nil, wipe_cons, wkS, wk_lst, wkT, wk_dic, wk_enumS, wk_enumT, wk_enumL, wk_zipS, List.set_cons_zero, List.set_cons_succ, initEnv, List.map_cons, List.map_nil, List.length_cons, List.length_nil, List.replicate, List.cons_append, List.nil_append, Nat.reduceAdd, Nat.reduceSub, Nat.add_zero, Nat.zero_add, Bool.false_eq_true, if_true, if_false, ite_true, ite_false, List.zip_cons_cons, List.zip_nil_left, c_eq, c_ne, c_in, c_nin, c_le, c_gt, c_ge, c_lt, c_isN, c_nisN, c_isB, c_nisB, isNon_n, isNon_b, isNon_i, isNon_s, isNon_t, isNon_l, eqD_ss, eqD_ii, eqD_bb, inD_s, b_add, b_sub, neg_i, bi_isiS, bi_isiI, fl_i, fl_s, fl_t, fl_l, fls_n, fls_c, ty_ii, ty_bi, ty_ss, ty_tt, bi_lenS, bi_lenT, bi_lenL, bi_lenD, bi_tupL, bi_intI, ix_t0, ix_t1, ix_l0, ix_l1, ix_t3, sl_t3, sl_t2, sl_s1, Bool.not_true, Bool.not_false, Bool.and_true, Bool.true_and, Bool.and_self, decide_true, decide_false, turn_nm, turn_tp, rdI, rdS, rdB, rdN, rdT])]
  rw [filterMap_if (fun c => canF ls past c) (fun c => D.str [c])]
  rfl
theorem s_check_allowed (J : Jud3 F) (B : BookOk zs ls) (h : CalOk zs cal) (hl : cal.length ≤ 60) (g : okC ls never cal = true) : callF F (k + 7) "check_allowed" [bookD zs ls, .str cal] = .ok .non := by
  rw [callF_run J.ho J.ca rfl]
  have : fb ls never 0 cal = none := (fb_none ..).mpr g
  simp only [f_check_allowed, rb_ok, rb_ex, rb_no, ro_ok, ro_ex, ro_no, ob_nx, ob_rt, ob_ex, ob_no, fin_rt, fin_nx, fin_ex, gv0, gvS, ev_var, rd_f, rd_t, ev_cst, ev_bin, ev_neg, ev_cmp, ev_chain, ev_and, ev_or, ev_not, ev_ite, ev_tup, ev_lst, ev_dct, ev_ix, ev_slice, ev_call, ev_bi, ev_meth, ev_comp, evs_nil, evs_cons, evp_nil, evp_cons, evo_none, evo_some, conds_nil, conds_cons, asBb, asI_int, blk_nil, blk_cons, ex_fz, ex_set, ex_unp, bdO_nil, bdO_cons, ex_mul, storeP_nil, storeP_cons, ex_put, ex_app, ex_exp, ex_ret, ex_raise, ex_ite, ex_for, forO_some, sv0, svS, fz_nil, fz_cons, fzAt0, fzAtS, fz1_s, fz1_n, wipe_nil, wipe_cons, wkS, wk_lst, wkT, wk_dic, wk_enumS, wk_enumT, wk_enumL, wk_zipS, List.set_cons_zero, List.set_cons_succ, initEnv, List.map_cons, List.map_nil, List.length_cons, List.length_nil, List.replicate, List.cons_append, List.nil_append, Nat.reduceAdd, Nat.reduceSub, Nat.add_zero, Nat.zero_add, Bool.false_eq_true, if_true, if_false, ite_true, ite_false, List.zip_cons_cons, List.zip_nil_left, c_eq, c_ne, c_in, c_nin, c_le, c_gt, c_ge, c_lt, c_isN, c_nisN, c_isB, c_nisB, isNon_n, isNon_b, isNon_i, isNon_s, isNon_t, isNon_l, eqD_ss, eqD_ii, eqD_bb, inD_s, b_add, b_sub, neg_i, bi_isiS, bi_isiI, fl_i, fl_s, fl_t, fl_l, fls_n, fls_c, ty_ii, ty_bi, ty_ss, ty_tt, bi_lenS, bi_lenT, bi_lenL, bi_lenD, bi_tupL, bi_intI, ix_t0, ix_t1, ix_l0, ix_l1, ix_t3, sl_t3, sl_t2, sl_s1, Bool.not_true, Bool.not_false, Bool.and_true, Bool.true_and, Bool.and_self, decide_true, decide_false, turn_nm, turn_tp, rdI, rdS, rdB, rdN, rdT, s_check_cal J.toJud2.toChk B h hl, s_fb J.toJud2 B, this, fbD]
theorem s_next (J : Jud3 F) (B : BookOk zs ls) (h : CalOk zs cal) (hl : cal.length ≤ 60) (g : okC ls never cal = true) : callF F (k + 8) "next_days" [bookD zs ls, .str cal] = .ok (.lst (chars (dl zs ls (run never cal)))) := by
  rw [callF_run J.ho J.nd rfl]
  simp only [f_next_days, rb_ok, rb_ex, rb_no, ro_ok, ro_ex, ro_no, ob_nx, ob_rt, ob_ex, ob_no, fin_rt, fin_nx, fin_ex, gv0, gvS, ev_var, rd_f, rd_t, ev_cst, ev_bin, ev_neg, ev_cmp, ev_chain, ev_and, ev_or, ev_not, ev_ite, ev_tup, ev_lst, ev_dct, ev_ix, ev_slice, ev_call, ev_bi, ev_meth, ev_comp, evs_nil, evs_cons, evp_nil, evp_cons, evo_none, evo_some, conds_nil, conds_cons, asBb, asI_int, blk_nil, blk_cons, ex_fz, ex_set, ex_unp, bdO_nil, bdO_cons, ex_mul, storeP_nil, storeP_cons, ex_put, ex_app, ex_exp, ex_ret, ex_raise, ex_ite, ex_for, forO_some, sv0, svS, fz_nil, fz_cons, fzAt0, fzAtS, fz1_s, fz1_n, wipe_nil, wipe_cons, wkS, wk_lst, wkT, wk_dic, wk_enumS, wk_enumT, wk_enumL, wk_zipS, List.set_cons_zero, List.set_cons_succ, initEnv, List.map_cons, List.map_nil, List.length_cons, List.length_nil, List.replicate, List.cons_append, List.nil_append, Nat.reduceAdd, Nat.reduceSub, Nat.add_zero, Nat.zero_add, Bool.false_eq_true, if_true, if_false, ite_true, ite_false, List.zip_cons_cons, List.zip_nil_left, c_eq, c_ne, c_in, c_nin, c_le, c_gt, c_ge, c_lt, c_isN, c_nisN, c_isB, c_nisB, isNon_n, isNon_b, isNon_i, isNon_s, isNon_t, isNon_l, eqD_ss, eqD_ii, eqD_bb, inD_s, b_add, b_sub, neg_i, bi_isiS, bi_isiI, fl_i, fl_s, fl_t, fl_l, fls_n, fls_c, ty_ii, ty_bi, ty_ss, ty_tt, bi_lenS, bi_lenT, bi_lenL, bi_lenD, bi_tupL, bi_intI, ix_t0, ix_t1, ix_l0, ix_l1, ix_t3, sl_t3, sl_t2, sl_s1, Bool.not_true, Bool.not_false, Bool.and_true, Bool.true_and, Bool.and_self, decide_true, decide_false, turn_nm, turn_tp, rdI, rdS, rdB, rdN, rdT, s_check_allowed J B h hl g, s_fp J.toJudP (show cal.length ≤ 900 by omega), s_days_after (k := k + 3) J B (run_len cal never rfl)]
/-- what the law's own search gives -/
def aft (zs : List Nat) (ls : List Lim) (p : List Nat) : List D := (dl zs ls p).map fun c => .tup [.str [c], .str (p.tail ++ [c])]
def la_body : List S := loopOf f__law_after.body
theorem la_loop (W : LawA F) (B : BookOk zs ls) {past : List Nat} (hp : past.length = 5) (m : Nat) : ∀ (x : List Nat) (acc : List D) (s3 s4 s5 : Slot), acc.length + x.length ≤ 900 →
    ∃ s3', forL (blk (ex noOw (callF F (k + 1)) (m + 50)) la_body) (.nm 3) (chars x) [some (bookD zs ls, false), some (.str past, false), some (.lst acc, true), s3, s4, s5]
      = .nx [some (bookD zs ls, false), some (.str past, false), some (.lst (acc ++ (x.filter fun c => canF ls past c).map fun c => D.tup [.str [c], .str (past.tail ++ [c])]), true), s3', s4, s5]
  | [], acc, s3, s4, s5, _ => ⟨s3, by
    show Out.nx _ = _
    simp⟩
  | d :: x, acc, s3, s4, s5, hl => by
    have lg := line_ge
    have hm := B.many
    obtain ⟨a, q, rfl⟩ : ∃ a q, past = a :: q := by
      cases past with
      | nil => cases hp
      | cons a q => exact ⟨a, q, rfl⟩
    have hq : q.length = 4 := by simpa using hp
    have hl : acc.length + (x.length + 1) ≤ 900 := hl
    have hlt : acc.length < line := by omega
    have e1 := b_adds (x := [46, 46]) (y := a :: q) (by simp; omega)
    have e2 := b_adds (x := [46, 46] ++ a :: q) (y := [d]) (by simp; omega)
    have e3 := b_adds (x := q) (y := [d]) (by simp; omega)
    have e4 := fun (l : Lim) (h : l ∈ ls) => s_lbreaks (k := k) W.ho W.lb (B.all l h) hp d
    simp only [List.cons_append, List.nil_append] at e1 e2 e4
    have ee := eqD_emp (xs := (ls.filter fun l => brk l (a :: q) d).map Lim.d) (fun x hx => by obtain ⟨l, _, rfl⟩ := List.mem_map.mp hx; exact l.flat) (fun x hx => by
      obtain ⟨l, _, rfl⟩ := List.mem_map.mp hx
      rw [l.depth]
      decide)
    rw [none_canF] at ee
    have step : blk (ex noOw (callF F (k + 1)) (m + 50)) la_body (setv [some (bookD zs ls, false), some (.str (a :: q), false), some (.lst acc, true), s3, s4, s5] 3 (.str [d]) false)
        = .nx [some (bookD zs ls, false), some (.str (a :: q), false), some (.lst (if canF ls (a :: q) d = true then acc ++ [.tup [.str [d], .str (q ++ [d])]] else acc), true), some (.str [d], false), s4, s5] := by
      have eB : la_body = loopOf f__law_after.body := rfl
      rw [eB]
      simp only [f__law_after, loopOf, bookD, rb_ok, rb_ex, rb_no, ro_ok, ro_ex, ro_no, ob_nx, ob_rt, ob_ex, ob_no, fin_rt, fin_nx, fin_ex, gv0, gvS, ev_var, rd_f, rd_t, ev_cst, ev_bin, ev_neg, ev_cmp, ev_chain, ev_and, ev_or, ev_not, ev_ite, ev_tup, ev_lst, ev_dct, ev_ix, ev_slice, ev_call, ev_bi, ev_meth, ev_comp, evs_nil, evs_cons, evp_nil, evp_cons, evo_none, evo_some, conds_nil, conds_cons, asBb, asI_int, blk_nil, blk_cons, ex_fz, ex_set, ex_unp, bdO_nil, bdO_cons, ex_mul, storeP_nil, storeP_cons, ex_put, ex_app, ex_exp, ex_ret, ex_raise, ex_ite, ex_for, forO_some, sv0, svS, fz_nil, fz_cons, fzAt0, fzAtS, fz1_s, fz1_n, wipe_nil, wipe_cons, wkS, wk_lst, wkT, wk_dic, wk_enumS, wk_enumT, wk_enumL, wk_zipS, List.set_cons_zero, List.set_cons_succ, initEnv, List.map_cons, List.map_nil, List.length_cons, List.length_nil, List.replicate, List.cons_append, List.nil_append, Nat.reduceAdd, Nat.reduceSub, Nat.add_zero, Nat.zero_add, Bool.false_eq_true, if_true, if_false, ite_true, ite_false, List.zip_cons_cons, List.zip_nil_left, c_eq, c_ne, c_in, c_nin, c_le, c_gt, c_ge, c_lt, c_isN, c_nisN, c_isB, c_nisB, isNon_n, isNon_b, isNon_i, isNon_s, isNon_t, isNon_l, eqD_ss, eqD_ii, eqD_bb, inD_s, b_add, b_sub, neg_i, bi_isiS, bi_isiI, fl_i, fl_s, fl_t, fl_l, fls_n, fls_c, ty_ii, ty_bi, ty_ss, ty_tt, bi_lenS, bi_lenT, bi_lenL, bi_lenD, bi_tupL, bi_intI, ix_t0, ix_t1, ix_l0, ix_l1, ix_t3, sl_t3, sl_t2, sl_s1, Bool.not_true, Bool.not_false, Bool.and_true, Bool.true_and, Bool.and_self, decide_true, decide_false, turn_nm, turn_tp, rdI, rdS, rdB, rdN, rdT]
      rw [comL_map (g := Lim.d) (fun l => if brk l (a :: q) d = true then some l.d else none) (by omega) (fun l hm => by
        simp only [rb_ok, rb_ex, rb_no, ro_ok, ro_ex, ro_no, ob_nx, ob_rt, ob_ex, ob_no, fin_rt, fin_nx, fin_ex, gv0, gvS, ev_var, rd_f, rd_t, ev_cst, ev_bin, ev_neg, ev_cmp, ev_chain, ev_and, ev_or, ev_not, ev_ite, ev_tup, ev_lst, ev_dct, ev_ix, ev_slice, ev_call, ev_bi, ev_meth, ev_comp, evs_nil, evs_cons, evp_nil, evp_cons, evo_none, evo_some, conds_nil, conds_cons, asBb, asI_int, blk_nil, blk_cons, ex_fz, ex_set, ex_unp, bdO_nil, bdO_cons, ex_mul, storeP_nil, storeP_cons, ex_put, ex_app, ex_exp, ex_ret, ex_raise, ex_ite, ex_for, forO_some, sv0, svS, fz_nil, fz_cons, fzAt0, fzAtS, fz1_s, fz1_n, wipe_nil, wipe_cons, wkS, wk_lst, wkT, wk_dic, wk_enumS, wk_enumT, wk_enumL, wk_zipS, List.set_cons_zero, List.set_cons_succ, initEnv, List.map_cons, List.map_nil, List.length_cons, List.length_nil, List.replicate, List.cons_append, List.nil_append, Nat.reduceAdd, Nat.reduceSub, Nat.add_zero, Nat.zero_add, Bool.false_eq_true, if_true, if_false, ite_true, ite_false, List.zip_cons_cons, List.zip_nil_left, c_eq, c_ne, c_in, c_nin, c_le, c_gt, c_ge, c_lt, c_isN, c_nisN, c_isB, c_nisB, isNon_n, isNon_b, isNon_i, isNon_s, isNon_t, isNon_l, eqD_ss, eqD_ii, eqD_bb, inD_s, b_add, b_sub, neg_i, bi_isiS, bi_isiI, fl_i, fl_s, fl_t, fl_l, fls_n, fls_c, ty_ii, ty_bi, ty_ss, ty_tt, bi_lenS, bi_lenT, bi_lenL, bi_lenD, bi_tupL, bi_intI, ix_t0, ix_t1, ix_l0, ix_l1, ix_t3, sl_t3, sl_t2, sl_s1, Bool.not_true, Bool.not_false, Bool.and_true, Bool.true_and, Bool.and_self, decide_true, decide_false, turn_nm, turn_tp, rdI, rdS, rdB, rdN, rdT, e1, e2, e4 l hm]
        by_cases z : brk l (a :: q) d = true <;> simp [z, rb_ok, rb_ex, rb_no, ro_ok, ro_ex, ro_no, ob_nx, ob_rt, ob_ex, ob_no, fin_rt, fin_nx, fin_ex, gv0, gvS, ev_var, rd_f, rd_t, ev_cst, ev_bin, ev_neg, ev_cmp, ev_chain, ev_and, ev_or, ev_not, ev_ite, ev_tup, ev_lst, ev_dct, ev_ix, ev_slice, ev_call, ev_bi, ev_meth, ev_comp, evs_nil, evs_cons, evp_nil, evp_cons, evo_none, evo_some, conds_nil, conds_cons, asBb, asI_int, blk_nil, blk_cons, ex_fz, ex_set, ex_unp, bdO_nil, bdO_cons, ex_mul, storeP_nil, storeP_cons, ex_put, ex_app, ex_exp, ex_ret, ex_raise, ex_ite, ex_for, forO_some, sv0, svS, fz_nil, fz_cons, fzAt0, fzAtS, fz1_s, fz1_n, wipe_nil, wipe_cons, wkS, wk_lst, wkT, wk_dic, wk_enumS, wk_enumT, wk_enumL, wk_zipS, List.set_cons_zero, List.set_cons_succ, initEnv, List.map_cons, List.map_nil, List.length_cons, List.length_nil, List.replicate, List.cons_append, List.nil_append, Nat.reduceAdd, Nat.reduceSub, Nat.add_zero, Nat.zero_add, Bool.false_eq_true, if_true, if_false, ite_true, ite_false, List.zip_cons_cons, List.zip_nil_left, c_eq, c_ne, c_in, c_nin, c_le, c_gt, c_ge, c_lt, c_isN, c_nisN, c_isB, c_nisB, isNon_n, isNon_b, isNon_i, isNon_s, isNon_t, isNon_l, eqD_ss, eqD_ii, eqD_bb, inD_s, b_add, b_sub, neg_i, bi_isiS, bi_isiI, fl_i, fl_s, fl_t, fl_l, fls_n, fls_c, ty_ii, ty_bi, ty_ss, ty_tt, bi_lenS, bi_lenT, bi_lenL, bi_lenD, bi_tupL, bi_intI, ix_t0, ix_t1, ix_l0, ix_l1, ix_t3, sl_t3, sl_t2, sl_s1, Bool.not_true, Bool.not_false, Bool.and_true, Bool.true_and, Bool.and_self, decide_true, decide_false, turn_nm, turn_tp, rdI, rdS, rdB, rdN, rdT])]
      rw [filterMap_if (fun l => brk l (a :: q) d) Lim.d]
      simp only [rb_ok, rb_ex, rb_no, ro_ok, ro_ex, ro_no, ob_nx, ob_rt, ob_ex, ob_no, fin_rt, fin_nx, fin_ex, gv0, gvS, ev_var, rd_f, rd_t, ev_cst, ev_bin, ev_neg, ev_cmp, ev_chain, ev_and, ev_or, ev_not, ev_ite, ev_tup, ev_lst, ev_dct, ev_ix, ev_slice, ev_call, ev_bi, ev_meth, ev_comp, evs_nil, evs_cons, evp_nil, evp_cons, evo_none, evo_some, conds_nil, conds_cons, asBb, asI_int, blk_nil, blk_cons, ex_fz, ex_set, ex_unp, bdO_nil, bdO_cons, ex_mul, storeP_nil, storeP_cons, ex_put, ex_app, ex_exp, ex_ret, ex_raise, ex_ite, ex_for, forO_some, sv0, svS, fz_nil, fz_cons, fzAt0, fzAtS, fz1_s, fz1_n, wipe_nil, wipe_cons, wkS, wk_lst, wkT, wk_dic, wk_enumS, wk_enumT, wk_enumL, wk_zipS, List.set_cons_zero, List.set_cons_succ, initEnv, List.map_cons, List.map_nil, List.length_cons, List.length_nil, List.replicate, List.cons_append, List.nil_append, Nat.reduceAdd, Nat.reduceSub, Nat.add_zero, Nat.zero_add, Bool.false_eq_true, if_true, if_false, ite_true, ite_false, List.zip_cons_cons, List.zip_nil_left, c_eq, c_ne, c_in, c_nin, c_le, c_gt, c_ge, c_lt, c_isN, c_nisN, c_isB, c_nisB, isNon_n, isNon_b, isNon_i, isNon_s, isNon_t, isNon_l, eqD_ss, eqD_ii, eqD_bb, inD_s, b_add, b_sub, neg_i, bi_isiS, bi_isiI, fl_i, fl_s, fl_t, fl_l, fls_n, fls_c, ty_ii, ty_bi, ty_ss, ty_tt, bi_lenS, bi_lenT, bi_lenL, bi_lenD, bi_tupL, bi_intI, ix_t0, ix_t1, ix_l0, ix_l1, ix_t3, sl_t3, sl_t2, sl_s1, Bool.not_true, Bool.not_false, Bool.and_true, Bool.true_and, Bool.and_self, decide_true, decide_false, turn_nm, turn_tp, rdI, rdS, rdB, rdN, rdT, ee]
      by_cases z : canF ls (a :: q) d = true
      · simp only [z, rb_ok, rb_ex, rb_no, ro_ok, ro_ex, ro_no, ob_nx, ob_rt, ob_ex, ob_no, fin_rt, fin_nx, fin_ex, gv0, gvS, ev_var, rd_f, rd_t, ev_cst, ev_bin, ev_neg, ev_cmp, ev_chain, ev_and, ev_or, ev_not, ev_ite, ev_tup, ev_lst, ev_dct, ev_ix, ev_slice, ev_call, ev_bi, ev_meth, ev_comp, evs_nil, evs_cons, evp_nil, evp_cons, evo_none, evo_some, conds_nil, conds_cons, asBb, asI_int, blk_nil, blk_cons, ex_fz, ex_set, ex_unp, bdO_nil, bdO_cons, ex_mul, storeP_nil, storeP_cons, ex_put, ex_app, ex_exp, ex_ret, ex_raise, ex_ite, ex_for, forO_some, sv0, svS, fz_nil, fz_cons, fzAt0, fzAtS, fz1_s, fz1_n, wipe_nil, wipe_cons, wkS, wk_lst, wkT, wk_dic, wk_enumS, wk_enumT, wk_enumL, wk_zipS, List.set_cons_zero, List.set_cons_succ, initEnv, List.map_cons, List.map_nil, List.length_cons, List.length_nil, List.replicate, List.cons_append, List.nil_append, Nat.reduceAdd, Nat.reduceSub, Nat.add_zero, Nat.zero_add, Bool.false_eq_true, if_true, if_false, ite_true, ite_false, List.zip_cons_cons, List.zip_nil_left, c_eq, c_ne, c_in, c_nin, c_le, c_gt, c_ge, c_lt, c_isN, c_nisN, c_isB, c_nisB, isNon_n, isNon_b, isNon_i, isNon_s, isNon_t, isNon_l, eqD_ss, eqD_ii, eqD_bb, inD_s, b_add, b_sub, neg_i, bi_isiS, bi_isiI, fl_i, fl_s, fl_t, fl_l, fls_n, fls_c, ty_ii, ty_bi, ty_ss, ty_tt, bi_lenS, bi_lenT, bi_lenL, bi_lenD, bi_tupL, bi_intI, ix_t0, ix_t1, ix_l0, ix_l1, ix_t3, sl_t3, sl_t2, sl_s1, Bool.not_true, Bool.not_false, Bool.and_true, Bool.true_and, Bool.and_self, decide_true, decide_false, turn_nm, turn_tp, rdI, rdS, rdB, rdN, rdT, e3, appO, hlt]
      · simp only [z, rb_ok, rb_ex, rb_no, ro_ok, ro_ex, ro_no, ob_nx, ob_rt, ob_ex, ob_no, fin_rt, fin_nx, fin_ex, gv0, gvS, ev_var, rd_f, rd_t, ev_cst, ev_bin, ev_neg, ev_cmp, ev_chain, ev_and, ev_or, ev_not, ev_ite, ev_tup, ev_lst, ev_dct, ev_ix, ev_slice, ev_call, ev_bi, ev_meth, ev_comp, evs_nil, evs_cons, evp_nil, evp_cons, evo_none, evo_some, conds_nil, conds_cons, asBb, asI_int, blk_nil, blk_cons, ex_fz, ex_set, ex_unp, bdO_nil, bdO_cons, ex_mul, storeP_nil, storeP_cons, ex_put, ex_app, ex_exp, ex_ret, ex_raise, ex_ite, ex_for, forO_some, sv0, svS, fz_nil, fz_cons, fzAt0, fzAtS, fz1_s, fz1_n, wipe_nil, wipe_cons, wkS, wk_lst, wkT, wk_dic, wk_enumS, wk_enumT, wk_enumL, wk_zipS, List.set_cons_zero, List.set_cons_succ, initEnv, List.map_cons, List.map_nil, List.length_cons, List.length_nil, List.replicate, List.cons_append, List.nil_append, Nat.reduceAdd, Nat.reduceSub, Nat.add_zero, Nat.zero_add, Bool.false_eq_true, if_true, if_false, ite_true, ite_false, List.zip_cons_cons, List.zip_nil_left, c_eq, c_ne, c_in, c_nin, c_le, c_gt, c_ge, c_lt, c_isN, c_nisN, c_isB, c_nisB, isNon_n, isNon_b, isNon_i, isNon_s, isNon_t, isNon_l, eqD_ss, eqD_ii, eqD_bb, inD_s, b_add, b_sub, neg_i, bi_isiS, bi_isiI, fl_i, fl_s, fl_t, fl_l, fls_n, fls_c, ty_ii, ty_bi, ty_ss, ty_tt, bi_lenS, bi_lenT, bi_lenL, bi_lenD, bi_tupL, bi_intI, ix_t0, ix_t1, ix_l0, ix_l1, ix_t3, sl_t3, sl_t2, sl_s1, Bool.not_true, Bool.not_false, Bool.and_true, Bool.true_and, Bool.and_self, decide_true, decide_false, turn_nm, turn_tp, rdI, rdS, rdB, rdN, rdT]
    have ec : chars (d :: x) = .str [d] :: chars x := rfl
    rw [ec, forL_nm, step]
    obtain ⟨s3', ih⟩ := la_loop W B hp m x (if canF ls (a :: q) d = true then acc ++ [.tup [.str [d], .str (q ++ [d])]] else acc) (some (.str [d], false)) s4 s5 (by
      split
      · simp; omega
      · omega)
    refine ⟨s3', ?_⟩
    show forL _ _ _ _ = _
    rw [ih]
    congr 1
    by_cases z : canF ls (a :: q) d = true
    · simp [z, List.filter_cons]
    · simp [z, List.filter_cons]
theorem s_lafter (W : LawA F) (B : BookOk zs ls) {past : List Nat} (hp : past.length = 5) : callF F (k + 2) "_law_after" [bookD zs ls, .str past] = .ok (.lst (aft zs ls past)) := by
  have lg := line_ge
  have hz : zs.length ≤ 2 := by rcases B.zo with rfl | rfl <;> decide
  have e1 := b_adds (x := [46]) (y := zs) (by simp; omega)
  obtain ⟨s3', h⟩ := la_loop (k := k) W B hp (N0 + 49) (46 :: zs) [] none none none (by simp; omega)
  rw [callF_run W.ho W.la rfl]
  have fr : fresh noOw (.lst []) = true := rfl
  simp only [la_body, f__law_after, loopOf, bookD] at h
  simp only [List.cons_append, List.nil_append] at e1
  simp only [f__law_after, bookD, rb_ok, rb_ex, rb_no, ro_ok, ro_ex, ro_no, ob_nx, ob_rt, ob_ex, ob_no, fin_rt, fin_nx, fin_ex, gv0, gvS, ev_var, rd_f, rd_t, ev_cst, ev_bin, ev_neg, ev_cmp, ev_chain, ev_and, ev_or, ev_not, ev_ite, ev_tup, ev_lst, ev_dct, ev_ix, ev_slice, ev_call, ev_bi, ev_meth, ev_comp, evs_nil, evs_cons, evp_nil, evp_cons, evo_none, evo_some, conds_nil, conds_cons, asBb, asI_int, blk_nil, blk_cons, ex_fz, ex_set, ex_unp, bdO_nil, bdO_cons, ex_mul, storeP_nil, storeP_cons, ex_put, ex_app, ex_exp, ex_ret, ex_raise, ex_ite, ex_for, forO_some, sv0, svS, fz_nil, fz_cons, fzAt0, fzAtS, fz1_s, fz1_n, wipe_nil, wipe_cons, wkS, wk_lst, wkT, wk_dic, wk_enumS, wk_enumT, wk_enumL, wk_zipS, List.set_cons_zero, List.set_cons_succ, initEnv, List.map_cons, List.map_nil, List.length_cons, List.length_nil, List.replicate, List.cons_append, List.nil_append, Nat.reduceAdd, Nat.reduceSub, Nat.add_zero, Nat.zero_add, Bool.false_eq_true, if_true, if_false, ite_true, ite_false, List.zip_cons_cons, List.zip_nil_left, c_eq, c_ne, c_in, c_nin, c_le, c_gt, c_ge, c_lt, c_isN, c_nisN, c_isB, c_nisB, isNon_n, isNon_b, isNon_i, isNon_s, isNon_t, isNon_l, eqD_ss, eqD_ii, eqD_bb, inD_s, b_add, b_sub, neg_i, bi_isiS, bi_isiI, fl_i, fl_s, fl_t, fl_l, fls_n, fls_c, ty_ii, ty_bi, ty_ss, ty_tt, bi_lenS, bi_lenT, bi_lenL, bi_lenD, bi_tupL, bi_intI, ix_t0, ix_t1, ix_l0, ix_l1, ix_t3, sl_t3, sl_t2, sl_s1, Bool.not_true, Bool.not_false, Bool.and_true, Bool.true_and, Bool.and_self, decide_true, decide_false, turn_nm, turn_tp, rdI, rdS, rdB, rdN, rdT, fr, e1]
  rw [h]
  simp only [rb_ok, rb_ex, rb_no, ro_ok, ro_ex, ro_no, ob_nx, ob_rt, ob_ex, ob_no, fin_rt, fin_nx, fin_ex, gv0, gvS, ev_var, rd_f, rd_t, ev_cst, ev_bin, ev_neg, ev_cmp, ev_chain, ev_and, ev_or, ev_not, ev_ite, ev_tup, ev_lst, ev_dct, ev_ix, ev_slice, ev_call, ev_bi, ev_meth, ev_comp, evs_nil, evs_cons, evp_nil, evp_cons, evo_none, evo_some, conds_nil, conds_cons, asBb, asI_int, blk_nil, blk_cons, ex_fz, ex_set, ex_unp, bdO_nil, bdO_cons, ex_mul, storeP_nil, storeP_cons, ex_put, ex_app, ex_exp, ex_ret, ex_raise, ex_ite, ex_for, forO_some, sv0, svS, fz_nil, fz_cons, fzAt0, fzAtS, fz1_s, fz1_n, wipe_nil, wipe_cons, wkS, wk_lst, wkT, wk_dic, wk_enumS, wk_enumT, wk_enumL, wk_zipS, List.set_cons_zero, List.set_cons_succ, initEnv, List.map_cons, List.map_nil, List.length_cons, List.length_nil, List.replicate, List.cons_append, List.nil_append, Nat.reduceAdd, Nat.reduceSub, Nat.add_zero, Nat.zero_add, Bool.false_eq_true, if_true, if_false, ite_true, ite_false, List.zip_cons_cons, List.zip_nil_left, c_eq, c_ne, c_in, c_nin, c_le, c_gt, c_ge, c_lt, c_isN, c_nisN, c_isB, c_nisB, isNon_n, isNon_b, isNon_i, isNon_s, isNon_t, isNon_l, eqD_ss, eqD_ii, eqD_bb, inD_s, b_add, b_sub, neg_i, bi_isiS, bi_isiI, fl_i, fl_s, fl_t, fl_l, fls_n, fls_c, ty_ii, ty_bi, ty_ss, ty_tt, bi_lenS, bi_lenT, bi_lenL, bi_lenD, bi_tupL, bi_intI, ix_t0, ix_t1, ix_l0, ix_l1, ix_t3, sl_t3, sl_t2, sl_s1, Bool.not_true, Bool.not_false, Bool.and_true, Bool.true_and, Bool.and_self, decide_true, decide_false, turn_nm, turn_tp, rdI, rdS, rdB, rdN, rdT]
  rfl
end
end Mp

end Sec_MpSl
section Sec_MpSm
set_option autoImplicit false
set_option linter.all false
set_option maxHeartbeats 4000000
set_option maxRecDepth 100000
namespace Mp
open PySem
theorem strsD_map (xs : List (List Nat)) : strsD (xs.map D.str) = some xs := by
  induction xs with
  | nil => rfl
  | cons b r ih =>
    rw [List.map_cons]
    show (strsD (r.map D.str)).map (b :: ·) = _
    rw [ih]
    rfl
theorem joinL_nil : ∀ xs : List Nat, joinL [] (xs.map fun c => [c]) = xs
  | [] => rfl
  | [x] => rfl
  | x :: y :: r => by
    have := joinL_nil (y :: r)
    show [x] ++ [] ++ joinL [] ((y :: r).map fun c => [c]) = _
    rw [this]
    rfl
theorem m_join {xs : List Nat} (h : xs.length ≤ line) : meth .join (.str []) [.lst (chars xs)] = .ok (.str xs) := by
  show mJoin (.str []) [.lst (chars xs)] = _
  have e : chars xs = (xs.map fun c => [c]).map D.str := by
    unfold chars
    rw [List.map_map]
    rfl
  unfold mJoin
  simp only [e, strsD_map, joinL_nil, ofO, rb_ok]
  rw [if_pos (by simpa using h)]
section
variable {F : Str → Option Fn} {k : Nat} {zs : List Nat} {ls : List Lim} {cal : List Nat}
def lc_body : List S := loopOf f__law_calendar.body
theorem lc_loop (W : LawC F) (B : BookOk zs ls) {ns : List Int} (hns : ns.length ≤ 63) (at_ : Nat) (m : Nat) (s3 : Slot) : ∀ (ks : List Nat) (past days : List Nat) (o : Bool) (s6 s7 s8 : Slot), past.length = 5 → Good ls past → days.length + ks.length ≤ 900 →
    ∃ x o' s6' s7' s8', x.length = ks.length ∧ okC ls past x = true ∧ CalOk zs x ∧
      forL (blk (ex noOw (callF F (k + 2)) (m + 50)) lc_body) (.nm 6) (ks.map fun (j : Nat) => D.int (j : Nat)) [some (.lst (ns.map .int), false), some (.int at_, false), some (bookD zs ls, false), s3, some (.str past, false), some (.str days, o), s6, s7, s8]
      = .nx [some (.lst (ns.map .int), false), some (.int at_, false), some (bookD zs ls, false), s3, some (.str (run past x), false), some (.str (days ++ x), o'), s6', s7', s8']
  | [], past, days, o, s6, s7, s8, _, _, _ => ⟨[], o, s6, s7, s8, rfl, rfl, fun c hc => by (cases hc), by
    rw [List.append_nil]
    rfl⟩
  | j :: ks, past, days, o, s6, s7, s8, hp, g, hl => by
    have lg := line_ge
    have hl : days.length + (ks.length + 1) ≤ 900 := hl
    have hmem : 46 ∈ dl zs ls past := dl_mem.mpr ⟨.inl rfl, good_away B.all hp g⟩
    have hpos : 0 < (dl zs ls past).length := List.length_pos_of_mem hmem
    obtain ⟨r, br, h1⟩ := s_drawn (k := k + 1) W.ho W.dr hns (at_ + 1 + j) (many := (dl zs ls past).length) hpos
    have h1 : callF F (k + 2) "_law_drawn" [.lst (ns.map .int), .int ((at_ : Int) + 1 + (j : Int)), .int ((dl zs ls past).length : Int)] = .ok (.int r) := h1
    obtain ⟨d, hd⟩ : ∃ d, (dl zs ls past)[r]? = some d := ⟨_, List.getElem?_eq_getElem br⟩
    have hdm := dl_mem.mp (List.mem_of_getElem? hd)
    have i1 : ix (.lst (aft zs ls past)) (.int r) = .ok (.tup [.str [d], .str (past.tail ++ [d])]) := ix_lN (by
      unfold aft
      rw [List.getElem?_map, hd]
      rfl)
    have la : ((aft zs ls past).length : Int) = ((dl zs ls past).length : Int) := by
      unfold aft
      rw [List.length_map]
    have e3 := b_adds (x := days) (y := [d]) (by simp; omega)
    have fr : ∀ f es, fresh noOw (.call f es) = false := fun _ _ => rfl
    have fr2 : fresh noOw (.bin .add (.var 5) (.var 8)) = true := rfl
    have step : blk (ex noOw (callF F (k + 2)) (m + 50)) lc_body (setv [some (.lst (ns.map .int), false), some (.int at_, false), some (bookD zs ls, false), s3, some (.str past, false), some (.str days, o), s6, s7, s8] 6 (.int (j : Nat)) false)
        = .nx [some (.lst (ns.map .int), false), some (.int at_, false), some (bookD zs ls, false), s3, some (.str (past.tail ++ [d]), false), some (.str (days ++ [d]), true), some (.int (j : Nat), false), some (.lst (aft zs ls past), false), some (.str [d], false)] := by
      have eB : lc_body = loopOf f__law_calendar.body := rfl
      rw [eB]
      simp only [f__law_calendar, loopOf, rb_ok, rb_ex, rb_no, ro_ok, ro_ex, ro_no, ob_nx, ob_rt, ob_ex, ob_no, fin_rt, fin_nx, fin_ex, gv0, gvS, ev_var, rd_f, rd_t, ev_cst, ev_bin, ev_neg, ev_cmp, ev_chain, ev_and, ev_or, ev_not, ev_ite, ev_tup, ev_lst, ev_dct, ev_ix, ev_slice, ev_call, ev_bi, ev_meth, ev_comp, evs_nil, evs_cons, evp_nil, evp_cons, evo_none, evo_some, conds_nil, conds_cons, asBb, asI_int, blk_nil, blk_cons, ex_fz, ex_set, ex_unp, bdO_nil, bdO_cons, ex_mul, storeP_nil, storeP_cons, ex_put, ex_app, ex_exp, ex_ret, ex_raise, ex_ite, ex_for, forO_some, sv0, svS, fz_nil, fz_cons, fzAt0, fzAtS, fz1_s, fz1_n, wipe_nil, wipe_cons, wkS, wk_lst, wkT, wk_dic, wk_enumS, wk_enumT, wk_enumL, wk_zipS, List.set_cons_zero, List.set_cons_succ, initEnv, List.map_cons, List.map_nil, List.length_cons, List.length_nil, List.replicate, List.cons_append, List.nil_append, Nat.reduceAdd, Nat.reduceSub, Nat.add_zero, Nat.zero_add, Bool.false_eq_true, if_true, if_false, ite_true, ite_false, List.zip_cons_cons, List.zip_nil_left, c_eq, c_ne, c_in, c_nin, c_le, c_gt, c_ge, c_lt, c_isN, c_nisN, c_isB, c_nisB, isNon_n, isNon_b, isNon_i, isNon_s, isNon_t, isNon_l, eqD_ss, eqD_ii, eqD_bb, inD_s, b_add, b_sub, neg_i, bi_isiS, bi_isiI, fl_i, fl_s, fl_t, fl_l, fls_n, fls_c, ty_ii, ty_bi, ty_ss, ty_tt, bi_lenS, bi_lenT, bi_lenL, bi_lenD, bi_tupL, bi_intI, ix_t0, ix_t1, ix_l0, ix_l1, ix_t3, sl_t3, sl_t2, sl_s1, Bool.not_true, Bool.not_false, Bool.and_true, Bool.true_and, Bool.and_self, decide_true, decide_false, turn_nm, turn_tp, rdI, rdS, rdB, rdN, rdT, s_lafter W.toLawA B hp, fr, fr2, la, h1, i1, e3]
    rw [List.map_cons, forL_nm, step]
    obtain ⟨x, o', s6', s7', s8', hx, hok, hc, ih⟩ := lc_loop W B hns at_ m s3 ks (past.tail ++ [d]) (days ++ [d]) true (some (.int (j : Nat), false)) (some (.lst (aft zs ls past), false)) (some (.str [d], false)) (step_len hp d) (good_step B.all hp hdm.2) (by simp; omega)
    refine ⟨d :: x, o', s6', s7', s8', by simp [hx], ?_, ?_, ?_⟩
    · show (canF ls past d && okC ls (past.tail ++ [d]) x) = true
      rw [hdm.2, hok]
      rfl
    · intro c hc'
      rcases List.mem_cons.mp hc' with rfl | h
      · exact hdm.1
      · exact hc c h
    · show forL _ _ _ _ = _
      rw [ih]
      have : days ++ [d] ++ x = days ++ d :: x := by simp
      rw [this]
      rfl
theorem s_lcalendar (W : LawC F) (B : BookOk zs ls) {ns : List Int} (hns : ns.length ≤ 63) (at_ : Nat) {m : Nat} (hm : m ≤ 800) :
    ∃ cal, cal.length ≤ m ∧ CalOk zs cal ∧ okC ls never cal = true ∧ callF F (k + 3) "_law_calendar" [.lst (ns.map .int), .int at_, bookD zs ls, .int m] = .ok (.str cal) := by
  obtain ⟨r, br, h1⟩ := s_drawn (k := k + 1) W.ho W.dr hns at_ (many := m + 1) (by omega)
  have h1 : callF F (k + 2) "_law_drawn" [.lst (ns.map .int), .int (at_ : Int), .int ((m : Int) + 1)] = .ok (.int r) := h1
  obtain ⟨x, o', s6', s7', s8', hx, hok, hc, h⟩ := lc_loop (k := k) W B hns at_ (N0 + 48) (some (.int m, false)) (List.range r) never [] false none none none rfl (good_never B.all) (by simp; omega)
  refine ⟨x, by simp at hx; omega, hc, hok, ?_⟩
  have fr : ∀ d, fresh noOw (.cst d) = false := fun _ => rfl
  rw [callF_run W.ho W.lc rfl]
  simp only [lc_body, f__law_calendar, loopOf, bookD, never, List.nil_append] at h
  simp only [f__law_calendar, bookD, rb_ok, rb_ex, rb_no, ro_ok, ro_ex, ro_no, ob_nx, ob_rt, ob_ex, ob_no, fin_rt, fin_nx, fin_ex, gv0, gvS, ev_var, rd_f, rd_t, ev_cst, ev_bin, ev_neg, ev_cmp, ev_chain, ev_and, ev_or, ev_not, ev_ite, ev_tup, ev_lst, ev_dct, ev_ix, ev_slice, ev_call, ev_bi, ev_meth, ev_comp, evs_nil, evs_cons, evp_nil, evp_cons, evo_none, evo_some, conds_nil, conds_cons, asBb, asI_int, blk_nil, blk_cons, ex_fz, ex_set, ex_unp, bdO_nil, bdO_cons, ex_mul, storeP_nil, storeP_cons, ex_put, ex_app, ex_exp, ex_ret, ex_raise, ex_ite, ex_for, forO_some, sv0, svS, fz_nil, fz_cons, fzAt0, fzAtS, fz1_s, fz1_n, wipe_nil, wipe_cons, wkS, wk_lst, wkT, wk_dic, wk_enumS, wk_enumT, wk_enumL, wk_zipS, List.set_cons_zero, List.set_cons_succ, initEnv, List.map_cons, List.map_nil, List.length_cons, List.length_nil, List.replicate, List.cons_append, List.nil_append, Nat.reduceAdd, Nat.reduceSub, Nat.add_zero, Nat.zero_add, Bool.false_eq_true, if_true, if_false, ite_true, ite_false, List.zip_cons_cons, List.zip_nil_left, c_eq, c_ne, c_in, c_nin, c_le, c_gt, c_ge, c_lt, c_isN, c_nisN, c_isB, c_nisB, isNon_n, isNon_b, isNon_i, isNon_s, isNon_t, isNon_l, eqD_ss, eqD_ii, eqD_bb, inD_s, b_add, b_sub, neg_i, bi_isiS, bi_isiI, fl_i, fl_s, fl_t, fl_l, fls_n, fls_c, ty_ii, ty_bi, ty_ss, ty_tt, bi_lenS, bi_lenT, bi_lenL, bi_lenD, bi_tupL, bi_intI, ix_t0, ix_t1, ix_l0, ix_l1, ix_t3, sl_t3, sl_t2, sl_s1, Bool.not_true, Bool.not_false, Bool.and_true, Bool.true_and, Bool.and_self, decide_true, decide_false, turn_nm, turn_tp, rdI, rdS, rdB, rdN, rdT, fr, storeP_nil, storeP_cons, h1, wk_rng (small_nat (show r ≤ 1000 by omega)), Int.toNat_natCast, rngUp0]
  rw [h]
  simp only [rb_ok, rb_ex, rb_no, ro_ok, ro_ex, ro_no, ob_nx, ob_rt, ob_ex, ob_no, fin_rt, fin_nx, fin_ex, gv0, gvS, ev_var, rd_f, rd_t, ev_cst, ev_bin, ev_neg, ev_cmp, ev_chain, ev_and, ev_or, ev_not, ev_ite, ev_tup, ev_lst, ev_dct, ev_ix, ev_slice, ev_call, ev_bi, ev_meth, ev_comp, evs_nil, evs_cons, evp_nil, evp_cons, evo_none, evo_some, conds_nil, conds_cons, asBb, asI_int, blk_nil, blk_cons, ex_fz, ex_set, ex_unp, bdO_nil, bdO_cons, ex_mul, storeP_nil, storeP_cons, ex_put, ex_app, ex_exp, ex_ret, ex_raise, ex_ite, ex_for, forO_some, sv0, svS, fz_nil, fz_cons, fzAt0, fzAtS, fz1_s, fz1_n, wipe_nil, wipe_cons, wkS, wk_lst, wkT, wk_dic, wk_enumS, wk_enumT, wk_enumL, wk_zipS, List.set_cons_zero, List.set_cons_succ, initEnv, List.map_cons, List.map_nil, List.length_cons, List.length_nil, List.replicate, List.cons_append, List.nil_append, Nat.reduceAdd, Nat.reduceSub, Nat.add_zero, Nat.zero_add, Bool.false_eq_true, if_true, if_false, ite_true, ite_false, List.zip_cons_cons, List.zip_nil_left, c_eq, c_ne, c_in, c_nin, c_le, c_gt, c_ge, c_lt, c_isN, c_nisN, c_isB, c_nisB, isNon_n, isNon_b, isNon_i, isNon_s, isNon_t, isNon_l, eqD_ss, eqD_ii, eqD_bb, inD_s, b_add, b_sub, neg_i, bi_isiS, bi_isiI, fl_i, fl_s, fl_t, fl_l, fls_n, fls_c, ty_ii, ty_bi, ty_ss, ty_tt, bi_lenS, bi_lenT, bi_lenL, bi_lenD, bi_tupL, bi_intI, ix_t0, ix_t1, ix_l0, ix_l1, ix_t3, sl_t3, sl_t2, sl_s1, Bool.not_true, Bool.not_false, Bool.and_true, Bool.true_and, Bool.and_self, decide_true, decide_false, turn_nm, turn_tp, rdI, rdS, rdB, rdN, rdT]
theorem s_ldays (W : LawD F) (B : BookOk zs ls) {ns : List Int} (hns : ns.length ≤ 63) (at_ : Nat) {m : Nat} (hm : m ≤ 800) :
    ∃ cal, cal.length ≤ m ∧ CalOk zs cal ∧ callF F (k + 2) "_law_days" [.lst (ns.map .int), .int at_, bookD zs ls, .int m] = .ok (.str cal) := by
  have lg := line_ge
  have hz : zs.length ≤ 2 := by rcases B.zo with rfl | rfl <;> decide
  obtain ⟨r, br, h1⟩ := s_drawn (k := k) W.ho W.dr hns at_ (many := m + 1) (by omega)
  have h1 : callF F (k + 1) "_law_drawn" [.lst (ns.map .int), .int (at_ : Int), .int ((m : Int) + 1)] = .ok (.int r) := h1
  obtain ⟨L, hL⟩ : ∃ L, L = [46] ++ zs ++ [46] := ⟨_, rfl⟩
  have D' := fun j : Nat => s_drawn (k := k) W.ho W.dr hns (at_ + 1 + j) (many := L.length) (by rw [hL]; simp)
  let dn := fun j : Nat => Classical.choose (D' j)
  have hd := fun j : Nat => Classical.choose_spec (D' j)
  let lt := fun j : Nat => (L[dn j]?).getD 46
  have hlt := fun j : Nat => (show L[dn j]? = some (lt j) by
    have : L[dn j]? = some (L[dn j]'((hd j).1)) := List.getElem?_eq_getElem (hd j).1
    show _ = some ((L[dn j]?).getD 46)
    rw [this]
    rfl)
  refine ⟨(List.range r).map lt, by simp; omega, ?_, ?_⟩
  · intro c hc
    obtain ⟨j, _, rfl⟩ := List.mem_map.mp hc
    have := List.mem_of_getElem? (hlt j)
    rw [hL] at this
    simpa [or_comm] using this
  have e1 := b_adds (x := [46]) (y := zs) (by simp; omega)
  have e2 := b_adds (x := [46] ++ zs) (y := [46]) (by simp; omega)
  have fr : ∀ f es, fresh noOw (.call f es) = false := fun _ _ => rfl
  have fr2 : ∀ a b, fresh noOw (.bin .add a b) = true := fun _ _ => rfl
  have t2 : blk (ex noOw (callF F (k + 1)) (N0 + 100)) (f__law_days.body.take 2) (initEnv f__law_days.names.length [.lst (ns.map .int), .int at_, bookD zs ls, .int m])
      = .nx [some (.lst (ns.map .int), false), some (.int at_, false), some (bookD zs ls, false), some (.int m, false), some (.int r, false), some (.str L, true), none, none] := by
    rw [← hL] at e2
    simp only [List.cons_append, List.nil_append] at e1 e2
    simp only [f__law_days, List.take, bookD, rb_ok, rb_ex, rb_no, ro_ok, ro_ex, ro_no, ob_nx, ob_rt, ob_ex, ob_no, fin_rt, fin_nx, fin_ex, gv0, gvS, ev_var, rd_f, rd_t, ev_cst, ev_bin, ev_neg, ev_cmp, ev_chain, ev_and, ev_or, ev_not, ev_ite, ev_tup, ev_lst, ev_dct, ev_ix, ev_slice, ev_call, ev_bi, ev_meth, ev_comp, evs_nil, evs_cons, evp_nil, evp_cons, evo_none, evo_some, conds_nil, conds_cons, asBb, asI_int, blk_nil, blk_cons, ex_fz, ex_set, ex_unp, bdO_nil, bdO_cons, ex_mul, storeP_nil, storeP_cons, ex_put, ex_app, ex_exp, ex_ret, ex_raise, ex_ite, ex_for, forO_some, sv0, svS, fz_nil, fz_cons, fzAt0, fzAtS, fz1_s, fz1_n, wipe_nil, wipe_cons, wkS, wk_lst, wkT, wk_dic, wk_enumS, wk_enumT, wk_enumL, wk_zipS, List.set_cons_zero, List.set_cons_succ, initEnv, List.map_cons, List.map_nil, List.length_cons, List.length_nil, List.replicate, List.cons_append, List.nil_append, Nat.reduceAdd, Nat.reduceSub, Nat.add_zero, Nat.zero_add, Bool.false_eq_true, if_true, if_false, ite_true, ite_false, List.zip_cons_cons, List.zip_nil_left, c_eq, c_ne, c_in, c_nin, c_le, c_gt, c_ge, c_lt, c_isN, c_nisN, c_isB, c_nisB, isNon_n, isNon_b, isNon_i, isNon_s, isNon_t, isNon_l, eqD_ss, eqD_ii, eqD_bb, inD_s, b_add, b_sub, neg_i, bi_isiS, bi_isiI, fl_i, fl_s, fl_t, fl_l, fls_n, fls_c, ty_ii, ty_bi, ty_ss, ty_tt, bi_lenS, bi_lenT, bi_lenL, bi_lenD, bi_tupL, bi_intI, ix_t0, ix_t1, ix_l0, ix_l1, ix_t3, sl_t3, sl_t2, sl_s1, Bool.not_true, Bool.not_false, Bool.and_true, Bool.true_and, Bool.and_self, decide_true, decide_false, turn_nm, turn_tp, rdI, rdS, rdB, rdN, rdT, h1, fr, fr2, e1, e2]
  have eb : f__law_days.body = f__law_days.body.take 2 ++ f__law_days.body.drop 2 := rfl
  rw [callF_run W.ho W.ld rfl, eb, blk_app, t2]
  have mj := m_join (xs := (List.range r).map lt) (by simp; omega)
  have mj' : ((List.range r).map fun j : Nat => D.str [lt j]) = chars ((List.range r).map lt) := by
    unfold chars
    rw [List.map_map]
    rfl
  have ro : recvOk .join (.str []) = true := rfl
  simp only [f__law_days, List.drop, rb_ok, rb_ex, rb_no, ro_ok, ro_ex, ro_no, ob_nx, ob_rt, ob_ex, ob_no, fin_rt, fin_nx, fin_ex, gv0, gvS, ev_var, rd_f, rd_t, ev_cst, ev_bin, ev_neg, ev_cmp, ev_chain, ev_and, ev_or, ev_not, ev_ite, ev_tup, ev_lst, ev_dct, ev_ix, ev_slice, ev_call, ev_bi, ev_meth, ev_comp, evs_nil, evs_cons, evp_nil, evp_cons, evo_none, evo_some, conds_nil, conds_cons, asBb, asI_int, blk_nil, blk_cons, ex_fz, ex_set, ex_unp, bdO_nil, bdO_cons, ex_mul, storeP_nil, storeP_cons, ex_put, ex_app, ex_exp, ex_ret, ex_raise, ex_ite, ex_for, forO_some, sv0, svS, fz_nil, fz_cons, fzAt0, fzAtS, fz1_s, fz1_n, wipe_nil, wipe_cons, wkS, wk_lst, wkT, wk_dic, wk_enumS, wk_enumT, wk_enumL, wk_zipS, List.set_cons_zero, List.set_cons_succ, initEnv, List.map_cons, List.map_nil, List.length_cons, List.length_nil, List.replicate, List.cons_append, List.nil_append, Nat.reduceAdd, Nat.reduceSub, Nat.add_zero, Nat.zero_add, Bool.false_eq_true, if_true, if_false, ite_true, ite_false, List.zip_cons_cons, List.zip_nil_left, c_eq, c_ne, c_in, c_nin, c_le, c_gt, c_ge, c_lt, c_isN, c_nisN, c_isB, c_nisB, isNon_n, isNon_b, isNon_i, isNon_s, isNon_t, isNon_l, eqD_ss, eqD_ii, eqD_bb, inD_s, b_add, b_sub, neg_i, bi_isiS, bi_isiI, fl_i, fl_s, fl_t, fl_l, fls_n, fls_c, ty_ii, ty_bi, ty_ss, ty_tt, bi_lenS, bi_lenT, bi_lenL, bi_lenD, bi_tupL, bi_intI, ix_t0, ix_t1, ix_l0, ix_l1, ix_t3, sl_t3, sl_t2, sl_s1, Bool.not_true, Bool.not_false, Bool.and_true, Bool.true_and, Bool.and_self, decide_true, decide_false, turn_nm, turn_tp, rdI, rdS, rdB, rdN, rdT, ro, wk_rng (small_nat (show r ≤ 1000 by omega)), Int.toNat_natCast, rngUp0]
  rw [comL_map (f := fun j : Nat => some (.str [lt j])) (by simp; omega) (fun j hj => by
    have e : ((at_ : Int) + 1 + (j : Int)) = ((at_ + 1 + j : Nat) : Int) := by omega
    simp only [rb_ok, rb_ex, rb_no, ro_ok, ro_ex, ro_no, ob_nx, ob_rt, ob_ex, ob_no, fin_rt, fin_nx, fin_ex, gv0, gvS, ev_var, rd_f, rd_t, ev_cst, ev_bin, ev_neg, ev_cmp, ev_chain, ev_and, ev_or, ev_not, ev_ite, ev_tup, ev_lst, ev_dct, ev_ix, ev_slice, ev_call, ev_bi, ev_meth, ev_comp, evs_nil, evs_cons, evp_nil, evp_cons, evo_none, evo_some, conds_nil, conds_cons, asBb, asI_int, blk_nil, blk_cons, ex_fz, ex_set, ex_unp, bdO_nil, bdO_cons, ex_mul, storeP_nil, storeP_cons, ex_put, ex_app, ex_exp, ex_ret, ex_raise, ex_ite, ex_for, forO_some, sv0, svS, fz_nil, fz_cons, fzAt0, fzAtS, fz1_s, fz1_n, wipe_nil, wipe_cons, wkS, wk_lst, wkT, wk_dic, wk_enumS, wk_enumT, wk_enumL, wk_zipS, List.set_cons_zero, List.set_cons_succ, initEnv, List.map_cons, List.map_nil, List.length_cons, List.length_nil, List.replicate, List.cons_append, List.nil_append, Nat.reduceAdd, Nat.reduceSub, Nat.add_zero, Nat.zero_add, Bool.false_eq_true, if_true, if_false, ite_true, ite_false, List.zip_cons_cons, List.zip_nil_left, c_eq, c_ne, c_in, c_nin, c_le, c_gt, c_ge, c_lt, c_isN, c_nisN, c_isB, c_nisB, isNon_n, isNon_b, isNon_i, isNon_s, isNon_t, isNon_l, eqD_ss, eqD_ii, eqD_bb, inD_s, b_add, b_sub, neg_i, bi_isiS, bi_isiI, fl_i, fl_s, fl_t, fl_l, fls_n, fls_c, ty_ii, ty_bi, ty_ss, ty_tt, bi_lenS, bi_lenT, bi_lenL, bi_lenD, bi_tupL, bi_intI, ix_t0, ix_t1, ix_l0, ix_l1, ix_t3, sl_t3, sl_t2, sl_s1, Bool.not_true, Bool.not_false, Bool.and_true, Bool.true_and, Bool.and_self, decide_true, decide_false, turn_nm, turn_tp, rdI, rdS, rdB, rdN, rdT, e]
    have h2 : callF F (k + 1) "_law_drawn" [.lst (ns.map .int), .int ((at_ + 1 + j : Nat) : Int), .int ((L.length : Nat) : Int)] = .ok (.int (dn j)) := (hd j).2
    simp only [h2, rb_ok, ix_sN (hlt j)])]
  rw [filterMap_some, mj']
  simp only [rb_ok, rb_ex, rb_no, ro_ok, ro_ex, ro_no, ob_nx, ob_rt, ob_ex, ob_no, fin_rt, fin_nx, fin_ex, gv0, gvS, ev_var, rd_f, rd_t, ev_cst, ev_bin, ev_neg, ev_cmp, ev_chain, ev_and, ev_or, ev_not, ev_ite, ev_tup, ev_lst, ev_dct, ev_ix, ev_slice, ev_call, ev_bi, ev_meth, ev_comp, evs_nil, evs_cons, evp_nil, evp_cons, evo_none, evo_some, conds_nil, conds_cons, asBb, asI_int, blk_nil, blk_cons, ex_fz, ex_set, ex_unp, bdO_nil, bdO_cons, ex_mul, storeP_nil, storeP_cons, ex_put, ex_app, ex_exp, ex_ret, ex_raise, ex_ite, ex_for, forO_some, sv0, svS, fz_nil, fz_cons, fzAt0, fzAtS, fz1_s, fz1_n, wipe_nil, wipe_cons, wkS, wk_lst, wkT, wk_dic, wk_enumS, wk_enumT, wk_enumL, wk_zipS, List.set_cons_zero, List.set_cons_succ, initEnv, List.map_cons, List.map_nil, List.length_cons, List.length_nil, List.replicate, List.cons_append, List.nil_append, Nat.reduceAdd, Nat.reduceSub, Nat.add_zero, Nat.zero_add, Bool.false_eq_true, if_true, if_false, ite_true, ite_false, List.zip_cons_cons, List.zip_nil_left, c_eq, c_ne, c_in, c_nin, c_le, c_gt, c_ge, c_lt, c_isN, c_nisN, c_isB, c_nisB, isNon_n, isNon_b, isNon_i, isNon_s, isNon_t, isNon_l, eqD_ss, eqD_ii, eqD_bb, inD_s, b_add, b_sub, neg_i, bi_isiS, bi_isiI, fl_i, fl_s, fl_t, fl_l, fls_n, fls_c, ty_ii, ty_bi, ty_ss, ty_tt, bi_lenS, bi_lenT, bi_lenL, bi_lenD, bi_tupL, bi_intI, ix_t0, ix_t1, ix_l0, ix_l1, ix_t3, sl_t3, sl_t2, sl_s1, Bool.not_true, Bool.not_false, Bool.and_true, Bool.true_and, Bool.and_self, decide_true, decide_false, turn_nm, turn_tp, rdI, rdS, rdB, rdN, rdT, mj]
end
end Mp

end Sec_MpSm
section Sec_MpSn
set_option autoImplicit false
set_option linter.all false
set_option maxHeartbeats 4000000
set_option maxRecDepth 100000
namespace Mp
open PySem
theorem forL_inv {f : Env → Out} {i : Nat} (P : Env → Prop) : ∀ (xs : List D) (ρ : Env), (∀ x ∈ xs, ∀ ρ, P ρ → ∃ ρ', f (setv ρ i x false) = .nx ρ' ∧ P ρ') → P ρ → ∃ ρ', forL f (.nm i) xs ρ = .nx ρ' ∧ P ρ'
  | [], ρ, _, h => ⟨ρ, rfl, h⟩
  | x :: xs, ρ, s, h => by
    obtain ⟨ρ1, h1, p1⟩ := s x List.mem_cons_self ρ h
    obtain ⟨ρ2, h2, p2⟩ := forL_inv P xs ρ1 (fun y hy => s y (List.mem_cons_of_mem _ hy)) p1
    refine ⟨ρ2, ?_, p2⟩
    rw [forL_nm, h1]
    exact h2
theorem chars_flat (x : List Nat) : ∀ d ∈ chars x, d.flat = true := fun d hd => by
  obtain ⟨c, _, rfl⟩ := mem_chars hd
  rfl
theorem chars_depth (x : List Nat) : ∀ d ∈ chars x, d.depth ≤ 0 := fun d hd => by
  obtain ⟨c, _, rfl⟩ := mem_chars hd
  exact Nat.le_refl _
theorem chars_dep (x : List Nat) : (D.lst (chars x)).depth ≤ 60 := by
  show D.depths (chars x) + 1 ≤ 60
  have := depths_of (chars_depth x)
  omega
theorem eqvs_chars : ∀ x y : List Nat, D.eqvs (chars x) (chars y) = decide (x = y)
  | [], [] => rfl
  | [], b :: y => by
    show false = _
    simp
  | a :: x, [] => by
    show false = _
    simp
  | a :: x, b :: y => by
    show (decide ([a] = [b]) && D.eqvs (chars x) (chars y)) = _
    rw [eqvs_chars x y]
    by_cases h : a = b <;> by_cases h2 : x = y <;> simp [h, h2]
theorem eqD_chars (x y : List Nat) : eqD (.lst (chars x)) (.lst (chars y)) = .ok (decide (x = y)) := by
  rw [eqD_ll (eqOk_of (flats_of (chars_flat x)) (flats_of (chars_flat y)) (chars_dep x) (chars_dep y)), eqvs_chars]
theorem any_chars (c : Nat) : ∀ x : List Nat, ((chars x).any fun y => D.eqv y (.str [c])) = x.contains c
  | [] => rfl
  | a :: x => by
    show (decide ([a] = [c]) || (chars x).any fun y => D.eqv y (.str [c])) = _
    rw [any_chars c x, List.contains_cons]
    congr 1
    by_cases h : a = c
    · simp [h]
    · simp [h, Ne.symm h]
theorem inD_chars (c : Nat) (x : List Nat) : inD (.str [c]) (.lst (chars x)) = .ok (x.contains c) := by
  rw [inD_l (eqOk_of rfl (flats_of (chars_flat x)) (Nat.zero_le _) (chars_dep x)), any_chars]
theorem eqD_pair (a b c d : Int) : eqD (.tup [.int a, .int b]) (.tup [.int c, .int d]) = .ok (decide (a = c) && decide (b = d)) := by
  rw [eqD_tt (eqOk_of rfl rfl (by show Nat.max 0 (Nat.max 0 0) + 1 ≤ 60; decide) (by show Nat.max 0 (Nat.max 0 0) + 1 ≤ 60; decide))]
  show R.ok (decide (a = c) && (decide (b = d) && true)) = _
  rw [Bool.and_true]
theorem sl_tN {xs : List D} {i : Nat} (h : i ≤ xs.length) : slice (.tup xs) (some (i : Int)) none = .ok (.tup (xs.drop i)) := by
  have := sl_lN h
  show R.ok (D.tup (cut xs (some (i : Int)) none)) = _
  have : cut xs (some (i : Int)) none = xs.drop i := by
    have : R.ok (D.lst (cut xs (some (i : Int)) none)) = R.ok (D.lst (xs.drop i)) := this
    injection this with this
    injection this
  rw [this]
theorem sl_tTo {xs : List D} {i : Nat} (h : i ≤ xs.length) : slice (.tup xs) none (some (i : Int)) = .ok (.tup (xs.take i)) := by
  show R.ok (D.tup (cut xs none (some (i : Int)))) = _
  unfold cut
  rw [sIx_of _ _ _ h]
  rfl
theorem sl_tNN {xs : List D} {i j : Nat} (h : i ≤ xs.length) (h2 : j ≤ xs.length) : slice (.tup xs) (some (i : Int)) (some (j : Int)) = .ok (.tup ((xs.drop i).take (j - i))) := by
  show R.ok (D.tup (cut xs (some (i : Int)) (some (j : Int)))) = _
  unfold cut
  rw [sIx_of _ _ _ h, sIx_of _ _ _ h2]
theorem ix_b0 (zs : List Nat) (ls : List Lim) : ix (bookD zs ls) (.int 0) = .ok (.str zs) := ix_t0 _ _
theorem ix_b1 (zs : List Nat) (ls : List Lim) : ix (bookD zs ls) (.int 1) = .ok (.tup (ls.map Lim.d)) := ix_t1 _ _ _
theorem isNon_fbD (q : Option (Nat × Nat)) : isNon (fbD q) = q.isNone := by cases q <;> rfl
theorem dl_cons {zs : List Nat} {ls : List Lim} {p : List Nat} (h : canF ls p 46 = true) : dl zs ls p = 46 :: zs.filter fun c => canF ls p c := by
  unfold dl
  rw [List.filter_cons_of_pos h]
theorem sort_id {xs : List D} (h : ordOk xs = true) (h2 : xs.Pairwise fun a b => (!(D.lt b a)) = true) : bi .sorted [.lst xs] = .ok (.lst xs) := by
  show (if ordOk xs then R.ok (D.lst (sortD xs)) else .no) = _
  rw [if_pos h]
  unfold sortD
  rw [List.mergeSort_of_pairwise h2]
theorem sort_dl {zs : List Nat} (h : zs = [97] ∨ zs = [97, 98]) (f : Nat → Bool) : bi .sorted [.lst (chars (46 :: zs.filter f))] = .ok (.lst (chars (46 :: zs.filter f))) := by
  rcases h with rfl | rfl
  · cases h1 : f 97
    · simp only [List.filter, h1]
      exact sort_id rfl (by decide)
    · simp only [List.filter, h1]
      exact sort_id rfl (by decide)
  · cases h1 : f 97 <;> cases h2 : f 98
    all_goals
      simp only [List.filter, h1, h2]
      exact sort_id rfl (by decide)
theorem BookOk.sub {zs : List Nat} {ls ls' : List Lim} (B : BookOk zs ls) (h : ∀ l ∈ ls', l ∈ ls) (hl : ls'.length ≤ 4) : BookOk zs ls' := ⟨B.zo, hl, fun l hm => B.all l (h l hm)⟩
end Mp

end Sec_MpSn
section Sec_IR12
set_option autoImplicit false
set_option linter.all false
set_option maxRecDepth 100000
namespace Mp
open PySem
def f_check_both : Fn where
  name := "check_both"
  np := 2
  names := [("one" : Str), ("other" : Str)]
  own := false
  body := [
    (.fz [0] (.exp (.call "check_book" [(.var 0)]))),
    (.fz [1] (.exp (.call "check_book" [(.var 1)]))),
    (.ite (.cmp .ne (.ix (.var 0) (.cst (.int (0)))) (.ix (.var 1) (.cst (.int (0))))) [(.raise "OtherZones")] [])]
def f_find_parting : Fn where
  name := "find_parting"
  np := 2
  names := [("one" : Str), ("other" : Str), ("level" : Str), ("known" : Str), ("found" : Str), ("later" : Str), ("past" : Str), ("day" : Str), ("left" : Str), ("right" : Str), ("days" : Str), ("after" : Str)]
  own := false
  body := [
    (.mul [2, 3] [(.dct [((.cst (.str [46, 46, 46, 46, 46])), (.cst (.str [])))]), (.dct [])]),
    (.whl (.cmp .ne (.var 2) (.dct [])) [(.upd 3 2), (.mul [4, 5] [(.lst []), (.dct [])]), (.fz [2] (.for_ (.nm 6) 0 [(.var 2)] [(.fz [0] (.for_ (.nm 7) 0 [(.call "days_of" [(.var 0)])] [(.fz [0, 6, 7, 1] (.mul [8, 9] [(.call "can_follow" [(.var 0), (.var 6), (.var 7)]), (.call "can_follow" [(.var 1), (.var 6), (.var 7)])])), (.fz [6, 7] (.mul [10, 11] [(.bin .add (.ix (.var 2) (.var 6)) (.var 7)), (.call "after_day" [(.var 6), (.var 7)])])), (.ite (.cmp .ne (.var 8) (.var 9)) [(.fz [10] (.app 4 (.var 10)))] [(.ite (.and (.var 8) (.and (.cmp .notin (.var 11) (.var 3)) (.or (.cmp .notin (.var 11) (.var 5)) (.cmp .lt (.var 10) (.ix (.var 5) (.var 11)))))) [(.fz [10] (.put 5 (.var 11) (.var 10)))] [])])]))])), (.ite (.cmp .ne (.var 4) (.lst [])) [(.ret (.bi .min [(.var 4)]))] []), (.fz [5] (.set 2 (.var 5)))]),
    (.ret (.cst .non))]
def f_parting_calendar : Fn where
  name := "parting_calendar"
  np := 2
  names := [("one" : Str), ("other" : Str)]
  own := false
  body := [
    (.fz [0, 1] (.exp (.call "check_both" [(.var 0), (.var 1)]))),
    (.fz [0, 1] (.ret (.call "find_parting" [(.var 0), (.var 1)])))]
def f_are_alike : Fn where
  name := "are_alike"
  np := 2
  names := [("one" : Str), ("other" : Str)]
  own := false
  body := [
    (.fz [0, 1] (.exp (.call "check_both" [(.var 0), (.var 1)]))),
    (.fz [0, 1] (.ret (.cmp .is_ (.call "find_parting" [(.var 0), (.var 1)]) (.cst .non))))]
def f_obeys : Fn where
  name := "obeys"
  np := 2
  names := [("one" : Str), ("other" : Str)]
  own := false
  body := [
    (.fz [0] (.ret (.cmp .is_ (.call "find_parting" [(.var 0), (.tup [(.ix (.var 0) (.cst (.int (0)))), (.bin .add (.ix (.var 0) (.cst (.int (1)))) (.ix (.var 1) (.cst (.int (1)))))])]) (.cst .non))))]
def f_is_stricter : Fn where
  name := "is_stricter"
  np := 2
  names := [("one" : Str), ("other" : Str)]
  own := false
  body := [
    (.fz [0, 1] (.exp (.call "check_both" [(.var 0), (.var 1)]))),
    (.fz [0, 1, 1, 0] (.ret (.and (.call "obeys" [(.var 0), (.var 1)]) (.not (.call "obeys" [(.var 1), (.var 0)])))))]
def f_without_limit : Fn where
  name := "without_limit"
  np := 2
  names := [("book" : Str), ("number" : Str)]
  own := false
  body := [
    (.ret (.tup [(.ix (.var 0) (.cst (.int (0)))), (.bin .add (.slice (.ix (.var 0) (.cst (.int (1)))) none (some (.var 1))) (.slice (.ix (.var 0) (.cst (.int (1)))) (some (.bin .add (.var 1) (.cst (.int (1))))) none))]))]
def f_idle_limits : Fn where
  name := "idle_limits"
  np := 1
  names := [("book" : Str), (".0" : Str), ("number" : Str)]
  own := false
  body := [
    (.fz [0] (.exp (.call "check_book" [(.var 0)]))),
    (.fz [0, 0] (.ret (.comp [1, 2] (.nm 2) 3 [(.bi .len [(.ix (.var 0) (.cst (.int (1))))])] [(.cmp .is_ (.call "find_parting" [(.var 0), (.call "without_limit" [(.var 0), (.var 2)])]) (.cst .non))] (.var 2))))]
def f__law_book : Fn where
  name := "_law_book"
  np := 3
  names := [("_law_script" : Str), ("_law_at" : Str), ("_law_most" : Str), ("_law_book_here" : Str), ("_law_known" : Str), ("_law_left" : Str), ("_law_past" : Str), (".0" : Str), ("_law_day" : Str), ("_law_after_here" : Str), ("_law_limit_here" : Str)]
  own := false
  body := [
    (.fz [0, 1, 2] (.set 3 (.call "_law_raw" [(.var 0), (.var 1), (.var 2)]))),
    (.mul [4, 5] [(.dct []), (.lst [(.cst (.str [46, 46, 46, 46, 46]))])]),
    (.whl (.and (.cmp .ne (.var 5) (.lst [])) (.cmp .le (.bi .len [(.var 4)]) (.cst (.int (60))))) [(.pop 6 5), (.ite (.cmp .notin (.var 6) (.var 4)) [(.put 4 (.var 6) (.cst (.bl true))), (.fz [3, 6] (.set 5 (.bin .add (.var 5) (.comp [7, 8, 9] (.tp [8, 9]) 0 [(.call "_law_after" [(.var 3), (.var 6)])] [] (.var 9)))))] [])]),
    (.ite (.cmp .le (.bi .len [(.var 4)]) (.cst (.int (60)))) [(.fz [3] (.ret (.var 3)))] []),
    (.ret (.tup [(.cst (.str [97])), (.bi .tuple [(.comp [7, 10] (.nm 10) 0 [(.ix (.var 3) (.cst (.int (1))))] [(.cmp .eq (.ix (.var 10) (.cst (.int (1)))) (.cst (.str [97])))] (.var 10))])]))]
def f_law12 : Fn where
  name := "law"
  np := 1
  names := [("_law_script" : Str), ("_law_one" : Str), ("_law_k" : Str), ("_law_limits" : Str), ("_law_other" : Str), ("_law_days_here" : Str), ("_law_some" : Str), ("_law_more" : Str), ("_law_number" : Str), (".0" : Str)]
  own := false
  body := [
    (.fz [0] (.set 1 (.call "_law_book" [(.var 0), (.cst (.int (10))), (.cst (.int (2)))]))),
    (.fz [0, 0] (.set 3 (.comp [9, 2] (.nm 2) 3 [(.call "_law_drawn" [(.var 0), (.cst (.int (1))), (.cst (.int (3)))])] [] (.call "_law_limit" [(.var 0), (.bin .add (.cst (.int (40))) (.bin .mul (.cst (.int (6))) (.var 2))), (.ix (.var 1) (.cst (.int (0))))])))),
    (.for_ (.nm 4) 0 [(.tup [(.tup [(.ix (.var 1) (.cst (.int (0)))), (.bi .tuple [(.var 3)])]), (.tup [(.ix (.var 1) (.cst (.int (0)))), (.bin .add (.ix (.var 1) (.cst (.int (1)))) (.bi .tuple [(.var 3)]))]), (.tup [(.ix (.var 1) (.cst (.int (0)))), (.bin .add (.ix (.var 1) (.cst (.int (1)))) (.ix (.var 1) (.cst (.int (1)))))])])] [(.fz [1, 4] (.set 5 (.call "parting_calendar" [(.var 1), (.var 4)]))), (.fz [4, 1, 1, 4] (.ite (.or (.cmp .ne (.call "parting_calendar" [(.var 4), (.var 1)]) (.var 5)) (.cmp .ne (.call "are_alike" [(.var 1), (.var 4)]) (.cmp .is_ (.var 5) (.cst .non)))) [(.ret (.cst (.bl false)))] [])), (.ite (.cmp .isnot (.var 5) (.cst .non)) [(.fz [1, 5, 4, 5] (.ite (.cmp .eq (.call "is_allowed" [(.var 1), (.var 5)]) (.call "is_allowed" [(.var 4), (.var 5)])) [(.ret (.cst (.bl false)))] [])), (.fz [1, 4] (.ite (.not (.and (.call "is_allowed" [(.var 1), (.slice (.var 5) none (some (.neg (.cst (.int (1))))))]) (.call "is_allowed" [(.var 4), (.slice (.var 5) none (some (.neg (.cst (.int (1))))))]))) [(.ret (.cst (.bl false)))] []))] []), (.fz [1, 4] (.ite (.call "is_stricter" [(.var 1), (.var 4)]) [(.fz [4, 1, 1, 5] (.ite (.or (.call "is_stricter" [(.var 4), (.var 1)]) (.or (.cmp .is_ (.var 5) (.cst .non)) (.call "is_allowed" [(.var 1), (.var 5)]))) [(.ret (.cst (.bl false)))] []))] [])), (.for_ (.nm 2) 3 [(.cst (.int (3)))] [(.fz [0, 1] (.set 6 (.call "_law_days" [(.var 0), (.bin .add (.cst (.int (60))) (.bin .mul (.cst (.int (15))) (.var 2))), (.var 1), (.cst (.int (12)))]))), (.fz [1, 6, 4, 6] (.ite (.and (.cmp .is_ (.var 5) (.cst .non)) (.cmp .ne (.call "is_allowed" [(.var 1), (.var 6)]) (.call "is_allowed" [(.var 4), (.var 6)]))) [(.ret (.cst (.bl false)))] [])), (.fz [1, 4, 1, 6, 4, 6] (.ite (.and (.call "is_stricter" [(.var 1), (.var 4)]) (.and (.call "is_allowed" [(.var 1), (.var 6)]) (.not (.call "is_allowed" [(.var 4), (.var 6)])))) [(.ret (.cst (.bl false)))] [])), (.fz [1, 6, 4, 6] (.ite (.and (.cmp .isnot (.var 5) (.cst .non)) (.and (.cmp .lt (.bi .len [(.var 6)]) (.bi .len [(.var 5)])) (.cmp .ne (.call "is_allowed" [(.var 1), (.var 6)]) (.call "is_allowed" [(.var 4), (.var 6)])))) [(.ret (.cst (.bl false)))] []))])]),
    (.set 7 (.tup [(.ix (.var 1) (.cst (.int (0)))), (.bin .add (.ix (.var 1) (.cst (.int (1)))) (.bi .tuple [(.var 3)]))])),
    (.fz [7, 1, 7, 1] (.ite (.cmp .eq (.call "is_stricter" [(.var 7), (.var 1)]) (.call "are_alike" [(.var 7), (.var 1)])) [(.ret (.cst (.bl false)))] [])),
    (.fz [1, 1, 1] (.ite (.or (.not (.call "are_alike" [(.var 1), (.tup [(.ix (.var 1) (.cst (.int (0)))), (.bin .add (.ix (.var 1) (.cst (.int (1)))) (.ix (.var 1) (.cst (.int (1)))))])])) (.call "is_stricter" [(.var 1), (.var 1)])) [(.ret (.cst (.bl false)))] [])),
    (.fz [1] (.for_ (.nm 8) 0 [(.call "idle_limits" [(.var 1)])] [(.fz [1] (.ite (.not (.call "are_alike" [(.var 1), (.tup [(.ix (.var 1) (.cst (.int (0)))), (.bin .add (.slice (.ix (.var 1) (.cst (.int (1)))) none (some (.var 8))) (.slice (.ix (.var 1) (.cst (.int (1)))) (some (.bin .add (.var 8) (.cst (.int (1))))) none))])])) [(.ret (.cst (.bl false)))] []))])),
    (.set 7 (.tup [(.ix (.var 1) (.cst (.int (0)))), (.bin .add (.ix (.var 1) (.cst (.int (1)))) (.tup [(.tup [(.cst (.str [109, 111, 115, 116])), (.ix (.var 1) (.cst (.int (0)))), (.cst (.int (6))), (.cst (.int (6)))])]))])),
    (.fz [7] (.ite (.not (.cmp .in_ (.bi .len [(.ix (.var 1) (.cst (.int (1))))]) (.call "idle_limits" [(.var 7)]))) [(.ret (.cst (.bl false)))] [])),
    (.ret (.or (.cmp .eq (.call "idle_limits" [(.tup [(.ix (.var 1) (.cst (.int (0)))), (.bin .mul (.slice (.ix (.var 1) (.cst (.int (1)))) none (some (.cst (.int (1))))) (.cst (.int (2))))])]) (.lst [(.cst (.int (0))), (.cst (.int (1)))])) (.cmp .eq (.ix (.var 1) (.cst (.int (1)))) (.tup []))))]
end Mp

end Sec_IR12
section Sec_MrA
set_option autoImplicit false
set_option linter.all false
set_option maxHeartbeats 4000000
set_option maxRecDepth 100000
namespace Mp
open PySem
/-! ### dicts with texts for keys -/
section
variable {α : Type}
def gget (T : List (List Nat × α)) (p : List Nat) : Option α := (T.find? fun q => decide (q.1 = p)).map (·.2)
def gput (T : List (List Nat × α)) (p : List Nat) (v : α) : List (List Nat × α) := if (gget T p).isSome = true then T.map fun q => if decide (q.1 = p) = true then (q.1, v) else q else T ++ [(p, v)]
def gkeys (T : List (List Nat × α)) : List (List Nat) := T.map (·.1)
def gl (f : α → D) (T : List (List Nat × α)) : List (D × D) := T.map fun q => (D.str q.1, f q.2)
theorem gget_none {T : List (List Nat × α)} {p : List Nat} : gget T p = none ↔ p ∉ gkeys T := by
  unfold gget gkeys
  simp only [Option.map_eq_none_iff, List.find?_eq_none, List.mem_map, not_exists, decide_eq_true_eq]
  constructor
  · intro h q hq
    exact h q hq.1 hq.2
  · intro h q hq e
    exact h q ⟨hq, e⟩
theorem gget_isSome {T : List (List Nat × α)} {p : List Nat} : (gget T p).isSome = true ↔ p ∈ gkeys T := by
  have := @gget_none α T p
  cases h : gget T p with
  | none => simp [h] at this; simp [this]
  | some v => simp [h] at this; simp [this]
theorem gget_cons (q : List Nat × α) (T : List (List Nat × α)) (p : List Nat) : gget (q :: T) p = if q.1 = p then some q.2 else gget T p := by
  unfold gget
  by_cases h : q.1 = p
  · simp [List.find?_cons, h]
  · simp [List.find?_cons, h]
theorem gget_mem {T : List (List Nat × α)} {p : List Nat} {v : α} (h : gget T p = some v) : (p, v) ∈ T := by
  unfold gget at h
  obtain ⟨q, hq, rfl⟩ := Option.map_eq_some_iff.mp h
  have h1 := List.mem_of_find?_eq_some hq
  have h2 := List.find?_some hq
  have h2 : q.1 = p := by simpa using h2
  rw [← h2]
  exact h1
theorem gget_of_mem {T : List (List Nat × α)} (nd : (gkeys T).Nodup) {q : List Nat × α} (h : q ∈ T) : gget T q.1 = some q.2 := by
  induction T with
  | nil => cases h
  | cons a T ih =>
    have nd' := List.nodup_cons.mp (show (a.1 :: gkeys T).Nodup from nd)
    rw [gget_cons]
    rcases List.mem_cons.mp h with rfl | h
    · simp
    · rw [if_neg]
      · exact ih nd'.2 h
      · intro e
        exact nd'.1 (e ▸ List.mem_map_of_mem h)
theorem gkeys_put (T : List (List Nat × α)) (p : List Nat) (v : α) : gkeys (gput T p v) = if p ∈ gkeys T then gkeys T else gkeys T ++ [p] := by
  unfold gput
  by_cases h : p ∈ gkeys T
  · rw [if_pos (gget_isSome.mpr h), if_pos h]
    unfold gkeys
    rw [List.map_map]
    apply List.map_congr_left
    intro q _
    simp only [Function.comp]
    split <;> rfl
  · rw [if_neg (fun e => h (gget_isSome.mp e)), if_neg h]
    unfold gkeys
    simp
theorem mem_gput {T : List (List Nat × α)} {p : List Nat} {v : α} {q : List Nat × α} (h : q ∈ gput T p v) : q ∈ T ∨ q = (p, v) := by
  unfold gput at h
  split at h
  · obtain ⟨r, hr, e⟩ := List.mem_map.mp h
    split at e
    · rename_i hh
      have hh : r.1 = p := by simpa using hh
      right
      rw [← e, hh]
    · left
      rw [← e]
      exact hr
  · rcases List.mem_append.mp h with h | h
    · exact .inl h
    · right
      simpa using h
theorem gnodup_put {T : List (List Nat × α)} {p : List Nat} {v : α} (h : (gkeys T).Nodup) : (gkeys (gput T p v)).Nodup := by
  rw [gkeys_put]
  split
  · exact h
  · rename_i m
    rw [List.nodup_append]
    exact ⟨h, by simp, fun a ha b hb => by
      have : b = p := by simpa using hb
      rw [this]
      rintro rfl
      exact m ha⟩
theorem geqv (a b : List Nat) : D.eqv (.str a) (.str b) = decide (a = b) := rfl
theorem dfind_gl (f : α → D) (T : List (List Nat × α)) (p : List Nat) : dfind (gl f T) (.str p) = (gget T p).map f := by
  induction T with
  | nil => rfl
  | cons q T ih =>
    rw [gget_cons]
    unfold dfind at ih ⊢
    unfold gl at ih ⊢
    rw [List.map_cons, List.find?_cons]
    simp only [geqv]
    by_cases h : q.1 = p
    · simp [h]
    · simp only [h, decide_false, if_false]
      exact ih
theorem dput_gl (f : α → D) (T : List (List Nat × α)) (p : List Nat) (v : α) : dput (gl f T) (.str p) (f v) = gl f (gput T p v) := by
  unfold dput gput
  rw [dfind_gl]
  cases h : gget T p with
  | none =>
    simp [gl]
  | some w =>
    simp only [Option.map_some, Option.isSome_some, if_true]
    unfold gl
    rw [List.map_map, List.map_map]
    apply List.map_congr_left
    intro q _
    simp only [Function.comp, geqv]
    by_cases e : q.1 = p <;> simp [e]
theorem same_gl (f : α → D) (T : List (List Nat × α)) (p : List Nat) : sameKind (gl f T) (.str p) = true := by
  show ((gl f T).all fun p => match p.1 with | .tup _ => false | _ => true) = true
  unfold gl
  simp
theorem k0_gl (f : α → D) (T : List (List Nat × α)) : ((gl f T).all fun p => p.1.isK0) = true := by
  unfold gl
  simp only [List.all_map, List.all_eq_true]
  intro q _
  rfl
theorem gisK (p : List Nat) : D.isK (.str p) = true := rfl
theorem g_ix {f : α → D} {T : List (List Nat × α)} {p : List Nat} {v : α} (h : gget T p = some v) : ix (.dic (gl f T)) (.str p) = .ok (f v) := by
  show (if (D.str p).isK && sameKind (gl f T) (.str p) then ofO (dfind (gl f T) (.str p)) else .no) = _
  rw [gisK, same_gl, dfind_gl, h]
  rfl
theorem g_in (f : α → D) (T : List (List Nat × α)) (p : List Nat) : inD (.str p) (.dic (gl f T)) = .ok (decide (p ∈ gkeys T)) := by
  show (if (D.str p).isK && sameKind (gl f T) (.str p) then R.ok (dfind (gl f T) (.str p)).isSome else .no) = _
  rw [gisK, same_gl, dfind_gl]
  have : ((gget T p).map f).isSome = decide (p ∈ gkeys T) := by
    rw [Option.isSome_map, Bool.eq_iff_iff, gget_isSome]
    simp
  rw [this]
  rfl
theorem g_walk (f : α → D) (T : List (List Nat × α)) : walkOf 0 [.dic (gl f T)] = some (T.map fun q => D.str q.1) := by
  show some ((gl f T).map (·.1)) = _
  unfold gl
  rw [List.map_map]
  rfl
theorem g_len (f : α → D) (T : List (List Nat × α)) : (gl f T).length = T.length := by
  unfold gl
  rw [List.length_map]
def putO (a : Slot) (ρ : Env) (i : Nat) (k v : D) : Out := match a with
  | some (.dic kvs, true) => if k.isK && sameKind kvs k && decide (kvs.length < line) then .nx (setv ρ i (.dic (dput kvs k v)) true) else .no
  | some (.lst xs, true) => match k with
    | .int j => match ixN xs.length j with
      | some j => .nx (setv ρ i (.lst (xs.set j v)) true)
      | none => .no
    | _ => .no
  | _ => .no
theorem putD_O (ρ : Env) (i : Nat) (k v : D) : putD ρ i k v = putO (getv ρ i) ρ i k v := rfl
theorem g_put {f : α → D} {T : List (List Nat × α)} (h : T.length < line) (ρ : Env) (i : Nat) (p : List Nat) (v : α) : putO (some (.dic (gl f T), true)) ρ i (.str p) (f v) = .nx (setv ρ i (.dic (gl f (gput T p v))) true) := by
  show (if (D.str p).isK && sameKind (gl f T) (.str p) && decide ((gl f T).length < line) then Out.nx (setv ρ i (.dic (dput (gl f T) (.str p) (f v))) true) else .no) = _
  rw [gisK, same_gl, dput_gl, g_len, decide_eq_true h]
  rfl
def gmerge (T M : List (List Nat × α)) : List (List Nat × α) := M.foldl (fun acc q => gput acc q.1 q.2) T
theorem putAll_gl (f : α → D) : ∀ (M T : List (List Nat × α)), putAll (gl f T) (gl f M) = gl f (gmerge T M)
  | [], _ => rfl
  | q :: M, T => by
    show putAll (dput (gl f T) (.str q.1) (f q.2)) (gl f M) = _
    rw [dput_gl, putAll_gl f M]
    rfl
theorem gmerge_keys : ∀ (M T : List (List Nat × α)) (p : List Nat), p ∈ gkeys (gmerge T M) ↔ p ∈ gkeys T ∨ p ∈ gkeys M
  | [], T, p => by
    show p ∈ gkeys T ↔ _
    simp [gkeys]
  | q :: M, T, p => by
    show p ∈ gkeys (gmerge (gput T q.1 q.2) M) ↔ _
    rw [gmerge_keys M, gkeys_put]
    have e : p ∈ gkeys (q :: M) ↔ p = q.1 ∨ p ∈ gkeys M := by simp [gkeys, eq_comm]
    rw [e]
    split
    · rename_i h
      constructor
      · rintro (h1 | h1)
        · exact .inl h1
        · exact .inr (.inr h1)
      · rintro (h1 | rfl | h1)
        · exact .inl h1
        · exact .inl h
        · exact .inr h1
    · rw [List.mem_append]
      constructor
      · rintro ((h1 | h1) | h1)
        · exact .inl h1
        · exact .inr (.inl (by simpa using h1))
        · exact .inr (.inr h1)
      · rintro (h1 | rfl | h1)
        · exact .inl (.inl h1)
        · exact .inl (.inr (by simp))
        · exact .inr h1
theorem gmerge_nodup : ∀ (M T : List (List Nat × α)), (gkeys T).Nodup → (gkeys (gmerge T M)).Nodup
  | [], _, h => h
  | q :: M, T, h => gmerge_nodup M _ (gnodup_put h)
theorem gput_len_new {T : List (List Nat × α)} {p : List Nat} {v : α} (h : p ∉ gkeys T) : (gput T p v).length = T.length + 1 := by
  unfold gput
  rw [if_neg (fun e => h (gget_isSome.mp e))]
  simp
theorem gput_len (T : List (List Nat × α)) (p : List Nat) (v : α) : (gput T p v).length ≤ T.length + 1 := by
  unfold gput
  split <;> simp
theorem gmerge_len : ∀ (M T : List (List Nat × α)), (gkeys (T ++ M)).Nodup → (gmerge T M).length = T.length + M.length
  | [], _, _ => rfl
  | q :: M, T, nd => by
    have hn : q.1 ∉ gkeys T := by
      unfold gkeys at nd ⊢
      rw [List.map_append, List.nodup_append] at nd
      intro h
      exact nd.2.2 _ h _ (by simp) rfl
    have e : gput T q.1 q.2 = T ++ [q] := by
      unfold gput
      rw [if_neg (fun e => hn (gget_isSome.mp e))]
    show (gmerge (gput T q.1 q.2) M).length = _
    rw [e, gmerge_len M (T ++ [q]) (by simpa using nd)]
    simp
    omega
theorem gnodup_app {T M : List (List Nat × α)} (h1 : (gkeys T).Nodup) (h2 : (gkeys M).Nodup) (h : ∀ p ∈ gkeys M, p ∉ gkeys T) : (gkeys (T ++ M)).Nodup := by
  unfold gkeys at *
  rw [List.map_append, List.nodup_append]
  exact ⟨h1, h2, fun a ha b hb => by
    rintro rfl
    exact h _ hb ha⟩
theorem g_eqE (f : α → D) (T : List (List Nat × α)) (hf : ∀ a, (f a).flat = true ∧ (f a).depth ≤ 60) : eqD (.dic (gl f T)) (.dic []) = .ok T.isEmpty := by
  show (if dOk (gl f T) && dOk [] then R.ok (decide ((gl f T).length = 0) && (gl f T).all fun p => match dfind [] p.1 with | some v => D.eqv p.2 v | none => false) else .no) = _
  have h1 : dOk (gl f T) = true := by
    unfold dOk gl
    simp only [List.all_map, List.all_eq_true]
    intro q _
    simp only [Function.comp, D.isK0, (hf q.2).1, (hf q.2).2, decide_true, Bool.and_self]
  have h2 : dOk [] = true := rfl
  rw [h1, h2]
  cases T <;> rfl
end
theorem nodup_len {α : Type} [DecidableEq α] : ∀ (l m : List α), l.Nodup → (∀ a ∈ l, a ∈ m) → l.length ≤ m.length
  | [], _, _, _ => Nat.zero_le _
  | a :: l, m, nd, h => by
    have nd' := List.nodup_cons.mp nd
    have ha := h a List.mem_cons_self
    have := nodup_len l (m.erase a) nd'.2 fun b hb => by
      have hne : b ≠ a := fun e => nd'.1 (e ▸ hb)
      exact (List.mem_erase_of_ne hne).mpr (h b (List.mem_cons_of_mem _ hb))
    rw [List.length_erase_of_mem ha] at this
    have : 0 < m.length := List.length_pos_of_mem ha
    rw [List.length_cons]
    omega
/-- the pasts over some days -/
def pastsU (D : List Nat) : Nat → List (List Nat)
  | 0 => [[]]
  | n + 1 => (D.map fun d => (pastsU D n).map (d :: ·)).flatten
theorem mem_pastsU {D : List Nat} : ∀ (p : List Nat), (∀ c ∈ p, c ∈ D) → p ∈ pastsU D p.length
  | [], _ => by simp [pastsU]
  | c :: p, h => by
    have ih := mem_pastsU p fun x hx => h x (List.mem_cons_of_mem _ hx)
    simp only [List.length_cons, pastsU, List.mem_flatten, List.mem_map]
    exact ⟨_, ⟨c, h c List.mem_cons_self, rfl⟩, List.mem_map.mpr ⟨p, ih, rfl⟩⟩
theorem pastsU_a : (pastsU [46, 97] 5).length = 32 := by decide
theorem pastsU_ab : (pastsU [46, 97, 98] 5).length = 243 := by decide
end Mp

end Sec_MrA
section Sec_MrB
set_option autoImplicit false
set_option linter.all false
set_option maxHeartbeats 4000000
set_option maxRecDepth 100000
namespace Mp
open PySem
/-! ### the search for a parting calendar -/
abbrev Tm := List (List Nat × List Nat)
def bet : Option (List Nat) → List Nat → Bool
  | none, _ => true
  | some y, x => ltL x y
def bday (ls1 ls2 : List Lim) (K : List (List Nat)) (p x : List Nat) (fl : List (List Nat) × Tm) (d : Nat) : List (List Nat) × Tm :=
  if (!(canF ls1 p d == canF ls2 p d)) = true then (fl.1 ++ [x ++ [d]], fl.2)
  else if (canF ls1 p d && (!decide (p.tail ++ [d] ∈ K) && bet (gget fl.2 (p.tail ++ [d])) (x ++ [d]))) = true then (fl.1, gput fl.2 (p.tail ++ [d]) (x ++ [d])) else fl
def bpast (ls1 ls2 : List Lim) (K : List (List Nat)) (D : List Nat) (q : List Nat × List Nat) (fl : List (List Nat) × Tm) : List (List Nat) × Tm := D.foldl (bday ls1 ls2 K q.1 q.2) fl
def blevel (ls1 ls2 : List Lim) (K : List (List Nat)) (D : List Nat) (T : Tm) (fl : List (List Nat) × Tm) : List (List Nat) × Tm := T.foldl (fun fl q => bpast ls1 ls2 K D q fl) fl
def minL (a : List Nat) (r : List (List Nat)) : List Nat := r.foldl (fun m x => if ltL x m = true then x else m) a
def fpGo (D : List Nat) (ls1 ls2 : List Lim) : Nat → Tm → Tm → Option (List Nat)
  | 0, _, _ => none
  | _ + 1, [], _ => none
  | n + 1, q :: T, known => match (blevel ls1 ls2 (gkeys (gmerge known (q :: T))) D (q :: T) ([], [])).1 with
    | [] => fpGo D ls1 ls2 n (blevel ls1 ls2 (gkeys (gmerge known (q :: T))) D (q :: T) ([], [])).2 (gmerge known (q :: T))
    | a :: r => some (minL a r)
theorem bday_comm (ls1 ls2 : List Lim) : bday ls1 ls2 = bday ls2 ls1 := by
  funext K p x fl d
  unfold bday
  cases h1 : canF ls1 p d <;> cases h2 : canF ls2 p d <;> rfl
theorem fpGo_comm (D : List Nat) (ls1 ls2 : List Lim) : ∀ (n : Nat) (l k : Tm), fpGo D ls1 ls2 n l k = fpGo D ls2 ls1 n l k
  | 0, _, _ => rfl
  | _ + 1, [], _ => rfl
  | n + 1, q :: T, known => by
    have e : blevel ls1 ls2 = blevel ls2 ls1 := by
      unfold blevel bpast
      rw [bday_comm]
    unfold fpGo
    rw [e]
    split
    · exact fpGo_comm D ls1 ls2 n _ _
    · rfl
theorem minL_mem : ∀ (r : List (List Nat)) (a : List Nat), minL a r ∈ a :: r
  | [], a => List.mem_cons_self
  | x :: r, a => by
    have ih := minL_mem r (if ltL x a = true then x else a)
    show minL (if ltL x a = true then x else a) r ∈ _
    rcases List.mem_cons.mp ih with h | h
    · rw [h]
      split
      · simp
      · simp
    · simp [h]
theorem minD_str : ∀ (r : List (List Nat)) (a : List Nat), minD (.str a) (r.map D.str) = .str (minL a r)
  | [], _ => rfl
  | x :: r, a => by
    show minD (if D.lt (.str x) (.str a) then .str x else .str a) (r.map D.str) = .str (minL (if ltL x a = true then x else a) r)
    have : D.lt (.str x) (.str a) = ltL x a := rfl
    rw [this]
    by_cases h : ltL x a = true
    · rw [if_pos h, if_pos h, minD_str r x]
    · rw [if_neg h, if_neg h, minD_str r a]
def Wd (D x : List Nat) : Prop := ∀ c ∈ x, c ∈ D
theorem Wd.app {D x y : List Nat} (h1 : Wd D x) (h2 : Wd D y) : Wd D (x ++ y) := fun c hc => by
  rcases List.mem_append.mp hc with h | h
  · exact h1 c h
  · exact h2 c h
theorem Wd.one {D : List Nat} {d : Nat} (h : d ∈ D) : Wd D [d] := fun c hc => by
  have : c = d := by simpa using hc
  rw [this]
  exact h
theorem okC_snoc (ls : List Lim) (p x : List Nat) (d : Nat) : okC ls p (x ++ [d]) = (okC ls p x && canF ls (run p x) d) := by
  rw [okC_app]
  show (okC ls p x && (canF ls (run p x) d && true)) = _
  rw [Bool.and_true]
theorem run_snoc (p x : List Nat) (d : Nat) : run p (x ++ [d]) = (run p x).tail ++ [d] := by
  rw [run_app]
  rfl
section
variable {ls1 ls2 : List Lim} {K : List (List Nat)} {D : List Nat}
/-- what is found and laid aside -/
structure BI (ls1 ls2 : List Lim) (K : List (List Nat)) (D : List Nat) (T : Tm) (fl : List (List Nat) × Tm) : Prop where
  a : ∀ y ∈ fl.1, ∃ q ∈ T, ∃ d ∈ D, y = q.2 ++ [d] ∧ canF ls1 q.1 d ≠ canF ls2 q.1 d
  b : ∀ r ∈ fl.2, ∃ q ∈ T, ∃ d ∈ D, r = (q.1.tail ++ [d], q.2 ++ [d]) ∧ canF ls1 q.1 d = true ∧ canF ls2 q.1 d = true ∧ q.1.tail ++ [d] ∉ K
  c : (gkeys fl.2).Nodup
theorem BI.day {T : Tm} {fl : List (List Nat) × Tm} (h : BI ls1 ls2 K D T fl) {q : List Nat × List Nat} (hq : q ∈ T) {d : Nat} (hd : d ∈ D) : BI ls1 ls2 K D T (bday ls1 ls2 K q.1 q.2 fl d) := by
  unfold bday
  split
  · rename_i hh
    refine ⟨fun y hy => ?_, h.b, h.c⟩
    rcases List.mem_append.mp hy with hy | hy
    · exact h.a y hy
    · have : y = q.2 ++ [d] := by simpa using hy
      exact ⟨q, hq, d, hd, this, by simpa using hh⟩
  · rename_i hh
    split
    · rename_i h2
      simp only [Bool.and_eq_true, Bool.not_eq_true', decide_eq_false_iff_not] at h2
      have e : canF ls1 q.1 d = canF ls2 q.1 d := by simpa using hh
      refine ⟨h.a, fun r hr => ?_, gnodup_put h.c⟩
      rcases mem_gput hr with hr | hr
      · exact h.b r hr
      · exact ⟨q, hq, d, hd, hr, h2.1, by rw [← e]; exact h2.1, h2.2.1⟩
    · exact h
theorem BI.past {T : Tm} {q : List Nat × List Nat} (hq : q ∈ T) : ∀ (ds : List Nat) (fl : List (List Nat) × Tm), (∀ d ∈ ds, d ∈ D) → BI ls1 ls2 K D T fl → BI ls1 ls2 K D T (ds.foldl (bday ls1 ls2 K q.1 q.2) fl)
  | [], _, _, h => h
  | d :: ds, fl, hs, h => BI.past hq ds _ (fun x hx => hs x (List.mem_cons_of_mem _ hx)) (h.day hq (hs d List.mem_cons_self))
theorem BI.level {T : Tm} : ∀ (T' : Tm) (fl : List (List Nat) × Tm), (∀ q ∈ T', q ∈ T) → BI ls1 ls2 K D T fl → BI ls1 ls2 K D T (blevel ls1 ls2 K D T' fl)
  | [], _, _, h => h
  | q :: T', fl, hs, h => BI.level T' _ (fun x hx => hs x (List.mem_cons_of_mem _ hx)) (BI.past (hs q List.mem_cons_self) D fl (fun d hd => hd) h)
theorem day_none {p x : List Nat} {fl : List (List Nat) × Tm} {d : Nat} (h : (bday ls1 ls2 K p x fl d).1 = []) : fl.1 = [] ∧ canF ls1 p d = canF ls2 p d ∧ (canF ls1 p d = true → p.tail ++ [d] ∈ K ∨ p.tail ++ [d] ∈ gkeys (bday ls1 ls2 K p x fl d).2) ∧ ∀ k ∈ gkeys fl.2, k ∈ gkeys (bday ls1 ls2 K p x fl d).2 := by
  unfold bday at h ⊢
  split at h
  · simp at h
  · rename_i hh
    have e : canF ls1 p d = canF ls2 p d := by simpa using hh
    rw [if_neg hh]
    split at h
    · rename_i h2
      rw [if_pos h2]
      refine ⟨h, e, fun _ => .inr ?_, fun k hk => ?_⟩
      · show _ ∈ gkeys (gput fl.2 _ _)
        rw [gkeys_put]
        split
        · assumption
        · simp
      · show _ ∈ gkeys (gput fl.2 _ _)
        rw [gkeys_put]
        split
        · exact hk
        · exact List.mem_append_left _ hk
    · rename_i h2
      rw [if_neg h2]
      refine ⟨h, e, fun hc => ?_, fun k hk => hk⟩
      by_cases hK : p.tail ++ [d] ∈ K
      · exact .inl hK
      · right
        rw [hc] at h2
        simp only [hK, decide_false, Bool.not_false, Bool.true_and] at h2
        show _ ∈ gkeys fl.2
        rw [← gget_isSome]
        cases hg : gget fl.2 (p.tail ++ [d]) with
        | none => rw [hg] at h2; exact absurd rfl h2
        | some y => rfl
theorem past_none {p x : List Nat} : ∀ (ds : List Nat) (fl : List (List Nat) × Tm), (ds.foldl (bday ls1 ls2 K p x) fl).1 = [] →
    fl.1 = [] ∧ (∀ d ∈ ds, canF ls1 p d = canF ls2 p d ∧ (canF ls1 p d = true → p.tail ++ [d] ∈ K ∨ p.tail ++ [d] ∈ gkeys (ds.foldl (bday ls1 ls2 K p x) fl).2)) ∧ ∀ k ∈ gkeys fl.2, k ∈ gkeys (ds.foldl (bday ls1 ls2 K p x) fl).2
  | [], fl, h => ⟨h, fun d hd => by (cases hd), fun k hk => hk⟩
  | d :: ds, fl, h => by
    obtain ⟨h1, h2, h3⟩ := past_none ds (bday ls1 ls2 K p x fl d) h
    obtain ⟨g1, g2, g3, g4⟩ := day_none h1
    refine ⟨g1, fun e he => ?_, fun k hk => h3 k (g4 k hk)⟩
    rcases List.mem_cons.mp he with rfl | he
    · refine ⟨g2, fun hc => ?_⟩
      rcases g3 hc with h | h
      · exact .inl h
      · exact .inr (h3 _ h)
    · exact h2 e he
theorem level_none : ∀ (T : Tm) (fl : List (List Nat) × Tm), (blevel ls1 ls2 K D T fl).1 = [] →
    fl.1 = [] ∧ (∀ q ∈ T, ∀ d ∈ D, canF ls1 q.1 d = canF ls2 q.1 d ∧ (canF ls1 q.1 d = true → q.1.tail ++ [d] ∈ K ∨ q.1.tail ++ [d] ∈ gkeys (blevel ls1 ls2 K D T fl).2)) ∧ ∀ k ∈ gkeys fl.2, k ∈ gkeys (blevel ls1 ls2 K D T fl).2
  | [], fl, h => ⟨h, fun d hd => by (cases hd), fun k hk => hk⟩
  | q :: T, fl, h => by
    obtain ⟨h1, h2, h3⟩ := level_none T (bpast ls1 ls2 K D q fl) h
    obtain ⟨g1, g2, g4⟩ := past_none D fl h1
    refine ⟨g1, fun e he => ?_, fun k hk => h3 k (g4 k hk)⟩
    rcases List.mem_cons.mp he with rfl | he
    · intro d hd
      refine ⟨(g2 d hd).1, fun hc => ?_⟩
      rcases (g2 d hd).2 hc with h | h
      · exact .inl h
      · exact .inr (h3 _ h)
    · exact h2 e he
structure LI (D : List Nat) (ls1 ls2 : List Lim) (k : Nat) (level known : Tm) : Prop where
  lv : ∀ q ∈ level, q.2.length = k ∧ Wd D q.2 ∧ run never q.2 = q.1 ∧ okC ls1 never q.2 = true ∧ okC ls2 never q.2 = true
  kn : ∀ p ∈ gkeys known, ∃ x, Wd D x ∧ run never x = p ∧ okC ls1 never x = true
  n1 : (gkeys level).Nodup
  n2 : (gkeys known).Nodup
  dj : ∀ p ∈ gkeys level, p ∉ gkeys known
  cl : ∀ p ∈ gkeys known, ∀ d ∈ D, canF ls1 p d = canF ls2 p d ∧ (canF ls1 p d = true → p.tail ++ [d] ∈ gkeys known ∨ p.tail ++ [d] ∈ gkeys level)
  re : ∀ x, Wd D x → x.length ≤ k → okC ls1 never x = okC ls2 never x ∧ (okC ls1 never x = true → run never x ∈ gkeys known ∨ run never x ∈ gkeys level)
  ct : k ≤ known.length
theorem LI.start (D : List Nat) (ls1 ls2 : List Lim) : LI D ls1 ls2 0 [(never, [])] [] where
  lv := fun q hq => by
    have : q = (never, []) := by simpa using hq
    subst this
    exact ⟨rfl, fun c hc => by (cases hc), rfl, rfl, rfl⟩
  kn := fun p hp => by simp [gkeys] at hp
  n1 := by simp [gkeys]
  n2 := by simp [gkeys]
  dj := fun p _ h => by simp [gkeys] at h
  cl := fun p hp => by simp [gkeys] at hp
  re := fun x _ hl => by
    have : x = [] := List.eq_nil_of_length_eq_zero (by omega)
    subst this
    exact ⟨rfl, fun _ => .inr (by simp [gkeys, run])⟩
  ct := Nat.zero_le _
theorem LI.known {k : Nat} {level known : Tm} (L : LI D ls1 ls2 k level known) : (∀ p ∈ gkeys (gmerge known level), ∃ x, Wd D x ∧ run never x = p ∧ okC ls1 never x = true) ∧ (gkeys (gmerge known level)).Nodup ∧ (gmerge known level).length = known.length + level.length := by
  refine ⟨fun p hp => ?_, gmerge_nodup _ _ L.n2, gmerge_len _ _ (gnodup_app L.n2 L.n1 L.dj)⟩
  rcases (gmerge_keys _ _ _).mp hp with h | h
  · exact L.kn p h
  · obtain ⟨q, hq, rfl⟩ := List.mem_map.mp h
    obtain ⟨_, h2, h3, h4, _⟩ := L.lv q hq
    exact ⟨q.2, h2, h3, h4⟩
theorem LI.step {k : Nat} {level known : Tm} (L : LI D ls1 ls2 k level known) (hne : level ≠ []) (hf : (blevel ls1 ls2 (gkeys (gmerge known level)) D level ([], [])).1 = []) :
    LI D ls1 ls2 (k + 1) (blevel ls1 ls2 (gkeys (gmerge known level)) D level ([], [])).2 (gmerge known level) := by
  obtain ⟨K1, K2, K3⟩ := L.known
  have I0 : BI ls1 ls2 (gkeys (gmerge known level)) D level ([], []) := ⟨fun y hy => by (cases hy), fun r hr => by (cases hr), by simp [gkeys]⟩
  have I := BI.level level ([], []) (fun q h => h) I0
  obtain ⟨_, N, _⟩ := level_none level ([], []) hf
  have cl : ∀ p ∈ gkeys (gmerge known level), ∀ d ∈ D, canF ls1 p d = canF ls2 p d ∧ (canF ls1 p d = true → p.tail ++ [d] ∈ gkeys (gmerge known level) ∨ p.tail ++ [d] ∈ gkeys (blevel ls1 ls2 (gkeys (gmerge known level)) D level ([], [])).2) := fun p hp d hd => by
    rcases (gmerge_keys _ _ _).mp hp with h | h
    · refine ⟨(L.cl p h d hd).1, fun hc => .inl ?_⟩
      rw [gmerge_keys]
      exact (L.cl p h d hd).2 hc
    · obtain ⟨q, hq, rfl⟩ := List.mem_map.mp h
      exact N q hq d hd
  refine ⟨fun r hr => ?_, K1, I.c, K2, fun p hp => ?_, cl, fun x hx hl => ?_, ?_⟩
  · obtain ⟨q, hq, d, hd, rfl, c1, c2, _⟩ := I.b r hr
    obtain ⟨g1, g2, g3, g4, g5⟩ := L.lv q hq
    refine ⟨by simp [g1], g2.app (Wd.one hd), by rw [run_snoc, g3], ?_, ?_⟩
    · rw [okC_snoc, g3, g4, c1]; rfl
    · rw [okC_snoc, g3, g5, c2]; rfl
  · obtain ⟨r, hr, rfl⟩ := List.mem_map.mp hp
    obtain ⟨q, hq, d, hd, rfl, c1, c2, c3⟩ := I.b r hr
    exact c3
  · by_cases hk : x.length ≤ k
    · obtain ⟨e1, e2⟩ := L.re x hx hk
      refine ⟨e1, fun hc => .inl ?_⟩
      rw [gmerge_keys]
      exact e2 hc
    · obtain ⟨y, d, rfl⟩ : ∃ y d, x = y ++ [d] := by
        have hx0 : x ≠ [] := fun e => by rw [e] at hk; simp at hk
        exact ⟨x.dropLast, x.getLast hx0, (List.dropLast_concat_getLast hx0).symm⟩
      have hy : Wd D y := fun c hc => hx c (List.mem_append_left _ hc)
      have hd : d ∈ D := hx d (by simp)
      have hyl : y.length ≤ k := by simp at hl; omega
      obtain ⟨e1, e2⟩ := L.re y hy hyl
      rw [okC_snoc, okC_snoc, ← e1]
      cases ho : okC ls1 never y with
      | false => exact ⟨rfl, fun h => by cases h⟩
      | true =>
        have hin : run never y ∈ gkeys (gmerge known level) := by rw [gmerge_keys]; exact e2 ho
        obtain ⟨c1, c2⟩ := cl _ hin d hd
        refine ⟨by rw [c1], fun hc => ?_⟩
        rw [run_snoc]
        exact c2 (by simpa using hc)
  · rw [K3]
    have := L.ct
    have : 0 < level.length := List.length_pos_iff.mpr hne
    omega
def Parts (D : List Nat) (ls1 ls2 : List Lim) (o : Option (List Nat)) : Prop := match o with
  | none => ∀ x, Wd D x → okC ls1 never x = okC ls2 never x
  | some y => ∃ x d, y = x ++ [d] ∧ Wd D y ∧ okC ls1 never x = true ∧ okC ls2 never x = true ∧ okC ls1 never y ≠ okC ls2 never y ∧ (∀ z, Wd D z → z.length < y.length → okC ls1 never z = okC ls2 never z) ∧
      ∃ Ks : List (List Nat), Ks.Nodup ∧ y.length ≤ Ks.length ∧ ∀ p ∈ Ks, ∃ x, Wd D x ∧ run never x = p ∧ okC ls1 never x = true
theorem known_le {k : Nat} {level known : Tm} (L : LI D ls1 ls2 k level known) (h46 : 46 ∈ D) : known.length ≤ (pastsU D 5).length := by
  have : (gkeys known).length ≤ (pastsU D 5).length := nodup_len _ _ L.n2 fun p hp => by
    obtain ⟨x, h1, h2, _⟩ := L.kn p hp
    have hl := run_len x never rfl
    rw [h2] at hl
    rw [← hl]
    refine mem_pastsU p fun c hc => ?_
    rw [← h2] at hc
    have aux : ∀ (x p : List Nat), Wd D p → Wd D x → Wd D (run p x) := fun x => by
      induction x with
      | nil => intro p h _; exact h
      | cons d x ih =>
        intro p h h2
        exact ih (p.tail ++ [d]) (Wd.app (fun c hc => h c (List.mem_of_mem_tail hc)) (Wd.one (h2 d List.mem_cons_self))) fun c hc => h2 c (List.mem_cons_of_mem _ hc)
    exact aux x never (fun c hc => by
      have : c = 46 := by
        unfold never at hc
        simpa using hc
      rw [this]
      exact h46) h1 c hc
  unfold gkeys at this
  rw [List.length_map] at this
  exact this
theorem fpGo_spec (h46 : 46 ∈ D) : ∀ (n k : Nat) (level known : Tm), LI D ls1 ls2 k level known → (pastsU D 5).length < known.length + n → Parts D ls1 ls2 (fpGo D ls1 ls2 n level known)
  | 0, k, level, known, L, hn => by
    have := known_le L h46
    omega
  | n + 1, k, [], known, L, hn => by
    show ∀ x, Wd D x → okC ls1 never x = okC ls2 never x
    have main : ∀ (m : Nat) (x : List Nat), x.length = m → Wd D x → okC ls1 never x = okC ls2 never x ∧ (okC ls1 never x = true → run never x ∈ gkeys known) := fun m => by
      induction m with
      | zero =>
        intro x hx hw
        have : x = [] := List.eq_nil_of_length_eq_zero hx
        subst this
        obtain ⟨e1, e2⟩ := L.re [] hw (Nat.zero_le _)
        refine ⟨e1, fun h => ?_⟩
        rcases e2 h with h | h
        · exact h
        · simp [gkeys] at h
      | succ m ih =>
        intro x hx hw
        obtain ⟨y, d, rfl⟩ : ∃ y d, x = y ++ [d] := by
          have hx0 : x ≠ [] := fun e => by rw [e] at hx; cases hx
          exact ⟨x.dropLast, x.getLast hx0, (List.dropLast_concat_getLast hx0).symm⟩
        have hy : Wd D y := fun c hc => hw c (List.mem_append_left _ hc)
        have hd : d ∈ D := hw d (by simp)
        obtain ⟨e1, e2⟩ := ih y (by simpa using hx) hy
        rw [okC_snoc, okC_snoc, ← e1]
        cases ho : okC ls1 never y with
        | false => exact ⟨rfl, fun h => by cases h⟩
        | true =>
          obtain ⟨c1, c2⟩ := L.cl _ (e2 ho) d hd
          refine ⟨by rw [c1], fun hc => ?_⟩
          rw [run_snoc]
          rcases c2 (by simpa using hc) with h | h
          · exact h
          · simp [gkeys] at h
    exact fun x hw => (main x.length x rfl hw).1
  | n + 1, k, q :: T, known, L, hn => by
    obtain ⟨K1, K2, K3⟩ := L.known
    unfold fpGo
    cases hf : (blevel ls1 ls2 (gkeys (gmerge known (q :: T))) D (q :: T) ([], [])).1 with
    | nil =>
      exact fpGo_spec h46 n (k + 1) _ _ (L.step (by simp) hf) (by rw [K3, List.length_cons]; omega)
    | cons a r =>
      have I0 : BI ls1 ls2 (gkeys (gmerge known (q :: T))) D (q :: T) ([], []) := ⟨fun y hy => by (cases hy), fun r hr => by (cases hr), by simp [gkeys]⟩
      have I := BI.level (q :: T) ([], []) (fun q h => h) I0
      have hm : minL a r ∈ (blevel ls1 ls2 (gkeys (gmerge known (q :: T))) D (q :: T) ([], [])).1 := by rw [hf]; exact minL_mem r a
      obtain ⟨q', hq, d, hd, e, hc⟩ := I.a _ hm
      obtain ⟨g1, g2, g3, g4, g5⟩ := L.lv q' hq
      refine ⟨q'.2, d, e, ?_, g4, g5, ?_, fun z hz hl => ?_, gkeys (gmerge known (q :: T)), K2, ?_, K1⟩
      · rw [e]
        exact g2.app (Wd.one hd)
      · rw [e, okC_snoc, okC_snoc, g3, g4, g5]
        simpa using hc
      · rw [e, List.length_append, g1] at hl
        exact (L.re z hz (by simp at hl; omega)).1
      · rw [e, List.length_append, g1]
        unfold gkeys
        rw [List.length_map, K3, List.length_cons]
        have := L.ct
        simp
        omega
end
end Mp

end Sec_MrB
section Sec_MrC
set_option autoImplicit false
set_option linter.all false
set_option maxHeartbeats 4000000
set_option maxRecDepth 100000
namespace Mp
open PySem
def updO (a b : Slot) (ρ : Env) (i j : Nat) : Out := match a, b with
  | some (.dic kvs, true), some (.dic more, _) => if decide (i ≠ j) && kvs.all (fun p => p.1.isK0) && more.all (fun p => p.1.isK0) && !more.isEmpty && decide (kvs.length + more.length ≤ line) then .nx (setv ρ i (.dic (putAll kvs more)) true) else .no
  | _, _ => .no
theorem ex_upd {ow : Str → Bool} {cf : Str → List D → R D} {n : Nat} {ρ : Env} (i j : Nat) : ex ow cf (n + 1) (.upd i j) ρ = updO (getv ρ i) (getv ρ j) ρ i j := by
  simp only [ex]
  rfl
theorem g_upd {α : Type} {f : α → D} {T M : List (List Nat × α)} {o : Bool} {i j : Nat} {ρ : Env} (hij : i ≠ j) (hM : M ≠ []) (hl : T.length + M.length ≤ line) : updO (some (.dic (gl f T), true)) (some (.dic (gl f M), o)) ρ i j = .nx (setv ρ i (.dic (gl f (gmerge T M))) true) := by
  unfold updO
  have h1 : (gl f M).isEmpty = false := by
    cases M with
    | nil => exact absurd rfl hM
    | cons a r => rfl
  have h2 : decide (i ≠ j) = true := decide_eq_true hij
  simp only [k0_gl, h1, h2, g_len, decide_eq_true hl, Bool.not_false, Bool.and_self, if_true, putAll_gl]
theorem c_ltS (x y : List Nat) : cmp .lt (.str x) (.str y) = .ok (.bl (ltL x y)) := by
  show (if D.alike (.str x) (.str y) && eqOk (.str x) (.str y) && !isNon (.str x) then R.ok (D.bl (D.lt (.str x) (.str y))) else .no) = _
  have h1 : D.alike (.str x) (.str y) = true := rfl
  have h2 : eqOk (.str x) (.str y) = true := rfl
  have h3 : isNon (.str x) = false := rfl
  rw [h1, h2, h3]
  rfl
theorem str_flat (x : List Nat) : (D.str x).flat = true ∧ (D.str x).depth ≤ 60 := ⟨rfl, Nat.zero_le _⟩
theorem strs_flat (xs : List (List Nat)) : ∀ d ∈ xs.map D.str, d.flat = true := fun d hd => by
  obtain ⟨x, _, rfl⟩ := List.mem_map.mp hd
  rfl
theorem strs_depth (xs : List (List Nat)) : ∀ d ∈ xs.map D.str, d.depth ≤ 0 := fun d hd => by
  obtain ⟨x, _, rfl⟩ := List.mem_map.mp hd
  exact Nat.le_refl _
theorem ordOk_strs (xs : List (List Nat)) : ordOk (xs.map D.str) = true := by
  unfold ordOk
  have h1 : allAlike (xs.map D.str) = true := by
    unfold allAlike
    refine List.all_eq_true.mpr fun a ha => List.all_eq_true.mpr fun b hb => ?_
    obtain ⟨x, _, rfl⟩ := List.mem_map.mp ha
    obtain ⟨y, _, rfl⟩ := List.mem_map.mp hb
    rfl
  have h2 : sortable (xs.map D.str) = true := by
    unfold sortable
    rw [Bool.or_eq_true]
    right
    refine List.all_eq_true.mpr fun a ha => ?_
    obtain ⟨x, _, rfl⟩ := List.mem_map.mp ha
    rfl
  have h4 : D.depths (xs.map D.str) ≤ 50 := Nat.le_trans (depths_of (strs_depth xs)) (by decide)
  rw [h1, h2, flats_of (strs_flat xs), decide_eq_true h4]
  rfl
theorem bi_minS (a : List Nat) (r : List (List Nat)) : bi .min [.lst ((a :: r).map D.str)] = .ok (.str (minL a r)) := by
  show (if ordOk ((a :: r).map D.str) && !isCont (minD (.str a) (r.map D.str)) then R.ok (minD (.str a) (r.map D.str)) else .no) = _
  rw [ordOk_strs, minD_str]
  rfl
theorem eqD_empS (xs : List (List Nat)) : eqD (.lst (xs.map D.str)) (.lst []) = .ok xs.isEmpty := by
  rw [eqD_emp (strs_flat xs) fun x hx => Nat.le_trans (strs_depth xs x hx) (Nat.zero_le _)]
  cases xs <;> rfl
structure Alk (F : Str → Option Fn) : Prop extends Jud2 F where
  cbo : Has F "check_both" f_check_both
  fpa : Has F "find_parting" f_find_parting
  pca : Has F "parting_calendar" f_parting_calendar
  aal : Has F "are_alike" f_are_alike
  obe : Has F "obeys" f_obeys
  str : Has F "is_stricter" f_is_stricter
  wol : Has F "without_limit" f_without_limit
  idl : Has F "idle_limits" f_idle_limits
section
variable {F : Str → Option Fn} {k : Nat} {zs : List Nat} {ls1 ls2 : List Lim}
def whlB : List S → List S
  | .whl _ b :: _ => b
  | _ :: r => whlB r
  | [] => []
def fpw_body : List S := whlB f_find_parting.body
def fp1_body : List S := loopOf fpw_body
def fp2_body : List S := loopOf fp1_body
def sD (x : List Nat) : D := .str x
theorem fpd (A : Alk F) (B : BookOk zs ls1) (h2 : ∀ l ∈ ls2, l.Ok zs) (n2 : ls2.length ≤ 900) (M : Nat) {level K : Tm} {p x : List Nat} (hx : gget level p = some x) (hp : p.length = 5) (hxl : x.length ≤ 800) :
    ∀ (ds : List Nat) (fl : List (List Nat) × Tm) (s7 s8 s9 s10 s11 : Slot), fl.1.length + ds.length ≤ 900 → fl.2.length + ds.length ≤ 900 →
    ∃ s7' s8' s9' s10' s11', forL (blk (ex noOw (callF F (k + 3)) (M + 57)) fp2_body) (.nm 7) (chars ds) [some (bookD zs ls1, false), some (bookD zs ls2, false), some (.dic (gl sD level), false), some (.dic (gl sD K), true), some (.lst (fl.1.map D.str), true), some (.dic (gl sD fl.2), true), some (.str p, false), s7, s8, s9, s10, s11]
      = .nx [some (bookD zs ls1, false), some (bookD zs ls2, false), some (.dic (gl sD level), false), some (.dic (gl sD K), true), some (.lst ((ds.foldl (bday ls1 ls2 (gkeys K) p x) fl).1.map D.str), true), some (.dic (gl sD (ds.foldl (bday ls1 ls2 (gkeys K) p x) fl).2), true), some (.str p, false), s7', s8', s9', s10', s11']
  | [], fl, s7, s8, s9, s10, s11, _, _ => ⟨s7, s8, s9, s10, s11, rfl⟩
  | d :: ds, fl, s7, s8, s9, s10, s11, l1, l2 => by
    have lg := line_ge
    have l1 : fl.1.length + (ds.length + 1) ≤ 900 := l1
    have l2 : fl.2.length + (ds.length + 1) ≤ 900 := l2
    obtain ⟨a, q, hpq⟩ : ∃ a q, p = a :: q := by
      cases p with
      | nil => cases hp
      | cons a q => exact ⟨a, q, rfl⟩
    have hq : q.length = 4 := by rw [hpq] at hp; simpa using hp
    have ht : p.tail = q := by rw [hpq]; rfl
    have af := s_after (k := k + 2) A.ho A.toJud2.toJud.aft (a := a) (c := d) (show q.length < 1000 by omega)
    rw [← hpq] at af
    have c1 := s_can (k := k) A.toJud2.toJud B.all (Nat.le_trans B.many (by decide)) hp d
    have c2 := s_can (k := k) A.toJud2.toJud h2 n2 hp d
    have ex1 : ix (.dic (gl sD level)) (.str p) = .ok (.str x) := g_ix hx
    have ea := b_adds (x := x) (y := [d]) (by simp; omega)
    have fr1 : ∀ f es, fresh noOw (.call f es) = false := fun _ _ => rfl
    have fr2 : ∀ a b, fresh noOw (.bin .add a b) = true := fun _ _ => rfl
    have hlt1 : (fl.1.map D.str).length < line := by rw [List.length_map]; omega
    have hlt2 : fl.2.length < line := by omega
    have pt := fun ρ => g_put (f := sD) hlt2 ρ 5 (q ++ [d]) (x ++ [d])
    have pt : ∀ ρ, putO (some (.dic (gl sD fl.2), true)) ρ 5 (.str (q ++ [d])) (.str (x ++ [d])) = _ := pt
    have i1 := g_in sD K (q ++ [d])
    have i2 := g_in sD fl.2 (q ++ [d])
    have step : ∃ s8' s9' s10' s11', blk (ex noOw (callF F (k + 3)) (M + 57)) fp2_body (setv [some (bookD zs ls1, false), some (bookD zs ls2, false), some (.dic (gl sD level), false), some (.dic (gl sD K), true), some (.lst (fl.1.map D.str), true), some (.dic (gl sD fl.2), true), some (.str p, false), s7, s8, s9, s10, s11] 7 (.str [d]) false)
        = .nx [some (bookD zs ls1, false), some (bookD zs ls2, false), some (.dic (gl sD level), false), some (.dic (gl sD K), true), some (.lst ((bday ls1 ls2 (gkeys K) p x fl d).1.map D.str), true), some (.dic (gl sD (bday ls1 ls2 (gkeys K) p x fl d).2), true), some (.str p, false), some (.str [d], false), s8', s9', s10', s11'] := by
      have eB : fp2_body = (loopOf (loopOf (whlB f_find_parting.body))).take 2 ++ (loopOf (loopOf (whlB f_find_parting.body))).drop 2 := rfl
      have t1 : blk (ex noOw (callF F (k + 3)) (M + 57)) ((loopOf (loopOf (whlB f_find_parting.body))).take 2) (setv [some (bookD zs ls1, false), some (bookD zs ls2, false), some (.dic (gl sD level), false), some (.dic (gl sD K), true), some (.lst (fl.1.map D.str), true), some (.dic (gl sD fl.2), true), some (.str p, false), s7, s8, s9, s10, s11] 7 (.str [d]) false)
          = .nx [some (bookD zs ls1, false), some (bookD zs ls2, false), some (.dic (gl sD level), false), some (.dic (gl sD K), true), some (.lst (fl.1.map D.str), true), some (.dic (gl sD fl.2), true), some (.str p, false), some (.str [d], false), some (.bl (canF ls1 p d), false), some (.bl (canF ls2 p d), false), some (.str (x ++ [d]), true), some (.str (q ++ [d]), false)] := by
        simp only [f_find_parting, whlB, loopOf, List.take, rb_ok, rb_ex, rb_no, ro_ok, ro_ex, ro_no, ob_nx, ob_rt, ob_ex, ob_no, fin_rt, fin_nx, fin_ex, gv0, gvS, ev_var, rd_f, rd_t, ev_cst, ev_bin, ev_neg, ev_cmp, ev_chain, ev_and, ev_or, ev_not, ev_ite, ev_tup, ev_lst, ev_dct, ev_ix, ev_slice, ev_call, ev_bi, ev_meth, ev_comp, evs_nil, evs_cons, evp_nil, evp_cons, evo_none, evo_some, conds_nil, conds_cons, asBb, asI_int, blk_nil, blk_cons, ex_fz, ex_set, ex_unp, bdO_nil, bdO_cons, ex_mul, storeP_nil, storeP_cons, ex_put, ex_app, ex_exp, ex_ret, ex_raise, ex_ite, ex_for, forO_some, sv0, svS, fz_nil, fz_cons, fzAt0, fzAtS, fz1_s, fz1_n, wipe_nil, wipe_cons, wkS, wk_lst, wkT, wk_dic, wk_enumS, wk_enumT, wk_enumL, wk_zipS, List.set_cons_zero, List.set_cons_succ, initEnv, List.map_cons, List.map_nil, List.length_cons, List.length_nil, List.replicate, List.cons_append, List.nil_append, Nat.reduceAdd, Nat.reduceSub, Nat.add_zero, Nat.zero_add, Bool.false_eq_true, if_true, if_false, ite_true, ite_false, List.zip_cons_cons, List.zip_nil_left, c_eq, c_ne, c_in, c_nin, c_le, c_gt, c_ge, c_lt, c_isN, c_nisN, c_isB, c_nisB, isNon_n, isNon_b, isNon_i, isNon_s, isNon_t, isNon_l, eqD_ss, eqD_ii, eqD_bb, inD_s, b_add, b_sub, neg_i, bi_isiS, bi_isiI, fl_i, fl_s, fl_t, fl_l, fls_n, fls_c, ty_ii, ty_bi, ty_ss, ty_tt, bi_lenS, bi_lenT, bi_lenL, bi_lenD, bi_tupL, bi_intI, ix_t0, ix_t1, ix_l0, ix_l1, ix_t3, sl_t3, sl_t2, sl_s1, Bool.not_true, Bool.not_false, Bool.and_true, Bool.true_and, Bool.and_self, decide_true, decide_false, turn_nm, turn_tp, rdI, rdS, rdB, rdN, rdT, c1, c2, ex1, ea, af, fr1, fr2, storeP_nil, storeP_cons]
      refine ⟨some (.bl (canF ls1 p d), false), some (.bl (canF ls2 p d), false), some (.str (x ++ [d]), if (!(canF ls1 p d == canF ls2 p d)) = true then false else if (canF ls1 p d && (!decide (p.tail ++ [d] ∈ gkeys K) && bet (gget fl.2 (p.tail ++ [d])) (x ++ [d]))) = true then false else true), some (.str (q ++ [d]), false), ?_⟩
      rw [eB, blk_app, t1, ob_nx]
      unfold bday
      rw [ht]
      by_cases z : (!(canF ls1 p d == canF ls2 p d)) = true
      · rw [if_pos z, if_pos z]
        simp only [f_find_parting, whlB, loopOf, List.drop, rb_ok, rb_ex, rb_no, ro_ok, ro_ex, ro_no, ob_nx, ob_rt, ob_ex, ob_no, fin_rt, fin_nx, fin_ex, gv0, gvS, ev_var, rd_f, rd_t, ev_cst, ev_bin, ev_neg, ev_cmp, ev_chain, ev_and, ev_or, ev_not, ev_ite, ev_tup, ev_lst, ev_dct, ev_ix, ev_slice, ev_call, ev_bi, ev_meth, ev_comp, evs_nil, evs_cons, evp_nil, evp_cons, evo_none, evo_some, conds_nil, conds_cons, asBb, asI_int, blk_nil, blk_cons, ex_fz, ex_set, ex_unp, bdO_nil, bdO_cons, ex_mul, storeP_nil, storeP_cons, ex_put, ex_app, ex_exp, ex_ret, ex_raise, ex_ite, ex_for, forO_some, sv0, svS, fz_nil, fz_cons, fzAt0, fzAtS, fz1_s, fz1_n, wipe_nil, wipe_cons, wkS, wk_lst, wkT, wk_dic, wk_enumS, wk_enumT, wk_enumL, wk_zipS, List.set_cons_zero, List.set_cons_succ, initEnv, List.map_cons, List.map_nil, List.length_cons, List.length_nil, List.replicate, List.cons_append, List.nil_append, Nat.reduceAdd, Nat.reduceSub, Nat.add_zero, Nat.zero_add, Bool.false_eq_true, if_true, if_false, ite_true, ite_false, List.zip_cons_cons, List.zip_nil_left, c_eq, c_ne, c_in, c_nin, c_le, c_gt, c_ge, c_lt, c_isN, c_nisN, c_isB, c_nisB, isNon_n, isNon_b, isNon_i, isNon_s, isNon_t, isNon_l, eqD_ss, eqD_ii, eqD_bb, inD_s, b_add, b_sub, neg_i, bi_isiS, bi_isiI, fl_i, fl_s, fl_t, fl_l, fls_n, fls_c, ty_ii, ty_bi, ty_ss, ty_tt, bi_lenS, bi_lenT, bi_lenL, bi_lenD, bi_tupL, bi_intI, ix_t0, ix_t1, ix_l0, ix_l1, ix_t3, sl_t3, sl_t2, sl_s1, Bool.not_true, Bool.not_false, Bool.and_true, Bool.true_and, Bool.and_self, decide_true, decide_false, turn_nm, turn_tp, rdI, rdS, rdB, rdN, rdT, z, appO, hlt1, List.map_append]
      · have z' : (!(canF ls1 p d == canF ls2 p d)) = false := by simpa using z
        rw [if_neg z, if_neg z]
        cases hc : canF ls1 p d with
        | false =>
          rw [hc] at z'
          simp only [f_find_parting, whlB, loopOf, List.drop, rb_ok, rb_ex, rb_no, ro_ok, ro_ex, ro_no, ob_nx, ob_rt, ob_ex, ob_no, fin_rt, fin_nx, fin_ex, gv0, gvS, ev_var, rd_f, rd_t, ev_cst, ev_bin, ev_neg, ev_cmp, ev_chain, ev_and, ev_or, ev_not, ev_ite, ev_tup, ev_lst, ev_dct, ev_ix, ev_slice, ev_call, ev_bi, ev_meth, ev_comp, evs_nil, evs_cons, evp_nil, evp_cons, evo_none, evo_some, conds_nil, conds_cons, asBb, asI_int, blk_nil, blk_cons, ex_fz, ex_set, ex_unp, bdO_nil, bdO_cons, ex_mul, storeP_nil, storeP_cons, ex_put, ex_app, ex_exp, ex_ret, ex_raise, ex_ite, ex_for, forO_some, sv0, svS, fz_nil, fz_cons, fzAt0, fzAtS, fz1_s, fz1_n, wipe_nil, wipe_cons, wkS, wk_lst, wkT, wk_dic, wk_enumS, wk_enumT, wk_enumL, wk_zipS, List.set_cons_zero, List.set_cons_succ, initEnv, List.map_cons, List.map_nil, List.length_cons, List.length_nil, List.replicate, List.cons_append, List.nil_append, Nat.reduceAdd, Nat.reduceSub, Nat.add_zero, Nat.zero_add, Bool.false_eq_true, if_true, if_false, ite_true, ite_false, List.zip_cons_cons, List.zip_nil_left, c_eq, c_ne, c_in, c_nin, c_le, c_gt, c_ge, c_lt, c_isN, c_nisN, c_isB, c_nisB, isNon_n, isNon_b, isNon_i, isNon_s, isNon_t, isNon_l, eqD_ss, eqD_ii, eqD_bb, inD_s, b_add, b_sub, neg_i, bi_isiS, bi_isiI, fl_i, fl_s, fl_t, fl_l, fls_n, fls_c, ty_ii, ty_bi, ty_ss, ty_tt, bi_lenS, bi_lenT, bi_lenL, bi_lenD, bi_tupL, bi_intI, ix_t0, ix_t1, ix_l0, ix_l1, ix_t3, sl_t3, sl_t2, sl_s1, Bool.not_true, Bool.not_false, Bool.and_true, Bool.true_and, Bool.and_self, decide_true, decide_false, turn_nm, turn_tp, rdI, rdS, rdB, rdN, rdT, z', Bool.false_and]
        | true =>
          rw [hc] at z'
          by_cases hK : q ++ [d] ∈ gkeys K
          · simp only [f_find_parting, whlB, loopOf, List.drop, rb_ok, rb_ex, rb_no, ro_ok, ro_ex, ro_no, ob_nx, ob_rt, ob_ex, ob_no, fin_rt, fin_nx, fin_ex, gv0, gvS, ev_var, rd_f, rd_t, ev_cst, ev_bin, ev_neg, ev_cmp, ev_chain, ev_and, ev_or, ev_not, ev_ite, ev_tup, ev_lst, ev_dct, ev_ix, ev_slice, ev_call, ev_bi, ev_meth, ev_comp, evs_nil, evs_cons, evp_nil, evp_cons, evo_none, evo_some, conds_nil, conds_cons, asBb, asI_int, blk_nil, blk_cons, ex_fz, ex_set, ex_unp, bdO_nil, bdO_cons, ex_mul, storeP_nil, storeP_cons, ex_put, ex_app, ex_exp, ex_ret, ex_raise, ex_ite, ex_for, forO_some, sv0, svS, fz_nil, fz_cons, fzAt0, fzAtS, fz1_s, fz1_n, wipe_nil, wipe_cons, wkS, wk_lst, wkT, wk_dic, wk_enumS, wk_enumT, wk_enumL, wk_zipS, List.set_cons_zero, List.set_cons_succ, initEnv, List.map_cons, List.map_nil, List.length_cons, List.length_nil, List.replicate, List.cons_append, List.nil_append, Nat.reduceAdd, Nat.reduceSub, Nat.add_zero, Nat.zero_add, Bool.false_eq_true, if_true, if_false, ite_true, ite_false, List.zip_cons_cons, List.zip_nil_left, c_eq, c_ne, c_in, c_nin, c_le, c_gt, c_ge, c_lt, c_isN, c_nisN, c_isB, c_nisB, isNon_n, isNon_b, isNon_i, isNon_s, isNon_t, isNon_l, eqD_ss, eqD_ii, eqD_bb, inD_s, b_add, b_sub, neg_i, bi_isiS, bi_isiI, fl_i, fl_s, fl_t, fl_l, fls_n, fls_c, ty_ii, ty_bi, ty_ss, ty_tt, bi_lenS, bi_lenT, bi_lenL, bi_lenD, bi_tupL, bi_intI, ix_t0, ix_t1, ix_l0, ix_l1, ix_t3, sl_t3, sl_t2, sl_s1, Bool.not_true, Bool.not_false, Bool.and_true, Bool.true_and, Bool.and_self, decide_true, decide_false, turn_nm, turn_tp, rdI, rdS, rdB, rdN, rdT, z', rd_t, i1, hK, Bool.false_and]
          · cases hg : gget fl.2 (q ++ [d]) with
            | none =>
              have hk2 : ¬ q ++ [d] ∈ gkeys fl.2 := gget_none.mp hg
              simp only [f_find_parting, whlB, loopOf, List.drop, rb_ok, rb_ex, rb_no, ro_ok, ro_ex, ro_no, ob_nx, ob_rt, ob_ex, ob_no, fin_rt, fin_nx, fin_ex, gv0, gvS, ev_var, rd_f, rd_t, ev_cst, ev_bin, ev_neg, ev_cmp, ev_chain, ev_and, ev_or, ev_not, ev_ite, ev_tup, ev_lst, ev_dct, ev_ix, ev_slice, ev_call, ev_bi, ev_meth, ev_comp, evs_nil, evs_cons, evp_nil, evp_cons, evo_none, evo_some, conds_nil, conds_cons, asBb, asI_int, blk_nil, blk_cons, ex_fz, ex_set, ex_unp, bdO_nil, bdO_cons, ex_mul, storeP_nil, storeP_cons, ex_put, ex_app, ex_exp, ex_ret, ex_raise, ex_ite, ex_for, forO_some, sv0, svS, fz_nil, fz_cons, fzAt0, fzAtS, fz1_s, fz1_n, wipe_nil, wipe_cons, wkS, wk_lst, wkT, wk_dic, wk_enumS, wk_enumT, wk_enumL, wk_zipS, List.set_cons_zero, List.set_cons_succ, initEnv, List.map_cons, List.map_nil, List.length_cons, List.length_nil, List.replicate, List.cons_append, List.nil_append, Nat.reduceAdd, Nat.reduceSub, Nat.add_zero, Nat.zero_add, Bool.false_eq_true, if_true, if_false, ite_true, ite_false, List.zip_cons_cons, List.zip_nil_left, c_eq, c_ne, c_in, c_nin, c_le, c_gt, c_ge, c_lt, c_isN, c_nisN, c_isB, c_nisB, isNon_n, isNon_b, isNon_i, isNon_s, isNon_t, isNon_l, eqD_ss, eqD_ii, eqD_bb, inD_s, b_add, b_sub, neg_i, bi_isiS, bi_isiI, fl_i, fl_s, fl_t, fl_l, fls_n, fls_c, ty_ii, ty_bi, ty_ss, ty_tt, bi_lenS, bi_lenT, bi_lenL, bi_lenD, bi_tupL, bi_intI, ix_t0, ix_t1, ix_l0, ix_l1, ix_t3, sl_t3, sl_t2, sl_s1, Bool.not_true, Bool.not_false, Bool.and_true, Bool.true_and, Bool.and_self, decide_true, decide_false, turn_nm, turn_tp, rdI, rdS, rdB, rdN, rdT, z', rd_t, i1, i2, hK, hk2, bet, putD_O, pt, Option.isSome_some]
            | some y =>
              have hk2 : q ++ [d] ∈ gkeys fl.2 := gget_isSome.mp (by rw [hg]; rfl)
              have ix2 : ix (.dic (gl sD fl.2)) (.str (q ++ [d])) = .ok (.str y) := g_ix hg
              cases hb : ltL (x ++ [d]) y with
              | true => simp only [f_find_parting, whlB, loopOf, List.drop, rb_ok, rb_ex, rb_no, ro_ok, ro_ex, ro_no, ob_nx, ob_rt, ob_ex, ob_no, fin_rt, fin_nx, fin_ex, gv0, gvS, ev_var, rd_f, rd_t, ev_cst, ev_bin, ev_neg, ev_cmp, ev_chain, ev_and, ev_or, ev_not, ev_ite, ev_tup, ev_lst, ev_dct, ev_ix, ev_slice, ev_call, ev_bi, ev_meth, ev_comp, evs_nil, evs_cons, evp_nil, evp_cons, evo_none, evo_some, conds_nil, conds_cons, asBb, asI_int, blk_nil, blk_cons, ex_fz, ex_set, ex_unp, bdO_nil, bdO_cons, ex_mul, storeP_nil, storeP_cons, ex_put, ex_app, ex_exp, ex_ret, ex_raise, ex_ite, ex_for, forO_some, sv0, svS, fz_nil, fz_cons, fzAt0, fzAtS, fz1_s, fz1_n, wipe_nil, wipe_cons, wkS, wk_lst, wkT, wk_dic, wk_enumS, wk_enumT, wk_enumL, wk_zipS, List.set_cons_zero, List.set_cons_succ, initEnv, List.map_cons, List.map_nil, List.length_cons, List.length_nil, List.replicate, List.cons_append, List.nil_append, Nat.reduceAdd, Nat.reduceSub, Nat.add_zero, Nat.zero_add, Bool.false_eq_true, if_true, if_false, ite_true, ite_false, List.zip_cons_cons, List.zip_nil_left, c_eq, c_ne, c_in, c_nin, c_le, c_gt, c_ge, c_lt, c_isN, c_nisN, c_isB, c_nisB, isNon_n, isNon_b, isNon_i, isNon_s, isNon_t, isNon_l, eqD_ss, eqD_ii, eqD_bb, inD_s, b_add, b_sub, neg_i, bi_isiS, bi_isiI, fl_i, fl_s, fl_t, fl_l, fls_n, fls_c, ty_ii, ty_bi, ty_ss, ty_tt, bi_lenS, bi_lenT, bi_lenL, bi_lenD, bi_tupL, bi_intI, ix_t0, ix_t1, ix_l0, ix_l1, ix_t3, sl_t3, sl_t2, sl_s1, Bool.not_true, Bool.not_false, Bool.and_true, Bool.true_and, Bool.and_self, decide_true, decide_false, turn_nm, turn_tp, rdI, rdS, rdB, rdN, rdT, z', rd_t, i1, i2, hK, hk2, ix2, c_ltS, hb, bet, putD_O, pt, Option.isSome_some]
              | false => simp only [f_find_parting, whlB, loopOf, List.drop, rb_ok, rb_ex, rb_no, ro_ok, ro_ex, ro_no, ob_nx, ob_rt, ob_ex, ob_no, fin_rt, fin_nx, fin_ex, gv0, gvS, ev_var, rd_f, rd_t, ev_cst, ev_bin, ev_neg, ev_cmp, ev_chain, ev_and, ev_or, ev_not, ev_ite, ev_tup, ev_lst, ev_dct, ev_ix, ev_slice, ev_call, ev_bi, ev_meth, ev_comp, evs_nil, evs_cons, evp_nil, evp_cons, evo_none, evo_some, conds_nil, conds_cons, asBb, asI_int, blk_nil, blk_cons, ex_fz, ex_set, ex_unp, bdO_nil, bdO_cons, ex_mul, storeP_nil, storeP_cons, ex_put, ex_app, ex_exp, ex_ret, ex_raise, ex_ite, ex_for, forO_some, sv0, svS, fz_nil, fz_cons, fzAt0, fzAtS, fz1_s, fz1_n, wipe_nil, wipe_cons, wkS, wk_lst, wkT, wk_dic, wk_enumS, wk_enumT, wk_enumL, wk_zipS, List.set_cons_zero, List.set_cons_succ, initEnv, List.map_cons, List.map_nil, List.length_cons, List.length_nil, List.replicate, List.cons_append, List.nil_append, Nat.reduceAdd, Nat.reduceSub, Nat.add_zero, Nat.zero_add, Bool.false_eq_true, if_true, if_false, ite_true, ite_false, List.zip_cons_cons, List.zip_nil_left, c_eq, c_ne, c_in, c_nin, c_le, c_gt, c_ge, c_lt, c_isN, c_nisN, c_isB, c_nisB, isNon_n, isNon_b, isNon_i, isNon_s, isNon_t, isNon_l, eqD_ss, eqD_ii, eqD_bb, inD_s, b_add, b_sub, neg_i, bi_isiS, bi_isiI, fl_i, fl_s, fl_t, fl_l, fls_n, fls_c, ty_ii, ty_bi, ty_ss, ty_tt, bi_lenS, bi_lenT, bi_lenL, bi_lenD, bi_tupL, bi_intI, ix_t0, ix_t1, ix_l0, ix_l1, ix_t3, sl_t3, sl_t2, sl_s1, Bool.not_true, Bool.not_false, Bool.and_true, Bool.true_and, Bool.and_self, decide_true, decide_false, turn_nm, turn_tp, rdI, rdS, rdB, rdN, rdT, z', rd_t, i1, i2, hK, hk2, ix2, c_ltS, hb, bet]
    obtain ⟨s8a, s9a, s10a, s11a, step⟩ := step
    have g1 : (bday ls1 ls2 (gkeys K) p x fl d).1.length ≤ fl.1.length + 1 := by
      unfold bday
      split
      · simp
      · split <;> simp
    have g2 : (bday ls1 ls2 (gkeys K) p x fl d).2.length ≤ fl.2.length + 1 := by
      unfold bday
      split
      · simp
      · split
        · exact gput_len _ _ _
        · simp
    obtain ⟨s7', s8', s9', s10', s11', ih⟩ := fpd A B h2 n2 M hx hp hxl ds (bday ls1 ls2 (gkeys K) p x fl d) (some (.str [d], false)) s8a s9a s10a s11a (by omega) (by omega)
    refine ⟨s7', s8', s9', s10', s11', ?_⟩
    have ec : chars (d :: ds) = .str [d] :: chars ds := rfl
    rw [ec, forL_nm, step, ob_nx, ih]
    rfl
theorem fpl (A : Alk F) (B : BookOk zs ls1) (h2 : ∀ l ∈ ls2, l.Ok zs) (n2 : ls2.length ≤ 900) (M : Nat) {level K : Tm} (nd : (gkeys level).Nodup) (hl5 : ∀ q ∈ level, q.1.length = 5 ∧ q.2.length ≤ 800) :
    ∀ (T : Tm) (fl : List (List Nat) × Tm) (s6 s7 s8 s9 s10 s11 : Slot), (∀ q ∈ T, q ∈ level) → fl.1.length + 3 * T.length ≤ 900 → fl.2.length + 3 * T.length ≤ 900 →
    ∃ s6' s7' s8' s9' s10' s11', forL (blk (ex noOw (callF F (k + 3)) (M + 59)) fp1_body) (.nm 6) (T.map fun q => D.str q.1) [some (bookD zs ls1, false), some (bookD zs ls2, false), some (.dic (gl sD level), false), some (.dic (gl sD K), true), some (.lst (fl.1.map D.str), true), some (.dic (gl sD fl.2), true), s6, s7, s8, s9, s10, s11]
      = .nx [some (bookD zs ls1, false), some (bookD zs ls2, false), some (.dic (gl sD level), false), some (.dic (gl sD K), true), some (.lst ((blevel ls1 ls2 (gkeys K) (46 :: zs) T fl).1.map D.str), true), some (.dic (gl sD (blevel ls1 ls2 (gkeys K) (46 :: zs) T fl).2), true), s6', s7', s8', s9', s10', s11']
  | [], fl, s6, s7, s8, s9, s10, s11, _, _, _ => ⟨s6, s7, s8, s9, s10, s11, rfl⟩
  | q :: T, fl, s6, s7, s8, s9, s10, s11, hs, l1, l2 => by
    have lg := line_ge
    have hz : zs.length ≤ 2 := by rcases B.zo with rfl | rfl <;> decide
    have l1 : fl.1.length + 3 * (T.length + 1) ≤ 900 := l1
    have l2 : fl.2.length + 3 * (T.length + 1) ≤ 900 := l2
    obtain ⟨h5, h8⟩ := hl5 q (hs q List.mem_cons_self)
    obtain ⟨s7a, s8a, s9a, s10a, s11a, hd⟩ := fpd (k := k) A B h2 n2 M (K := K) (gget_of_mem nd (hs q List.mem_cons_self)) h5 h8 (46 :: zs) fl s7 s8 s9 s10 s11 (by simp; omega) (by simp; omega)
    have dof := s_days_of (k := k + 2) A.toJud2.toChk B
    have step : blk (ex noOw (callF F (k + 3)) (M + 59)) fp1_body (setv [some (bookD zs ls1, false), some (bookD zs ls2, false), some (.dic (gl sD level), false), some (.dic (gl sD K), true), some (.lst (fl.1.map D.str), true), some (.dic (gl sD fl.2), true), s6, s7, s8, s9, s10, s11] 6 (.str q.1) false)
        = .nx [some (bookD zs ls1, false), some (bookD zs ls2, false), some (.dic (gl sD level), false), some (.dic (gl sD K), true), some (.lst ((bpast ls1 ls2 (gkeys K) (46 :: zs) q fl).1.map D.str), true), some (.dic (gl sD (bpast ls1 ls2 (gkeys K) (46 :: zs) q fl).2), true), some (.str q.1, false), s7a, s8a, s9a, s10a, s11a] := by
      have eB : fp1_body = loopOf (whlB f_find_parting.body) := rfl
      rw [eB]
      simp only [fp2_body, fp1_body, fpw_body, f_find_parting, whlB, loopOf] at hd
      simp only [f_find_parting, whlB, loopOf, blk_cons, blk_nil, ex_fz, ex_for, fz_cons, fz_nil, fzAt0, fzAtS, fz1_s, evs_cons, evs_nil, ev_call, ev_var, gvS, gv0, svS, sv0, rd_f, rb_ok, ro_ok, dof, wkS, forO_some]
      rw [hd]
      simp only [ob_nx]
      rfl
    have lb : ∀ (ds : List Nat) (fl : List (List Nat) × Tm), (ds.foldl (bday ls1 ls2 (gkeys K) q.1 q.2) fl).1.length ≤ fl.1.length + ds.length ∧ (ds.foldl (bday ls1 ls2 (gkeys K) q.1 q.2) fl).2.length ≤ fl.2.length + ds.length := fun ds => by
      induction ds with
      | nil => intro fl; exact ⟨Nat.le_refl _, Nat.le_refl _⟩
      | cons d ds ih =>
        intro fl
        have g1 : (bday ls1 ls2 (gkeys K) q.1 q.2 fl d).1.length ≤ fl.1.length + 1 := by
          unfold bday
          split
          · simp
          · split <;> simp
        have g2 : (bday ls1 ls2 (gkeys K) q.1 q.2 fl d).2.length ≤ fl.2.length + 1 := by
          unfold bday
          split
          · simp
          · split
            · exact gput_len _ _ _
            · simp
        have := ih (bday ls1 ls2 (gkeys K) q.1 q.2 fl d)
        rw [List.foldl_cons, List.length_cons]
        omega
    have lb1 := lb (46 :: zs) fl
    have lb2 : (46 :: zs).length ≤ 3 := by simp; omega
    obtain ⟨s6', s7', s8', s9', s10', s11', ih⟩ := fpl A B h2 n2 M nd hl5 T (bpast ls1 ls2 (gkeys K) (46 :: zs) q fl) (some (.str q.1, false)) s7a s8a s9a s10a s11a (fun x hx => hs x (List.mem_cons_of_mem _ hx)) (by unfold bpast; omega) (by unfold bpast; omega)
    refine ⟨s6', s7', s8', s9', s10', s11', ?_⟩
    rw [List.map_cons, forL_nm, step, ob_nx, ih]
    rfl
end
end Mp

end Sec_MrC
section Sec_MrD
set_option autoImplicit false
set_option linter.all false
set_option maxHeartbeats 4000000
set_option maxRecDepth 100000
namespace Mp
open PySem
theorem Wd_run {D : List Nat} : ∀ (x p : List Nat), Wd D p → Wd D x → Wd D (run p x)
  | [], _, h, _ => h
  | d :: x, p, h, h2 => Wd_run x (p.tail ++ [d]) (Wd.app (fun c hc => h c (List.mem_of_mem_tail hc)) (Wd.one (h2 d List.mem_cons_self))) fun c hc => h2 c (List.mem_cons_of_mem _ hc)
theorem Wd_never {D : List Nat} (h46 : 46 ∈ D) : Wd D never := fun c hc => by
  have : c = 46 := by
    unfold never at hc
    simpa using hc
  rw [this]
  exact h46
theorem words_le {D : List Nat} (h46 : 46 ∈ D) {ps : List (List Nat)} (nd : ps.Nodup) (h : ∀ p ∈ ps, ∃ x, Wd D x ∧ run never x = p) : ps.length ≤ (pastsU D 5).length := by
  refine nodup_len _ _ nd fun p hp => ?_
  obtain ⟨x, h1, h2⟩ := h p hp
  have hl := run_len x never rfl
  have hw := Wd_run x never (Wd_never h46) h1
  rw [h2] at hl hw
  rw [← hl]
  exact mem_pastsU p hw
theorem zs_243 {zs : List Nat} (hz : zs = [97] ∨ zs = [97, 98]) : (pastsU (46 :: zs) 5).length ≤ 243 := by
  rcases hz with rfl | rfl
  · rw [pastsU_a]; decide
  · rw [pastsU_ab]; decide
def optS : Option (List Nat) → D
  | some y => .str y
  | none => .non
def fp (zs : List Nat) (ls1 ls2 : List Lim) : Option (List Nat) := fpGo (46 :: zs) ls1 ls2 245 [(never, [])] []
theorem fp_comm (zs : List Nat) (ls1 ls2 : List Lim) : fp zs ls1 ls2 = fp zs ls2 ls1 := fpGo_comm _ _ _ _ _ _
theorem fp_spec {zs : List Nat} (hz : zs = [97] ∨ zs = [97, 98]) (ls1 ls2 : List Lim) : Parts (46 :: zs) ls1 ls2 (fp zs ls1 ls2) :=
  fpGo_spec List.mem_cons_self 245 0 _ _ (LI.start _ _ _) (by have := zs_243 hz; simp; omega)
section
variable {F : Str → Option Fn} {k : Nat} {zs : List Nat} {ls1 ls2 : List Lim}
theorem putAll_nil' : putAll [] [] = [] := rfl
def fp_while : S := .whl (.cmp .ne (.var 2) (.dct [])) fpw_body
theorem fpw (A : Alk F) (B : BookOk zs ls1) (h2 : ∀ l ∈ ls2, l.Ok zs) (n2 : ls2.length ≤ 900) (m : Nat) : ∀ (n kk : Nat) (level known : Tm) (o2 : Bool) (s4 s5 s6 s7 s8 s9 s10 s11 : Slot), LI (46 :: zs) ls1 ls2 kk level known → (pastsU (46 :: zs) 5).length < known.length + n →
    ∃ ρ', ex noOw (callF F (k + 3)) (m + n + 61) fp_while [some (bookD zs ls1, false), some (bookD zs ls2, false), some (.dic (gl sD level), o2), some (.dic (gl sD known), true), s4, s5, s6, s7, s8, s9, s10, s11]
      = (match fpGo (46 :: zs) ls1 ls2 n level known with | some y => .rt (.str y) | none => .nx ρ')
  | 0, kk, level, known, o2, s4, s5, s6, s7, s8, s9, s10, s11, L, hn => by
    have := words_le (D := 46 :: zs) List.mem_cons_self L.n2 fun p hp => by
      obtain ⟨x, h1, h2, _⟩ := L.kn p hp
      exact ⟨x, h1, h2⟩
    unfold gkeys at this
    rw [List.length_map] at this
    omega
  | n + 1, kk, level, known, o2, s4, s5, s6, s7, s8, s9, s10, s11, L, hn => by
    have lg := line_ge
    have h243 := zs_243 B.zo
    obtain ⟨K1, K2, K3⟩ := L.known
    have hKle := words_le (D := 46 :: zs) List.mem_cons_self K2 fun p hp => by
      obtain ⟨x, h1, h2, _⟩ := K1 p hp
      exact ⟨x, h1, h2⟩
    unfold gkeys at hKle
    rw [List.length_map, K3] at hKle
    have e0 : m + (n + 1) + 61 = (m + n + 61) + 1 := by omega
    have eW : fp_while = .whl (.cmp .ne (.var 2) (.dct [])) fpw_body := rfl
    have cond : ∀ s4 s5 s6 s7 s8 s9 s10 s11 : Slot, ev (callF F (k + 3)) (m + n + 61) true (.cmp .ne (.var 2) (.dct [])) [some (bookD zs ls1, false), some (bookD zs ls2, false), some (.dic (gl sD level), o2), some (.dic (gl sD known), true), s4, s5, s6, s7, s8, s9, s10, s11] = .ok (.bl (!level.isEmpty)) := fun s4 s5 s6 s7 s8 s9 s10 s11 => by
      simp only [rb_ok, rb_ex, rb_no, ro_ok, ro_ex, ro_no, ob_nx, ob_rt, ob_ex, ob_no, fin_rt, fin_nx, fin_ex, gv0, gvS, ev_var, rd_f, rd_t, ev_cst, ev_bin, ev_neg, ev_cmp, ev_chain, ev_and, ev_or, ev_not, ev_ite, ev_tup, ev_lst, ev_dct, ev_ix, ev_slice, ev_call, ev_bi, ev_meth, ev_comp, evs_nil, evs_cons, evp_nil, evp_cons, evo_none, evo_some, conds_nil, conds_cons, asBb, asI_int, blk_nil, blk_cons, ex_fz, ex_set, ex_unp, bdO_nil, bdO_cons, ex_mul, storeP_nil, storeP_cons, ex_put, ex_app, ex_exp, ex_ret, ex_raise, ex_ite, ex_for, forO_some, sv0, svS, fz_nil, fz_cons, fzAt0, fzAtS, fz1_s, fz1_n, wipe_nil, wipe_cons, wkS, wk_lst, wkT, wk_dic, wk_enumS, wk_enumT, wk_enumL, wk_zipS, List.set_cons_zero, List.set_cons_succ, initEnv, List.map_cons, List.map_nil, List.length_cons, List.length_nil, List.replicate, List.cons_append, List.nil_append, Nat.reduceAdd, Nat.reduceSub, Nat.add_zero, Nat.zero_add, Bool.false_eq_true, if_true, if_false, ite_true, ite_false, List.zip_cons_cons, List.zip_nil_left, c_eq, c_ne, c_in, c_nin, c_le, c_gt, c_ge, c_lt, c_isN, c_nisN, c_isB, c_nisB, isNon_n, isNon_b, isNon_i, isNon_s, isNon_t, isNon_l, eqD_ss, eqD_ii, eqD_bb, inD_s, b_add, b_sub, neg_i, bi_isiS, bi_isiI, fl_i, fl_s, fl_t, fl_l, fls_n, fls_c, ty_ii, ty_bi, ty_ss, ty_tt, bi_lenS, bi_lenT, bi_lenL, bi_lenD, bi_tupL, bi_intI, ix_t0, ix_t1, ix_l0, ix_l1, ix_t3, sl_t3, sl_t2, sl_s1, Bool.not_true, Bool.not_false, Bool.and_true, Bool.true_and, Bool.and_self, decide_true, decide_false, turn_nm, turn_tp, rdI, rdS, rdB, rdN, rdT, rd_t, List.all_nil, Nat.zero_le, putAll_nil', g_eqE sD level str_flat]
    rw [e0, eW, ex_whl, cond]
    cases level with
    | nil => exact ⟨_, rfl⟩
    | cons q T =>
      have hl5 : ∀ q' ∈ q :: T, q'.1.length = 5 ∧ q'.2.length ≤ 800 := fun q' hq' => by
        obtain ⟨g1, g2, g3, g4, g5⟩ := L.lv q' hq'
        have := L.ct
        rw [← g3]
        exact ⟨run_len _ never rfl, by omega⟩
      obtain ⟨s6a, s7a, s8a, s9a, s10a, s11a, hlv⟩ := fpl (k := k) A B h2 n2 (m + n) (K := gmerge known (q :: T)) L.n1 hl5 (q :: T) ([], []) s6 s7 s8 s9 s10 s11 (fun x h => h) (by simp at hKle ⊢; omega) (by simp at hKle ⊢; omega)
      obtain ⟨fl, hfl⟩ : ∃ fl, fl = blevel ls1 ls2 (gkeys (gmerge known (q :: T))) (46 :: zs) (q :: T) ([], []) := ⟨_, rfl⟩
      rw [← hfl] at hlv
      have gu := fun ρ => g_upd (f := sD) (T := known) (M := q :: T) (o := o2) (i := 3) (j := 2) (ρ := ρ) (by decide) (by simp) (by omega)
      have fr1 : fresh noOw (.lst []) = true := rfl
      have fr2 : fresh noOw (.dct []) = true := rfl
      have eb : fpw_body = (whlB f_find_parting.body).take 2 ++ (((whlB f_find_parting.body).drop 2).take 1 ++ (whlB f_find_parting.body).drop 3) := rfl
      have t1 : blk (ex noOw (callF F (k + 3)) (m + n + 61)) ((whlB f_find_parting.body).take 2) [some (bookD zs ls1, false), some (bookD zs ls2, false), some (.dic (gl sD (q :: T)), o2), some (.dic (gl sD known), true), s4, s5, s6, s7, s8, s9, s10, s11]
          = .nx [some (bookD zs ls1, false), some (bookD zs ls2, false), some (.dic (gl sD (q :: T)), o2), some (.dic (gl sD (gmerge known (q :: T))), true), some (.lst [], true), some (.dic [], true), s6, s7, s8, s9, s10, s11] := by
        simp only [f_find_parting, whlB, List.take, rb_ok, rb_ex, rb_no, ro_ok, ro_ex, ro_no, ob_nx, ob_rt, ob_ex, ob_no, fin_rt, fin_nx, fin_ex, gv0, gvS, ev_var, rd_f, rd_t, ev_cst, ev_bin, ev_neg, ev_cmp, ev_chain, ev_and, ev_or, ev_not, ev_ite, ev_tup, ev_lst, ev_dct, ev_ix, ev_slice, ev_call, ev_bi, ev_meth, ev_comp, evs_nil, evs_cons, evp_nil, evp_cons, evo_none, evo_some, conds_nil, conds_cons, asBb, asI_int, blk_nil, blk_cons, ex_fz, ex_set, ex_unp, bdO_nil, bdO_cons, ex_mul, storeP_nil, storeP_cons, ex_put, ex_app, ex_exp, ex_ret, ex_raise, ex_ite, ex_for, forO_some, sv0, svS, fz_nil, fz_cons, fzAt0, fzAtS, fz1_s, fz1_n, wipe_nil, wipe_cons, wkS, wk_lst, wkT, wk_dic, wk_enumS, wk_enumT, wk_enumL, wk_zipS, List.set_cons_zero, List.set_cons_succ, initEnv, List.map_cons, List.map_nil, List.length_cons, List.length_nil, List.replicate, List.cons_append, List.nil_append, Nat.reduceAdd, Nat.reduceSub, Nat.add_zero, Nat.zero_add, Bool.false_eq_true, if_true, if_false, ite_true, ite_false, List.zip_cons_cons, List.zip_nil_left, c_eq, c_ne, c_in, c_nin, c_le, c_gt, c_ge, c_lt, c_isN, c_nisN, c_isB, c_nisB, isNon_n, isNon_b, isNon_i, isNon_s, isNon_t, isNon_l, eqD_ss, eqD_ii, eqD_bb, inD_s, b_add, b_sub, neg_i, bi_isiS, bi_isiI, fl_i, fl_s, fl_t, fl_l, fls_n, fls_c, ty_ii, ty_bi, ty_ss, ty_tt, bi_lenS, bi_lenT, bi_lenL, bi_lenD, bi_tupL, bi_intI, ix_t0, ix_t1, ix_l0, ix_l1, ix_t3, sl_t3, sl_t2, sl_s1, Bool.not_true, Bool.not_false, Bool.and_true, Bool.true_and, Bool.and_self, decide_true, decide_false, turn_nm, turn_tp, rdI, rdS, rdB, rdN, rdT, ex_upd, gu, List.all_nil, Nat.zero_le, putAll_nil', fr1, fr2, storeP_nil, storeP_cons]
      have t2 : blk (ex noOw (callF F (k + 3)) (m + n + 61)) (((whlB f_find_parting.body).drop 2).take 1) [some (bookD zs ls1, false), some (bookD zs ls2, false), some (.dic (gl sD (q :: T)), o2), some (.dic (gl sD (gmerge known (q :: T))), true), some (.lst [], true), some (.dic [], true), s6, s7, s8, s9, s10, s11]
          = .nx [some (bookD zs ls1, false), some (bookD zs ls2, false), some (.dic (gl sD (q :: T)), false), some (.dic (gl sD (gmerge known (q :: T))), true), some (.lst (fl.1.map D.str), true), some (.dic (gl sD fl.2), true), s6a, s7a, s8a, s9a, s10a, s11a] := by
        have wk := g_walk sD (q :: T)
        simp only [fp1_body, fpw_body, f_find_parting, whlB, loopOf, List.map_nil] at hlv
        have en : (gl sD ([] : Tm)) = [] := rfl
        rw [en] at hlv
        simp only [f_find_parting, whlB, List.drop, List.take, blk_cons, blk_nil, ex_fz, ex_for, fz_cons, fz_nil, fzAt0, fzAtS, fz1_s, evs_cons, evs_nil, ev_var, gvS, gv0, rd_f, rb_ok, ro_ok, wk, forO_some]
        rw [hlv]
        rfl
      have run1 : ∀ G : Env → Out, ((R.ok (.bl (!(q :: T).isEmpty))).out [some (bookD zs ls1, false), some (bookD zs ls2, false), some (.dic (gl sD (q :: T)), o2), some (.dic (gl sD known), true), s4, s5, s6, s7, s8, s9, s10, s11] fun d => (asB d).out [some (bookD zs ls1, false), some (bookD zs ls2, false), some (.dic (gl sD (q :: T)), o2), some (.dic (gl sD known), true), s4, s5, s6, s7, s8, s9, s10, s11] fun k' => if k' = true then (blk (ex noOw (callF F (k + 3)) (m + n + 61)) fpw_body [some (bookD zs ls1, false), some (bookD zs ls2, false), some (.dic (gl sD (q :: T)), o2), some (.dic (gl sD known), true), s4, s5, s6, s7, s8, s9, s10, s11]).bind G else .nx [some (bookD zs ls1, false), some (bookD zs ls2, false), some (.dic (gl sD (q :: T)), o2), some (.dic (gl sD known), true), s4, s5, s6, s7, s8, s9, s10, s11])
          = (blk (ex noOw (callF F (k + 3)) (m + n + 61)) fpw_body [some (bookD zs ls1, false), some (bookD zs ls2, false), some (.dic (gl sD (q :: T)), o2), some (.dic (gl sD known), true), s4, s5, s6, s7, s8, s9, s10, s11]).bind G := fun G => rfl
      rw [run1, eb, blk_app, t1, ob_nx, blk_app, t2, ob_nx]
      have em := eqD_empS fl.1
      unfold fpGo
      rw [← hfl]
      cases hf : fl.1 with
      | nil =>
        rw [hf] at em
        have em : eqD (.lst []) (.lst []) = .ok true := em
        have t3 : blk (ex noOw (callF F (k + 3)) (m + n + 61)) ((whlB f_find_parting.body).drop 3) [some (bookD zs ls1, false), some (bookD zs ls2, false), some (.dic (gl sD (q :: T)), false), some (.dic (gl sD (gmerge known (q :: T))), true), some (.lst [], true), some (.dic (gl sD fl.2), true), s6a, s7a, s8a, s9a, s10a, s11a]
            = .nx [some (bookD zs ls1, false), some (bookD zs ls2, false), some (.dic (gl sD fl.2), false), some (.dic (gl sD (gmerge known (q :: T))), true), some (.lst [], true), some (.dic (gl sD fl.2), false), s6a, s7a, s8a, s9a, s10a, s11a] := by
          have fr : fresh noOw (.var 5) = false := rfl
          simp only [f_find_parting, whlB, List.drop, rb_ok, rb_ex, rb_no, ro_ok, ro_ex, ro_no, ob_nx, ob_rt, ob_ex, ob_no, fin_rt, fin_nx, fin_ex, gv0, gvS, ev_var, rd_f, rd_t, ev_cst, ev_bin, ev_neg, ev_cmp, ev_chain, ev_and, ev_or, ev_not, ev_ite, ev_tup, ev_lst, ev_dct, ev_ix, ev_slice, ev_call, ev_bi, ev_meth, ev_comp, evs_nil, evs_cons, evp_nil, evp_cons, evo_none, evo_some, conds_nil, conds_cons, asBb, asI_int, blk_nil, blk_cons, ex_fz, ex_set, ex_unp, bdO_nil, bdO_cons, ex_mul, storeP_nil, storeP_cons, ex_put, ex_app, ex_exp, ex_ret, ex_raise, ex_ite, ex_for, forO_some, sv0, svS, fz_nil, fz_cons, fzAt0, fzAtS, fz1_s, fz1_n, wipe_nil, wipe_cons, wkS, wk_lst, wkT, wk_dic, wk_enumS, wk_enumT, wk_enumL, wk_zipS, List.set_cons_zero, List.set_cons_succ, initEnv, List.map_cons, List.map_nil, List.length_cons, List.length_nil, List.replicate, List.cons_append, List.nil_append, Nat.reduceAdd, Nat.reduceSub, Nat.add_zero, Nat.zero_add, Bool.false_eq_true, if_true, if_false, ite_true, ite_false, List.zip_cons_cons, List.zip_nil_left, c_eq, c_ne, c_in, c_nin, c_le, c_gt, c_ge, c_lt, c_isN, c_nisN, c_isB, c_nisB, isNon_n, isNon_b, isNon_i, isNon_s, isNon_t, isNon_l, eqD_ss, eqD_ii, eqD_bb, inD_s, b_add, b_sub, neg_i, bi_isiS, bi_isiI, fl_i, fl_s, fl_t, fl_l, fls_n, fls_c, ty_ii, ty_bi, ty_ss, ty_tt, bi_lenS, bi_lenT, bi_lenL, bi_lenD, bi_tupL, bi_intI, ix_t0, ix_t1, ix_l0, ix_l1, ix_t3, sl_t3, sl_t2, sl_s1, Bool.not_true, Bool.not_false, Bool.and_true, Bool.true_and, Bool.and_self, decide_true, decide_false, turn_nm, turn_tp, rdI, rdS, rdB, rdN, rdT, rd_t, em, fr]
        have LS := L.step (by simp) (by rw [← hfl]; exact hf)
        rw [← hfl] at LS
        obtain ⟨ρ', ih⟩ := fpw A B h2 n2 m n (kk + 1) fl.2 (gmerge known (q :: T)) false (some (.lst [], true)) (some (.dic (gl sD fl.2), false)) s6a s7a s8a s9a s10a s11a LS (by rw [K3, List.length_cons]; omega)
        refine ⟨ρ', ?_⟩
        rw [List.map_nil, t3, ob_nx]
        exact ih
      | cons a r =>
        rw [hf] at em
        have em : eqD (.lst ((a :: r).map D.str)) (.lst []) = .ok false := em
        have mi := bi_minS a r
        have t3 : blk (ex noOw (callF F (k + 3)) (m + n + 61)) ((whlB f_find_parting.body).drop 3) [some (bookD zs ls1, false), some (bookD zs ls2, false), some (.dic (gl sD (q :: T)), false), some (.dic (gl sD (gmerge known (q :: T))), true), some (.lst ((a :: r).map D.str), true), some (.dic (gl sD fl.2), true), s6a, s7a, s8a, s9a, s10a, s11a]
            = .rt (.str (minL a r)) := by
          generalize (a :: r).map D.str = X at em mi
          simp only [f_find_parting, whlB, List.drop, rb_ok, rb_ex, rb_no, ro_ok, ro_ex, ro_no, ob_nx, ob_rt, ob_ex, ob_no, fin_rt, fin_nx, fin_ex, gv0, gvS, ev_var, rd_f, rd_t, ev_cst, ev_bin, ev_neg, ev_cmp, ev_chain, ev_and, ev_or, ev_not, ev_ite, ev_tup, ev_lst, ev_dct, ev_ix, ev_slice, ev_call, ev_bi, ev_meth, ev_comp, evs_nil, evs_cons, evp_nil, evp_cons, evo_none, evo_some, conds_nil, conds_cons, asBb, asI_int, blk_nil, blk_cons, ex_fz, ex_set, ex_unp, bdO_nil, bdO_cons, ex_mul, storeP_nil, storeP_cons, ex_put, ex_app, ex_exp, ex_ret, ex_raise, ex_ite, ex_for, forO_some, sv0, svS, fz_nil, fz_cons, fzAt0, fzAtS, fz1_s, fz1_n, wipe_nil, wipe_cons, wkS, wk_lst, wkT, wk_dic, wk_enumS, wk_enumT, wk_enumL, wk_zipS, List.set_cons_zero, List.set_cons_succ, initEnv, List.map_cons, List.map_nil, List.length_cons, List.length_nil, List.replicate, List.cons_append, List.nil_append, Nat.reduceAdd, Nat.reduceSub, Nat.add_zero, Nat.zero_add, Bool.false_eq_true, if_true, if_false, ite_true, ite_false, List.zip_cons_cons, List.zip_nil_left, c_eq, c_ne, c_in, c_nin, c_le, c_gt, c_ge, c_lt, c_isN, c_nisN, c_isB, c_nisB, isNon_n, isNon_b, isNon_i, isNon_s, isNon_t, isNon_l, eqD_ss, eqD_ii, eqD_bb, inD_s, b_add, b_sub, neg_i, bi_isiS, bi_isiI, fl_i, fl_s, fl_t, fl_l, fls_n, fls_c, ty_ii, ty_bi, ty_ss, ty_tt, bi_lenS, bi_lenT, bi_lenL, bi_lenD, bi_tupL, bi_intI, ix_t0, ix_t1, ix_l0, ix_l1, ix_t3, sl_t3, sl_t2, sl_s1, Bool.not_true, Bool.not_false, Bool.and_true, Bool.true_and, Bool.and_self, decide_true, decide_false, turn_nm, turn_tp, rdI, rdS, rdB, rdN, rdT, rd_t, em, mi]
        refine ⟨[], ?_⟩
        rw [t3]
        rfl
theorem s_find_parting (A : Alk F) (B : BookOk zs ls1) (h2 : ∀ l ∈ ls2, l.Ok zs) (n2 : ls2.length ≤ 900) : callF F (k + 4) "find_parting" [bookD zs ls1, bookD zs ls2] = .ok (optS (fp zs ls1 ls2)) := by
  obtain ⟨ρ', h⟩ := fpw (k := k) A B h2 n2 99694 245 0 [(never, [])] [] true none none none none none none none none (LI.start _ _ _) (by have := zs_243 B.zo; simp; omega)
  rw [callF_run A.ho A.fpa rfl]
  have t1 : blk (ex noOw (callF F (k + 3)) (N0 + 100)) (f_find_parting.body.take 1) (initEnv f_find_parting.names.length [bookD zs ls1, bookD zs ls2])
      = .nx [some (bookD zs ls1, false), some (bookD zs ls2, false), some (.dic (gl sD [(never, [])]), true), some (.dic (gl sD []), true), none, none, none, none, none, none, none, none] := by
    have fr : ∀ e, fresh noOw (.dct e) = true := fun _ => rfl
    simp only [f_find_parting, List.take, rb_ok, rb_ex, rb_no, ro_ok, ro_ex, ro_no, ob_nx, ob_rt, ob_ex, ob_no, fin_rt, fin_nx, fin_ex, gv0, gvS, ev_var, rd_f, rd_t, ev_cst, ev_bin, ev_neg, ev_cmp, ev_chain, ev_and, ev_or, ev_not, ev_ite, ev_tup, ev_lst, ev_dct, ev_ix, ev_slice, ev_call, ev_bi, ev_meth, ev_comp, evs_nil, evs_cons, evp_nil, evp_cons, evo_none, evo_some, conds_nil, conds_cons, asBb, asI_int, blk_nil, blk_cons, ex_fz, ex_set, ex_unp, bdO_nil, bdO_cons, ex_mul, storeP_nil, storeP_cons, ex_put, ex_app, ex_exp, ex_ret, ex_raise, ex_ite, ex_for, forO_some, sv0, svS, fz_nil, fz_cons, fzAt0, fzAtS, fz1_s, fz1_n, wipe_nil, wipe_cons, wkS, wk_lst, wkT, wk_dic, wk_enumS, wk_enumT, wk_enumL, wk_zipS, List.set_cons_zero, List.set_cons_succ, initEnv, List.map_cons, List.map_nil, List.length_cons, List.length_nil, List.replicate, List.cons_append, List.nil_append, Nat.reduceAdd, Nat.reduceSub, Nat.add_zero, Nat.zero_add, Bool.false_eq_true, if_true, if_false, ite_true, ite_false, List.zip_cons_cons, List.zip_nil_left, c_eq, c_ne, c_in, c_nin, c_le, c_gt, c_ge, c_lt, c_isN, c_nisN, c_isB, c_nisB, isNon_n, isNon_b, isNon_i, isNon_s, isNon_t, isNon_l, eqD_ss, eqD_ii, eqD_bb, inD_s, b_add, b_sub, neg_i, bi_isiS, bi_isiI, fl_i, fl_s, fl_t, fl_l, fls_n, fls_c, ty_ii, ty_bi, ty_ss, ty_tt, bi_lenS, bi_lenT, bi_lenL, bi_lenD, bi_tupL, bi_intI, ix_t0, ix_t1, ix_l0, ix_l1, ix_t3, sl_t3, sl_t2, sl_s1, Bool.not_true, Bool.not_false, Bool.and_true, Bool.true_and, Bool.and_self, decide_true, decide_false, turn_nm, turn_tp, rdI, rdS, rdB, rdN, rdT, List.all_nil, Nat.zero_le, fr, storeP_nil, storeP_cons]
    rfl
  have eb : f_find_parting.body = f_find_parting.body.take 1 ++ (fp_while :: [.ret (.cst .non)]) := rfl
  have e : N0 + 100 = 99694 + 245 + 61 := rfl
  rw [eb, blk_app, t1, ob_nx, blk_cons, e, h]
  unfold fp
  cases fpGo (46 :: zs) ls1 ls2 245 [(never, [])] [] with
  | some y => rfl
  | none =>
    show fin (Out.bind (.nx ρ') fun ρ => blk _ _ ρ) = _
    simp only [rb_ok, rb_ex, rb_no, ro_ok, ro_ex, ro_no, ob_nx, ob_rt, ob_ex, ob_no, fin_rt, fin_nx, fin_ex, gv0, gvS, ev_var, rd_f, rd_t, ev_cst, ev_bin, ev_neg, ev_cmp, ev_chain, ev_and, ev_or, ev_not, ev_ite, ev_tup, ev_lst, ev_dct, ev_ix, ev_slice, ev_call, ev_bi, ev_meth, ev_comp, evs_nil, evs_cons, evp_nil, evp_cons, evo_none, evo_some, conds_nil, conds_cons, asBb, asI_int, blk_nil, blk_cons, ex_fz, ex_set, ex_unp, bdO_nil, bdO_cons, ex_mul, storeP_nil, storeP_cons, ex_put, ex_app, ex_exp, ex_ret, ex_raise, ex_ite, ex_for, forO_some, sv0, svS, fz_nil, fz_cons, fzAt0, fzAtS, fz1_s, fz1_n, wipe_nil, wipe_cons, wkS, wk_lst, wkT, wk_dic, wk_enumS, wk_enumT, wk_enumL, wk_zipS, List.set_cons_zero, List.set_cons_succ, initEnv, List.map_cons, List.map_nil, List.length_cons, List.length_nil, List.replicate, List.cons_append, List.nil_append, Nat.reduceAdd, Nat.reduceSub, Nat.add_zero, Nat.zero_add, Bool.false_eq_true, if_true, if_false, ite_true, ite_false, List.zip_cons_cons, List.zip_nil_left, c_eq, c_ne, c_in, c_nin, c_le, c_gt, c_ge, c_lt, c_isN, c_nisN, c_isB, c_nisB, isNon_n, isNon_b, isNon_i, isNon_s, isNon_t, isNon_l, eqD_ss, eqD_ii, eqD_bb, inD_s, b_add, b_sub, neg_i, bi_isiS, bi_isiI, fl_i, fl_s, fl_t, fl_l, fls_n, fls_c, ty_ii, ty_bi, ty_ss, ty_tt, bi_lenS, bi_lenT, bi_lenL, bi_lenD, bi_tupL, bi_intI, ix_t0, ix_t1, ix_l0, ix_l1, ix_t3, sl_t3, sl_t2, sl_s1, Bool.not_true, Bool.not_false, Bool.and_true, Bool.true_and, Bool.and_self, decide_true, decide_false, turn_nm, turn_tp, rdI, rdS, rdB, rdN, rdT]
    rfl
end
end Mp

end Sec_MrD
section Sec_MrE
set_option autoImplicit false
set_option linter.all false
set_option maxHeartbeats 4000000
set_option maxRecDepth 100000
namespace Mp
open PySem
theorem isNon_optS (o : Option (List Nat)) : isNon (optS o) = o.isNone := by cases o <;> rfl
theorem d_bookE (zs : List Nat) (ls : List Lim) : D.tup [.str zs, .tup (ls.map Lim.d)] = bookD zs ls := rfl
/-- without the limit at a place -/
def wo (ls : List Lim) (j : Nat) : List Lim := ls.take j ++ ls.drop (j + 1)
theorem wo_mem {ls : List Lim} {j : Nat} : ∀ l ∈ wo ls j, l ∈ ls := fun l h => by
  rcases List.mem_append.mp h with h | h
  · exact List.mem_of_mem_take h
  · exact List.mem_of_mem_drop h
theorem wo_len (ls : List Lim) (j : Nat) : (wo ls j).length ≤ ls.length := by
  unfold wo
  simp
  omega
theorem sl_tN' {xs : List D} {i : Nat} (h : i ≤ xs.length) : slice (.tup xs) (some (i : Int)) none = .ok (.tup (xs.drop i)) := by
  show R.ok (D.tup (cut xs (some (i : Int)) none)) = _
  unfold cut
  rw [sIx_of _ _ _ h]
  have : sIx xs.length xs.length none = xs.length := rfl
  rw [this]
  congr 2
  rw [List.take_of_length_le]
  simp
section
variable {F : Str → Option Fn} {k : Nat} {zs : List Nat} {ls1 ls2 : List Lim}
theorem s_check_both (A : Alk F) (B : BookOk zs ls1) (B2 : BookOk zs ls2) : callF F (k + 6) "check_both" [bookD zs ls1, bookD zs ls2] = .ok .non := by
  rw [callF_run A.ho A.cbo rfl]
  simp only [f_check_both, rb_ok, rb_ex, rb_no, ro_ok, ro_ex, ro_no, ob_nx, ob_rt, ob_ex, ob_no, fin_rt, fin_nx, fin_ex, gv0, gvS, ev_var, rd_f, rd_t, ev_cst, ev_bin, ev_neg, ev_cmp, ev_chain, ev_and, ev_or, ev_not, ev_ite, ev_tup, ev_lst, ev_dct, ev_ix, ev_slice, ev_call, ev_bi, ev_meth, ev_comp, evs_nil, evs_cons, evp_nil, evp_cons, evo_none, evo_some, conds_nil, conds_cons, asBb, asI_int, blk_nil, blk_cons, ex_fz, ex_set, ex_unp, bdO_nil, bdO_cons, ex_mul, storeP_nil, storeP_cons, ex_put, ex_app, ex_exp, ex_ret, ex_raise, ex_ite, ex_for, forO_some, sv0, svS, fz_nil, fz_cons, fzAt0, fzAtS, fz1_s, fz1_n, wipe_nil, wipe_cons, wkS, wk_lst, wkT, wk_dic, wk_enumS, wk_enumT, wk_enumL, wk_zipS, List.set_cons_zero, List.set_cons_succ, initEnv, List.map_cons, List.map_nil, List.length_cons, List.length_nil, List.replicate, List.cons_append, List.nil_append, Nat.reduceAdd, Nat.reduceSub, Nat.add_zero, Nat.zero_add, Bool.false_eq_true, if_true, if_false, ite_true, ite_false, List.zip_cons_cons, List.zip_nil_left, c_eq, c_ne, c_in, c_nin, c_le, c_gt, c_ge, c_lt, c_isN, c_nisN, c_isB, c_nisB, isNon_n, isNon_b, isNon_i, isNon_s, isNon_t, isNon_l, eqD_ss, eqD_ii, eqD_bb, inD_s, b_add, b_sub, neg_i, bi_isiS, bi_isiI, fl_i, fl_s, fl_t, fl_l, fls_n, fls_c, ty_ii, ty_bi, ty_ss, ty_tt, bi_lenS, bi_lenT, bi_lenL, bi_lenD, bi_tupL, bi_intI, ix_t0, ix_t1, ix_l0, ix_l1, ix_t3, sl_t3, sl_t2, sl_s1, Bool.not_true, Bool.not_false, Bool.and_true, Bool.true_and, Bool.and_self, decide_true, decide_false, turn_nm, turn_tp, rdI, rdS, rdB, rdN, rdT, s_check_book A.toJud2.toChk B, s_check_book A.toJud2.toChk B2, ix_b0]
theorem s_parting (A : Alk F) (B : BookOk zs ls1) (B2 : BookOk zs ls2) : callF F (k + 7) "parting_calendar" [bookD zs ls1, bookD zs ls2] = .ok (optS (fp zs ls1 ls2)) := by
  have h := s_find_parting (k := k + 2) A B B2.all (Nat.le_trans B2.many (by decide))
  have c := s_check_both (k := k) A B B2
  rw [callF_run A.ho A.pca rfl]
  simp only [f_parting_calendar, rb_ok, rb_ex, rb_no, ro_ok, ro_ex, ro_no, ob_nx, ob_rt, ob_ex, ob_no, fin_rt, fin_nx, fin_ex, gv0, gvS, ev_var, rd_f, rd_t, ev_cst, ev_bin, ev_neg, ev_cmp, ev_chain, ev_and, ev_or, ev_not, ev_ite, ev_tup, ev_lst, ev_dct, ev_ix, ev_slice, ev_call, ev_bi, ev_meth, ev_comp, evs_nil, evs_cons, evp_nil, evp_cons, evo_none, evo_some, conds_nil, conds_cons, asBb, asI_int, blk_nil, blk_cons, ex_fz, ex_set, ex_unp, bdO_nil, bdO_cons, ex_mul, storeP_nil, storeP_cons, ex_put, ex_app, ex_exp, ex_ret, ex_raise, ex_ite, ex_for, forO_some, sv0, svS, fz_nil, fz_cons, fzAt0, fzAtS, fz1_s, fz1_n, wipe_nil, wipe_cons, wkS, wk_lst, wkT, wk_dic, wk_enumS, wk_enumT, wk_enumL, wk_zipS, List.set_cons_zero, List.set_cons_succ, initEnv, List.map_cons, List.map_nil, List.length_cons, List.length_nil, List.replicate, List.cons_append, List.nil_append, Nat.reduceAdd, Nat.reduceSub, Nat.add_zero, Nat.zero_add, Bool.false_eq_true, if_true, if_false, ite_true, ite_false, List.zip_cons_cons, List.zip_nil_left, c_eq, c_ne, c_in, c_nin, c_le, c_gt, c_ge, c_lt, c_isN, c_nisN, c_isB, c_nisB, isNon_n, isNon_b, isNon_i, isNon_s, isNon_t, isNon_l, eqD_ss, eqD_ii, eqD_bb, inD_s, b_add, b_sub, neg_i, bi_isiS, bi_isiI, fl_i, fl_s, fl_t, fl_l, fls_n, fls_c, ty_ii, ty_bi, ty_ss, ty_tt, bi_lenS, bi_lenT, bi_lenL, bi_lenD, bi_tupL, bi_intI, ix_t0, ix_t1, ix_l0, ix_l1, ix_t3, sl_t3, sl_t2, sl_s1, Bool.not_true, Bool.not_false, Bool.and_true, Bool.true_and, Bool.and_self, decide_true, decide_false, turn_nm, turn_tp, rdI, rdS, rdB, rdN, rdT, c, h]
theorem s_are_alike (A : Alk F) (B : BookOk zs ls1) (B2 : BookOk zs ls2) : callF F (k + 7) "are_alike" [bookD zs ls1, bookD zs ls2] = .ok (.bl (fp zs ls1 ls2).isNone) := by
  have h := s_find_parting (k := k + 2) A B B2.all (Nat.le_trans B2.many (by decide))
  have c := s_check_both (k := k) A B B2
  rw [callF_run A.ho A.aal rfl]
  simp only [f_are_alike, rb_ok, rb_ex, rb_no, ro_ok, ro_ex, ro_no, ob_nx, ob_rt, ob_ex, ob_no, fin_rt, fin_nx, fin_ex, gv0, gvS, ev_var, rd_f, rd_t, ev_cst, ev_bin, ev_neg, ev_cmp, ev_chain, ev_and, ev_or, ev_not, ev_ite, ev_tup, ev_lst, ev_dct, ev_ix, ev_slice, ev_call, ev_bi, ev_meth, ev_comp, evs_nil, evs_cons, evp_nil, evp_cons, evo_none, evo_some, conds_nil, conds_cons, asBb, asI_int, blk_nil, blk_cons, ex_fz, ex_set, ex_unp, bdO_nil, bdO_cons, ex_mul, storeP_nil, storeP_cons, ex_put, ex_app, ex_exp, ex_ret, ex_raise, ex_ite, ex_for, forO_some, sv0, svS, fz_nil, fz_cons, fzAt0, fzAtS, fz1_s, fz1_n, wipe_nil, wipe_cons, wkS, wk_lst, wkT, wk_dic, wk_enumS, wk_enumT, wk_enumL, wk_zipS, List.set_cons_zero, List.set_cons_succ, initEnv, List.map_cons, List.map_nil, List.length_cons, List.length_nil, List.replicate, List.cons_append, List.nil_append, Nat.reduceAdd, Nat.reduceSub, Nat.add_zero, Nat.zero_add, Bool.false_eq_true, if_true, if_false, ite_true, ite_false, List.zip_cons_cons, List.zip_nil_left, c_eq, c_ne, c_in, c_nin, c_le, c_gt, c_ge, c_lt, c_isN, c_nisN, c_isB, c_nisB, isNon_n, isNon_b, isNon_i, isNon_s, isNon_t, isNon_l, eqD_ss, eqD_ii, eqD_bb, inD_s, b_add, b_sub, neg_i, bi_isiS, bi_isiI, fl_i, fl_s, fl_t, fl_l, fls_n, fls_c, ty_ii, ty_bi, ty_ss, ty_tt, bi_lenS, bi_lenT, bi_lenL, bi_lenD, bi_tupL, bi_intI, ix_t0, ix_t1, ix_l0, ix_l1, ix_t3, sl_t3, sl_t2, sl_s1, Bool.not_true, Bool.not_false, Bool.and_true, Bool.true_and, Bool.and_self, decide_true, decide_false, turn_nm, turn_tp, rdI, rdS, rdB, rdN, rdT, c, h, isNon_optS]
theorem s_obeys (A : Alk F) (B : BookOk zs ls1) (B2 : BookOk zs ls2) : callF F (k + 5) "obeys" [bookD zs ls1, bookD zs ls2] = .ok (.bl (fp zs ls1 (ls1 ++ ls2)).isNone) := by
  have lg := line_ge
  have m1 := B.many
  have m2 := B2.many
  have h := s_find_parting (k := k) A B (ls2 := ls1 ++ ls2) (fun l hl => by
    rcases List.mem_append.mp hl with h | h
    · exact B.all l h
    · exact B2.all l h) (by simp; omega)
  have e := b_addt (x := ls1.map Lim.d) (y := ls2.map Lim.d) (by simp; omega)
  rw [← List.map_append] at e
  rw [callF_run A.ho A.obe rfl]
  simp only [f_obeys, rb_ok, rb_ex, rb_no, ro_ok, ro_ex, ro_no, ob_nx, ob_rt, ob_ex, ob_no, fin_rt, fin_nx, fin_ex, gv0, gvS, ev_var, rd_f, rd_t, ev_cst, ev_bin, ev_neg, ev_cmp, ev_chain, ev_and, ev_or, ev_not, ev_ite, ev_tup, ev_lst, ev_dct, ev_ix, ev_slice, ev_call, ev_bi, ev_meth, ev_comp, evs_nil, evs_cons, evp_nil, evp_cons, evo_none, evo_some, conds_nil, conds_cons, asBb, asI_int, blk_nil, blk_cons, ex_fz, ex_set, ex_unp, bdO_nil, bdO_cons, ex_mul, storeP_nil, storeP_cons, ex_put, ex_app, ex_exp, ex_ret, ex_raise, ex_ite, ex_for, forO_some, sv0, svS, fz_nil, fz_cons, fzAt0, fzAtS, fz1_s, fz1_n, wipe_nil, wipe_cons, wkS, wk_lst, wkT, wk_dic, wk_enumS, wk_enumT, wk_enumL, wk_zipS, List.set_cons_zero, List.set_cons_succ, initEnv, List.map_cons, List.map_nil, List.length_cons, List.length_nil, List.replicate, List.cons_append, List.nil_append, Nat.reduceAdd, Nat.reduceSub, Nat.add_zero, Nat.zero_add, Bool.false_eq_true, if_true, if_false, ite_true, ite_false, List.zip_cons_cons, List.zip_nil_left, c_eq, c_ne, c_in, c_nin, c_le, c_gt, c_ge, c_lt, c_isN, c_nisN, c_isB, c_nisB, isNon_n, isNon_b, isNon_i, isNon_s, isNon_t, isNon_l, eqD_ss, eqD_ii, eqD_bb, inD_s, b_add, b_sub, neg_i, bi_isiS, bi_isiI, fl_i, fl_s, fl_t, fl_l, fls_n, fls_c, ty_ii, ty_bi, ty_ss, ty_tt, bi_lenS, bi_lenT, bi_lenL, bi_lenD, bi_tupL, bi_intI, ix_t0, ix_t1, ix_l0, ix_l1, ix_t3, sl_t3, sl_t2, sl_s1, Bool.not_true, Bool.not_false, Bool.and_true, Bool.true_and, Bool.and_self, decide_true, decide_false, turn_nm, turn_tp, rdI, rdS, rdB, rdN, rdT, ix_b0, ix_b1, e, d_bookE, h, isNon_optS]
def stric (zs : List Nat) (ls1 ls2 : List Lim) : Bool := (fp zs ls1 (ls1 ++ ls2)).isNone && !(fp zs ls2 (ls2 ++ ls1)).isNone
theorem s_stricter (A : Alk F) (B : BookOk zs ls1) (B2 : BookOk zs ls2) : callF F (k + 7) "is_stricter" [bookD zs ls1, bookD zs ls2] = .ok (.bl (stric zs ls1 ls2)) := by
  have c := s_check_both (k := k) A B B2
  have h1 := s_obeys (k := k + 1) A B B2
  have h2 := s_obeys (k := k + 1) A B2 B
  rw [callF_run A.ho A.str rfl]
  unfold stric
  cases q : (fp zs ls1 (ls1 ++ ls2)).isNone with
  | false =>
    rw [q] at h1
    simp only [f_is_stricter, rb_ok, rb_ex, rb_no, ro_ok, ro_ex, ro_no, ob_nx, ob_rt, ob_ex, ob_no, fin_rt, fin_nx, fin_ex, gv0, gvS, ev_var, rd_f, rd_t, ev_cst, ev_bin, ev_neg, ev_cmp, ev_chain, ev_and, ev_or, ev_not, ev_ite, ev_tup, ev_lst, ev_dct, ev_ix, ev_slice, ev_call, ev_bi, ev_meth, ev_comp, evs_nil, evs_cons, evp_nil, evp_cons, evo_none, evo_some, conds_nil, conds_cons, asBb, asI_int, blk_nil, blk_cons, ex_fz, ex_set, ex_unp, bdO_nil, bdO_cons, ex_mul, storeP_nil, storeP_cons, ex_put, ex_app, ex_exp, ex_ret, ex_raise, ex_ite, ex_for, forO_some, sv0, svS, fz_nil, fz_cons, fzAt0, fzAtS, fz1_s, fz1_n, wipe_nil, wipe_cons, wkS, wk_lst, wkT, wk_dic, wk_enumS, wk_enumT, wk_enumL, wk_zipS, List.set_cons_zero, List.set_cons_succ, initEnv, List.map_cons, List.map_nil, List.length_cons, List.length_nil, List.replicate, List.cons_append, List.nil_append, Nat.reduceAdd, Nat.reduceSub, Nat.add_zero, Nat.zero_add, Bool.false_eq_true, if_true, if_false, ite_true, ite_false, List.zip_cons_cons, List.zip_nil_left, c_eq, c_ne, c_in, c_nin, c_le, c_gt, c_ge, c_lt, c_isN, c_nisN, c_isB, c_nisB, isNon_n, isNon_b, isNon_i, isNon_s, isNon_t, isNon_l, eqD_ss, eqD_ii, eqD_bb, inD_s, b_add, b_sub, neg_i, bi_isiS, bi_isiI, fl_i, fl_s, fl_t, fl_l, fls_n, fls_c, ty_ii, ty_bi, ty_ss, ty_tt, bi_lenS, bi_lenT, bi_lenL, bi_lenD, bi_tupL, bi_intI, ix_t0, ix_t1, ix_l0, ix_l1, ix_t3, sl_t3, sl_t2, sl_s1, Bool.not_true, Bool.not_false, Bool.and_true, Bool.true_and, Bool.and_self, decide_true, decide_false, turn_nm, turn_tp, rdI, rdS, rdB, rdN, rdT, c, h1, Bool.false_and]
  | true =>
    rw [q] at h1
    simp only [f_is_stricter, rb_ok, rb_ex, rb_no, ro_ok, ro_ex, ro_no, ob_nx, ob_rt, ob_ex, ob_no, fin_rt, fin_nx, fin_ex, gv0, gvS, ev_var, rd_f, rd_t, ev_cst, ev_bin, ev_neg, ev_cmp, ev_chain, ev_and, ev_or, ev_not, ev_ite, ev_tup, ev_lst, ev_dct, ev_ix, ev_slice, ev_call, ev_bi, ev_meth, ev_comp, evs_nil, evs_cons, evp_nil, evp_cons, evo_none, evo_some, conds_nil, conds_cons, asBb, asI_int, blk_nil, blk_cons, ex_fz, ex_set, ex_unp, bdO_nil, bdO_cons, ex_mul, storeP_nil, storeP_cons, ex_put, ex_app, ex_exp, ex_ret, ex_raise, ex_ite, ex_for, forO_some, sv0, svS, fz_nil, fz_cons, fzAt0, fzAtS, fz1_s, fz1_n, wipe_nil, wipe_cons, wkS, wk_lst, wkT, wk_dic, wk_enumS, wk_enumT, wk_enumL, wk_zipS, List.set_cons_zero, List.set_cons_succ, initEnv, List.map_cons, List.map_nil, List.length_cons, List.length_nil, List.replicate, List.cons_append, List.nil_append, Nat.reduceAdd, Nat.reduceSub, Nat.add_zero, Nat.zero_add, Bool.false_eq_true, if_true, if_false, ite_true, ite_false, List.zip_cons_cons, List.zip_nil_left, c_eq, c_ne, c_in, c_nin, c_le, c_gt, c_ge, c_lt, c_isN, c_nisN, c_isB, c_nisB, isNon_n, isNon_b, isNon_i, isNon_s, isNon_t, isNon_l, eqD_ss, eqD_ii, eqD_bb, inD_s, b_add, b_sub, neg_i, bi_isiS, bi_isiI, fl_i, fl_s, fl_t, fl_l, fls_n, fls_c, ty_ii, ty_bi, ty_ss, ty_tt, bi_lenS, bi_lenT, bi_lenL, bi_lenD, bi_tupL, bi_intI, ix_t0, ix_t1, ix_l0, ix_l1, ix_t3, sl_t3, sl_t2, sl_s1, Bool.not_true, Bool.not_false, Bool.and_true, Bool.true_and, Bool.and_self, decide_true, decide_false, turn_nm, turn_tp, rdI, rdS, rdB, rdN, rdT, c, h1, h2]
theorem s_without (A : Alk F) (B : BookOk zs ls1) {j : Nat} (hj : j < ls1.length) : callF F (k + 1) "without_limit" [bookD zs ls1, .int (j : Nat)] = .ok (bookD zs (wo ls1 j)) := by
  have lg := line_ge
  have hm := B.many
  have e1 := sl_tTo (xs := ls1.map Lim.d) (i := j) (by simp; omega)
  have e2 := sl_tN' (xs := ls1.map Lim.d) (i := j + 1) (by simp; omega)
  have e2 : slice (.tup (ls1.map Lim.d)) (some ((j : Int) + 1)) none = _ := e2
  have e3 := b_addt (x := (ls1.map Lim.d).take j) (y := (ls1.map Lim.d).drop (j + 1)) (by simp; omega)
  have e4 : (ls1.map Lim.d).take j ++ (ls1.map Lim.d).drop (j + 1) = (wo ls1 j).map Lim.d := by
    unfold wo
    rw [List.map_append, List.map_take, List.map_drop]
  rw [e4] at e3
  rw [callF_run A.ho A.wol rfl]
  simp only [f_without_limit, rb_ok, rb_ex, rb_no, ro_ok, ro_ex, ro_no, ob_nx, ob_rt, ob_ex, ob_no, fin_rt, fin_nx, fin_ex, gv0, gvS, ev_var, rd_f, rd_t, ev_cst, ev_bin, ev_neg, ev_cmp, ev_chain, ev_and, ev_or, ev_not, ev_ite, ev_tup, ev_lst, ev_dct, ev_ix, ev_slice, ev_call, ev_bi, ev_meth, ev_comp, evs_nil, evs_cons, evp_nil, evp_cons, evo_none, evo_some, conds_nil, conds_cons, asBb, asI_int, blk_nil, blk_cons, ex_fz, ex_set, ex_unp, bdO_nil, bdO_cons, ex_mul, storeP_nil, storeP_cons, ex_put, ex_app, ex_exp, ex_ret, ex_raise, ex_ite, ex_for, forO_some, sv0, svS, fz_nil, fz_cons, fzAt0, fzAtS, fz1_s, fz1_n, wipe_nil, wipe_cons, wkS, wk_lst, wkT, wk_dic, wk_enumS, wk_enumT, wk_enumL, wk_zipS, List.set_cons_zero, List.set_cons_succ, initEnv, List.map_cons, List.map_nil, List.length_cons, List.length_nil, List.replicate, List.cons_append, List.nil_append, Nat.reduceAdd, Nat.reduceSub, Nat.add_zero, Nat.zero_add, Bool.false_eq_true, if_true, if_false, ite_true, ite_false, List.zip_cons_cons, List.zip_nil_left, c_eq, c_ne, c_in, c_nin, c_le, c_gt, c_ge, c_lt, c_isN, c_nisN, c_isB, c_nisB, isNon_n, isNon_b, isNon_i, isNon_s, isNon_t, isNon_l, eqD_ss, eqD_ii, eqD_bb, inD_s, b_add, b_sub, neg_i, bi_isiS, bi_isiI, fl_i, fl_s, fl_t, fl_l, fls_n, fls_c, ty_ii, ty_bi, ty_ss, ty_tt, bi_lenS, bi_lenT, bi_lenL, bi_lenD, bi_tupL, bi_intI, ix_t0, ix_t1, ix_l0, ix_l1, ix_t3, sl_t3, sl_t2, sl_s1, Bool.not_true, Bool.not_false, Bool.and_true, Bool.true_and, Bool.and_self, decide_true, decide_false, turn_nm, turn_tp, rdI, rdS, rdB, rdN, rdT, ix_b0, ix_b1, e1, e2, e3, d_bookE]
def idl (zs : List Nat) (ls : List Lim) : List Nat := (List.range ls.length).filter fun j => (fp zs ls (wo ls j)).isNone
theorem s_idle (A : Alk F) (B : BookOk zs ls1) : callF F (k + 6) "idle_limits" [bookD zs ls1] = .ok (.lst ((idl zs ls1).map fun (j : Nat) => D.int (j : Nat))) := by
  have lg := line_ge
  have hm := B.many
  have c := s_check_book (k := k) A.toJud2.toChk B
  rw [callF_run A.ho A.idl rfl]
  simp only [f_idle_limits, rb_ok, rb_ex, rb_no, ro_ok, ro_ex, ro_no, ob_nx, ob_rt, ob_ex, ob_no, fin_rt, fin_nx, fin_ex, gv0, gvS, ev_var, rd_f, rd_t, ev_cst, ev_bin, ev_neg, ev_cmp, ev_chain, ev_and, ev_or, ev_not, ev_ite, ev_tup, ev_lst, ev_dct, ev_ix, ev_slice, ev_call, ev_bi, ev_meth, ev_comp, evs_nil, evs_cons, evp_nil, evp_cons, evo_none, evo_some, conds_nil, conds_cons, asBb, asI_int, blk_nil, blk_cons, ex_fz, ex_set, ex_unp, bdO_nil, bdO_cons, ex_mul, storeP_nil, storeP_cons, ex_put, ex_app, ex_exp, ex_ret, ex_raise, ex_ite, ex_for, forO_some, sv0, svS, fz_nil, fz_cons, fzAt0, fzAtS, fz1_s, fz1_n, wipe_nil, wipe_cons, wkS, wk_lst, wkT, wk_dic, wk_enumS, wk_enumT, wk_enumL, wk_zipS, List.set_cons_zero, List.set_cons_succ, initEnv, List.map_cons, List.map_nil, List.length_cons, List.length_nil, List.replicate, List.cons_append, List.nil_append, Nat.reduceAdd, Nat.reduceSub, Nat.add_zero, Nat.zero_add, Bool.false_eq_true, if_true, if_false, ite_true, ite_false, List.zip_cons_cons, List.zip_nil_left, c_eq, c_ne, c_in, c_nin, c_le, c_gt, c_ge, c_lt, c_isN, c_nisN, c_isB, c_nisB, isNon_n, isNon_b, isNon_i, isNon_s, isNon_t, isNon_l, eqD_ss, eqD_ii, eqD_bb, inD_s, b_add, b_sub, neg_i, bi_isiS, bi_isiI, fl_i, fl_s, fl_t, fl_l, fls_n, fls_c, ty_ii, ty_bi, ty_ss, ty_tt, bi_lenS, bi_lenT, bi_lenL, bi_lenD, bi_tupL, bi_intI, ix_t0, ix_t1, ix_l0, ix_l1, ix_t3, sl_t3, sl_t2, sl_s1, Bool.not_true, Bool.not_false, Bool.and_true, Bool.true_and, Bool.and_self, decide_true, decide_false, turn_nm, turn_tp, rdI, rdS, rdB, rdN, rdT, c, ix_b1, List.length_map, wk_rng (small_nat (show ls1.length ≤ 1000 by omega)), Int.toNat_natCast, rngUp0]
  rw [comL_map (f := fun j : Nat => if (fp zs ls1 (wo ls1 j)).isNone = true then some (D.int (j : Nat)) else none) (by simp; omega) (fun j hj => by
    have hj : j < ls1.length := List.mem_range.mp hj
    have w := s_without (k := k + 4) A B hj
    have h := s_find_parting (k := k + 1) A B (ls2 := wo ls1 j) (fun l hl => B.all l (wo_mem l hl)) (Nat.le_trans (wo_len ls1 j) (by omega))
    simp only [rb_ok, rb_ex, rb_no, ro_ok, ro_ex, ro_no, ob_nx, ob_rt, ob_ex, ob_no, fin_rt, fin_nx, fin_ex, gv0, gvS, ev_var, rd_f, rd_t, ev_cst, ev_bin, ev_neg, ev_cmp, ev_chain, ev_and, ev_or, ev_not, ev_ite, ev_tup, ev_lst, ev_dct, ev_ix, ev_slice, ev_call, ev_bi, ev_meth, ev_comp, evs_nil, evs_cons, evp_nil, evp_cons, evo_none, evo_some, conds_nil, conds_cons, asBb, asI_int, blk_nil, blk_cons, ex_fz, ex_set, ex_unp, bdO_nil, bdO_cons, ex_mul, storeP_nil, storeP_cons, ex_put, ex_app, ex_exp, ex_ret, ex_raise, ex_ite, ex_for, forO_some, sv0, svS, fz_nil, fz_cons, fzAt0, fzAtS, fz1_s, fz1_n, wipe_nil, wipe_cons, wkS, wk_lst, wkT, wk_dic, wk_enumS, wk_enumT, wk_enumL, wk_zipS, List.set_cons_zero, List.set_cons_succ, initEnv, List.map_cons, List.map_nil, List.length_cons, List.length_nil, List.replicate, List.cons_append, List.nil_append, Nat.reduceAdd, Nat.reduceSub, Nat.add_zero, Nat.zero_add, Bool.false_eq_true, if_true, if_false, ite_true, ite_false, List.zip_cons_cons, List.zip_nil_left, c_eq, c_ne, c_in, c_nin, c_le, c_gt, c_ge, c_lt, c_isN, c_nisN, c_isB, c_nisB, isNon_n, isNon_b, isNon_i, isNon_s, isNon_t, isNon_l, eqD_ss, eqD_ii, eqD_bb, inD_s, b_add, b_sub, neg_i, bi_isiS, bi_isiI, fl_i, fl_s, fl_t, fl_l, fls_n, fls_c, ty_ii, ty_bi, ty_ss, ty_tt, bi_lenS, bi_lenT, bi_lenL, bi_lenD, bi_tupL, bi_intI, ix_t0, ix_t1, ix_l0, ix_l1, ix_t3, sl_t3, sl_t2, sl_s1, Bool.not_true, Bool.not_false, Bool.and_true, Bool.true_and, Bool.and_self, decide_true, decide_false, turn_nm, turn_tp, rdI, rdS, rdB, rdN, rdT, w, h, isNon_optS]
    by_cases z : (fp zs ls1 (wo ls1 j)).isNone = true <;> simp [z, rb_ok, rb_ex, rb_no, ro_ok, ro_ex, ro_no, ob_nx, ob_rt, ob_ex, ob_no, fin_rt, fin_nx, fin_ex, gv0, gvS, ev_var, rd_f, rd_t, ev_cst, ev_bin, ev_neg, ev_cmp, ev_chain, ev_and, ev_or, ev_not, ev_ite, ev_tup, ev_lst, ev_dct, ev_ix, ev_slice, ev_call, ev_bi, ev_meth, ev_comp, evs_nil, evs_cons, evp_nil, evp_cons, evo_none, evo_some, conds_nil, conds_cons, asBb, asI_int, blk_nil, blk_cons, ex_fz, ex_set, ex_unp, bdO_nil, bdO_cons, ex_mul, storeP_nil, storeP_cons, ex_put, ex_app, ex_exp, ex_ret, ex_raise, ex_ite, ex_for, forO_some, sv0, svS, fz_nil, fz_cons, fzAt0, fzAtS, fz1_s, fz1_n, wipe_nil, wipe_cons, wkS, wk_lst, wkT, wk_dic, wk_enumS, wk_enumT, wk_enumL, wk_zipS, List.set_cons_zero, List.set_cons_succ, initEnv, List.map_cons, List.map_nil, List.length_cons, List.length_nil, List.replicate, List.cons_append, List.nil_append, Nat.reduceAdd, Nat.reduceSub, Nat.add_zero, Nat.zero_add, Bool.false_eq_true, if_true, if_false, ite_true, ite_false, List.zip_cons_cons, List.zip_nil_left, c_eq, c_ne, c_in, c_nin, c_le, c_gt, c_ge, c_lt, c_isN, c_nisN, c_isB, c_nisB, isNon_n, isNon_b, isNon_i, isNon_s, isNon_t, isNon_l, eqD_ss, eqD_ii, eqD_bb, inD_s, b_add, b_sub, neg_i, bi_isiS, bi_isiI, fl_i, fl_s, fl_t, fl_l, fls_n, fls_c, ty_ii, ty_bi, ty_ss, ty_tt, bi_lenS, bi_lenT, bi_lenL, bi_lenD, bi_tupL, bi_intI, ix_t0, ix_t1, ix_l0, ix_l1, ix_t3, sl_t3, sl_t2, sl_s1, Bool.not_true, Bool.not_false, Bool.and_true, Bool.true_and, Bool.and_self, decide_true, decide_false, turn_nm, turn_tp, rdI, rdS, rdB, rdN, rdT])]
  rw [filterMap_if (fun j : Nat => (fp zs ls1 (wo ls1 j)).isNone) (fun j => D.int (j : Nat))]
  rfl
end
/-! ### what alike means -/
def Al (zs : List Nat) (ls1 ls2 : List Lim) : Prop := ∀ x, CalOk zs x → okC ls1 never x = okC ls2 never x
theorem Wd_cal {zs x : List Nat} : Wd (46 :: zs) x ↔ CalOk zs x := by
  unfold Wd CalOk
  simp
theorem alike_iff {zs : List Nat} (hz : zs = [97] ∨ zs = [97, 98]) (ls1 ls2 : List Lim) : (fp zs ls1 ls2).isNone = true ↔ Al zs ls1 ls2 := by
  have h := fp_spec hz ls1 ls2
  cases e : fp zs ls1 ls2 with
  | none =>
    rw [e] at h
    exact ⟨fun _ x hx => h x (Wd_cal.mpr hx), fun _ => rfl⟩
  | some y =>
    rw [e] at h
    obtain ⟨x, d, h1, h2, h3, h4, h5, _⟩ := h
    refine ⟨fun q => (by cases q), fun q => ?_⟩
    exact absurd (q y (Wd_cal.mp h2)) h5
theorem canF_app (ls1 ls2 : List Lim) (p : List Nat) (d : Nat) : canF (ls1 ++ ls2) p d = (canF ls1 p d && canF ls2 p d) := by
  unfold canF
  rw [List.any_append, Bool.not_or]
theorem okC_both (ls1 ls2 : List Lim) : ∀ (x p : List Nat), okC (ls1 ++ ls2) p x = (okC ls1 p x && okC ls2 p x)
  | [], _ => rfl
  | d :: x, p => by
    show (canF (ls1 ++ ls2) p d && okC (ls1 ++ ls2) (p.tail ++ [d]) x) = ((canF ls1 p d && okC ls1 (p.tail ++ [d]) x) && (canF ls2 p d && okC ls2 (p.tail ++ [d]) x))
    rw [canF_app, okC_both ls1 ls2 x]
    cases canF ls1 p d <;> cases canF ls2 p d <;> cases okC ls1 (p.tail ++ [d]) x <;> cases okC ls2 (p.tail ++ [d]) x <;> rfl
theorem obeys_iff {zs : List Nat} (hz : zs = [97] ∨ zs = [97, 98]) (ls1 ls2 : List Lim) : (fp zs ls1 (ls1 ++ ls2)).isNone = true ↔ ∀ x, CalOk zs x → okC ls1 never x = true → okC ls2 never x = true := by
  rw [alike_iff hz]
  constructor
  · intro h x hx h1
    have := h x hx
    rw [okC_both, h1] at this
    simpa using this.symm
  · intro h x hx
    rw [okC_both]
    cases q : okC ls1 never x with
    | false => rfl
    | true => rw [h x hx q]; rfl
end Mp

end Sec_MrE
section Sec_MrF
set_option autoImplicit false
set_option linter.all false
set_option maxHeartbeats 4000000
set_option maxRecDepth 100000
namespace Mp
open PySem
def popO (a : Slot) (ρ : Env) (t i : Nat) : Out := match a with
  | some (.lst xs, true) => if t = i then .no else match xs.getLast? with
    | some d => .nx (setv (setv ρ i (.lst xs.dropLast) true) t d false)
    | none => .no
  | _ => .no
theorem ex_pop {ow : Str → Bool} {cf : Str → List D → R D} {n : Nat} {ρ : Env} (t i : Nat) : ex ow cf (n + 1) (.pop t i) ρ = popO (getv ρ i) ρ t i := by
  simp only [ex]
  rfl
theorem popO_ok {xs : List D} {d : D} {ρ : Env} {t i : Nat} (h : t ≠ i) : popO (some (.lst (xs ++ [d]), true)) ρ t i = .nx (setv (setv ρ i (.lst xs) true) t d false) := by
  unfold popO
  simp only [if_neg h, List.getLast?_append, List.getLast?_singleton, Option.some_or, List.dropLast_concat]
theorem ix_lim1 (l : Lim) : ix l.d (.int 1) = .ok (.str l.z) := by
  cases l <;> exact ix_t1 _ _ _
def RB (zs : List Nat) (ls : List Lim) : Prop := ∀ Ks : List (List Nat), Ks.Nodup → (∀ p ∈ Ks, ∃ x, Wd (46 :: zs) x ∧ run never x = p ∧ okC ls never x = true) → Ks.length ≤ 60
structure LB (zs : List Nat) (ls : List Lim) (known : List (List Nat × Unit)) (left : List (List Nat)) : Prop where
  a : never ∈ gkeys known ∨ never ∈ left
  b : ∀ p ∈ gkeys known, ∀ d ∈ 46 :: zs, canF ls p d = true → p.tail ++ [d] ∈ gkeys known ∨ p.tail ++ [d] ∈ left
  c : ∀ p ∈ left, p.length = 5
  e : left.length ≤ 1 + 3 * known.length
def uD (_ : Unit) : D := .bl true
theorem LB.rb {zs : List Nat} {ls : List Lim} {known : List (List Nat × Unit)} (L : LB zs ls known []) (hl : known.length ≤ 60) : RB zs ls := fun Ks nd h => by
  have main : ∀ (m : Nat) (x : List Nat), x.length = m → Wd (46 :: zs) x → okC ls never x = true → run never x ∈ gkeys known := fun m => by
    induction m with
    | zero =>
      intro x hx _ _
      have : x = [] := List.eq_nil_of_length_eq_zero hx
      subst this
      rcases L.a with h | h
      · exact h
      · cases h
    | succ m ih =>
      intro x hx hw ho
      obtain ⟨y, d, rfl⟩ : ∃ y d, x = y ++ [d] := by
        have hx0 : x ≠ [] := fun e => by rw [e] at hx; cases hx
        exact ⟨x.dropLast, x.getLast hx0, (List.dropLast_concat_getLast hx0).symm⟩
      rw [okC_snoc, Bool.and_eq_true] at ho
      have h1 := ih y (by simpa using hx) (fun c hc => hw c (List.mem_append_left _ hc)) ho.1
      rw [run_snoc]
      rcases L.b _ h1 d (hw d (by simp)) ho.2 with h | h
      · exact h
      · cases h
  have : Ks.length ≤ (gkeys known).length := nodup_len _ _ nd fun p hp => by
    obtain ⟨x, h1, h2, h3⟩ := h p hp
    rw [← h2]
    exact main x.length x rfl h1 h3
  unfold gkeys at this
  rw [List.length_map] at this
  omega
theorem RB_a (ls : List Lim) : RB [97] ls := fun Ks nd h => by
  have := words_le (D := [46, 97]) (by simp) nd fun p hp => by
    obtain ⟨x, h1, h2, _⟩ := h p hp
    exact ⟨x, h1, h2⟩
  rw [pastsU_a] at this
  omega
structure LawB (F : Str → Option Fn) : Prop where
  toDraw : Draw F
  toLawD : LawD F
  bk : Has F "_law_book" f__law_book
section
variable {F : Str → Option Fn} {k : Nat} {zs : List Nat} {ls : List Lim}
def lb_body : List S := whlB f__law_book.body
def lb_cond : E := .and (.cmp .ne (.var 5) (.lst [])) (.cmp .le (.bi .len [(.var 4)]) (.cst (.int (60))))
def lb_while : S := .whl lb_cond lb_body
theorem lb_loop (R : LawB F) (B : BookOk zs ls) (m : Nat) (s0 s1 s2 : Slot) : ∀ (n : Nat) (known : List (List Nat × Unit)) (left : List (List Nat)) (s6 s7 s8 s9 s10 : Slot), LB zs ls known left → known.length ≤ 61 → 4 * (61 - known.length) + left.length ≤ n →
    ∃ (known' : List (List Nat × Unit)) (s5' s6' s7' s8' s9' s10' : Slot), (known'.length ≤ 60 → RB zs ls) ∧
      ex noOw (callF F (k + 3)) (m + n + 61) lb_while [s0, s1, s2, some (bookD zs ls, false), some (.dic (gl uD known), true), some (.lst (left.map D.str), true), s6, s7, s8, s9, s10]
      = .nx [s0, s1, s2, some (bookD zs ls, false), some (.dic (gl uD known'), true), s5', s6', s7', s8', s9', s10'] := fun n => by
  have lg := line_ge
  have hz : zs.length ≤ 2 := by rcases B.zo with rfl | rfl <;> decide
  have ewh : lb_while = .whl lb_cond lb_body := rfl
  have cnd : ∀ (M : Nat) (known : List (List Nat × Unit)) (left : List (List Nat)) (s6 s7 s8 s9 s10 : Slot), ev (callF F (k + 3)) (M + 60) true lb_cond [s0, s1, s2, some (bookD zs ls, false), some (.dic (gl uD known), true), some (.lst (left.map D.str), true), s6, s7, s8, s9, s10] = .ok (.bl (!left.isEmpty && decide (known.length ≤ 60))) := fun M known left s6 s7 s8 s9 s10 => by
    have em := eqD_empS left
    have hd : decide (((known.length : Nat) : Int) ≤ 60) = decide (known.length ≤ 60) := by
      rw [decide_eq_decide]
      omega
    cases q : left.isEmpty with
    | true =>
      rw [q] at em
      simp only [lb_cond, rb_ok, rb_ex, rb_no, ro_ok, ro_ex, ro_no, ob_nx, ob_rt, ob_ex, ob_no, fin_rt, fin_nx, fin_ex, gv0, gvS, ev_var, rd_f, rd_t, ev_cst, ev_bin, ev_neg, ev_cmp, ev_chain, ev_and, ev_or, ev_not, ev_ite, ev_tup, ev_lst, ev_dct, ev_ix, ev_slice, ev_call, ev_bi, ev_meth, ev_comp, evs_nil, evs_cons, evp_nil, evp_cons, evo_none, evo_some, conds_nil, conds_cons, asBb, asI_int, blk_nil, blk_cons, ex_fz, ex_set, ex_unp, bdO_nil, bdO_cons, ex_mul, storeP_nil, storeP_cons, ex_put, ex_app, ex_exp, ex_ret, ex_raise, ex_ite, ex_for, forO_some, sv0, svS, fz_nil, fz_cons, fzAt0, fzAtS, fz1_s, fz1_n, wipe_nil, wipe_cons, wkS, wk_lst, wkT, wk_dic, wk_enumS, wk_enumT, wk_enumL, wk_zipS, List.set_cons_zero, List.set_cons_succ, initEnv, List.map_cons, List.map_nil, List.length_cons, List.length_nil, List.replicate, List.cons_append, List.nil_append, Nat.reduceAdd, Nat.reduceSub, Nat.add_zero, Nat.zero_add, Bool.false_eq_true, if_true, if_false, ite_true, ite_false, List.zip_cons_cons, List.zip_nil_left, c_eq, c_ne, c_in, c_nin, c_le, c_gt, c_ge, c_lt, c_isN, c_nisN, c_isB, c_nisB, isNon_n, isNon_b, isNon_i, isNon_s, isNon_t, isNon_l, eqD_ss, eqD_ii, eqD_bb, inD_s, b_add, b_sub, neg_i, bi_isiS, bi_isiI, fl_i, fl_s, fl_t, fl_l, fls_n, fls_c, ty_ii, ty_bi, ty_ss, ty_tt, bi_lenS, bi_lenT, bi_lenL, bi_lenD, bi_tupL, bi_intI, ix_t0, ix_t1, ix_l0, ix_l1, ix_t3, sl_t3, sl_t2, sl_s1, Bool.not_true, Bool.not_false, Bool.and_true, Bool.true_and, Bool.and_self, decide_true, decide_false, turn_nm, turn_tp, rdI, rdS, rdB, rdN, rdT, rd_t, em, Bool.false_and]
    | false =>
      rw [q] at em
      simp only [lb_cond, rb_ok, rb_ex, rb_no, ro_ok, ro_ex, ro_no, ob_nx, ob_rt, ob_ex, ob_no, fin_rt, fin_nx, fin_ex, gv0, gvS, ev_var, rd_f, rd_t, ev_cst, ev_bin, ev_neg, ev_cmp, ev_chain, ev_and, ev_or, ev_not, ev_ite, ev_tup, ev_lst, ev_dct, ev_ix, ev_slice, ev_call, ev_bi, ev_meth, ev_comp, evs_nil, evs_cons, evp_nil, evp_cons, evo_none, evo_some, conds_nil, conds_cons, asBb, asI_int, blk_nil, blk_cons, ex_fz, ex_set, ex_unp, bdO_nil, bdO_cons, ex_mul, storeP_nil, storeP_cons, ex_put, ex_app, ex_exp, ex_ret, ex_raise, ex_ite, ex_for, forO_some, sv0, svS, fz_nil, fz_cons, fzAt0, fzAtS, fz1_s, fz1_n, wipe_nil, wipe_cons, wkS, wk_lst, wkT, wk_dic, wk_enumS, wk_enumT, wk_enumL, wk_zipS, List.set_cons_zero, List.set_cons_succ, initEnv, List.map_cons, List.map_nil, List.length_cons, List.length_nil, List.replicate, List.cons_append, List.nil_append, Nat.reduceAdd, Nat.reduceSub, Nat.add_zero, Nat.zero_add, Bool.false_eq_true, if_true, if_false, ite_true, ite_false, List.zip_cons_cons, List.zip_nil_left, c_eq, c_ne, c_in, c_nin, c_le, c_gt, c_ge, c_lt, c_isN, c_nisN, c_isB, c_nisB, isNon_n, isNon_b, isNon_i, isNon_s, isNon_t, isNon_l, eqD_ss, eqD_ii, eqD_bb, inD_s, b_add, b_sub, neg_i, bi_isiS, bi_isiI, fl_i, fl_s, fl_t, fl_l, fls_n, fls_c, ty_ii, ty_bi, ty_ss, ty_tt, bi_lenS, bi_lenT, bi_lenL, bi_lenD, bi_tupL, bi_intI, ix_t0, ix_t1, ix_l0, ix_l1, ix_t3, sl_t3, sl_t2, sl_s1, Bool.not_true, Bool.not_false, Bool.and_true, Bool.true_and, Bool.and_self, decide_true, decide_false, turn_nm, turn_tp, rdI, rdS, rdB, rdN, rdT, rd_t, em, g_len, hd]
  -- where the loop ends
  have ends : ∀ (M : Nat) (known : List (List Nat × Unit)) (left : List (List Nat)) (s6 s7 s8 s9 s10 : Slot), LB zs ls known left → (!left.isEmpty && decide (known.length ≤ 60)) = false →
      ∃ (known' : List (List Nat × Unit)) (s5' s6' s7' s8' s9' s10' : Slot), (known'.length ≤ 60 → RB zs ls) ∧
      ex noOw (callF F (k + 3)) (M + 61) lb_while [s0, s1, s2, some (bookD zs ls, false), some (.dic (gl uD known), true), some (.lst (left.map D.str), true), s6, s7, s8, s9, s10]
      = .nx [s0, s1, s2, some (bookD zs ls, false), some (.dic (gl uD known'), true), s5', s6', s7', s8', s9', s10'] := fun M known left s6 s7 s8 s9 s10 L hc => by
    refine ⟨known, some (.lst (left.map D.str), true), s6, s7, s8, s9, s10, fun h => ?_, ?_⟩
    · rw [decide_eq_true h, Bool.and_true] at hc
      cases left with
      | nil => exact L.rb h
      | cons a r => cases hc
    · have e : M + 61 = (M + 60) + 1 := rfl
      rw [e, ewh, ex_whl, cnd, hc]
      rfl
  induction n with
  | zero =>
    intro known left s6 s7 s8 s9 s10 L hk hm
    have : left = [] := List.eq_nil_of_length_eq_zero (by omega)
    subst this
    exact ends (m + 0) known [] s6 s7 s8 s9 s10 L rfl
  | succ n ih =>
    intro known left s6 s7 s8 s9 s10 L hk hm
    cases hc : (!left.isEmpty && decide (known.length ≤ 60)) with
    | false => exact ends (m + (n + 1)) known left s6 s7 s8 s9 s10 L hc
    | true =>
      rw [Bool.and_eq_true, decide_eq_true_eq] at hc
      have hne : left ≠ [] := fun e => by rw [e] at hc; cases hc.1
      obtain ⟨l, p, rfl⟩ : ∃ l p, left = l ++ [p] := ⟨left.dropLast, left.getLast hne, (List.dropLast_concat_getLast hne).symm⟩
      have hp := L.c p (by simp)
      have hle := L.e
      have hm' : 4 * (61 - known.length) + (l.length + 1) ≤ n + 1 := by simpa using hm
      have hle' : l.length + 1 ≤ 1 + 3 * known.length := by simpa using hle
      have la := s_lafter (k := k + 1) R.toLawD.toLawA B hp
      have e0 : m + (n + 1) + 61 = (m + n + 61) + 1 := by omega
      have e1 : m + n + 61 = (m + n + 1) + 60 := by omega
      have ci := cnd (m + n + 1) known (l ++ [p]) s6 s7 s8 s9 s10
      rw [← e1] at ci
      have hb : (!(l ++ [p]).isEmpty && decide (known.length ≤ 60)) = true := by
        rw [decide_eq_true hc.2]
        cases l <;> rfl
      rw [hb] at ci
      rw [e0, ewh, ex_whl, ci]
      have run1 : ∀ (ρ : Env) (G : Env → Out), ((Mp.R.ok (.bl true)).out ρ fun d => (asB d).out ρ fun k' => if k' = true then (blk (ex noOw (callF F (k + 3)) (m + n + 61)) lb_body ρ).bind G else .nx ρ) = (blk (ex noOw (callF F (k + 3)) (m + n + 61)) lb_body ρ).bind G := fun ρ G => rfl
      rw [run1]
      have pp := fun ρ : Env => popO_ok (xs := l.map D.str) (d := .str p) (ρ := ρ) (t := 6) (i := 5) (by decide)
      have em : (l ++ [p]).map D.str = l.map D.str ++ [.str p] := by simp
      have ii := g_in uD known p
      by_cases hK : p ∈ gkeys known
      · have step : blk (ex noOw (callF F (k + 3)) (m + n + 61)) lb_body [s0, s1, s2, some (bookD zs ls, false), some (.dic (gl uD known), true), some (.lst ((l ++ [p]).map D.str), true), s6, s7, s8, s9, s10]
            = .nx [s0, s1, s2, some (bookD zs ls, false), some (.dic (gl uD known), true), some (.lst (l.map D.str), true), some (.str p, false), s7, s8, s9, s10] := by
          have eB : lb_body = whlB f__law_book.body := rfl
          rw [eB, em]
          simp only [f__law_book, whlB, rb_ok, rb_ex, rb_no, ro_ok, ro_ex, ro_no, ob_nx, ob_rt, ob_ex, ob_no, fin_rt, fin_nx, fin_ex, gv0, gvS, ev_var, rd_f, rd_t, ev_cst, ev_bin, ev_neg, ev_cmp, ev_chain, ev_and, ev_or, ev_not, ev_ite, ev_tup, ev_lst, ev_dct, ev_ix, ev_slice, ev_call, ev_bi, ev_meth, ev_comp, evs_nil, evs_cons, evp_nil, evp_cons, evo_none, evo_some, conds_nil, conds_cons, asBb, asI_int, blk_nil, blk_cons, ex_fz, ex_set, ex_unp, bdO_nil, bdO_cons, ex_mul, storeP_nil, storeP_cons, ex_put, ex_app, ex_exp, ex_ret, ex_raise, ex_ite, ex_for, forO_some, sv0, svS, fz_nil, fz_cons, fzAt0, fzAtS, fz1_s, fz1_n, wipe_nil, wipe_cons, wkS, wk_lst, wkT, wk_dic, wk_enumS, wk_enumT, wk_enumL, wk_zipS, List.set_cons_zero, List.set_cons_succ, initEnv, List.map_cons, List.map_nil, List.length_cons, List.length_nil, List.replicate, List.cons_append, List.nil_append, Nat.reduceAdd, Nat.reduceSub, Nat.add_zero, Nat.zero_add, Bool.false_eq_true, if_true, if_false, ite_true, ite_false, List.zip_cons_cons, List.zip_nil_left, c_eq, c_ne, c_in, c_nin, c_le, c_gt, c_ge, c_lt, c_isN, c_nisN, c_isB, c_nisB, isNon_n, isNon_b, isNon_i, isNon_s, isNon_t, isNon_l, eqD_ss, eqD_ii, eqD_bb, inD_s, b_add, b_sub, neg_i, bi_isiS, bi_isiI, fl_i, fl_s, fl_t, fl_l, fls_n, fls_c, ty_ii, ty_bi, ty_ss, ty_tt, bi_lenS, bi_lenT, bi_lenL, bi_lenD, bi_tupL, bi_intI, ix_t0, ix_t1, ix_l0, ix_l1, ix_t3, sl_t3, sl_t2, sl_s1, Bool.not_true, Bool.not_false, Bool.and_true, Bool.true_and, Bool.and_self, decide_true, decide_false, turn_nm, turn_tp, rdI, rdS, rdB, rdN, rdT, ex_pop, pp, rd_t, ii, hK]
        rw [step, ob_nx]
        refine ih known l (some (.str p, false)) s7 s8 s9 s10 ⟨?_, fun q hq d hd hcq => ?_, fun q hq => L.c q (List.mem_append_left _ hq), by omega⟩ hk (by omega)
        · rcases L.a with h | h
          · exact .inl h
          · rcases List.mem_append.mp h with h | h
            · exact .inr h
            · have : never = p := by simpa using h
              rw [this]
              exact .inl hK
        · rcases L.b q hq d hd hcq with h | h
          · exact .inl h
          · rcases List.mem_append.mp h with h | h
            · exact .inr h
            · have : q.tail ++ [d] = p := by simpa using h
              rw [this]
              exact .inl hK
      · have hdl : (dl zs ls p).length ≤ 3 := by
          have : (dl zs ls p).length ≤ (46 :: zs).length := List.length_filter_le _ _
          simp at this
          omega
        have hlt : known.length < line := by omega
        have pt := fun ρ => g_put (f := uD) hlt ρ 4 p ()
        have pt : ∀ ρ, putO (some (.dic (gl uD known), true)) ρ 4 (.str p) (.bl true) = _ := pt
        have ea := b_addl (x := l.map D.str) (y := (dl zs ls p).map fun c => D.str (p.tail ++ [c])) (by simp; omega)
        have fr : ∀ a b, fresh noOw (.bin .add a b) = true := fun _ _ => rfl
        have step : blk (ex noOw (callF F (k + 3)) (m + n + 61)) lb_body [s0, s1, s2, some (bookD zs ls, false), some (.dic (gl uD known), true), some (.lst ((l ++ [p]).map D.str), true), s6, s7, s8, s9, s10]
            = .nx [s0, s1, s2, some (bookD zs ls, false), some (.dic (gl uD (gput known p ())), true), some (.lst ((l ++ (dl zs ls p).map fun c => p.tail ++ [c]).map D.str), true), some (.str p, false), s7, s8, s9, s10] := by
          have eB : lb_body = whlB f__law_book.body := rfl
          have emm : (l ++ (dl zs ls p).map fun c => p.tail ++ [c]).map D.str = l.map D.str ++ (dl zs ls p).map fun c => D.str (p.tail ++ [c]) := by
            rw [List.map_append, List.map_map]
            rfl
          rw [eB, em, emm]
          simp only [f__law_book, whlB, rb_ok, rb_ex, rb_no, ro_ok, ro_ex, ro_no, ob_nx, ob_rt, ob_ex, ob_no, fin_rt, fin_nx, fin_ex, gv0, gvS, ev_var, rd_f, rd_t, ev_cst, ev_bin, ev_neg, ev_cmp, ev_chain, ev_and, ev_or, ev_not, ev_ite, ev_tup, ev_lst, ev_dct, ev_ix, ev_slice, ev_call, ev_bi, ev_meth, ev_comp, evs_nil, evs_cons, evp_nil, evp_cons, evo_none, evo_some, conds_nil, conds_cons, asBb, asI_int, blk_nil, blk_cons, ex_fz, ex_set, ex_unp, bdO_nil, bdO_cons, ex_mul, storeP_nil, storeP_cons, ex_put, ex_app, ex_exp, ex_ret, ex_raise, ex_ite, ex_for, forO_some, sv0, svS, fz_nil, fz_cons, fzAt0, fzAtS, fz1_s, fz1_n, wipe_nil, wipe_cons, wkS, wk_lst, wkT, wk_dic, wk_enumS, wk_enumT, wk_enumL, wk_zipS, List.set_cons_zero, List.set_cons_succ, initEnv, List.map_cons, List.map_nil, List.length_cons, List.length_nil, List.replicate, List.cons_append, List.nil_append, Nat.reduceAdd, Nat.reduceSub, Nat.add_zero, Nat.zero_add, Bool.false_eq_true, if_true, if_false, ite_true, ite_false, List.zip_cons_cons, List.zip_nil_left, c_eq, c_ne, c_in, c_nin, c_le, c_gt, c_ge, c_lt, c_isN, c_nisN, c_isB, c_nisB, isNon_n, isNon_b, isNon_i, isNon_s, isNon_t, isNon_l, eqD_ss, eqD_ii, eqD_bb, inD_s, b_add, b_sub, neg_i, bi_isiS, bi_isiI, fl_i, fl_s, fl_t, fl_l, fls_n, fls_c, ty_ii, ty_bi, ty_ss, ty_tt, bi_lenS, bi_lenT, bi_lenL, bi_lenD, bi_tupL, bi_intI, ix_t0, ix_t1, ix_l0, ix_l1, ix_t3, sl_t3, sl_t2, sl_s1, Bool.not_true, Bool.not_false, Bool.and_true, Bool.true_and, Bool.and_self, decide_true, decide_false, turn_nm, turn_tp, rdI, rdS, rdB, rdN, rdT, ex_pop, pp, rd_t, ii, hK, putD_O, pt, Option.isSome_some, la]
          unfold aft
          rw [comL_map (g := fun c : Nat => D.tup [.str [c], .str (p.tail ++ [c])]) (fun c => some (.str (p.tail ++ [c]))) (by omega) (fun c hc => by simp only [rb_ok, rb_ex, rb_no, ro_ok, ro_ex, ro_no, ob_nx, ob_rt, ob_ex, ob_no, fin_rt, fin_nx, fin_ex, gv0, gvS, ev_var, rd_f, rd_t, ev_cst, ev_bin, ev_neg, ev_cmp, ev_chain, ev_and, ev_or, ev_not, ev_ite, ev_tup, ev_lst, ev_dct, ev_ix, ev_slice, ev_call, ev_bi, ev_meth, ev_comp, evs_nil, evs_cons, evp_nil, evp_cons, evo_none, evo_some, conds_nil, conds_cons, asBb, asI_int, blk_nil, blk_cons, ex_fz, ex_set, ex_unp, bdO_nil, bdO_cons, ex_mul, storeP_nil, storeP_cons, ex_put, ex_app, ex_exp, ex_ret, ex_raise, ex_ite, ex_for, forO_some, sv0, svS, fz_nil, fz_cons, fzAt0, fzAtS, fz1_s, fz1_n, wipe_nil, wipe_cons, wkS, wk_lst, wkT, wk_dic, wk_enumS, wk_enumT, wk_enumL, wk_zipS, List.set_cons_zero, List.set_cons_succ, initEnv, List.map_cons, List.map_nil, List.length_cons, List.length_nil, List.replicate, List.cons_append, List.nil_append, Nat.reduceAdd, Nat.reduceSub, Nat.add_zero, Nat.zero_add, Bool.false_eq_true, if_true, if_false, ite_true, ite_false, List.zip_cons_cons, List.zip_nil_left, c_eq, c_ne, c_in, c_nin, c_le, c_gt, c_ge, c_lt, c_isN, c_nisN, c_isB, c_nisB, isNon_n, isNon_b, isNon_i, isNon_s, isNon_t, isNon_l, eqD_ss, eqD_ii, eqD_bb, inD_s, b_add, b_sub, neg_i, bi_isiS, bi_isiI, fl_i, fl_s, fl_t, fl_l, fls_n, fls_c, ty_ii, ty_bi, ty_ss, ty_tt, bi_lenS, bi_lenT, bi_lenL, bi_lenD, bi_tupL, bi_intI, ix_t0, ix_t1, ix_l0, ix_l1, ix_t3, sl_t3, sl_t2, sl_s1, Bool.not_true, Bool.not_false, Bool.and_true, Bool.true_and, Bool.and_self, decide_true, decide_false, turn_nm, turn_tp, rdI, rdS, rdB, rdN, rdT])]
          rw [filterMap_some]
          simp only [rb_ok, rb_ex, rb_no, ro_ok, ro_ex, ro_no, ob_nx, ob_rt, ob_ex, ob_no, fin_rt, fin_nx, fin_ex, gv0, gvS, ev_var, rd_f, rd_t, ev_cst, ev_bin, ev_neg, ev_cmp, ev_chain, ev_and, ev_or, ev_not, ev_ite, ev_tup, ev_lst, ev_dct, ev_ix, ev_slice, ev_call, ev_bi, ev_meth, ev_comp, evs_nil, evs_cons, evp_nil, evp_cons, evo_none, evo_some, conds_nil, conds_cons, asBb, asI_int, blk_nil, blk_cons, ex_fz, ex_set, ex_unp, bdO_nil, bdO_cons, ex_mul, storeP_nil, storeP_cons, ex_put, ex_app, ex_exp, ex_ret, ex_raise, ex_ite, ex_for, forO_some, sv0, svS, fz_nil, fz_cons, fzAt0, fzAtS, fz1_s, fz1_n, wipe_nil, wipe_cons, wkS, wk_lst, wkT, wk_dic, wk_enumS, wk_enumT, wk_enumL, wk_zipS, List.set_cons_zero, List.set_cons_succ, initEnv, List.map_cons, List.map_nil, List.length_cons, List.length_nil, List.replicate, List.cons_append, List.nil_append, Nat.reduceAdd, Nat.reduceSub, Nat.add_zero, Nat.zero_add, Bool.false_eq_true, if_true, if_false, ite_true, ite_false, List.zip_cons_cons, List.zip_nil_left, c_eq, c_ne, c_in, c_nin, c_le, c_gt, c_ge, c_lt, c_isN, c_nisN, c_isB, c_nisB, isNon_n, isNon_b, isNon_i, isNon_s, isNon_t, isNon_l, eqD_ss, eqD_ii, eqD_bb, inD_s, b_add, b_sub, neg_i, bi_isiS, bi_isiI, fl_i, fl_s, fl_t, fl_l, fls_n, fls_c, ty_ii, ty_bi, ty_ss, ty_tt, bi_lenS, bi_lenT, bi_lenL, bi_lenD, bi_tupL, bi_intI, ix_t0, ix_t1, ix_l0, ix_l1, ix_t3, sl_t3, sl_t2, sl_s1, Bool.not_true, Bool.not_false, Bool.and_true, Bool.true_and, Bool.and_self, decide_true, decide_false, turn_nm, turn_tp, rdI, rdS, rdB, rdN, rdT, ea, fr]
        rw [step, ob_nx]
        have hkl := gput_len_new (v := ()) hK
        refine ih (gput known p ()) (l ++ (dl zs ls p).map fun c => p.tail ++ [c]) (some (.str p, false)) s7 s8 s9 s10 ⟨?_, fun q hq d hd hcq => ?_, fun q hq => ?_, by rw [hkl]; simp; omega⟩ (by omega) (by rw [hkl]; simp; omega)
        · rw [gkeys_put, if_neg hK]
          rcases L.a with h | h
          · exact .inl (List.mem_append_left _ h)
          · rcases List.mem_append.mp h with h | h
            · exact .inr (List.mem_append_left _ h)
            · exact .inl (List.mem_append_right _ h)
        · rw [gkeys_put, if_neg hK] at hq ⊢
          rcases List.mem_append.mp hq with hq | hq
          · rcases L.b q hq d hd hcq with h | h
            · exact .inl (List.mem_append_left _ h)
            · rcases List.mem_append.mp h with h | h
              · exact .inr (List.mem_append_left _ h)
              · exact .inl (List.mem_append_right _ h)
          · have : q = p := by simpa using hq
            subst this
            refine .inr (List.mem_append_right _ (List.mem_map.mpr ⟨d, dl_mem.mpr ⟨by simpa using hd, hcq⟩, rfl⟩))
        · rcases List.mem_append.mp hq with hq | hq
          · exact L.c q (List.mem_append_left _ hq)
          · obtain ⟨c, _, rfl⟩ := List.mem_map.mp hq
            exact step_len hp c
theorem s_lbook (R : LawB F) {ns : List Int} (hns : ns.length ≤ 63) (at_ : Nat) {m : Nat} (hm : m ≤ 3) :
    ∃ zs ls, BookOk zs ls ∧ ls.length ≤ m ∧ RB zs ls ∧ callF F (k + 4) "_law_book" [.lst (ns.map .int), .int at_, .int m] = .ok (bookD zs ls) := by
  have lg := line_ge
  obtain ⟨zs, ls, B, hl, h1⟩ := s_raw (k := k) R.toDraw hns at_ hm
  have fr1 : ∀ f es, fresh noOw (.call f es) = false := fun _ _ => rfl
  have fr2 : ∀ es, fresh noOw (.lst es) = true := fun _ => rfl
  have fr3 : ∀ es, fresh noOw (.dct es) = true := fun _ => rfl
  have L0 : LB zs ls [] [never] := ⟨.inr (by simp), fun p hp => by simp [gkeys] at hp, fun p hp => by
    have : p = never := by simpa using hp
    rw [this]
    rfl, by simp⟩
  obtain ⟨known, s5, s6, s7, s8, s9, s10, hrb, h⟩ := lb_loop (k := k) R B (N0 + 100 - 61 - 300) (some (.lst (ns.map .int), false)) (some (.int at_, false)) (some (.int m, false)) 300 [] [never] none none none none none L0 (by simp) (by simp)
  have eN : N0 + 100 - 61 - 300 + 300 + 61 = N0 + 100 := rfl
  rw [eN] at h
  have t1 : blk (ex noOw (callF F (k + 3)) (N0 + 100)) (f__law_book.body.take 2) (initEnv f__law_book.names.length [.lst (ns.map .int), .int at_, .int m])
      = .nx [some (.lst (ns.map .int), false), some (.int at_, false), some (.int m, false), some (bookD zs ls, false), some (.dic (gl uD []), true), some (.lst ([never].map D.str), true), none, none, none, none, none] := by
    simp only [f__law_book, List.take, rb_ok, rb_ex, rb_no, ro_ok, ro_ex, ro_no, ob_nx, ob_rt, ob_ex, ob_no, fin_rt, fin_nx, fin_ex, gv0, gvS, ev_var, rd_f, rd_t, ev_cst, ev_bin, ev_neg, ev_cmp, ev_chain, ev_and, ev_or, ev_not, ev_ite, ev_tup, ev_lst, ev_dct, ev_ix, ev_slice, ev_call, ev_bi, ev_meth, ev_comp, evs_nil, evs_cons, evp_nil, evp_cons, evo_none, evo_some, conds_nil, conds_cons, asBb, asI_int, blk_nil, blk_cons, ex_fz, ex_set, ex_unp, bdO_nil, bdO_cons, ex_mul, storeP_nil, storeP_cons, ex_put, ex_app, ex_exp, ex_ret, ex_raise, ex_ite, ex_for, forO_some, sv0, svS, fz_nil, fz_cons, fzAt0, fzAtS, fz1_s, fz1_n, wipe_nil, wipe_cons, wkS, wk_lst, wkT, wk_dic, wk_enumS, wk_enumT, wk_enumL, wk_zipS, List.set_cons_zero, List.set_cons_succ, initEnv, List.map_cons, List.map_nil, List.length_cons, List.length_nil, List.replicate, List.cons_append, List.nil_append, Nat.reduceAdd, Nat.reduceSub, Nat.add_zero, Nat.zero_add, Bool.false_eq_true, if_true, if_false, ite_true, ite_false, List.zip_cons_cons, List.zip_nil_left, c_eq, c_ne, c_in, c_nin, c_le, c_gt, c_ge, c_lt, c_isN, c_nisN, c_isB, c_nisB, isNon_n, isNon_b, isNon_i, isNon_s, isNon_t, isNon_l, eqD_ss, eqD_ii, eqD_bb, inD_s, b_add, b_sub, neg_i, bi_isiS, bi_isiI, fl_i, fl_s, fl_t, fl_l, fls_n, fls_c, ty_ii, ty_bi, ty_ss, ty_tt, bi_lenS, bi_lenT, bi_lenL, bi_lenD, bi_tupL, bi_intI, ix_t0, ix_t1, ix_l0, ix_l1, ix_t3, sl_t3, sl_t2, sl_s1, Bool.not_true, Bool.not_false, Bool.and_true, Bool.true_and, Bool.and_self, decide_true, decide_false, turn_nm, turn_tp, rdI, rdS, rdB, rdN, rdT, h1, fr1, fr2, fr3, List.all_nil, Nat.zero_le, putAll_nil', storeP_nil, storeP_cons]
    rfl
  have eb : f__law_book.body = f__law_book.body.take 2 ++ (lb_while :: f__law_book.body.drop 3) := rfl
  have run : callF F (k + 4) "_law_book" [.lst (ns.map .int), .int at_, .int m] = fin (blk (ex noOw (callF F (k + 3)) (N0 + 100)) (f__law_book.body.drop 3) [some (.lst (ns.map .int), false), some (.int at_, false), some (.int m, false), some (bookD zs ls, false), some (.dic (gl uD known), true), s5, s6, s7, s8, s9, s10]) := by
    rw [callF_run R.toLawD.toLawA.ho R.bk rfl, eb, blk_app, t1, ob_nx, blk_cons, h, ob_nx]
    rfl
  rw [run]
  have hd : decide (((known.length : Nat) : Int) ≤ 60) = decide (known.length ≤ 60) := by
    rw [decide_eq_decide]
    omega
  by_cases hk : known.length ≤ 60
  · refine ⟨zs, ls, B, hl, hrb hk, ?_⟩
    rw [decide_eq_true hk] at hd
    simp only [f__law_book, List.drop, rb_ok, rb_ex, rb_no, ro_ok, ro_ex, ro_no, ob_nx, ob_rt, ob_ex, ob_no, fin_rt, fin_nx, fin_ex, gv0, gvS, ev_var, rd_f, rd_t, ev_cst, ev_bin, ev_neg, ev_cmp, ev_chain, ev_and, ev_or, ev_not, ev_ite, ev_tup, ev_lst, ev_dct, ev_ix, ev_slice, ev_call, ev_bi, ev_meth, ev_comp, evs_nil, evs_cons, evp_nil, evp_cons, evo_none, evo_some, conds_nil, conds_cons, asBb, asI_int, blk_nil, blk_cons, ex_fz, ex_set, ex_unp, bdO_nil, bdO_cons, ex_mul, storeP_nil, storeP_cons, ex_put, ex_app, ex_exp, ex_ret, ex_raise, ex_ite, ex_for, forO_some, sv0, svS, fz_nil, fz_cons, fzAt0, fzAtS, fz1_s, fz1_n, wipe_nil, wipe_cons, wkS, wk_lst, wkT, wk_dic, wk_enumS, wk_enumT, wk_enumL, wk_zipS, List.set_cons_zero, List.set_cons_succ, initEnv, List.map_cons, List.map_nil, List.length_cons, List.length_nil, List.replicate, List.cons_append, List.nil_append, Nat.reduceAdd, Nat.reduceSub, Nat.add_zero, Nat.zero_add, Bool.false_eq_true, if_true, if_false, ite_true, ite_false, List.zip_cons_cons, List.zip_nil_left, c_eq, c_ne, c_in, c_nin, c_le, c_gt, c_ge, c_lt, c_isN, c_nisN, c_isB, c_nisB, isNon_n, isNon_b, isNon_i, isNon_s, isNon_t, isNon_l, eqD_ss, eqD_ii, eqD_bb, inD_s, b_add, b_sub, neg_i, bi_isiS, bi_isiI, fl_i, fl_s, fl_t, fl_l, fls_n, fls_c, ty_ii, ty_bi, ty_ss, ty_tt, bi_lenS, bi_lenT, bi_lenL, bi_lenD, bi_tupL, bi_intI, ix_t0, ix_t1, ix_l0, ix_l1, ix_t3, sl_t3, sl_t2, sl_s1, Bool.not_true, Bool.not_false, Bool.and_true, Bool.true_and, Bool.and_self, decide_true, decide_false, turn_nm, turn_tp, rdI, rdS, rdB, rdN, rdT, rd_t, g_len, hd]
  · rw [decide_eq_false hk] at hd
    have hfl : ∀ l ∈ ls.filter fun l => decide (l.z = [97]), l.Ok [97] := fun l hm => by
      have := List.mem_filter.mp hm
      have hz : l.z = [97] := by simpa using this.2
      obtain ⟨a, b, c⟩ := B.all l this.1
      exact ⟨a, fun x hx => by rw [hz] at hx; exact hx, c⟩
    have hml := B.many
    have hle : (ls.filter fun l => decide (l.z = [97])).length ≤ ls.length := List.length_filter_le _ _
    refine ⟨[97], ls.filter fun l => decide (l.z = [97]), ⟨.inl rfl, by omega, hfl⟩, by omega, RB_a _, ?_⟩
    simp only [f__law_book, List.drop, rb_ok, rb_ex, rb_no, ro_ok, ro_ex, ro_no, ob_nx, ob_rt, ob_ex, ob_no, fin_rt, fin_nx, fin_ex, gv0, gvS, ev_var, rd_f, rd_t, ev_cst, ev_bin, ev_neg, ev_cmp, ev_chain, ev_and, ev_or, ev_not, ev_ite, ev_tup, ev_lst, ev_dct, ev_ix, ev_slice, ev_call, ev_bi, ev_meth, ev_comp, evs_nil, evs_cons, evp_nil, evp_cons, evo_none, evo_some, conds_nil, conds_cons, asBb, asI_int, blk_nil, blk_cons, ex_fz, ex_set, ex_unp, bdO_nil, bdO_cons, ex_mul, storeP_nil, storeP_cons, ex_put, ex_app, ex_exp, ex_ret, ex_raise, ex_ite, ex_for, forO_some, sv0, svS, fz_nil, fz_cons, fzAt0, fzAtS, fz1_s, fz1_n, wipe_nil, wipe_cons, wkS, wk_lst, wkT, wk_dic, wk_enumS, wk_enumT, wk_enumL, wk_zipS, List.set_cons_zero, List.set_cons_succ, initEnv, List.map_cons, List.map_nil, List.length_cons, List.length_nil, List.replicate, List.cons_append, List.nil_append, Nat.reduceAdd, Nat.reduceSub, Nat.add_zero, Nat.zero_add, Bool.false_eq_true, if_true, if_false, ite_true, ite_false, List.zip_cons_cons, List.zip_nil_left, c_eq, c_ne, c_in, c_nin, c_le, c_gt, c_ge, c_lt, c_isN, c_nisN, c_isB, c_nisB, isNon_n, isNon_b, isNon_i, isNon_s, isNon_t, isNon_l, eqD_ss, eqD_ii, eqD_bb, inD_s, b_add, b_sub, neg_i, bi_isiS, bi_isiI, fl_i, fl_s, fl_t, fl_l, fls_n, fls_c, ty_ii, ty_bi, ty_ss, ty_tt, bi_lenS, bi_lenT, bi_lenL, bi_lenD, bi_tupL, bi_intI, ix_t0, ix_t1, ix_l0, ix_l1, ix_t3, sl_t3, sl_t2, sl_s1, Bool.not_true, Bool.not_false, Bool.and_true, Bool.true_and, Bool.and_self, decide_true, decide_false, turn_nm, turn_tp, rdI, rdS, rdB, rdN, rdT, rd_t, g_len, hd, ix_b1]
    rw [comL_map (g := Lim.d) (fun l => if decide (l.z = [97]) = true then some l.d else none) (by omega) (fun l hm => by
      simp only [rb_ok, rb_ex, rb_no, ro_ok, ro_ex, ro_no, ob_nx, ob_rt, ob_ex, ob_no, fin_rt, fin_nx, fin_ex, gv0, gvS, ev_var, rd_f, rd_t, ev_cst, ev_bin, ev_neg, ev_cmp, ev_chain, ev_and, ev_or, ev_not, ev_ite, ev_tup, ev_lst, ev_dct, ev_ix, ev_slice, ev_call, ev_bi, ev_meth, ev_comp, evs_nil, evs_cons, evp_nil, evp_cons, evo_none, evo_some, conds_nil, conds_cons, asBb, asI_int, blk_nil, blk_cons, ex_fz, ex_set, ex_unp, bdO_nil, bdO_cons, ex_mul, storeP_nil, storeP_cons, ex_put, ex_app, ex_exp, ex_ret, ex_raise, ex_ite, ex_for, forO_some, sv0, svS, fz_nil, fz_cons, fzAt0, fzAtS, fz1_s, fz1_n, wipe_nil, wipe_cons, wkS, wk_lst, wkT, wk_dic, wk_enumS, wk_enumT, wk_enumL, wk_zipS, List.set_cons_zero, List.set_cons_succ, initEnv, List.map_cons, List.map_nil, List.length_cons, List.length_nil, List.replicate, List.cons_append, List.nil_append, Nat.reduceAdd, Nat.reduceSub, Nat.add_zero, Nat.zero_add, Bool.false_eq_true, if_true, if_false, ite_true, ite_false, List.zip_cons_cons, List.zip_nil_left, c_eq, c_ne, c_in, c_nin, c_le, c_gt, c_ge, c_lt, c_isN, c_nisN, c_isB, c_nisB, isNon_n, isNon_b, isNon_i, isNon_s, isNon_t, isNon_l, eqD_ss, eqD_ii, eqD_bb, inD_s, b_add, b_sub, neg_i, bi_isiS, bi_isiI, fl_i, fl_s, fl_t, fl_l, fls_n, fls_c, ty_ii, ty_bi, ty_ss, ty_tt, bi_lenS, bi_lenT, bi_lenL, bi_lenD, bi_tupL, bi_intI, ix_t0, ix_t1, ix_l0, ix_l1, ix_t3, sl_t3, sl_t2, sl_s1, Bool.not_true, Bool.not_false, Bool.and_true, Bool.true_and, Bool.and_self, decide_true, decide_false, turn_nm, turn_tp, rdI, rdS, rdB, rdN, rdT, ix_lim1]
      by_cases z : l.z = [97] <;> simp [z, rb_ok, rb_ex, rb_no, ro_ok, ro_ex, ro_no, ob_nx, ob_rt, ob_ex, ob_no, fin_rt, fin_nx, fin_ex, gv0, gvS, ev_var, rd_f, rd_t, ev_cst, ev_bin, ev_neg, ev_cmp, ev_chain, ev_and, ev_or, ev_not, ev_ite, ev_tup, ev_lst, ev_dct, ev_ix, ev_slice, ev_call, ev_bi, ev_meth, ev_comp, evs_nil, evs_cons, evp_nil, evp_cons, evo_none, evo_some, conds_nil, conds_cons, asBb, asI_int, blk_nil, blk_cons, ex_fz, ex_set, ex_unp, bdO_nil, bdO_cons, ex_mul, storeP_nil, storeP_cons, ex_put, ex_app, ex_exp, ex_ret, ex_raise, ex_ite, ex_for, forO_some, sv0, svS, fz_nil, fz_cons, fzAt0, fzAtS, fz1_s, fz1_n, wipe_nil, wipe_cons, wkS, wk_lst, wkT, wk_dic, wk_enumS, wk_enumT, wk_enumL, wk_zipS, List.set_cons_zero, List.set_cons_succ, initEnv, List.map_cons, List.map_nil, List.length_cons, List.length_nil, List.replicate, List.cons_append, List.nil_append, Nat.reduceAdd, Nat.reduceSub, Nat.add_zero, Nat.zero_add, Bool.false_eq_true, if_true, if_false, ite_true, ite_false, List.zip_cons_cons, List.zip_nil_left, c_eq, c_ne, c_in, c_nin, c_le, c_gt, c_ge, c_lt, c_isN, c_nisN, c_isB, c_nisB, isNon_n, isNon_b, isNon_i, isNon_s, isNon_t, isNon_l, eqD_ss, eqD_ii, eqD_bb, inD_s, b_add, b_sub, neg_i, bi_isiS, bi_isiI, fl_i, fl_s, fl_t, fl_l, fls_n, fls_c, ty_ii, ty_bi, ty_ss, ty_tt, bi_lenS, bi_lenT, bi_lenL, bi_lenD, bi_tupL, bi_intI, ix_t0, ix_t1, ix_l0, ix_l1, ix_t3, sl_t3, sl_t2, sl_s1, Bool.not_true, Bool.not_false, Bool.and_true, Bool.true_and, Bool.and_self, decide_true, decide_false, turn_nm, turn_tp, rdI, rdS, rdB, rdN, rdT])]
    rw [filterMap_if (fun l : Lim => decide (l.z = [97])) Lim.d]
    simp only [rb_ok, rb_ex, rb_no, ro_ok, ro_ex, ro_no, ob_nx, ob_rt, ob_ex, ob_no, fin_rt, fin_nx, fin_ex, gv0, gvS, ev_var, rd_f, rd_t, ev_cst, ev_bin, ev_neg, ev_cmp, ev_chain, ev_and, ev_or, ev_not, ev_ite, ev_tup, ev_lst, ev_dct, ev_ix, ev_slice, ev_call, ev_bi, ev_meth, ev_comp, evs_nil, evs_cons, evp_nil, evp_cons, evo_none, evo_some, conds_nil, conds_cons, asBb, asI_int, blk_nil, blk_cons, ex_fz, ex_set, ex_unp, bdO_nil, bdO_cons, ex_mul, storeP_nil, storeP_cons, ex_put, ex_app, ex_exp, ex_ret, ex_raise, ex_ite, ex_for, forO_some, sv0, svS, fz_nil, fz_cons, fzAt0, fzAtS, fz1_s, fz1_n, wipe_nil, wipe_cons, wkS, wk_lst, wkT, wk_dic, wk_enumS, wk_enumT, wk_enumL, wk_zipS, List.set_cons_zero, List.set_cons_succ, initEnv, List.map_cons, List.map_nil, List.length_cons, List.length_nil, List.replicate, List.cons_append, List.nil_append, Nat.reduceAdd, Nat.reduceSub, Nat.add_zero, Nat.zero_add, Bool.false_eq_true, if_true, if_false, ite_true, ite_false, List.zip_cons_cons, List.zip_nil_left, c_eq, c_ne, c_in, c_nin, c_le, c_gt, c_ge, c_lt, c_isN, c_nisN, c_isB, c_nisB, isNon_n, isNon_b, isNon_i, isNon_s, isNon_t, isNon_l, eqD_ss, eqD_ii, eqD_bb, inD_s, b_add, b_sub, neg_i, bi_isiS, bi_isiI, fl_i, fl_s, fl_t, fl_l, fls_n, fls_c, ty_ii, ty_bi, ty_ss, ty_tt, bi_lenS, bi_lenT, bi_lenL, bi_lenD, bi_tupL, bi_intI, ix_t0, ix_t1, ix_l0, ix_l1, ix_t3, sl_t3, sl_t2, sl_s1, Bool.not_true, Bool.not_false, Bool.and_true, Bool.true_and, Bool.and_self, decide_true, decide_false, turn_nm, turn_tp, rdI, rdS, rdB, rdN, rdT, d_bookE]
end
end Mp

end Sec_MrF
section Sec_MrG
set_option autoImplicit false
set_option linter.all false
set_option maxHeartbeats 4000000
set_option maxRecDepth 100000
namespace Mp
open PySem
structure K12 (F : Str → Option Fn) : Prop where
  toAlk : Alk F
  toLawB : LawB F
  lw : Has F "law" f_law12
theorem eqD_opt (o : Option (List Nat)) : eqD (optS o) (optS o) = .ok true := by
  cases o with
  | none => rfl
  | some y =>
    show eqD (.str y) (.str y) = _
    rw [eqD_ss, decide_eq_true rfl]
theorem sl_sInit (x : List Nat) (d : Nat) : slice (.str (x ++ [d])) none (some (-1)) = .ok (.str x) := by
  show R.ok (D.str (cut (x ++ [d]) none (some (-1)))) = _
  congr 2
  show ((x ++ [d]).drop 0).take ((-1 + ((x ++ [d]).length : Int)).toNat - 0) = x
  have : (-1 + ((x ++ [d]).length : Int)).toNat - 0 = x.length := by simp; omega
  rw [this, List.drop_zero, List.take_left]
theorem inD_ints (n : Nat) (xs : List Nat) : inD (.int (n : Nat)) (.lst (xs.map fun (j : Nat) => D.int (j : Nat))) = .ok (xs.contains n) := by
  have hf : ∀ d ∈ xs.map fun (j : Nat) => D.int (j : Nat), d.flat = true := fun d hd => by
    obtain ⟨x, _, rfl⟩ := List.mem_map.mp hd
    rfl
  have hd : ∀ d ∈ xs.map fun (j : Nat) => D.int (j : Nat), d.depth ≤ 0 := fun d hd => by
    obtain ⟨x, _, rfl⟩ := List.mem_map.mp hd
    exact Nat.le_refl _
  rw [inD_l (eqOk_of rfl (flats_of hf) (Nat.zero_le _) (by
    show D.depths _ + 1 ≤ 60
    have := depths_of hd
    omega))]
  congr 1
  induction xs with
  | nil => rfl
  | cons a r ih =>
    have ih := ih (fun d hd' => hf d (List.mem_cons_of_mem _ hd')) (fun d hd' => hd d (List.mem_cons_of_mem _ hd'))
    rw [List.map_cons, List.any_cons, ih, List.contains_cons]
    congr 1
    show decide ((a : Int) = (n : Int)) = (n == a)
    rw [Bool.eq_iff_iff]
    simp
    omega
theorem mul_tup2 (d : D) : bin .mul (.tup [d]) (.int 2) = .ok (.tup [d, d]) := by
  show (if decide ((2 : Int) ≤ 2 ∧ (2 : Int) ≤ 1000) && decide ([d].length ≤ 1000) then R.ok (D.tup (List.replicate 2 [d]).flatten) else .no) = _
  rfl
theorem Al_comm {zs : List Nat} {ls1 ls2 : List Lim} (h : Al zs ls1 ls2) : Al zs ls2 ls1 := fun x hx => (h x hx).symm
theorem okC_more (ls lims : List Lim) (p x : List Nat) (h : okC (ls ++ lims) p x = true) : okC ls p x = true := by
  rw [okC_both, Bool.and_eq_true] at h
  exact h.1
theorem Al_dup (zs : List Nat) (ls : List Lim) : Al zs ls (ls ++ ls) := fun x _ => by
  rw [okC_both, Bool.and_self]
theorem brk_full (zs p : List Nat) (d : Nat) : brk (.most zs 6 6) p d = false := by
  show decide (6 < cnt zs (lastN (p ++ [d]) 6)) = false
  rw [decide_eq_false_iff_not]
  have h1 := cnt_le zs (lastN (p ++ [d]) 6)
  have h2 : (lastN (p ++ [d]) 6).length ≤ 6 := by
    unfold lastN
    rw [List.length_drop]
    omega
  omega
theorem okC_full (zs : List Nat) : ∀ (x p : List Nat), okC [.most zs 6 6] p x = true
  | [], _ => rfl
  | d :: x, p => by
    show (canF [.most zs 6 6] p d && okC [.most zs 6 6] (p.tail ++ [d]) x) = true
    rw [okC_full zs x]
    unfold canF
    simp [brk_full]
section
variable {F : Str → Option Fn} {k : Nat} {zs : List Nat} {ls1 ls2 : List Lim}
def l12_body : List S := loopOf f_law12.body
def l12b_body : List S := loopOf l12_body
theorem b_mul6 (c : Int) (j : Nat) (h : -18446744073709551616 < c ∧ c < 18446744073709551616) : bin .mul (.int c) (.int (j : Nat)) = .ok (.int (c * (j : Int))) := b_mul_l h
theorem l12_in (K : K12 F) (B : BookOk zs ls1) (B2 : BookOk zs ls2) {ns : List Int} (hns : ns.length ≤ 63) (m : Nat) (s3 s7 s8 s9 : Slot) (j : Nat) (a b : Slot) :
    ∃ b', blk (ex noOw (callF F (k + 7)) (m + 49)) l12b_body [some (.lst (ns.map .int), false), some (bookD zs ls1, false), some (.int (j : Nat), false), s3, some (bookD zs ls2, false), some (optS (fp zs ls1 ls2), false), b, s7, s8, s9]
      = .nx [some (.lst (ns.map .int), false), some (bookD zs ls1, false), some (.int (j : Nat), false), s3, some (bookD zs ls2, false), some (optS (fp zs ls1 ls2), false), b', s7, s8, s9] := by
  have J2 := K.toAlk.toJud2
  obtain ⟨x, hxl, hx, h1⟩ := s_ldays (k := k + 5) K.toLawB.toLawD B hns (60 + 15 * j) (m := 12) (by omega)
  have h1 : callF F (k + 7) "_law_days" [.lst (ns.map .int), .int (60 + 15 * (j : Int)), bookD zs ls1, .int 12] = .ok (.str x) := h1
  have a1 := s_allow (k := k) J2 B hx (by omega)
  have a2 := s_allow (k := k) J2 B2 hx (by omega)
  have st := s_stricter (k := k) K.toAlk B B2
  have fs := fp_spec B.zo ls1 ls2
  have hst : stric zs ls1 ls2 = true → okC ls1 never x = true → okC ls2 never x = true := fun h h2 => by
    unfold stric at h
    rw [Bool.and_eq_true] at h
    exact (obeys_iff B.zo ls1 ls2).mp h.1 x hx h2
  have fr : ∀ f es, fresh noOw (.call f es) = false := fun _ _ => rfl
  have m15 := b_mul6 15 j (by decide)
  have eB : l12b_body = loopOf (loopOf f_law12.body) := rfl
  refine ⟨some (.str x, false), ?_⟩
  rw [eB]
  cases hP : fp zs ls1 ls2 with
  | none =>
    rw [hP] at fs
    have e : okC ls1 never x = okC ls2 never x := fs x (Wd_cal.mpr hx)
    rw [← e] at a2
    cases q : stric zs ls1 ls2 <;> cases o : okC ls1 never x
    all_goals
      rw [q] at st
      rw [o] at a1 a2
      simp only [f_law12, loopOf, rb_ok, rb_ex, rb_no, ro_ok, ro_ex, ro_no, ob_nx, ob_rt, ob_ex, ob_no, fin_rt, fin_nx, fin_ex, gv0, gvS, ev_var, rd_f, rd_t, ev_cst, ev_bin, ev_neg, ev_cmp, ev_chain, ev_and, ev_or, ev_not, ev_ite, ev_tup, ev_lst, ev_dct, ev_ix, ev_slice, ev_call, ev_bi, ev_meth, ev_comp, evs_nil, evs_cons, evp_nil, evp_cons, evo_none, evo_some, conds_nil, conds_cons, asBb, asI_int, blk_nil, blk_cons, ex_fz, ex_set, ex_unp, bdO_nil, bdO_cons, ex_mul, storeP_nil, storeP_cons, ex_put, ex_app, ex_exp, ex_ret, ex_raise, ex_ite, ex_for, forO_some, sv0, svS, fz_nil, fz_cons, fzAt0, fzAtS, fz1_s, fz1_n, wipe_nil, wipe_cons, wkS, wk_lst, wkT, wk_dic, wk_enumS, wk_enumT, wk_enumL, wk_zipS, List.set_cons_zero, List.set_cons_succ, initEnv, List.map_cons, List.map_nil, List.length_cons, List.length_nil, List.replicate, List.cons_append, List.nil_append, Nat.reduceAdd, Nat.reduceSub, Nat.add_zero, Nat.zero_add, Bool.false_eq_true, if_true, if_false, ite_true, ite_false, List.zip_cons_cons, List.zip_nil_left, c_eq, c_ne, c_in, c_nin, c_le, c_gt, c_ge, c_lt, c_isN, c_nisN, c_isB, c_nisB, isNon_n, isNon_b, isNon_i, isNon_s, isNon_t, isNon_l, eqD_ss, eqD_ii, eqD_bb, inD_s, b_add, b_sub, neg_i, bi_isiS, bi_isiI, fl_i, fl_s, fl_t, fl_l, fls_n, fls_c, ty_ii, ty_bi, ty_ss, ty_tt, bi_lenS, bi_lenT, bi_lenL, bi_lenD, bi_tupL, bi_intI, ix_t0, ix_t1, ix_l0, ix_l1, ix_t3, sl_t3, sl_t2, sl_s1, Bool.not_true, Bool.not_false, Bool.and_true, Bool.true_and, Bool.and_self, decide_true, decide_false, turn_nm, turn_tp, rdI, rdS, rdB, rdN, rdT, m15, h1, fr, a1, a2, st, optS, beq_self_eq_true]
  | some y =>
    rw [hP] at fs
    obtain ⟨x0, d0, _, _, _, _, _, hsh, _⟩ := fs
    have hsh' := hsh x (Wd_cal.mpr hx)
    by_cases hlt : x.length < y.length
    · have e := hsh' hlt
      rw [← e] at a2
      cases q : stric zs ls1 ls2 <;> cases o : okC ls1 never x
      all_goals
        rw [q] at st
        rw [o] at a1 a2
        simp only [f_law12, loopOf, rb_ok, rb_ex, rb_no, ro_ok, ro_ex, ro_no, ob_nx, ob_rt, ob_ex, ob_no, fin_rt, fin_nx, fin_ex, gv0, gvS, ev_var, rd_f, rd_t, ev_cst, ev_bin, ev_neg, ev_cmp, ev_chain, ev_and, ev_or, ev_not, ev_ite, ev_tup, ev_lst, ev_dct, ev_ix, ev_slice, ev_call, ev_bi, ev_meth, ev_comp, evs_nil, evs_cons, evp_nil, evp_cons, evo_none, evo_some, conds_nil, conds_cons, asBb, asI_int, blk_nil, blk_cons, ex_fz, ex_set, ex_unp, bdO_nil, bdO_cons, ex_mul, storeP_nil, storeP_cons, ex_put, ex_app, ex_exp, ex_ret, ex_raise, ex_ite, ex_for, forO_some, sv0, svS, fz_nil, fz_cons, fzAt0, fzAtS, fz1_s, fz1_n, wipe_nil, wipe_cons, wkS, wk_lst, wkT, wk_dic, wk_enumS, wk_enumT, wk_enumL, wk_zipS, List.set_cons_zero, List.set_cons_succ, initEnv, List.map_cons, List.map_nil, List.length_cons, List.length_nil, List.replicate, List.cons_append, List.nil_append, Nat.reduceAdd, Nat.reduceSub, Nat.add_zero, Nat.zero_add, Bool.false_eq_true, if_true, if_false, ite_true, ite_false, List.zip_cons_cons, List.zip_nil_left, c_eq, c_ne, c_in, c_nin, c_le, c_gt, c_ge, c_lt, c_isN, c_nisN, c_isB, c_nisB, isNon_n, isNon_b, isNon_i, isNon_s, isNon_t, isNon_l, eqD_ss, eqD_ii, eqD_bb, inD_s, b_add, b_sub, neg_i, bi_isiS, bi_isiI, fl_i, fl_s, fl_t, fl_l, fls_n, fls_c, ty_ii, ty_bi, ty_ss, ty_tt, bi_lenS, bi_lenT, bi_lenL, bi_lenD, bi_tupL, bi_intI, ix_t0, ix_t1, ix_l0, ix_l1, ix_t3, sl_t3, sl_t2, sl_s1, Bool.not_true, Bool.not_false, Bool.and_true, Bool.true_and, Bool.and_self, decide_true, decide_false, turn_nm, turn_tp, rdI, rdS, rdB, rdN, rdT, m15, h1, fr, a1, a2, st, optS, beq_self_eq_true, ite_self, rb_ok]
        try (by_cases z : ((x.length : Nat) : Int) < ((y.length : Nat) : Int) <;> simp only [z, rb_ok, rb_ex, rb_no, ro_ok, ro_ex, ro_no, ob_nx, ob_rt, ob_ex, ob_no, fin_rt, fin_nx, fin_ex, gv0, gvS, ev_var, rd_f, rd_t, ev_cst, ev_bin, ev_neg, ev_cmp, ev_chain, ev_and, ev_or, ev_not, ev_ite, ev_tup, ev_lst, ev_dct, ev_ix, ev_slice, ev_call, ev_bi, ev_meth, ev_comp, evs_nil, evs_cons, evp_nil, evp_cons, evo_none, evo_some, conds_nil, conds_cons, asBb, asI_int, blk_nil, blk_cons, ex_fz, ex_set, ex_unp, bdO_nil, bdO_cons, ex_mul, storeP_nil, storeP_cons, ex_put, ex_app, ex_exp, ex_ret, ex_raise, ex_ite, ex_for, forO_some, sv0, svS, fz_nil, fz_cons, fzAt0, fzAtS, fz1_s, fz1_n, wipe_nil, wipe_cons, wkS, wk_lst, wkT, wk_dic, wk_enumS, wk_enumT, wk_enumL, wk_zipS, List.set_cons_zero, List.set_cons_succ, initEnv, List.map_cons, List.map_nil, List.length_cons, List.length_nil, List.replicate, List.cons_append, List.nil_append, Nat.reduceAdd, Nat.reduceSub, Nat.add_zero, Nat.zero_add, Bool.false_eq_true, if_true, if_false, ite_true, ite_false, List.zip_cons_cons, List.zip_nil_left, c_eq, c_ne, c_in, c_nin, c_le, c_gt, c_ge, c_lt, c_isN, c_nisN, c_isB, c_nisB, isNon_n, isNon_b, isNon_i, isNon_s, isNon_t, isNon_l, eqD_ss, eqD_ii, eqD_bb, inD_s, b_add, b_sub, neg_i, bi_isiS, bi_isiI, fl_i, fl_s, fl_t, fl_l, fls_n, fls_c, ty_ii, ty_bi, ty_ss, ty_tt, bi_lenS, bi_lenT, bi_lenL, bi_lenD, bi_tupL, bi_intI, ix_t0, ix_t1, ix_l0, ix_l1, ix_t3, sl_t3, sl_t2, sl_s1, Bool.not_true, Bool.not_false, Bool.and_true, Bool.true_and, Bool.and_self, decide_true, decide_false, turn_nm, turn_tp, rdI, rdS, rdB, rdN, rdT])
    · have hlt' : ¬ ((x.length : Nat) : Int) < ((y.length : Nat) : Int) := by omega
      cases q : stric zs ls1 ls2 <;> cases o : okC ls1 never x <;> cases o2 : okC ls2 never x
      all_goals first
        | (exfalso; have := hst q o; rw [o2] at this; cases this; done)
        | (rw [q] at st
           rw [o] at a1
           rw [o2] at a2
           simp only [f_law12, loopOf, rb_ok, rb_ex, rb_no, ro_ok, ro_ex, ro_no, ob_nx, ob_rt, ob_ex, ob_no, fin_rt, fin_nx, fin_ex, gv0, gvS, ev_var, rd_f, rd_t, ev_cst, ev_bin, ev_neg, ev_cmp, ev_chain, ev_and, ev_or, ev_not, ev_ite, ev_tup, ev_lst, ev_dct, ev_ix, ev_slice, ev_call, ev_bi, ev_meth, ev_comp, evs_nil, evs_cons, evp_nil, evp_cons, evo_none, evo_some, conds_nil, conds_cons, asBb, asI_int, blk_nil, blk_cons, ex_fz, ex_set, ex_unp, bdO_nil, bdO_cons, ex_mul, storeP_nil, storeP_cons, ex_put, ex_app, ex_exp, ex_ret, ex_raise, ex_ite, ex_for, forO_some, sv0, svS, fz_nil, fz_cons, fzAt0, fzAtS, fz1_s, fz1_n, wipe_nil, wipe_cons, wkS, wk_lst, wkT, wk_dic, wk_enumS, wk_enumT, wk_enumL, wk_zipS, List.set_cons_zero, List.set_cons_succ, initEnv, List.map_cons, List.map_nil, List.length_cons, List.length_nil, List.replicate, List.cons_append, List.nil_append, Nat.reduceAdd, Nat.reduceSub, Nat.add_zero, Nat.zero_add, Bool.false_eq_true, if_true, if_false, ite_true, ite_false, List.zip_cons_cons, List.zip_nil_left, c_eq, c_ne, c_in, c_nin, c_le, c_gt, c_ge, c_lt, c_isN, c_nisN, c_isB, c_nisB, isNon_n, isNon_b, isNon_i, isNon_s, isNon_t, isNon_l, eqD_ss, eqD_ii, eqD_bb, inD_s, b_add, b_sub, neg_i, bi_isiS, bi_isiI, fl_i, fl_s, fl_t, fl_l, fls_n, fls_c, ty_ii, ty_bi, ty_ss, ty_tt, bi_lenS, bi_lenT, bi_lenL, bi_lenD, bi_tupL, bi_intI, ix_t0, ix_t1, ix_l0, ix_l1, ix_t3, sl_t3, sl_t2, sl_s1, Bool.not_true, Bool.not_false, Bool.and_true, Bool.true_and, Bool.and_self, decide_true, decide_false, turn_nm, turn_tp, rdI, rdS, rdB, rdN, rdT, m15, h1, fr, a1, a2, st, optS, hlt', beq_self_eq_true])
theorem l12_turn (K : K12 F) (B : BookOk zs ls1) (rb : RB zs ls1) (B2 : BookOk zs ls2) {ns : List Int} (hns : ns.length ≤ 63) (m : Nat) (s2 s3 s5 s6 s7 s8 s9 : Slot) :
    ∃ s2' s5' s6', blk (ex noOw (callF F (k + 7)) (m + 50)) l12_body [some (.lst (ns.map .int), false), some (bookD zs ls1, false), s2, s3, some (bookD zs ls2, false), s5, s6, s7, s8, s9]
      = .nx [some (.lst (ns.map .int), false), some (bookD zs ls1, false), s2', s3, some (bookD zs ls2, false), s5', s6', s7, s8, s9] := by
  have J2 := K.toAlk.toJud2
  have p1 := s_parting (k := k) K.toAlk B B2
  have p2 := s_parting (k := k) K.toAlk B2 B
  rw [fp_comm] at p2
  have al := s_are_alike (k := k) K.toAlk B B2
  have st := s_stricter (k := k) K.toAlk B B2
  have st2 := s_stricter (k := k) K.toAlk B2 B
  have fs := fp_spec B.zo ls1 ls2
  have eo := eqD_opt (fp zs ls1 ls2)
  have eN := isNon_optS (fp zs ls1 ls2)
  have fr : ∀ f es, fresh noOw (.call f es) = false := fun _ _ => rfl
  have eB : l12_body = (loopOf f_law12.body).take 2 ++ (((loopOf f_law12.body).drop 2).take 1 ++ (((loopOf f_law12.body).drop 3).take 1 ++ (loopOf f_law12.body).drop 4)) := rfl
  have t1 : blk (ex noOw (callF F (k + 7)) (m + 50)) ((loopOf f_law12.body).take 2) [some (.lst (ns.map .int), false), some (bookD zs ls1, false), s2, s3, some (bookD zs ls2, false), s5, s6, s7, s8, s9]
      = .nx [some (.lst (ns.map .int), false), some (bookD zs ls1, false), s2, s3, some (bookD zs ls2, false), some (optS (fp zs ls1 ls2), false), s6, s7, s8, s9] := by
    simp only [f_law12, loopOf, List.take, rb_ok, rb_ex, rb_no, ro_ok, ro_ex, ro_no, ob_nx, ob_rt, ob_ex, ob_no, fin_rt, fin_nx, fin_ex, gv0, gvS, ev_var, rd_f, rd_t, ev_cst, ev_bin, ev_neg, ev_cmp, ev_chain, ev_and, ev_or, ev_not, ev_ite, ev_tup, ev_lst, ev_dct, ev_ix, ev_slice, ev_call, ev_bi, ev_meth, ev_comp, evs_nil, evs_cons, evp_nil, evp_cons, evo_none, evo_some, conds_nil, conds_cons, asBb, asI_int, blk_nil, blk_cons, ex_fz, ex_set, ex_unp, bdO_nil, bdO_cons, ex_mul, storeP_nil, storeP_cons, ex_put, ex_app, ex_exp, ex_ret, ex_raise, ex_ite, ex_for, forO_some, sv0, svS, fz_nil, fz_cons, fzAt0, fzAtS, fz1_s, fz1_n, wipe_nil, wipe_cons, wkS, wk_lst, wkT, wk_dic, wk_enumS, wk_enumT, wk_enumL, wk_zipS, List.set_cons_zero, List.set_cons_succ, initEnv, List.map_cons, List.map_nil, List.length_cons, List.length_nil, List.replicate, List.cons_append, List.nil_append, Nat.reduceAdd, Nat.reduceSub, Nat.add_zero, Nat.zero_add, Bool.false_eq_true, if_true, if_false, ite_true, ite_false, List.zip_cons_cons, List.zip_nil_left, c_eq, c_ne, c_in, c_nin, c_le, c_gt, c_ge, c_lt, c_isN, c_nisN, c_isB, c_nisB, isNon_n, isNon_b, isNon_i, isNon_s, isNon_t, isNon_l, eqD_ss, eqD_ii, eqD_bb, inD_s, b_add, b_sub, neg_i, bi_isiS, bi_isiI, fl_i, fl_s, fl_t, fl_l, fls_n, fls_c, ty_ii, ty_bi, ty_ss, ty_tt, bi_lenS, bi_lenT, bi_lenL, bi_lenD, bi_tupL, bi_intI, ix_t0, ix_t1, ix_l0, ix_l1, ix_t3, sl_t3, sl_t2, sl_s1, Bool.not_true, Bool.not_false, Bool.and_true, Bool.true_and, Bool.and_self, decide_true, decide_false, turn_nm, turn_tp, rdI, rdS, rdB, rdN, rdT, p1, p2, al, fr, eo, eN, beq_self_eq_true]
  have t2 : blk (ex noOw (callF F (k + 7)) (m + 50)) (((loopOf f_law12.body).drop 2).take 1) [some (.lst (ns.map .int), false), some (bookD zs ls1, false), s2, s3, some (bookD zs ls2, false), some (optS (fp zs ls1 ls2), false), s6, s7, s8, s9]
      = .nx [some (.lst (ns.map .int), false), some (bookD zs ls1, false), s2, s3, some (bookD zs ls2, false), some (optS (fp zs ls1 ls2), false), s6, s7, s8, s9] ∧
      blk (ex noOw (callF F (k + 7)) (m + 50)) (((loopOf f_law12.body).drop 3).take 1) [some (.lst (ns.map .int), false), some (bookD zs ls1, false), s2, s3, some (bookD zs ls2, false), some (optS (fp zs ls1 ls2), false), s6, s7, s8, s9]
      = .nx [some (.lst (ns.map .int), false), some (bookD zs ls1, false), s2, s3, some (bookD zs ls2, false), some (optS (fp zs ls1 ls2), false), s6, s7, s8, s9] := by
    cases hP : fp zs ls1 ls2 with
    | none =>
      rw [hP] at fs
      have hA : Al zs ls1 ls2 := fun x hx => fs x (Wd_cal.mpr hx)
      have hs : stric zs ls1 ls2 = false := by
        unfold stric
        have : (fp zs ls2 (ls2 ++ ls1)).isNone = true := (obeys_iff B.zo ls2 ls1).mpr fun x hx h => by rw [hA x hx]; exact h
        rw [this]
        simp
      rw [hs] at st
      refine ⟨?_, ?_⟩
      · simp only [f_law12, loopOf, List.drop, List.take, rb_ok, rb_ex, rb_no, ro_ok, ro_ex, ro_no, ob_nx, ob_rt, ob_ex, ob_no, fin_rt, fin_nx, fin_ex, gv0, gvS, ev_var, rd_f, rd_t, ev_cst, ev_bin, ev_neg, ev_cmp, ev_chain, ev_and, ev_or, ev_not, ev_ite, ev_tup, ev_lst, ev_dct, ev_ix, ev_slice, ev_call, ev_bi, ev_meth, ev_comp, evs_nil, evs_cons, evp_nil, evp_cons, evo_none, evo_some, conds_nil, conds_cons, asBb, asI_int, blk_nil, blk_cons, ex_fz, ex_set, ex_unp, bdO_nil, bdO_cons, ex_mul, storeP_nil, storeP_cons, ex_put, ex_app, ex_exp, ex_ret, ex_raise, ex_ite, ex_for, forO_some, sv0, svS, fz_nil, fz_cons, fzAt0, fzAtS, fz1_s, fz1_n, wipe_nil, wipe_cons, wkS, wk_lst, wkT, wk_dic, wk_enumS, wk_enumT, wk_enumL, wk_zipS, List.set_cons_zero, List.set_cons_succ, initEnv, List.map_cons, List.map_nil, List.length_cons, List.length_nil, List.replicate, List.cons_append, List.nil_append, Nat.reduceAdd, Nat.reduceSub, Nat.add_zero, Nat.zero_add, Bool.false_eq_true, if_true, if_false, ite_true, ite_false, List.zip_cons_cons, List.zip_nil_left, c_eq, c_ne, c_in, c_nin, c_le, c_gt, c_ge, c_lt, c_isN, c_nisN, c_isB, c_nisB, isNon_n, isNon_b, isNon_i, isNon_s, isNon_t, isNon_l, eqD_ss, eqD_ii, eqD_bb, inD_s, b_add, b_sub, neg_i, bi_isiS, bi_isiI, fl_i, fl_s, fl_t, fl_l, fls_n, fls_c, ty_ii, ty_bi, ty_ss, ty_tt, bi_lenS, bi_lenT, bi_lenL, bi_lenD, bi_tupL, bi_intI, ix_t0, ix_t1, ix_l0, ix_l1, ix_t3, sl_t3, sl_t2, sl_s1, Bool.not_true, Bool.not_false, Bool.and_true, Bool.true_and, Bool.and_self, decide_true, decide_false, turn_nm, turn_tp, rdI, rdS, rdB, rdN, rdT, optS]
      · simp only [f_law12, loopOf, List.drop, List.take, rb_ok, rb_ex, rb_no, ro_ok, ro_ex, ro_no, ob_nx, ob_rt, ob_ex, ob_no, fin_rt, fin_nx, fin_ex, gv0, gvS, ev_var, rd_f, rd_t, ev_cst, ev_bin, ev_neg, ev_cmp, ev_chain, ev_and, ev_or, ev_not, ev_ite, ev_tup, ev_lst, ev_dct, ev_ix, ev_slice, ev_call, ev_bi, ev_meth, ev_comp, evs_nil, evs_cons, evp_nil, evp_cons, evo_none, evo_some, conds_nil, conds_cons, asBb, asI_int, blk_nil, blk_cons, ex_fz, ex_set, ex_unp, bdO_nil, bdO_cons, ex_mul, storeP_nil, storeP_cons, ex_put, ex_app, ex_exp, ex_ret, ex_raise, ex_ite, ex_for, forO_some, sv0, svS, fz_nil, fz_cons, fzAt0, fzAtS, fz1_s, fz1_n, wipe_nil, wipe_cons, wkS, wk_lst, wkT, wk_dic, wk_enumS, wk_enumT, wk_enumL, wk_zipS, List.set_cons_zero, List.set_cons_succ, initEnv, List.map_cons, List.map_nil, List.length_cons, List.length_nil, List.replicate, List.cons_append, List.nil_append, Nat.reduceAdd, Nat.reduceSub, Nat.add_zero, Nat.zero_add, Bool.false_eq_true, if_true, if_false, ite_true, ite_false, List.zip_cons_cons, List.zip_nil_left, c_eq, c_ne, c_in, c_nin, c_le, c_gt, c_ge, c_lt, c_isN, c_nisN, c_isB, c_nisB, isNon_n, isNon_b, isNon_i, isNon_s, isNon_t, isNon_l, eqD_ss, eqD_ii, eqD_bb, inD_s, b_add, b_sub, neg_i, bi_isiS, bi_isiI, fl_i, fl_s, fl_t, fl_l, fls_n, fls_c, ty_ii, ty_bi, ty_ss, ty_tt, bi_lenS, bi_lenT, bi_lenL, bi_lenD, bi_tupL, bi_intI, ix_t0, ix_t1, ix_l0, ix_l1, ix_t3, sl_t3, sl_t2, sl_s1, Bool.not_true, Bool.not_false, Bool.and_true, Bool.true_and, Bool.and_self, decide_true, decide_false, turn_nm, turn_tp, rdI, rdS, rdB, rdN, rdT, st]
    | some y =>
      rw [hP] at fs
      obtain ⟨x, d, hy, hw, hx1, hx2, hne, _, Ks, nd, hyl, hks⟩ := fs
      have hy60 : y.length ≤ 60 := Nat.le_trans hyl (rb Ks nd hks)
      have cy : CalOk zs y := Wd_cal.mp hw
      have cx : CalOk zs x := fun c hc => cy c (by rw [hy]; exact List.mem_append_left _ hc)
      have hxl : x.length ≤ 60 := by rw [hy] at hy60; simp at hy60; omega
      have a1 := s_allow (k := k) J2 B cy hy60
      have a2 := s_allow (k := k) J2 B2 cy hy60
      have b1 := s_allow (k := k) J2 B cx hxl
      have b2 := s_allow (k := k) J2 B2 cx hxl
      rw [hx1] at b1
      rw [hx2] at b2
      have sl : slice (.str y) none (some (-1)) = .ok (.str x) := by rw [hy]; exact sl_sInit x d
      have n1 : neg (.int 1) = .ok (.int (-1)) := rfl
      refine ⟨?_, ?_⟩
      · cases o1 : okC ls1 never y <;> cases o2 : okC ls2 never y
        all_goals first
          | (exfalso; apply hne; rw [o1, o2]; done)
          | (rw [o1] at a1
             rw [o2] at a2
             simp only [f_law12, loopOf, List.drop, List.take, optS, rb_ok, rb_ex, rb_no, ro_ok, ro_ex, ro_no, ob_nx, ob_rt, ob_ex, ob_no, fin_rt, fin_nx, fin_ex, gv0, gvS, ev_var, rd_f, rd_t, ev_cst, ev_bin, ev_neg, ev_cmp, ev_chain, ev_and, ev_or, ev_not, ev_ite, ev_tup, ev_lst, ev_dct, ev_ix, ev_slice, ev_call, ev_bi, ev_meth, ev_comp, evs_nil, evs_cons, evp_nil, evp_cons, evo_none, evo_some, conds_nil, conds_cons, asBb, asI_int, blk_nil, blk_cons, ex_fz, ex_set, ex_unp, bdO_nil, bdO_cons, ex_mul, storeP_nil, storeP_cons, ex_put, ex_app, ex_exp, ex_ret, ex_raise, ex_ite, ex_for, forO_some, sv0, svS, fz_nil, fz_cons, fzAt0, fzAtS, fz1_s, fz1_n, wipe_nil, wipe_cons, wkS, wk_lst, wkT, wk_dic, wk_enumS, wk_enumT, wk_enumL, wk_zipS, List.set_cons_zero, List.set_cons_succ, initEnv, List.map_cons, List.map_nil, List.length_cons, List.length_nil, List.replicate, List.cons_append, List.nil_append, Nat.reduceAdd, Nat.reduceSub, Nat.add_zero, Nat.zero_add, Bool.false_eq_true, if_true, if_false, ite_true, ite_false, List.zip_cons_cons, List.zip_nil_left, c_eq, c_ne, c_in, c_nin, c_le, c_gt, c_ge, c_lt, c_isN, c_nisN, c_isB, c_nisB, isNon_n, isNon_b, isNon_i, isNon_s, isNon_t, isNon_l, eqD_ss, eqD_ii, eqD_bb, inD_s, b_add, b_sub, neg_i, bi_isiS, bi_isiI, fl_i, fl_s, fl_t, fl_l, fls_n, fls_c, ty_ii, ty_bi, ty_ss, ty_tt, bi_lenS, bi_lenT, bi_lenL, bi_lenD, bi_tupL, bi_intI, ix_t0, ix_t1, ix_l0, ix_l1, ix_t3, sl_t3, sl_t2, sl_s1, Bool.not_true, Bool.not_false, Bool.and_true, Bool.true_and, Bool.and_self, decide_true, decide_false, turn_nm, turn_tp, rdI, rdS, rdB, rdN, rdT, a1, a2, b1, b2, n1, sl, show (false == true) = false from rfl, show (true == false) = false from rfl])
      · cases q : stric zs ls1 ls2 with
        | false =>
          rw [q] at st
          simp only [f_law12, loopOf, List.drop, List.take, optS, rb_ok, rb_ex, rb_no, ro_ok, ro_ex, ro_no, ob_nx, ob_rt, ob_ex, ob_no, fin_rt, fin_nx, fin_ex, gv0, gvS, ev_var, rd_f, rd_t, ev_cst, ev_bin, ev_neg, ev_cmp, ev_chain, ev_and, ev_or, ev_not, ev_ite, ev_tup, ev_lst, ev_dct, ev_ix, ev_slice, ev_call, ev_bi, ev_meth, ev_comp, evs_nil, evs_cons, evp_nil, evp_cons, evo_none, evo_some, conds_nil, conds_cons, asBb, asI_int, blk_nil, blk_cons, ex_fz, ex_set, ex_unp, bdO_nil, bdO_cons, ex_mul, storeP_nil, storeP_cons, ex_put, ex_app, ex_exp, ex_ret, ex_raise, ex_ite, ex_for, forO_some, sv0, svS, fz_nil, fz_cons, fzAt0, fzAtS, fz1_s, fz1_n, wipe_nil, wipe_cons, wkS, wk_lst, wkT, wk_dic, wk_enumS, wk_enumT, wk_enumL, wk_zipS, List.set_cons_zero, List.set_cons_succ, initEnv, List.map_cons, List.map_nil, List.length_cons, List.length_nil, List.replicate, List.cons_append, List.nil_append, Nat.reduceAdd, Nat.reduceSub, Nat.add_zero, Nat.zero_add, Bool.false_eq_true, if_true, if_false, ite_true, ite_false, List.zip_cons_cons, List.zip_nil_left, c_eq, c_ne, c_in, c_nin, c_le, c_gt, c_ge, c_lt, c_isN, c_nisN, c_isB, c_nisB, isNon_n, isNon_b, isNon_i, isNon_s, isNon_t, isNon_l, eqD_ss, eqD_ii, eqD_bb, inD_s, b_add, b_sub, neg_i, bi_isiS, bi_isiI, fl_i, fl_s, fl_t, fl_l, fls_n, fls_c, ty_ii, ty_bi, ty_ss, ty_tt, bi_lenS, bi_lenT, bi_lenL, bi_lenD, bi_tupL, bi_intI, ix_t0, ix_t1, ix_l0, ix_l1, ix_t3, sl_t3, sl_t2, sl_s1, Bool.not_true, Bool.not_false, Bool.and_true, Bool.true_and, Bool.and_self, decide_true, decide_false, turn_nm, turn_tp, rdI, rdS, rdB, rdN, rdT, st]
        | true =>
          rw [q] at st
          have q' := q
          unfold stric at q'
          rw [Bool.and_eq_true] at q'
          have ob := (obeys_iff B.zo ls1 ls2).mp q'.1
          have hs2 : stric zs ls2 ls1 = false := by
            unfold stric
            rw [q'.1]
            simp
          have ho : okC ls1 never y = false := by
            cases o1 : okC ls1 never y with
            | false => rfl
            | true => exact absurd (by rw [o1, ob y cy o1]) hne
          rw [hs2] at st2
          rw [ho] at a1
          simp only [f_law12, loopOf, List.drop, List.take, optS, rb_ok, rb_ex, rb_no, ro_ok, ro_ex, ro_no, ob_nx, ob_rt, ob_ex, ob_no, fin_rt, fin_nx, fin_ex, gv0, gvS, ev_var, rd_f, rd_t, ev_cst, ev_bin, ev_neg, ev_cmp, ev_chain, ev_and, ev_or, ev_not, ev_ite, ev_tup, ev_lst, ev_dct, ev_ix, ev_slice, ev_call, ev_bi, ev_meth, ev_comp, evs_nil, evs_cons, evp_nil, evp_cons, evo_none, evo_some, conds_nil, conds_cons, asBb, asI_int, blk_nil, blk_cons, ex_fz, ex_set, ex_unp, bdO_nil, bdO_cons, ex_mul, storeP_nil, storeP_cons, ex_put, ex_app, ex_exp, ex_ret, ex_raise, ex_ite, ex_for, forO_some, sv0, svS, fz_nil, fz_cons, fzAt0, fzAtS, fz1_s, fz1_n, wipe_nil, wipe_cons, wkS, wk_lst, wkT, wk_dic, wk_enumS, wk_enumT, wk_enumL, wk_zipS, List.set_cons_zero, List.set_cons_succ, initEnv, List.map_cons, List.map_nil, List.length_cons, List.length_nil, List.replicate, List.cons_append, List.nil_append, Nat.reduceAdd, Nat.reduceSub, Nat.add_zero, Nat.zero_add, Bool.false_eq_true, if_true, if_false, ite_true, ite_false, List.zip_cons_cons, List.zip_nil_left, c_eq, c_ne, c_in, c_nin, c_le, c_gt, c_ge, c_lt, c_isN, c_nisN, c_isB, c_nisB, isNon_n, isNon_b, isNon_i, isNon_s, isNon_t, isNon_l, eqD_ss, eqD_ii, eqD_bb, inD_s, b_add, b_sub, neg_i, bi_isiS, bi_isiI, fl_i, fl_s, fl_t, fl_l, fls_n, fls_c, ty_ii, ty_bi, ty_ss, ty_tt, bi_lenS, bi_lenT, bi_lenL, bi_lenD, bi_tupL, bi_intI, ix_t0, ix_t1, ix_l0, ix_l1, ix_t3, sl_t3, sl_t2, sl_s1, Bool.not_true, Bool.not_false, Bool.and_true, Bool.true_and, Bool.and_self, decide_true, decide_false, turn_nm, turn_tp, rdI, rdS, rdB, rdN, rdT, st, st2, a1]
  -- days of any kind
  have t4 : ∃ s2' s6', blk (ex noOw (callF F (k + 7)) (m + 50)) ((loopOf f_law12.body).drop 4) [some (.lst (ns.map .int), false), some (bookD zs ls1, false), s2, s3, some (bookD zs ls2, false), some (optS (fp zs ls1 ls2), false), s6, s7, s8, s9]
      = .nx [some (.lst (ns.map .int), false), some (bookD zs ls1, false), s2', s3, some (bookD zs ls2, false), some (optS (fp zs ls1 ls2), false), s6', s7, s8, s9] := by
    obtain ⟨ρ', h, a, b, rfl⟩ := forL_inv (f := blk (ex noOw (callF F (k + 7)) (m + 49)) l12b_body) (i := 2) (fun ρ => ∃ a b, ρ = [some (.lst (ns.map .int), false), some (bookD zs ls1, false), a, s3, some (bookD zs ls2, false), some (optS (fp zs ls1 ls2), false), b, s7, s8, s9]) ((List.range 3).map fun (j : Nat) => D.int (j : Nat)) [some (.lst (ns.map .int), false), some (bookD zs ls1, false), s2, s3, some (bookD zs ls2, false), some (optS (fp zs ls1 ls2), false), s6, s7, s8, s9] (fun x hx ρ hP => by
      obtain ⟨j, _, rfl⟩ := List.mem_map.mp hx
      obtain ⟨a, b, rfl⟩ := hP
      obtain ⟨b', h⟩ := l12_in (k := k) K B B2 hns m s3 s7 s8 s9 j a b
      exact ⟨_, h, _, b', rfl⟩) ⟨s2, s6, rfl⟩
    refine ⟨a, b, ?_⟩
    have w3 : walkOf 3 [.int 3] = some ((List.range 3).map fun (j : Nat) => D.int (j : Nat)) := wk_rng (small_nat (n := 3) (by omega)) |>.trans (by rw [← rngUp0]; rfl)
    simp only [l12b_body, l12_body, f_law12, loopOf] at h
    simp only [f_law12, loopOf, List.drop, blk_cons, blk_nil, ex_for, evs_cons, evs_nil, ev_cst, rb_ok, ro_ok, w3, forO_some]
    rw [h]
    rfl
  obtain ⟨s2', s6', t4⟩ := t4
  refine ⟨s2', some (optS (fp zs ls1 ls2), false), s6', ?_⟩
  rw [eB, blk_app, t1, ob_nx, blk_app, t2.1, ob_nx, blk_app, t2.2, ob_nx, t4]
end
end Mp

end Sec_MrG
section Sec_MrH
set_option autoImplicit false
set_option linter.all false
set_option maxHeartbeats 4000000
set_option maxRecDepth 100000
namespace Mp
open PySem
theorem wo_last (ls : List Lim) (l : Lim) : wo (ls ++ [l]) ls.length = ls := by
  unfold wo
  rw [List.take_left]
  have : (ls ++ [l]).drop (ls.length + 1) = [] := List.drop_eq_nil_of_le (by simp)
  rw [this, List.append_nil]
section
variable {F : Str → Option Fn} {k : Nat} {zs : List Nat} {ls : List Lim}
def l12c_body : List S := loopOf (f_law12.body.drop 6)
theorem l12_idle (K : K12 F) (B : BookOk zs ls) (m : Nat) (s0 s2 s3 s4 s5 s6 s7 s8 s9 : Slot) :
    ∃ s8', forL (blk (ex noOw (callF F (k + 7)) (m + 49)) l12c_body) (.nm 8) ((idl zs ls).map fun (j : Nat) => D.int (j : Nat)) [s0, some (bookD zs ls, false), s2, s3, s4, s5, s6, s7, s8, s9]
      = .nx [s0, some (bookD zs ls, false), s2, s3, s4, s5, s6, s7, s8', s9] := by
  have lg := line_ge
  have hm := B.many
  obtain ⟨ρ', h, a, rfl⟩ := forL_inv (f := blk (ex noOw (callF F (k + 7)) (m + 49)) l12c_body) (i := 8) (fun ρ => ∃ a, ρ = [s0, some (bookD zs ls, false), s2, s3, s4, s5, s6, s7, a, s9]) ((idl zs ls).map fun (j : Nat) => D.int (j : Nat)) [s0, some (bookD zs ls, false), s2, s3, s4, s5, s6, s7, s8, s9] (fun x hx ρ hP => by
    obtain ⟨j, hj, rfl⟩ := List.mem_map.mp hx
    obtain ⟨a, rfl⟩ := hP
    have hj := List.mem_filter.mp hj
    have hjl : j < ls.length := List.mem_range.mp hj.1
    have Bw : BookOk zs (wo ls j) := B.sub wo_mem (Nat.le_trans (wo_len ls j) hm)
    have al := s_are_alike (k := k) K.toAlk B Bw
    rw [hj.2] at al
    have e1 := sl_tTo (xs := ls.map Lim.d) (i := j) (by simp; omega)
    have e2 := sl_tN' (xs := ls.map Lim.d) (i := j + 1) (by simp; omega)
    have e2 : slice (.tup (ls.map Lim.d)) (some ((j : Int) + 1)) none = _ := e2
    have e3 := b_addt (x := (ls.map Lim.d).take j) (y := (ls.map Lim.d).drop (j + 1)) (by simp; omega)
    have e4 : (ls.map Lim.d).take j ++ (ls.map Lim.d).drop (j + 1) = (wo ls j).map Lim.d := by
      unfold wo
      rw [List.map_append, List.map_take, List.map_drop]
    rw [e4] at e3
    have eB : l12c_body = loopOf (f_law12.body.drop 6) := rfl
    refine ⟨_, ?_, some (.int (j : Nat), false), rfl⟩
    rw [eB]
    simp only [f_law12, List.drop, loopOf, rb_ok, rb_ex, rb_no, ro_ok, ro_ex, ro_no, ob_nx, ob_rt, ob_ex, ob_no, fin_rt, fin_nx, fin_ex, gv0, gvS, ev_var, rd_f, rd_t, ev_cst, ev_bin, ev_neg, ev_cmp, ev_chain, ev_and, ev_or, ev_not, ev_ite, ev_tup, ev_lst, ev_dct, ev_ix, ev_slice, ev_call, ev_bi, ev_meth, ev_comp, evs_nil, evs_cons, evp_nil, evp_cons, evo_none, evo_some, conds_nil, conds_cons, asBb, asI_int, blk_nil, blk_cons, ex_fz, ex_set, ex_unp, bdO_nil, bdO_cons, ex_mul, storeP_nil, storeP_cons, ex_put, ex_app, ex_exp, ex_ret, ex_raise, ex_ite, ex_for, forO_some, sv0, svS, fz_nil, fz_cons, fzAt0, fzAtS, fz1_s, fz1_n, wipe_nil, wipe_cons, wkS, wk_lst, wkT, wk_dic, wk_enumS, wk_enumT, wk_enumL, wk_zipS, List.set_cons_zero, List.set_cons_succ, initEnv, List.map_cons, List.map_nil, List.length_cons, List.length_nil, List.replicate, List.cons_append, List.nil_append, Nat.reduceAdd, Nat.reduceSub, Nat.add_zero, Nat.zero_add, Bool.false_eq_true, if_true, if_false, ite_true, ite_false, List.zip_cons_cons, List.zip_nil_left, c_eq, c_ne, c_in, c_nin, c_le, c_gt, c_ge, c_lt, c_isN, c_nisN, c_isB, c_nisB, isNon_n, isNon_b, isNon_i, isNon_s, isNon_t, isNon_l, eqD_ss, eqD_ii, eqD_bb, inD_s, b_add, b_sub, neg_i, bi_isiS, bi_isiI, fl_i, fl_s, fl_t, fl_l, fls_n, fls_c, ty_ii, ty_bi, ty_ss, ty_tt, bi_lenS, bi_lenT, bi_lenL, bi_lenD, bi_tupL, bi_intI, ix_t0, ix_t1, ix_l0, ix_l1, ix_t3, sl_t3, sl_t2, sl_s1, Bool.not_true, Bool.not_false, Bool.and_true, Bool.true_and, Bool.and_self, decide_true, decide_false, turn_nm, turn_tp, rdI, rdS, rdB, rdN, rdT, ix_b0, ix_b1, e1, e2, e3, d_bookE, al]) ⟨s8, rfl⟩
  exact ⟨a, h⟩
theorem law_k12 (K : K12 F) {ns : List Int} (hns : ns.length ≤ 63) : callF F (k + 8) "law" [.lst (ns.map .int)] = .ok (.bl true) := by
  have lg := line_ge
  have A := K.toAlk
  have Ho : owF F = noOw := A.toJud2.toJud.ho
  have W := K.toLawB.toLawD
  have R := K.toLawB.toDraw
  obtain ⟨zs, ls, B, hl, rb, h1⟩ := s_lbook (k := k + 3) K.toLawB hns 10 (m := 2) (by omega)
  have h1 : callF F (k + 7) "_law_book" [.lst (ns.map .int), .int 10, .int 2] = .ok (bookD zs ls) := h1
  obtain ⟨r, br, h2⟩ := s_drawn (k := k + 6) R.ho R.dr hns 1 (many := 3) (by decide)
  have h2 : callF F (k + 7) "_law_drawn" [.lst (ns.map .int), .int 1, .int 3] = .ok (.int r) := h2
  have hz := B.zo
  have hz2 : zs.length ≤ 2 := by rcases B.zo with rfl | rfl <;> decide
  have L := fun j : Nat => s_limit (k := k + 5) R hns (40 + 6 * j) hz
  let l := fun j : Nat => Classical.choose (L j)
  have hL := fun j : Nat => Classical.choose_spec (L j)
  obtain ⟨lims, hlims⟩ : ∃ lims, lims = (List.range r).map l := ⟨_, rfl⟩
  have hll : lims.length ≤ 2 := by rw [hlims]; simp; omega
  have hlo : ∀ x ∈ lims, x.Ok zs := fun x hx => by
    rw [hlims] at hx
    obtain ⟨j, _, rfl⟩ := List.mem_map.mp hx
    exact (hL j).1
  have m6 := fun j : Nat => b_mul6 6 j (by decide)
  have fr : ∀ f es, fresh noOw (.call f es) = false := fun _ _ => rfl
  have frc : ∀ own g kk its cs e, fresh noOw (.comp own g kk its cs e) = true := fun _ _ _ _ _ _ => rfl
  have frt : ∀ es, fresh noOw (.tup es) = false := fun _ => rfl
  have Bl : BookOk zs lims := ⟨hz, by omega, hlo⟩
  have Bm : BookOk zs (ls ++ lims) := ⟨hz, by simp; omega, fun x hx => by
    rcases List.mem_append.mp hx with h | h
    · exact B.all x h
    · exact hlo x h⟩
  have Bd : BookOk zs (ls ++ ls) := ⟨hz, by simp; omega, fun x hx => by
    rcases List.mem_append.mp hx with h | h
    · exact B.all x h
    · exact B.all x h⟩
  have t1 : blk (ex noOw (callF F (k + 7)) (N0 + 100)) (f_law12.body.take 2) (initEnv f_law12.names.length [.lst (ns.map .int)])
      = .nx [some (.lst (ns.map .int), false), some (bookD zs ls, false), none, some (.lst (lims.map Lim.d), true), none, none, none, none, none, none] := by
    simp only [f_law12, List.take, rb_ok, rb_ex, rb_no, ro_ok, ro_ex, ro_no, ob_nx, ob_rt, ob_ex, ob_no, fin_rt, fin_nx, fin_ex, gv0, gvS, ev_var, rd_f, rd_t, ev_cst, ev_bin, ev_neg, ev_cmp, ev_chain, ev_and, ev_or, ev_not, ev_ite, ev_tup, ev_lst, ev_dct, ev_ix, ev_slice, ev_call, ev_bi, ev_meth, ev_comp, evs_nil, evs_cons, evp_nil, evp_cons, evo_none, evo_some, conds_nil, conds_cons, asBb, asI_int, blk_nil, blk_cons, ex_fz, ex_set, ex_unp, bdO_nil, bdO_cons, ex_mul, storeP_nil, storeP_cons, ex_put, ex_app, ex_exp, ex_ret, ex_raise, ex_ite, ex_for, forO_some, sv0, svS, fz_nil, fz_cons, fzAt0, fzAtS, fz1_s, fz1_n, wipe_nil, wipe_cons, wkS, wk_lst, wkT, wk_dic, wk_enumS, wk_enumT, wk_enumL, wk_zipS, List.set_cons_zero, List.set_cons_succ, initEnv, List.map_cons, List.map_nil, List.length_cons, List.length_nil, List.replicate, List.cons_append, List.nil_append, Nat.reduceAdd, Nat.reduceSub, Nat.add_zero, Nat.zero_add, Bool.false_eq_true, if_true, if_false, ite_true, ite_false, List.zip_cons_cons, List.zip_nil_left, c_eq, c_ne, c_in, c_nin, c_le, c_gt, c_ge, c_lt, c_isN, c_nisN, c_isB, c_nisB, isNon_n, isNon_b, isNon_i, isNon_s, isNon_t, isNon_l, eqD_ss, eqD_ii, eqD_bb, inD_s, b_add, b_sub, neg_i, bi_isiS, bi_isiI, fl_i, fl_s, fl_t, fl_l, fls_n, fls_c, ty_ii, ty_bi, ty_ss, ty_tt, bi_lenS, bi_lenT, bi_lenL, bi_lenD, bi_tupL, bi_intI, ix_t0, ix_t1, ix_l0, ix_l1, ix_t3, sl_t3, sl_t2, sl_s1, Bool.not_true, Bool.not_false, Bool.and_true, Bool.true_and, Bool.and_self, decide_true, decide_false, turn_nm, turn_tp, rdI, rdS, rdB, rdN, rdT, h1, h2, fr, wk_rng (small_nat (show r ≤ 1000 by omega)), Int.toNat_natCast, rngUp0]
    rw [comL_map (f := fun j : Nat => some (l j).d) (by simp; omega) (fun j hj => by
      have := (hL j).2.2
      have e : ((40 : Int) + 6 * (j : Int)) = ((40 + 6 * j : Nat) : Int) := by omega
      simp only [rb_ok, rb_ex, rb_no, ro_ok, ro_ex, ro_no, ob_nx, ob_rt, ob_ex, ob_no, fin_rt, fin_nx, fin_ex, gv0, gvS, ev_var, rd_f, rd_t, ev_cst, ev_bin, ev_neg, ev_cmp, ev_chain, ev_and, ev_or, ev_not, ev_ite, ev_tup, ev_lst, ev_dct, ev_ix, ev_slice, ev_call, ev_bi, ev_meth, ev_comp, evs_nil, evs_cons, evp_nil, evp_cons, evo_none, evo_some, conds_nil, conds_cons, asBb, asI_int, blk_nil, blk_cons, ex_fz, ex_set, ex_unp, bdO_nil, bdO_cons, ex_mul, storeP_nil, storeP_cons, ex_put, ex_app, ex_exp, ex_ret, ex_raise, ex_ite, ex_for, forO_some, sv0, svS, fz_nil, fz_cons, fzAt0, fzAtS, fz1_s, fz1_n, wipe_nil, wipe_cons, wkS, wk_lst, wkT, wk_dic, wk_enumS, wk_enumT, wk_enumL, wk_zipS, List.set_cons_zero, List.set_cons_succ, initEnv, List.map_cons, List.map_nil, List.length_cons, List.length_nil, List.replicate, List.cons_append, List.nil_append, Nat.reduceAdd, Nat.reduceSub, Nat.add_zero, Nat.zero_add, Bool.false_eq_true, if_true, if_false, ite_true, ite_false, List.zip_cons_cons, List.zip_nil_left, c_eq, c_ne, c_in, c_nin, c_le, c_gt, c_ge, c_lt, c_isN, c_nisN, c_isB, c_nisB, isNon_n, isNon_b, isNon_i, isNon_s, isNon_t, isNon_l, eqD_ss, eqD_ii, eqD_bb, inD_s, b_add, b_sub, neg_i, bi_isiS, bi_isiI, fl_i, fl_s, fl_t, fl_l, fls_n, fls_c, ty_ii, ty_bi, ty_ss, ty_tt, bi_lenS, bi_lenT, bi_lenL, bi_lenD, bi_tupL, bi_intI, ix_t0, ix_t1, ix_l0, ix_l1, ix_t3, sl_t3, sl_t2, sl_s1, Bool.not_true, Bool.not_false, Bool.and_true, Bool.true_and, Bool.and_self, decide_true, decide_false, turn_nm, turn_tp, rdI, rdS, rdB, rdN, rdT, m6, ix_b0, e]
      have h : callF F (k + 7) "_law_limit" [.lst (ns.map .int), .int ((40 + 6 * j : Nat) : Int), .str zs] = .ok (l j).d := this
      simp only [h, rb_ok])]
    rw [filterMap_some]
    simp only [rb_ok, rb_ex, rb_no, ro_ok, ro_ex, ro_no, ob_nx, ob_rt, ob_ex, ob_no, fin_rt, fin_nx, fin_ex, gv0, gvS, ev_var, rd_f, rd_t, ev_cst, ev_bin, ev_neg, ev_cmp, ev_chain, ev_and, ev_or, ev_not, ev_ite, ev_tup, ev_lst, ev_dct, ev_ix, ev_slice, ev_call, ev_bi, ev_meth, ev_comp, evs_nil, evs_cons, evp_nil, evp_cons, evo_none, evo_some, conds_nil, conds_cons, asBb, asI_int, blk_nil, blk_cons, ex_fz, ex_set, ex_unp, bdO_nil, bdO_cons, ex_mul, storeP_nil, storeP_cons, ex_put, ex_app, ex_exp, ex_ret, ex_raise, ex_ite, ex_for, forO_some, sv0, svS, fz_nil, fz_cons, fzAt0, fzAtS, fz1_s, fz1_n, wipe_nil, wipe_cons, wkS, wk_lst, wkT, wk_dic, wk_enumS, wk_enumT, wk_enumL, wk_zipS, List.set_cons_zero, List.set_cons_succ, initEnv, List.map_cons, List.map_nil, List.length_cons, List.length_nil, List.replicate, List.cons_append, List.nil_append, Nat.reduceAdd, Nat.reduceSub, Nat.add_zero, Nat.zero_add, Bool.false_eq_true, if_true, if_false, ite_true, ite_false, List.zip_cons_cons, List.zip_nil_left, c_eq, c_ne, c_in, c_nin, c_le, c_gt, c_ge, c_lt, c_isN, c_nisN, c_isB, c_nisB, isNon_n, isNon_b, isNon_i, isNon_s, isNon_t, isNon_l, eqD_ss, eqD_ii, eqD_bb, inD_s, b_add, b_sub, neg_i, bi_isiS, bi_isiI, fl_i, fl_s, fl_t, fl_l, fls_n, fls_c, ty_ii, ty_bi, ty_ss, ty_tt, bi_lenS, bi_lenT, bi_lenL, bi_lenD, bi_tupL, bi_intI, ix_t0, ix_t1, ix_l0, ix_l1, ix_t3, sl_t3, sl_t2, sl_s1, Bool.not_true, Bool.not_false, Bool.and_true, Bool.true_and, Bool.and_self, decide_true, decide_false, turn_nm, turn_tp, rdI, rdS, rdB, rdN, rdT, frc, hlims, List.map_map]
    rfl
  have e1 := b_addt (x := ls.map Lim.d) (y := lims.map Lim.d) (by simp; omega)
  rw [← List.map_append] at e1
  have e2 := b_addt (x := ls.map Lim.d) (y := ls.map Lim.d) (by simp; omega)
  rw [← List.map_append] at e2
  obtain ⟨a2, a5, a6, u1⟩ := l12_turn (k := k) K B rb Bl hns (N0 + 49) none (some (.lst (lims.map Lim.d), true)) none none none none none
  obtain ⟨b2, b5, b6, u2⟩ := l12_turn (k := k) K B rb Bm hns (N0 + 49) a2 (some (.lst (lims.map Lim.d), true)) a5 a6 none none none
  obtain ⟨c2, c5, c6, u3⟩ := l12_turn (k := k) K B rb Bd hns (N0 + 49) b2 (some (.lst (lims.map Lim.d), true)) b5 b6 none none none
  have t2 : blk (ex noOw (callF F (k + 7)) (N0 + 100)) ((f_law12.body.drop 2).take 1) [some (.lst (ns.map .int), false), some (bookD zs ls, false), none, some (.lst (lims.map Lim.d), true), none, none, none, none, none, none]
      = .nx [some (.lst (ns.map .int), false), some (bookD zs ls, false), c2, some (.lst (lims.map Lim.d), true), some (bookD zs (ls ++ ls), false), c5, c6, none, none, none] := by
    have e0 : evs (fun x => ev (callF F (k + 7)) (N0 + 99) false x [some (.lst (ns.map .int), false), some (bookD zs ls, false), none, some (.lst (lims.map Lim.d), true), none, none, none, none, none, none]) [(.tup [(.tup [(.ix (.var 1) (.cst (.int (0)))), (.bi .tuple [(.var 3)])]), (.tup [(.ix (.var 1) (.cst (.int (0)))), (.bin .add (.ix (.var 1) (.cst (.int (1)))) (.bi .tuple [(.var 3)]))]), (.tup [(.ix (.var 1) (.cst (.int (0)))), (.bin .add (.ix (.var 1) (.cst (.int (1)))) (.ix (.var 1) (.cst (.int (1)))))])])]
        = .ok [.tup [bookD zs lims, bookD zs (ls ++ lims), bookD zs (ls ++ ls)]] := by
      simp only [rb_ok, rb_ex, rb_no, ro_ok, ro_ex, ro_no, ob_nx, ob_rt, ob_ex, ob_no, fin_rt, fin_nx, fin_ex, gv0, gvS, ev_var, rd_f, rd_t, ev_cst, ev_bin, ev_neg, ev_cmp, ev_chain, ev_and, ev_or, ev_not, ev_ite, ev_tup, ev_lst, ev_dct, ev_ix, ev_slice, ev_call, ev_bi, ev_meth, ev_comp, evs_nil, evs_cons, evp_nil, evp_cons, evo_none, evo_some, conds_nil, conds_cons, asBb, asI_int, blk_nil, blk_cons, ex_fz, ex_set, ex_unp, bdO_nil, bdO_cons, ex_mul, storeP_nil, storeP_cons, ex_put, ex_app, ex_exp, ex_ret, ex_raise, ex_ite, ex_for, forO_some, sv0, svS, fz_nil, fz_cons, fzAt0, fzAtS, fz1_s, fz1_n, wipe_nil, wipe_cons, wkS, wk_lst, wkT, wk_dic, wk_enumS, wk_enumT, wk_enumL, wk_zipS, List.set_cons_zero, List.set_cons_succ, initEnv, List.map_cons, List.map_nil, List.length_cons, List.length_nil, List.replicate, List.cons_append, List.nil_append, Nat.reduceAdd, Nat.reduceSub, Nat.add_zero, Nat.zero_add, Bool.false_eq_true, if_true, if_false, ite_true, ite_false, List.zip_cons_cons, List.zip_nil_left, c_eq, c_ne, c_in, c_nin, c_le, c_gt, c_ge, c_lt, c_isN, c_nisN, c_isB, c_nisB, isNon_n, isNon_b, isNon_i, isNon_s, isNon_t, isNon_l, eqD_ss, eqD_ii, eqD_bb, inD_s, b_add, b_sub, neg_i, bi_isiS, bi_isiI, fl_i, fl_s, fl_t, fl_l, fls_n, fls_c, ty_ii, ty_bi, ty_ss, ty_tt, bi_lenS, bi_lenT, bi_lenL, bi_lenD, bi_tupL, bi_intI, ix_t0, ix_t1, ix_l0, ix_l1, ix_t3, sl_t3, sl_t2, sl_s1, Bool.not_true, Bool.not_false, Bool.and_true, Bool.true_and, Bool.and_self, decide_true, decide_false, turn_nm, turn_tp, rdI, rdS, rdB, rdN, rdT, ix_b0, ix_b1, rd_t, e1, e2, d_bookE]
    have ew : (f_law12.body.drop 2).take 1 = [.for_ (.nm 4) 0 [(.tup [(.tup [(.ix (.var 1) (.cst (.int (0)))), (.bi .tuple [(.var 3)])]), (.tup [(.ix (.var 1) (.cst (.int (0)))), (.bin .add (.ix (.var 1) (.cst (.int (1)))) (.bi .tuple [(.var 3)]))]), (.tup [(.ix (.var 1) (.cst (.int (0)))), (.bin .add (.ix (.var 1) (.cst (.int (1)))) (.ix (.var 1) (.cst (.int (1)))))])])] l12_body] := rfl
    rw [ew, blk_cons, ex_for, e0, ro_ok, wkT, forO_some, forL_nm]
    simp only [svS, sv0]
    rw [u1, ob_nx, forL_nm]
    simp only [svS, sv0]
    rw [u2, ob_nx, forL_nm]
    simp only [svS, sv0]
    rw [u3, ob_nx, forL_nil, ob_nx, blk_nil]
  -- more limits
  have st1 := s_stricter (k := k) A Bm B
  have al1 := s_are_alike (k := k) A Bm B
  have hst1 : stric zs (ls ++ lims) ls = !(fp zs (ls ++ lims) ls).isNone := by
    unfold stric
    have q1 : (fp zs (ls ++ lims) ((ls ++ lims) ++ ls)).isNone = true := (obeys_iff hz _ _).mpr fun x _ h => okC_more ls lims _ _ h
    have q2 : (fp zs ls (ls ++ (ls ++ lims))).isNone = (fp zs (ls ++ lims) ls).isNone := by
      rw [Bool.eq_iff_iff, obeys_iff hz, alike_iff hz]
      constructor
      · intro h x hx
        cases q : okC ls never x with
        | true => exact h x hx q
        | false =>
          cases q2 : okC (ls ++ lims) never x with
          | false => rfl
          | true => rw [okC_more ls lims _ _ q2] at q; cases q
      · intro h x hx q
        rw [h x hx]
        exact q
    rw [q1, q2, Bool.true_and]
  rw [hst1] at st1
  have al2 := s_are_alike (k := k) A B Bd
  have hal2 : (fp zs ls (ls ++ ls)).isNone = true := (alike_iff hz _ _).mpr (Al_dup zs ls)
  rw [hal2] at al2
  have st2 := s_stricter (k := k) A B B
  have hst2 : stric zs ls ls = false := by
    unfold stric
    cases (fp zs ls (ls ++ ls)).isNone <;> rfl
  rw [hst2] at st2
  have id1 := s_idle (k := k + 1) A B
  obtain ⟨d8, u4⟩ := l12_idle (k := k) K B (N0 + 49) (some (.lst (ns.map .int), false)) c2 (some (.lst (lims.map Lim.d), true)) (some (bookD zs (ls ++ ls), false)) c5 c6 (some (bookD zs (ls ++ lims), false)) none none
  have bn : ∀ b : Bool, ((!b) == b) = false := fun b => by cases b <;> rfl
  have t3 : blk (ex noOw (callF F (k + 7)) (N0 + 100)) ((f_law12.body.drop 3).take 3) [some (.lst (ns.map .int), false), some (bookD zs ls, false), c2, some (.lst (lims.map Lim.d), true), some (bookD zs (ls ++ ls), false), c5, c6, none, none, none]
      = .nx [some (.lst (ns.map .int), false), some (bookD zs ls, false), c2, some (.lst (lims.map Lim.d), true), some (bookD zs (ls ++ ls), false), c5, c6, some (bookD zs (ls ++ lims), false), none, none] := by
    simp only [f_law12, List.drop, List.take, rb_ok, rb_ex, rb_no, ro_ok, ro_ex, ro_no, ob_nx, ob_rt, ob_ex, ob_no, fin_rt, fin_nx, fin_ex, gv0, gvS, ev_var, rd_f, rd_t, ev_cst, ev_bin, ev_neg, ev_cmp, ev_chain, ev_and, ev_or, ev_not, ev_ite, ev_tup, ev_lst, ev_dct, ev_ix, ev_slice, ev_call, ev_bi, ev_meth, ev_comp, evs_nil, evs_cons, evp_nil, evp_cons, evo_none, evo_some, conds_nil, conds_cons, asBb, asI_int, blk_nil, blk_cons, ex_fz, ex_set, ex_unp, bdO_nil, bdO_cons, ex_mul, storeP_nil, storeP_cons, ex_put, ex_app, ex_exp, ex_ret, ex_raise, ex_ite, ex_for, forO_some, sv0, svS, fz_nil, fz_cons, fzAt0, fzAtS, fz1_s, fz1_n, wipe_nil, wipe_cons, wkS, wk_lst, wkT, wk_dic, wk_enumS, wk_enumT, wk_enumL, wk_zipS, List.set_cons_zero, List.set_cons_succ, initEnv, List.map_cons, List.map_nil, List.length_cons, List.length_nil, List.replicate, List.cons_append, List.nil_append, Nat.reduceAdd, Nat.reduceSub, Nat.add_zero, Nat.zero_add, Bool.false_eq_true, if_true, if_false, ite_true, ite_false, List.zip_cons_cons, List.zip_nil_left, c_eq, c_ne, c_in, c_nin, c_le, c_gt, c_ge, c_lt, c_isN, c_nisN, c_isB, c_nisB, isNon_n, isNon_b, isNon_i, isNon_s, isNon_t, isNon_l, eqD_ss, eqD_ii, eqD_bb, inD_s, b_add, b_sub, neg_i, bi_isiS, bi_isiI, fl_i, fl_s, fl_t, fl_l, fls_n, fls_c, ty_ii, ty_bi, ty_ss, ty_tt, bi_lenS, bi_lenT, bi_lenL, bi_lenD, bi_tupL, bi_intI, ix_t0, ix_t1, ix_l0, ix_l1, ix_t3, sl_t3, sl_t2, sl_s1, Bool.not_true, Bool.not_false, Bool.and_true, Bool.true_and, Bool.and_self, decide_true, decide_false, turn_nm, turn_tp, rdI, rdS, rdB, rdN, rdT, ix_b0, ix_b1, rd_t, e1, e2, d_bookE, frt, st1, al1, bn, al2, st2]
  have t4 : blk (ex noOw (callF F (k + 7)) (N0 + 100)) ((f_law12.body.drop 6).take 1) [some (.lst (ns.map .int), false), some (bookD zs ls, false), c2, some (.lst (lims.map Lim.d), true), some (bookD zs (ls ++ ls), false), c5, c6, some (bookD zs (ls ++ lims), false), none, none]
      = .nx [some (.lst (ns.map .int), false), some (bookD zs ls, false), c2, some (.lst (lims.map Lim.d), true), some (bookD zs (ls ++ ls), false), c5, c6, some (bookD zs (ls ++ lims), false), d8, none] := by
    simp only [l12c_body, f_law12, List.drop, loopOf] at u4
    simp only [f_law12, List.drop, List.take, blk_cons, blk_nil, ex_fz, ex_for, fz_cons, fz_nil, fzAt0, fzAtS, fz1_s, evs_cons, evs_nil, ev_call, ev_var, gvS, gv0, rd_f, rb_ok, ro_ok, id1, wk_lst, forO_some]
    rw [u4]
    rfl
  -- a limit that never breaks
  have Zz : Zs zs := by
    rcases hz with rfl | rfl
    · exact .inl rfl
    · exact .inr (.inr rfl)
  have Bf : BookOk zs (ls ++ [Lim.most zs 6 6]) := ⟨hz, by simp; omega, fun x hx => by
    rcases List.mem_append.mp hx with h | h
    · exact B.all x h
    · have : x = Lim.most zs 6 6 := by simpa using h
      rw [this]
      exact ⟨Zz, fun c h => h, ⟨by omega, by omega, by omega⟩⟩⟩
  have e3 := b_addt (x := ls.map Lim.d) (y := [Lim.d (Lim.most zs 6 6)]) (by simp; omega)
  have e3' : ls.map Lim.d ++ [Lim.d (Lim.most zs 6 6)] = (ls ++ [Lim.most zs 6 6]).map Lim.d := by simp
  rw [e3'] at e3
  have e3 : bin .add (.tup (ls.map Lim.d)) (.tup [.tup [.str [109, 111, 115, 116], .str zs, .int 6, .int 6]]) = .ok (.tup ((ls ++ [Lim.most zs 6 6]).map Lim.d)) := e3
  have id2 := s_idle (k := k + 1) A Bf
  have hin : (idl zs (ls ++ [Lim.most zs 6 6])).contains ls.length = true := by
    rw [List.contains_iff_mem]
    unfold idl
    refine List.mem_filter.mpr ⟨by simp, ?_⟩
    rw [wo_last, alike_iff hz]
    intro x _
    rw [okC_both, okC_full, Bool.and_true]
  have in1 := inD_ints ls.length (idl zs (ls ++ [Lim.most zs 6 6]))
  rw [hin] at in1
  have t5 : blk (ex noOw (callF F (k + 7)) (N0 + 100)) ((f_law12.body.drop 7).take 2) [some (.lst (ns.map .int), false), some (bookD zs ls, false), c2, some (.lst (lims.map Lim.d), true), some (bookD zs (ls ++ ls), false), c5, c6, some (bookD zs (ls ++ lims), false), d8, none]
      = .nx [some (.lst (ns.map .int), false), some (bookD zs ls, false), c2, some (.lst (lims.map Lim.d), true), some (bookD zs (ls ++ ls), false), c5, c6, some (bookD zs (ls ++ [Lim.most zs 6 6]), false), d8, none] := by
    simp only [f_law12, List.drop, List.take, rb_ok, rb_ex, rb_no, ro_ok, ro_ex, ro_no, ob_nx, ob_rt, ob_ex, ob_no, fin_rt, fin_nx, fin_ex, gv0, gvS, ev_var, rd_f, rd_t, ev_cst, ev_bin, ev_neg, ev_cmp, ev_chain, ev_and, ev_or, ev_not, ev_ite, ev_tup, ev_lst, ev_dct, ev_ix, ev_slice, ev_call, ev_bi, ev_meth, ev_comp, evs_nil, evs_cons, evp_nil, evp_cons, evo_none, evo_some, conds_nil, conds_cons, asBb, asI_int, blk_nil, blk_cons, ex_fz, ex_set, ex_unp, bdO_nil, bdO_cons, ex_mul, storeP_nil, storeP_cons, ex_put, ex_app, ex_exp, ex_ret, ex_raise, ex_ite, ex_for, forO_some, sv0, svS, fz_nil, fz_cons, fzAt0, fzAtS, fz1_s, fz1_n, wipe_nil, wipe_cons, wkS, wk_lst, wkT, wk_dic, wk_enumS, wk_enumT, wk_enumL, wk_zipS, List.set_cons_zero, List.set_cons_succ, initEnv, List.map_cons, List.map_nil, List.length_cons, List.length_nil, List.replicate, List.cons_append, List.nil_append, Nat.reduceAdd, Nat.reduceSub, Nat.add_zero, Nat.zero_add, Bool.false_eq_true, if_true, if_false, ite_true, ite_false, List.zip_cons_cons, List.zip_nil_left, c_eq, c_ne, c_in, c_nin, c_le, c_gt, c_ge, c_lt, c_isN, c_nisN, c_isB, c_nisB, isNon_n, isNon_b, isNon_i, isNon_s, isNon_t, isNon_l, eqD_ss, eqD_ii, eqD_bb, inD_s, b_add, b_sub, neg_i, bi_isiS, bi_isiI, fl_i, fl_s, fl_t, fl_l, fls_n, fls_c, ty_ii, ty_bi, ty_ss, ty_tt, bi_lenS, bi_lenT, bi_lenL, bi_lenD, bi_tupL, bi_intI, ix_t0, ix_t1, ix_l0, ix_l1, ix_t3, sl_t3, sl_t2, sl_s1, Bool.not_true, Bool.not_false, Bool.and_true, Bool.true_and, Bool.and_self, decide_true, decide_false, turn_nm, turn_tp, rdI, rdS, rdB, rdN, rdT, ix_b0, ix_b1, e3, d_bookE, frt, id2, List.length_map, in1]
  have eb : f_law12.body = f_law12.body.take 2 ++ ((f_law12.body.drop 2).take 1 ++ ((f_law12.body.drop 3).take 3 ++ ((f_law12.body.drop 6).take 1 ++ ((f_law12.body.drop 7).take 2 ++ f_law12.body.drop 9)))) := rfl
  rw [callF_run Ho K.lw rfl, eb, blk_app, t1, ob_nx, blk_app, t2, ob_nx, blk_app, t3, ob_nx, blk_app, t4, ob_nx, blk_app, t5, ob_nx]
  -- a limit twice
  cases ls with
  | nil =>
    have s1 : slice (.tup []) none (some 1) = .ok (.tup []) := rfl
    have mm : bin .mul (.tup []) (.int 2) = .ok (.tup []) := rfl
    have id3 := s_idle (k := k + 1) A (zs := zs) (ls1 := []) (B.sub (fun l h => h) (by simp))
    have id3 : callF F (k + 7) "idle_limits" [.tup [.str zs, .tup []]] = .ok (.lst []) := id3
    have q1 : eqD (.lst []) (.lst [.int 0, .int 1]) = .ok false := rfl
    have q2 : eqD (.tup []) (.tup []) = .ok true := rfl
    have bx : ix (bookD zs []) (.int 1) = .ok (.tup []) := ix_b1 zs []
    simp only [f_law12, List.drop, rb_ok, rb_ex, rb_no, ro_ok, ro_ex, ro_no, ob_nx, ob_rt, ob_ex, ob_no, fin_rt, fin_nx, fin_ex, gv0, gvS, ev_var, rd_f, rd_t, ev_cst, ev_bin, ev_neg, ev_cmp, ev_chain, ev_and, ev_or, ev_not, ev_ite, ev_tup, ev_lst, ev_dct, ev_ix, ev_slice, ev_call, ev_bi, ev_meth, ev_comp, evs_nil, evs_cons, evp_nil, evp_cons, evo_none, evo_some, conds_nil, conds_cons, asBb, asI_int, blk_nil, blk_cons, ex_fz, ex_set, ex_unp, bdO_nil, bdO_cons, ex_mul, storeP_nil, storeP_cons, ex_put, ex_app, ex_exp, ex_ret, ex_raise, ex_ite, ex_for, forO_some, sv0, svS, fz_nil, fz_cons, fzAt0, fzAtS, fz1_s, fz1_n, wipe_nil, wipe_cons, wkS, wk_lst, wkT, wk_dic, wk_enumS, wk_enumT, wk_enumL, wk_zipS, List.set_cons_zero, List.set_cons_succ, initEnv, List.map_cons, List.map_nil, List.length_cons, List.length_nil, List.replicate, List.cons_append, List.nil_append, Nat.reduceAdd, Nat.reduceSub, Nat.add_zero, Nat.zero_add, Bool.false_eq_true, if_true, if_false, ite_true, ite_false, List.zip_cons_cons, List.zip_nil_left, c_eq, c_ne, c_in, c_nin, c_le, c_gt, c_ge, c_lt, c_isN, c_nisN, c_isB, c_nisB, isNon_n, isNon_b, isNon_i, isNon_s, isNon_t, isNon_l, eqD_ss, eqD_ii, eqD_bb, inD_s, b_add, b_sub, neg_i, bi_isiS, bi_isiI, fl_i, fl_s, fl_t, fl_l, fls_n, fls_c, ty_ii, ty_bi, ty_ss, ty_tt, bi_lenS, bi_lenT, bi_lenL, bi_lenD, bi_tupL, bi_intI, ix_t0, ix_t1, ix_l0, ix_l1, ix_t3, sl_t3, sl_t2, sl_s1, Bool.not_true, Bool.not_false, Bool.and_true, Bool.true_and, Bool.and_self, decide_true, decide_false, turn_nm, turn_tp, rdI, rdS, rdB, rdN, rdT, ix_b0, bx, s1, mm, id3, q1, q2]
  | cons a t =>
    have s1 : slice (.tup ((a :: t).map Lim.d)) none (some 1) = .ok (.tup [a.d]) := sl_tTo (xs := (a :: t).map Lim.d) (i := 1) (by simp)
    have mm := mul_tup2 a.d
    have B3 : BookOk zs [a, a] := ⟨hz, by simp, fun x hx => by
      have : x = a := by simpa using hx
      rw [this]
      exact B.all a List.mem_cons_self⟩
    have id3 := s_idle (k := k + 1) A B3
    have hid : idl zs [a, a] = [0, 1] := by
      have q : (fp zs [a, a] [a]).isNone = true := (alike_iff hz _ _).mpr (Al_comm (Al_dup zs [a]))
      unfold idl
      have r2 : List.range [a, a].length = [0, 1] := rfl
      have w0 : wo [a, a] 0 = [a] := rfl
      have w1 : wo [a, a] 1 = [a] := rfl
      rw [r2]
      simp [List.filter_cons, w0, w1, q]
    rw [hid] at id3
    have id3 : callF F (k + 7) "idle_limits" [.tup [.str zs, .tup [a.d, a.d]]] = .ok (.lst [.int 0, .int 1]) := id3
    have q1 : eqD (.lst [.int 0, .int 1]) (.lst [.int 0, .int 1]) = .ok true := rfl
    generalize hG : (a :: t).map Lim.d = G at s1
    have bx : ix (bookD zs (a :: t)) (.int 1) = .ok (.tup G) := by rw [← hG]; exact ix_b1 zs (a :: t)
    simp only [f_law12, List.drop, rb_ok, rb_ex, rb_no, ro_ok, ro_ex, ro_no, ob_nx, ob_rt, ob_ex, ob_no, fin_rt, fin_nx, fin_ex, gv0, gvS, ev_var, rd_f, rd_t, ev_cst, ev_bin, ev_neg, ev_cmp, ev_chain, ev_and, ev_or, ev_not, ev_ite, ev_tup, ev_lst, ev_dct, ev_ix, ev_slice, ev_call, ev_bi, ev_meth, ev_comp, evs_nil, evs_cons, evp_nil, evp_cons, evo_none, evo_some, conds_nil, conds_cons, asBb, asI_int, blk_nil, blk_cons, ex_fz, ex_set, ex_unp, bdO_nil, bdO_cons, ex_mul, storeP_nil, storeP_cons, ex_put, ex_app, ex_exp, ex_ret, ex_raise, ex_ite, ex_for, forO_some, sv0, svS, fz_nil, fz_cons, fzAt0, fzAtS, fz1_s, fz1_n, wipe_nil, wipe_cons, wkS, wk_lst, wkT, wk_dic, wk_enumS, wk_enumT, wk_enumL, wk_zipS, List.set_cons_zero, List.set_cons_succ, initEnv, List.map_cons, List.map_nil, List.length_cons, List.length_nil, List.replicate, List.cons_append, List.nil_append, Nat.reduceAdd, Nat.reduceSub, Nat.add_zero, Nat.zero_add, Bool.false_eq_true, if_true, if_false, ite_true, ite_false, List.zip_cons_cons, List.zip_nil_left, c_eq, c_ne, c_in, c_nin, c_le, c_gt, c_ge, c_lt, c_isN, c_nisN, c_isB, c_nisB, isNon_n, isNon_b, isNon_i, isNon_s, isNon_t, isNon_l, eqD_ss, eqD_ii, eqD_bb, inD_s, b_add, b_sub, neg_i, bi_isiS, bi_isiI, fl_i, fl_s, fl_t, fl_l, fls_n, fls_c, ty_ii, ty_bi, ty_ss, ty_tt, bi_lenS, bi_lenT, bi_lenL, bi_lenD, bi_tupL, bi_intI, ix_t0, ix_t1, ix_l0, ix_l1, ix_t3, sl_t3, sl_t2, sl_s1, Bool.not_true, Bool.not_false, Bool.and_true, Bool.true_and, Bool.and_self, decide_true, decide_false, turn_nm, turn_tp, rdI, rdS, rdB, rdN, rdT, ix_b0, bx, s1, mm, id3, q1]
end
end Mp

end Sec_MrH
section Sec_J12
set_option Elab.async false
set_option maxRecDepth 100000
set_option maxHeartbeats 0
set_option linter.all false
namespace Mp
open PySem
def pb : List Stmt := PySem.Challenge.pw_staybounds_k12_whole_alike.main.body
def st (n : Nat) : Stmt := pb.getD n (.Pass ⟨0, 0, 0, 0⟩)
def L : Lists where
  fns := [(("is_int" : Str), st 17), (("has_zones" : Str), st 18), (("has_numbers" : Str), st 19), (("has_limit" : Str), st 20), (("is_book" : Str), st 21), (("check_book" : Str), st 22), (("are_days" : Str), st 23), (("check_calendar" : Str), st 24), (("days_of" : Str), st 25), (("count_in" : Str), st 29), (("count_starts" : Str), st 30), (("last" : Str), st 31), (("breaks" : Str), st 32), (("can_follow" : Str), st 33), (("after_day" : Str), st 34), (("find_broken" : Str), st 35), (("is_allowed" : Str), st 36), (("check_both" : Str), st 38), (("find_parting" : Str), st 39), (("parting_calendar" : Str), st 40), (("are_alike" : Str), st 41), (("obeys" : Str), st 42), (("is_stricter" : Str), st 43), (("without_limit" : Str), st 44), (("idle_limits" : Str), st 45), (("_law_drawn" : Str), st 47), (("_law_limit" : Str), st 48), (("_law_book" : Str), st 49), (("_law_days" : Str), st 50), (("_law_breaks" : Str), st 51), (("_law_after" : Str), st 52), (("_law_raw" : Str), st 53), (("law" : Str), st 54)]
  cons := [(("AWAY" : Str), .str [46]), (("ONE" : Str), .str [97]), (("BOTH" : Str), .str [97, 98]), (("MOST" : Str), .str [109, 111, 115, 116]), (("ROW" : Str), .str [114, 111, 119]), (("GAP" : Str), .str [103, 97, 112]), (("STARTS" : Str), .str [115, 116, 97, 114, 116, 115]), (("MAX_LIMITS" : Str), .int (4)), (("MAX_DAYS" : Str), .int (60)), (("MAX_SPAN" : Str), .int (6)), (("MAX_NEAR" : Str), .int (5)), (("PAST" : Str), .int (5))]
  loose := [("NEVER", .str [46,46,46,46,46])]
  cls := [("StayError" : Str), ("InvalidBook" : Str), ("InvalidCalendar" : Str), ("OtherZones" : Str)]
  own := []
theorem good : L.good = true := by decide +kernel
theorem once : L.once = true := by decide +kernel
theorem lk : L.fns.lookup ("law" : Str) = some (st 54) := by rfl
theorem prm : paramsOf (L2.defArgs (st 54)) = ([("_law_script" : Str)] : List Str) := by rfl
theorem ow : owF L.F = noOw := Lists.noOw rfl
theorem h12 : K12 L.F where
  toAlk := { ho := ow, lst := has_by rfl, cin := has_by rfl, cst := has_by rfl, brk := has_by rfl, can := has_by rfl, aft := has_by rfl, int := has_by rfl, zo := has_by rfl, nu := has_by rfl, li := has_by rfl, bo := has_by rfl, cb := has_by rfl, da := has_by rfl, cc := has_by rfl, dy := has_by rfl, fb := has_by rfl, al := has_by rfl, cbo := has_by rfl, fpa := has_by rfl, pca := has_by rfl, aal := has_by rfl, obe := has_by rfl, str := has_by rfl, wol := has_by rfl, idl := has_by rfl }
  toLawB := { toDraw := { ho := ow, dr := has_by rfl, li := has_by rfl, ra := has_by rfl }, toLawD := { ho := ow, dr := has_by rfl, lb := has_by rfl, la := has_by rfl, ld := has_by rfl }, bk := has_by rfl }
  lw := has_by rfl
theorem main (ns : List Int) : ns.length ≤ 63 → (∀ z ∈ ns, Builtin.Int.intBits z ≤ 1048576) → callF L.F 40 "law" [.lst (ns.map .int)] = .ok (.bl true) := fun h _ => law_k12 (k := 32) h12 h
end Mp

end Sec_J12
section Sec_J12b
open PySem PySem.W PyProof.Rows
set_option maxRecDepth 100000 in
set_option maxHeartbeats 0 in
theorem PySem.Challenge.cw_staybounds_k12_whole_alike_holds : PySem.Challenge.rw_staybounds_k12_whole_alike.Holds := by
  w_on; o_law; k_head; (case hw => w_witness2)
  k_fill
  refine Mp.walk_mp (k := 40) (L := Mp.L) (x := "law") (y := "_law_script") (by decide +kernel) (by decide) rfl ⟨rfl, by decide, by decide⟩ (fun w h Y => PySem.W.kIn_of Y) (by decide +kernel) ?facts Mp.good Mp.once ?loo ?nol Mp.lk Mp.prm Mp.main
  case loo => exact ⟨⟨by decide, by simp⟩, trivial⟩
  case nol => intro P; rfl
  case facts =>
    intro P
    refine ⟨?_, ?_, ?_, ?_⟩
    · repeat' (first | exact trivial | (refine And.intro (show Mp.FnFact _ _ _ from ?_) ?_))
      all_goals (try dsimp only)
      all_goals (refine' Mp.fnFact_mk ?a ?b ?c ?d; (case a => k_is); (case b => k_is); (case c => k_is); (case d => k_is))
    · repeat' (first | exact trivial | (refine And.intro (show Mp.ConFact _ _ _ from ?_) ?_))
      all_goals (try dsimp only)
      all_goals (first | (refine' Mp.conS_mk ?a0 ?a; (case a0 => decide); (case a => k_is)) | (refine' Mp.conI_mk ?a; (case a => k_is)))
    · repeat' (first | exact trivial | (refine And.intro (show Mp.ExcFact _ _ from ?_) ?_))
      all_goals (try dsimp only)
      all_goals (first | (refine' Mp.excFact_mk ?a ?b ?c ?d ?e; (case a => k_is); (case b => first | k_exc | rfl); (case c => k_is); (case d => k_is); (case e => k_is)))
    · repeat' (first | exact trivial | (refine And.intro ?_ ?_))
      all_goals (try dsimp only)
      all_goals (first | k_is)

end Sec_J12b
