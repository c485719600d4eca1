import PyProof.Rows.All
import Wide.All
import OpenK.AllK
import Wide.FinOn
import PySem.Str
import PySem.Syntax
import PySem.Eval
import HandS.Base
import HandS.Call
import HandS.List
import HandS.Comp
import HandS.Ends
import HandS.More
import HandS.Exc
import HandS.ExcOwn
import HandS.Words
import HandS.WordsExc
import HandS.Defaults
import HandS.Flow
import HandS.TupAny
import HandS.TupMul
import HandS.Wide
import HandS.Style
import HandS.Deep
import HandS.Dict
import KE.KDictKeyed
import KE.KDictPairs
import KE.KDictDisplayH
import KE.KeyNested
import HandS.Strs
import HandS.TupSets
import HandS.Conv
import HandS.IsInst
import HandS.SortInts
import HandS.SortOrd
import HandS.SortRule
import HandS.SetFor
import HandS.Iter
import HandS.Walk
import HandS.Zip
import KE.GoesEnum
import KE.KDictZip
import KE.KIndexOf
import HandS.ExcIs
import HandS.TryMany
import HandS.Head0
import HandS.Head1
import HandS.Head2
import HandS.HeadEnd
import HandS.HeadHook1
import HandS.HeadHook2
import PySem.Challenge.RW_allrowsbyties_k97_pairs_below_uncrossed
set_option linter.all false
/-! EvA: a small core language for the row's defs, and what it computes (own work). -/
namespace Ev
open PySem

/-- data; `scr`: the script; `lst`, `dct`, `set`: never changed any more; `ref`: a cell that may be changed; `fn`: a def by its number -/
inductive D where
  | non | bl (b : Bool) | int (i : Int) | str (x : Str)
  | tup (xs : List D) | lst (xs : List D)
  | dct (ks vs : List D) | set (xs : List D)
  | ref (n : Nat) | fn (n : Nat)
  | scr (xs : List D)
  deriving Inhabited

inductive Cell where
  | lst (xs : List D)
  | dct (ks vs : List D)
  deriving Inhabited

abbrev Hh := List Cell
abbrev Sl := List (Option D)

inductive Res (α : Type) where
  | ok (a : α) (h : Hh)
  | exc (c : Str) (pl : List D) (h : Hh)
  | fail

def Res.bind {α β : Type} (r : Res α) (k : α → Hh → Res β) : Res β :=
  match r with
  | .ok a h => k a h
  | .exc c pl h => .exc c pl h
  | .fail => .fail
/-- an exception is no way on -/
def Res.quiet {α : Type} (r : Res α) : Res α := match r with
  | .ok a h => .ok a h
  | _ => .fail
/-- a value or no way on -/
def Res.of {α : Type} (o : Option α) (h : Hh) : Res α := match o with
  | some a => .ok a h
  | none => .fail
@[simp] theorem Res.bind_ok {α β : Type} (a : α) (h : Hh) (k : α → Hh → Res β) : (Res.ok a h).bind k = k a h := rfl
@[simp] theorem Res.bind_exc {α β : Type} (c : Str) (pl : List D) (h : Hh) (k : α → Hh → Res β) : (Res.exc c pl h).bind k = .exc c pl h := rfl
@[simp] theorem Res.bind_fail {α β : Type} (k : α → Hh → Res β) : (Res.fail : Res α).bind k = .fail := rfl
@[simp] theorem Res.of_some {α : Type} (a : α) (h : Hh) : Res.of (some a) h = .ok a h := rfl
@[simp] theorem Res.of_none {α : Type} (h : Hh) : (Res.of none h : Res α) = .fail := rfl

inductive Op where
  | add | sub | mul | fdiv | mod | pow
  | eq | ne | lt | le | gt | ge | isin | notin | isN | notN
  deriving DecidableEq
/-- built-in functions by value -/
inductive Bi where
  | len | abs | int | bool | tuple | list | sum | max | min | any | all | sorted | set | dict
  deriving DecidableEq
/-- methods -/
inductive Mt where
  | append | pop | extend | index | count | remove | get
  deriving DecidableEq
inductive Ty where
  | int | bool | str | list | tuple
  deriving DecidableEq
/-- targets of loops: a slot, some slots -/
inductive Tg where
  | one (i : Nat)
  | many (ts : List Tg)

mutual
inductive Ex where
  | non | bl (b : Bool) | int (i : Int) | str (x : Str)
  | var (i : Nat)
  | gint (x : Str) (i : Int)
  | gfn (n : Nat)
  | tup (es : List Ex) | lst (es : List Ex)
  | dct (kvs : List Ex)
  | op (o : Op) (a b : Ex)
  | neg (a : Ex) | not (a : Ex)
  | and (a b : Ex) | or (a b : Ex)
  | ite (c a b : Ex)
  | chain (o o' : Op) (a b c : Ex)
  | chain3 (o o' o'' : Op) (a b c d : Ex)
  | bad
  | idx (a b : Ex)
  | slice (a : Ex) (lo hi : Option Ex)
  | rev (a : Ex)
  | call (n : Nat) (es : List Ex)
  | callE (f : Ex) (es : List Ex)
  | bi (b : Bi) (es : List Ex)
  | lrng (es : List Ex) | trng (es : List Ex)
  | meth (m : Mt) (o : Ex) (es : List Ex)
  | isin (e : Ex) (tys : List Ty)
  | comp (vs : List Nat) (elt : Ex) (gs : List Gn)
  | cell (e : Ex)
inductive Gn where
  | mk (tg : Tg) (it : Itr) (ifs : List Ex)
inductive Itr where
  | val (e : Ex) | rng (es : List Ex) | enum (e : Ex) | zip (a b : Ex) | enzip (a b : Ex)
end

/-- targets of an assignment -/
inductive At where
  | name (i : Nat)
  | sub (o i : Ex)
  | whole (o : Ex)
  | tup (ts : List At)

/-- except X as n: target = ["word", (n.field), isinstance(n, T)] -/
structure Hd where
  cls : Str
  nm : Nat
  tg : Nat
  word : Str
  fld : Option Str
  base : Bool

inductive Sm where
  | asg (t : At) (e : Ex)
  | par (ts : List At) (es : List Ex)
  | aug (i : Nat) (o : Op) (e : Ex)
  | expr (e : Ex)
  | ret (e : Ex) | retN
  | ife (c : Ex) (a b : List Sm)
  | forr (tg : Tg) (it : Itr) (b : List Sm)
  | whil (c : Ex) (b : List Sm)
  | brk | cnt | pass
  | rais (c : Str) (es : List Ex)
  | trys (b : List Sm) (hs : List Hd)
  | del (o i : Ex)
  | augs (o i : Ex) (op : Op) (e : Ex)
  | bad

/-! ### cells -/
def seqOf (h : Hh) : D → Option (List D)
  | .tup xs => some xs
  | .lst xs => some xs
  | .ref n => match h[n]? with
    | some (.lst xs) => some xs
    | _ => none
  | _ => none
/-- a thing with its own cell's content in place of the cell -/
def top (h : Hh) : D → D
  | .ref n => match h[n]? with
    | some (.lst xs) => .lst xs
    | some (.dct ks vs) => .dct ks vs
    | none => .ref n
  | d => d

/-! ### equality of plain data -/
mutual
def eqD : D → D → Bool
  | .non, .non => true
  | .bl a, .bl b => a == b
  | .bl a, .int j => (if a then 1 else 0) == j
  | .int i, .bl b => i == (if b then 1 else 0)
  | .int i, .int j => i == j
  | .str x, .str y => x == y
  | .lst xs, .lst ys => eqDs xs ys
  | .tup xs, .tup ys => eqDs xs ys
  | _, _ => false
def eqDs : List D → List D → Bool
  | [], [] => true
  | x :: xs, y :: ys => eqD x y && eqDs xs ys
  | _, _ => false
end
/-- plain data, nested at most n deep -/
def plain : Nat → D → Bool
  | _, .non => true
  | _, .bl _ => true
  | _, .int _ => true
  | _, .str x => x.cps.all (· < 0x110000)
  | n + 1, .tup xs => xs.all (plain n)
  | n + 1, .lst xs => xs.all (plain n)
  | _, _ => false
/-- no cell from b on -/
def under (b : Nat) : Nat → D → Bool
  | _, .non => true
  | _, .bl _ => true
  | _, .int _ => true
  | _, .str _ => true
  | _, .fn _ => true
  | _, .ref n => decide (n < b)
  | f + 1, .tup xs => xs.all (under b f)
  | f + 1, .lst xs => xs.all (under b f)
  | f + 1, .set xs => xs.all (under b f)
  | f + 1, .dct ks vs => ks.all (under b f) && vs.all (under b f)
  | _, _ => false
/-- cells from b on frozen -/
def frz (h : Hh) (b x : Nat) : Nat → D → Option D
  | _, .non => some .non
  | _, .bl x => some (.bl x)
  | _, .int x => some (.int x)
  | _, .str x => some (.str x)
  | _, .fn x => some (.fn x)
  | f + 1, .ref n => if n < b then some (.ref n) else if n = x then none else match h[n]? with
    | some (.lst xs) => (xs.mapM (frz h b x f)).map .lst
    | _ => none
  | f + 1, .tup xs => (xs.mapM (frz h b x f)).map .tup
  | f + 1, .lst xs => (xs.mapM (frz h b x f)).map .lst
  | _, _ => none
/-! ### no cell from b on -/
mutual
def rLt (b : Nat) : D → Prop
  | .ref n => n < b
  | .tup xs => rLts b xs
  | .lst xs => rLts b xs
  | .set xs => rLts b xs
  | .dct ks vs => rLts b ks ∧ rLts b vs
  | .scr xs => rLts b xs
  | _ => True
def rLts (b : Nat) : List D → Prop
  | [] => True
  | x :: xs => rLt b x ∧ rLts b xs
end
def cellLt (b : Nat) : Cell → Prop
  | .lst xs => rLts b xs
  | .dct ks vs => rLts b ks ∧ rLts b vs
end Ev

set_option linter.all false
/-! EvB: what the core language computes. -/
namespace Ev
open PySem

/-! ### order of plain data: none where Python refuses -/
mutual
def ltD : D → D → Option Bool
  | .int i, .int j => some (decide (i < j))
  | .str x, .str y => some (decide (x.cps.toList < y.cps.toList))
  | .tup xs, .tup ys => ltDs xs ys
  | _, _ => none
def ltDs : List D → List D → Option Bool
  | [], [] => some false
  | [], _ :: _ => some true
  | _ :: _, [] => some false
  | x :: xs, y :: ys => if eqD x y then ltDs xs ys else ltD x y
end

/-- one more in an ordered row, behind its equals -/
def insD (x : D) : List D → Option (List D)
  | [] => some [x]
  | y :: ys => match ltD x y with
    | some true => some (x :: y :: ys)
    | some false => (insD x ys).map (y :: ·)
    | none => none
/-- two ordered rows made one; fuel by both lengths -/
def mrg : Nat → List D → List D → Option (List D)
  | _, [], ys => some ys
  | _, xs, [] => some xs
  | 0, _, _ => none
  | n + 1, x :: xs, y :: ys => match ltD y x with
    | some true => (mrg n (x :: xs) ys).map (y :: ·)
    | some false => (mrg n xs (y :: ys)).map (x :: ·)
    | none => none
def sortN : Nat → List D → Option (List D)
  | _, [] => some []
  | _, [x] => some [x]
  | 0, _ => none
  | n + 1, xs => match sortN n (xs.take (xs.length / 2)), sortN n (xs.drop (xs.length / 2)) with
    | some a, some b => mrg xs.length a b
    | _, _ => none
def sortD (xs : List D) : Option (List D) := sortN 64 xs
/-- ints, tuples of them, and so on -/
def sI : Nat → D → Bool
  | _, .int _ => true
  | n + 1, .tup xs => xs.all (sI n)
  | _, _ => false
def isI : D → Bool
  | .int _ => true
  | _ => false
def rowI : D → Bool
  | .tup xs => xs.all isI
  | _ => false
def rowT : D → Bool
  | .tup xs => xs.all rowI
  | _ => false
def hdI : D → Bool
  | .tup (.int _ :: _) => true
  | _ => false
def hdT : D → Bool
  | .tup (.tup _ :: _) => true
  | _ => false
def isTup : D → Bool
  | .tup _ => true
  | _ => false
def hdE : List D → Bool
  | .tup [] :: _ => true
  | _ => false
def okSort (xs : List D) : Bool := decide (xs.length ≤ 1) || xs.all isI || ((xs.all hdI || xs.all hdT || (hdE xs && xs.all isTup)) && (xs.all rowI || xs.all rowT || xs.all fun x => xs.all fun y => (ltD x y).isSome))
/-- without what is equal to an earlier one -/
def dedup : List D → List D
  | [] => []
  | x :: xs => x :: (dedup xs).filter fun y => !eqD x y
def keyD : D → Bool := sI 8
/-- keys of one kind: all ints, or all tuples -/
def kdOk (ks : List D) (k : D) : Bool := keyD k && (match k with
  | .int _ => ks.all isI
  | _ => ks.all isTup)
def lookD (k : D) : List D → List D → Option D
  | x :: xs, v :: vs => if eqD x k then some v else lookD k xs vs
  | _, _ => none
def idxD (k : D) : List D → Option Nat
  | [] => none
  | x :: xs => if eqD x k then some 0 else (idxD k xs).map (· + 1)
def putD (ks vs : List D) (k v : D) : List D × List D := match idxD k ks with
  | some i => (ks, vs.set i v)
  | none => (ks ++ [k], vs ++ [v])

/-! ### truth -/
def truD (h : Hh) : D → Option Bool
  | .non => some false
  | .bl b => some b
  | .int i => some (i != 0)
  | .str x => if x.length ≤ 100000 then some (x.length != 0) else none
  | .tup xs => some (!xs.isEmpty)
  | .lst xs => some (!xs.isEmpty)
  | .ref n => match h[n]? with
    | some (.lst xs) => some (!xs.isEmpty)
    | _ => none
  | _ => none

/-! ### operators -/
def small (i : Int) : Bool := decide (-(2 ^ 64) < i) && decide (i < 2 ^ 64)
def eqOp (h : Hh) (x y : D) : Option Bool := if plain 30 (top h x) && plain 30 (top h y) then some (eqD (top h x) (top h y)) else none
def inOp (h : Hh) (x y : D) : Option Bool := match top h y with
  | .dct ks _ => if kdOk ks x then some (ks.any fun k => eqD k x) else none
  | .set _ => none
  | .tup xs => if plain 30 (top h x) && xs.all (plain 30) then some (xs.any fun y => eqD y (top h x)) else none
  | .lst xs => if plain 30 (top h x) && xs.all (plain 30) then some (xs.any fun y => eqD y (top h x)) else none
  | _ => none
def addOp (h : Hh) (x y : D) : Option D := match x, y with
  | .int i, .int j => some (.int (i + j))
  | .str a, .str b => if a.length + b.length ≤ 100000 then some (.str (a ++ b)) else none
  | .tup a, .tup b => if a.length + b.length ≤ 100000 then some (.tup (a ++ b)) else none
  | .tup _, _ => none
  | _, .tup _ => none
  | a, b => match seqOf h a, seqOf h b with
    | some xs, some ys => if xs.length + ys.length ≤ 100000 then some (.lst (xs ++ ys)) else none
    | _, _ => none
def subOp (x y : D) : Option D := match x, y with
  | .int i, .int j => some (.int (i - j))
  | _, _ => none
def mulOp (x y : D) : Option D := match x, y with
  | .int i, .int j => if small i || small j || decide (i.natAbs.log2 + j.natAbs.log2 < 1000000) then some (.int (i * j)) else none
  | .lst a, .int k => if 0 ≤ k && k ≤ 100000 && decide (a.length * k.toNat ≤ 100000) then some (.lst (List.replicate k.toNat a).flatten) else none
  | _, _ => none
def fdivOp (x y : D) : Option D := match x, y with
  | .int i, .int j => if decide (0 < j) && decide (j.natAbs.log2 < 9000) then some (.int (i / j)) else none
  | _, _ => none
def modOp (x y : D) : Option D := match x, y with
  | .int i, .int j => if 0 < j then some (.int (i % j)) else none
  | _, _ => none
def powOp (x y : D) : Option D := match x, y with
  | .int i, .int j => if decide (0 ≤ j) && decide (j ≤ 1000000) && decide (i.natAbs < 2 ^ 64) then some (.int (i ^ j.toNat)) else none
  | _, _ => none
def ltOp (x y : D) : Option Bool := match x, y with
  | .int i, .int j => some (decide (i < j))
  | .tup a, .tup b => if a.all (plain 8) && b.all (plain 8) then ltDs a b else none
  | _, _ => none
def gtOp (x y : D) : Option Bool := match x, y with
  | .int i, .int j => some (decide (j < i))
  | _, _ => none
def leOp (x y : D) : Option Bool := match x, y with
  | .int i, .int j => some (decide (i ≤ j))
  | _, _ => none
def geOp (x y : D) : Option Bool := match x, y with
  | .int i, .int j => some (decide (j ≤ i))
  | _, _ => none
def isNone : D → Bool
  | .non => true
  | _ => false
def op2 (o : Op) (h : Hh) (x y : D) : Option D := match o with
  | .add => addOp h x y
  | .sub => subOp x y
  | .mul => mulOp x y
  | .fdiv => fdivOp x y
  | .mod => modOp x y
  | .pow => powOp x y
  | .eq => (eqOp h x y).map .bl
  | .ne => (eqOp h x y).map fun b => .bl (!b)
  | .lt => (ltOp x y).map .bl
  | .gt => (gtOp x y).map .bl
  | .le => (leOp x y).map .bl
  | .ge => (geOp x y).map .bl
  | .isin => (inOp h x y).map .bl
  | .notin => (inOp h x y).map fun b => .bl (!b)
  | .isN => if isNone y then some (.bl (isNone x)) else none
  | .notN => if isNone y then some (.bl (!isNone x)) else none

def tyD (h : Hh) (d : D) (t : Ty) : Option Bool := match top h d, t with
  | .int _, .int => some true
  | .bl _, .int => some true
  | .bl _, .bool => some true
  | .str _, .str => some true
  | .lst _, .list => some true
  | .tup _, .tuple => some true
  | .fn _, _ => none
  | .ref _, _ => none
  | .set _, _ => none
  | .dct _ _, _ => none
  | .scr _, _ => none
  | _, _ => some false

def allI : List D → Option (List Int)
  | [] => some []
  | .int i :: r => (allI r).map (i :: ·)
  | _ => none
def allB : List D → Option (List Bool)
  | [] => some []
  | .bl i :: r => (allB r).map (i :: ·)
  | _ => none
def pairs : List D → Option (List D × List D)
  | [] => some ([], [])
  | .tup [k, v] :: r => match pairs r with
    | some (ks, vs) => if kdOk ks k then some (k :: ks, v :: vs) else none
    | none => none
  | _ => none
/-- a dict by its pairs, one after the other -/
def mkDct : List D → List D → List D → List D → List D × List D
  | k :: ks, v :: vs, as, bs => mkDct ks vs (putD as bs k v).1 (putD as bs k v).2
  | _, _, as, bs => (as, bs)

def flatD : List D → Option (List D × List D)
  | [] => some ([], [])
  | k :: v :: r => match flatD r with
    | some (ks, vs) => if kdOk ks k then some (k :: ks, v :: vs) else none
    | none => none
  | _ => none

/-- a list, not a tuple -/
def seqL (h : Hh) (d : D) : Option (List D) := match d with
  | .tup _ => none
  | d => seqOf h d
def maxI : List Int → Option Int
  | [] => none
  | n :: ns => some (ns.foldl (fun a b => if a < b then b else a) n)
def minI : List Int → Option Int
  | [] => none
  | n :: ns => some (ns.foldl (fun a b => if b < a then b else a) n)
/-- tuples of ints, all of one length, from 0 below 64 -/
def rowB (n : Nat) : D → Bool
  | .tup xs => decide (xs.length = n) && xs.all fun x => match x with
    | .int i => decide (0 ≤ i) && decide (i < 64)
    | _ => false
  | _ => false
def setT : List D → Bool
  | [] => true
  | .tup xs :: r => decide (0 < xs.length) && (D.tup xs :: r).all (rowB xs.length)
  | _ => false
def bi1 (b : Bi) (h : Hh) (x : D) : Option D := match b with
  | .len => match top h x with
    | .tup xs => some (.int xs.length)
    | .lst xs => some (.int xs.length)
    | .str s => if s.length ≤ 100000 then some (.int s.length) else none
    | _ => none
  | .abs => match x with
    | .int i => some (.int (if i < 0 then -i else i))
    | _ => none
  | .int => match x with
    | .int i => some (.int i)
    | .bl b => some (.int (if b then 1 else 0))
    | _ => none
  | .bool => match x with
    | .int i => some (.bl (i != 0))
    | .bl b => some (.bl b)
    | _ => none
  | .tuple => match x with
    | .tup xs => some (.tup xs)
    | x => (seqOf h x).map .tup
  | .list => (seqOf h x).map .lst
  | .sum => (seqL h x).bind fun xs => (allI xs).map fun ns => .int ns.sum
  | .max => (seqL h x).bind fun xs => (allI xs).bind fun ns => (maxI ns).map .int
  | .min => (seqL h x).bind fun xs => (allI xs).bind fun ns => (minI ns).map .int
  | .any => (seqL h x).bind fun xs => (allB xs).map fun bs => .bl (bs.any id)
  | .all => (seqL h x).bind fun xs => (allB xs).map fun bs => .bl (bs.all id)
  | .sorted => match top h x with
    | .set xs => some (.lst xs)
    | .dct ks _ => if ks.all (sI 8) && okSort ks then (sortD ks).map .lst else none
    | _ => (seqOf h x).bind fun xs => if xs.all (sI 8) && okSort xs then (sortD xs).map .lst else none
  | .set => (seqOf h x).bind fun xs => if (xs.all isI || setT xs) && decide (xs.length < 63) then (sortD (dedup xs)).map .set else none
  | .dict => (seqL h x).bind fun xs => (pairs xs).map fun p => .dct (mkDct p.1 p.2 [] []).1 (mkDct p.1 p.2 [] []).2
def biN (b : Bi) (h : Hh) : List D → Option D
  | [x] => bi1 b h x
  | [.int i, .int j] => match b with
    | .max => some (.int (if j > i then j else i))
    | .min => some (.int (if j < i then j else i))
    | _ => none
  | _ => none

/-! ### places -/
def ixN (n : Nat) (i : Int) : Option Nat := if 0 ≤ i then (if i < n then some i.toNat else none) else if -(n : Int) ≤ i then some (i + n).toNat else none
def idxOp (h : Hh) (x i : D) : Option D := match top h x, i with
  | .tup xs, .int i => (ixN xs.length i).bind fun k => xs[k]?
  | .lst xs, .int i => (ixN xs.length i).bind fun k => xs[k]?
  | .dct ks vs, k => if kdOk ks k then lookD k ks vs else none
  | _, _ => none
/-- of a cell only -/
def idxRef (h : Hh) (x i : D) : Option D := match x with
  | .ref _ => idxOp h x i
  | _ => none
def sIx (n d : Nat) : Option Int → Nat
  | none => d
  | some i => if i < 0 then (i + n).toNat else min i.toNat n
def cut (xs : List D) (lo hi : Option Int) : List D := (xs.drop (sIx xs.length 0 lo)).take (sIx xs.length xs.length hi - sIx xs.length 0 lo)
def slOp (h : Hh) (x : D) (lo hi : Option Int) : Option D := match x with
  | .scr xs => some (.lst (cut xs lo hi))
  | .tup xs => some (.tup (cut xs lo hi))
  | x => (seqOf h x).map fun xs => .lst (cut xs lo hi)
def revOp (h : Hh) (x : D) : Option D := match x with
  | .tup xs => some (.tup xs.reverse)
  | x => (seqOf h x).map fun xs => .lst xs.reverse
def upto (lo : Int) : Nat → List D
  | 0 => []
  | n + 1 => .int lo :: upto (lo + 1) n
def byStep (lo c : Int) : Nat → List D
  | 0 => []
  | n + 1 => .int lo :: byStep (lo + c) c n
def lim (i : Int) : Bool := decide (-(2 ^ 62) ≤ i) && decide (i < 2 ^ 62)
def stepN (a b c : Int) : Nat := (if c > 0 then (if a < b then (b - a - 1) / c + 1 else 0) else (if a > b then (a - b - 1) / (-c) + 1 else 0)).toNat
def rngOf : List D → Option (List D)
  | [.int j] => if lim j then some (upto 0 j.toNat) else none
  | [.int i, .int j] => if lim i && lim j then some (upto i (j - i).toNat) else none
  | [.int i, .int j, .int c] => if lim i && lim j && c != 0 && decide (c.natAbs < 2 ^ 30) then some (byStep i c (stepN i j c)) else none
  | _ => none

/-! ### stores -/
def stOk (b : Nat) (n : Nat) (v : D) : Bool := decide (b ≤ n) || under 0 30 v
def notTup : D → Bool
  | .tup _ => false
  | _ => true
def setOp (b : Nat) (h : Hh) (o i v : D) : Option Hh := match o with
  | .ref n => if stOk b n v then (match h[n]?, i with
    | some (.lst xs), .int i => (ixN xs.length i).map fun k => h.set n (.lst (xs.set k v))
    | some (.dct ks vs), k => if kdOk ks k && decide (ks.length < 100000) && under 0 30 k then some (h.set n (.dct (putD ks vs k v).1 (putD ks vs k v).2)) else none
    | _, _ => none) else none
  | _ => none
def delOp (h : Hh) (o i : D) : Option Hh := match o with
  | .ref n => match h[n]? with
    | some (.dct ks vs) => if keyD i then (idxD i ks).map fun k => h.set n (.dct (ks.eraseIdx k) (vs.eraseIdx k)) else none
    | _ => none
  | _ => none
/-- what may have such a method -/
def recvOk (m : Mt) (h : Hh) : D → Bool
  | .tup _ => m == .index
  | .lst _ => true
  | .ref n => match h[n]? with
    | some (.lst _) => true
    | _ => false
  | _ => false
def mAppend (b : Nat) (h : Hh) : D → List D → Option (D × Hh)
  | .ref n, [v] => match h[n]? with
    | some (.lst xs) => if stOk b n v && decide (xs.length < 100000) then some (.non, h.set n (.lst (xs ++ [v]))) else none
    | _ => none
  | _, _ => none
def mExtend (b : Nat) (h : Hh) : D → List D → Option (D × Hh)
  | .ref n, [v] => match h[n]?, seqL h v with
    | some (.lst xs), some ys => if stOk b n (.lst ys) && decide (xs.length + ys.length < 100000) then some (.non, h.set n (.lst (xs ++ ys))) else none
    | _, _ => none
  | _, _ => none
def mPop (h : Hh) : D → List D → Option (D × Hh)
  | .ref n, [] => match h[n]? with
    | some (.lst xs) => (xs[xs.length - 1]?).map fun y => (y, h.set n (.lst xs.dropLast))
    | _ => none
  | .ref n, [.int i] => match h[n]? with
    | some (.lst xs) => (ixN xs.length i).bind fun k => (xs[k]?).map fun y => (y, h.set n (.lst (xs.eraseIdx k)))
    | _ => none
  | _, _ => none
def mRemove (h : Hh) : D → List D → Option (D × Hh)
  | .ref n, [.int k] => match h[n]? with
    | some (.lst xs) => (allI xs).bind fun ns => if ns.contains k then some (.non, h.set n (.lst (xs.eraseIdx (ns.idxOf k)))) else none
    | _ => none
  | _, _ => none
def mIndex (h : Hh) (o : D) : List D → Option (D × Hh)
  | [.int k] => (seqOf h o).bind fun xs => (allI xs).bind fun ns => if ns.contains k then some (.int (ns.idxOf k), h) else none
  | _ => none
def mCount (h : Hh) (o : D) : List D → Option (D × Hh)
  | [.int k] => (seqL h o).bind fun xs => (allI xs).map fun ns => (.int (ns.count k), h)
  | _ => none
def mth (b : Nat) (m : Mt) (h : Hh) (o : D) (es : List D) : Option (D × Hh) := match m with
  | .append => mAppend b h o es
  | .extend => mExtend b h o es
  | .pop => mPop h o es
  | .remove => mRemove h o es
  | .index => mIndex h o es
  | .count => mCount h o es
  | .get => none

/-! ### targets -/
mutual
def bindT : Tg → D → Sl → Option Sl
  | .one i, d, σ => if i < σ.length then some (σ.set i (some d)) else none
  | .many ts, .tup ds, σ => bindTs ts ds σ
  | .many _, _, _ => none
def bindTs : List Tg → List D → Sl → Option Sl
  | [], [], σ => some σ
  | t :: ts, d :: ds, σ => (bindT t d σ).bind (bindTs ts ds)
  | _, _, _ => none
end
mutual
def slotsT : Tg → List Nat
  | .one i => [i]
  | .many ts => slotsTs ts
def slotsTs : List Tg → List Nat
  | [] => []
  | t :: ts => slotsT t ++ slotsTs ts
end

/-- how deep a source's things are pairs that only a target may take apart -/
def itKind : Itr → Nat
  | .val _ => 0
  | .rng _ => 0
  | .enum _ => 1
  | .zip _ _ => 1
  | .enzip _ _ => 2
def tgFit : Nat → Tg → Bool
  | 0, _ => true
  | 1, .many [_, _] => true
  | 2, .many [_, .many [_, _]] => true
  | _, _ => false
def slotsG : Gn → List Nat
  | .mk tg _ _ => slotsT tg
/-! ### what a loop walks: things that stand still, or a cell -/
inductive Src where
  | items (xs : List D)
  | cell (e : Bool) (n : Nat)
def enumI (i : Nat) : List D → List D
  | [] => []
  | x :: xs => .tup [.int i, x] :: enumI (i + 1) xs
def zipI : List D → List D → List D
  | x :: xs, y :: ys => .tup [x, y] :: zipI xs ys
  | _, _ => []
/-- a frozen row of things -/
def still : D → Option (List D)
  | .tup xs => some xs
  | .lst xs => some xs
  | _ => none
def srcV (h : Hh) : D → Option Src
  | .tup xs => some (.items xs)
  | .lst xs => some (.items xs)
  | .ref n => match h[n]? with
    | some (.lst _) => some (.cell false n)
    | _ => none
  | _ => none
/-- what a walk over a cell gives: a thing, or its number and it -/
def pk (e : Bool) (i : Nat) (x : D) : D := if e then .tup [.int i, x] else x
/-- what enumerate walks -/
def srcE (h : Hh) : D → Option Src
  | .ref n => match h[n]? with
    | some (.lst _) => some (.cell true n)
    | _ => none
  | d => (still d).map fun xs => .items (enumI 0 xs)

/-- a zip's pairs: two tuples or two lists -/
def zipS : D → D → Option Src
  | .tup xs, .tup ys => some (.items (zipI xs ys))
  | .lst xs, .lst ys => some (.items (zipI xs ys))
  | _, _ => none
/-- a zip's pairs, numbered: two lists -/
def zipE : D → D → Option Src
  | .lst xs, .lst ys => some (.items (enumI 0 (zipI xs ys)))
  | _, _ => none
abbrev Fl := Option (Option D) × Nat    -- unused
inductive Flow where
  | next | ret (d : D) | brk | cnt

def wipe (vs : List Nat) (σ : Sl) : Sl := vs.foldr (fun i σ => σ.set i none) σ

/-- a comprehension's clause over things that stand still -/
def compL (f : D → Hh → Res (List D)) : List D → Hh → Res (List D)
  | [], h => .ok [] h
  | x :: xs, h => (f x h).bind fun ys h => (compL f xs h).bind fun zs h => .ok (ys ++ zs) h
def compC (f : D → Hh → Res (List D)) (en : Bool) (n : Nat) : Nat → Nat → Hh → Res (List D)
  | 0, i, h => match h[n]? with
    | some (.lst xs) => if i = xs.length then .ok [] h else .fail
    | _ => .fail
  | m + 1, i, h => match h[n]? with
    | some (.lst xs) => match xs[i]? with
      | some x => (f (pk en i x) h).bind fun ys h => (compC f en n m (i + 1) h).bind fun zs h => .ok (ys ++ zs) h
      | none => .ok [] h
    | _ => .fail
def forL (f : D → Sl → Hh → Res (Flow × Sl)) : List D → Sl → Hh → Res (Flow × Sl)
  | [], σ, h => .ok (.next, σ) h
  | x :: xs, σ, h => (f x σ h).bind fun r h => match r.1 with
    | .next => forL f xs r.2 h
    | .cnt => forL f xs r.2 h
    | .brk => .ok (.next, r.2) h
    | .ret d => .ok (.ret d, r.2) h
def forC (f : D → Sl → Hh → Res (Flow × Sl)) (en : Bool) (n : Nat) : Nat → Nat → Sl → Hh → Res (Flow × Sl)
  | 0, i, σ, h => match h[n]? with
    | some (.lst xs) => if xs.length ≤ i then .ok (.next, σ) h else .fail
    | _ => .fail
  | m + 1, i, σ, h => match h[n]? with
    | some (.lst xs) => match xs[i]? with
      | none => .ok (.next, σ) h
      | some x => (f (pk en i x) σ h).bind fun r h => match r.1 with
        | .next => forC f en n m (i + 1) r.2 h
        | .cnt => forC f en n m (i + 1) r.2 h
        | .brk => .ok (.next, r.2) h
        | .ret d => .ok (.ret d, r.2) h
    | _ => .fail
def whilL (c : Sl → Hh → Res Bool) (f : Sl → Hh → Res (Flow × Sl)) : Nat → Sl → Hh → Res (Flow × Sl)
  | 0, _, _ => .fail
  | m + 1, σ, h => (c σ h).bind fun b h => if b then (f σ h).bind fun r h => match r.1 with
      | .next => whilL c f m r.2 h
      | .cnt => whilL c f m r.2 h
      | .brk => .ok (.next, r.2) h
      | .ret d => .ok (.ret d, r.2) h
    else .ok (.next, σ) h

abbrev Call := Nat → List D → Hh → Res D
/-- a def's frame: its calls, its base -/
structure Fr where
  call : Call
  base : Nat
  wf : Nat

mutual
def evE (F : Fr) : Ex → Sl → Hh → Res D
  | .non, _, h => .ok .non h
  | .bl b, _, h => .ok (.bl b) h
  | .int i, _, h => .ok (.int i) h
  | .str x, _, h => .ok (.str x) h
  | .var i, σ, h => Res.of (σ[i]?.join) h
  | .gint _ i, _, h => .ok (.int i) h
  | .gfn n, _, h => .ok (.fn n) h
  | .tup es, σ, h => (evEs F es σ h).bind fun ds h => .ok (.tup ds) h
  | .lst es, σ, h => (evEs F es σ h).bind fun ds h => .ok (.lst ds) h
  | .dct kvs, σ, h => (evEs F kvs σ h).bind fun ds h => Res.of ((flatD ds).map fun p => .dct (mkDct p.1 p.2 [] []).1 (mkDct p.1 p.2 [] []).2) h
  | .op o a b, σ, h => (evE F a σ h).bind fun x h => (evE F b σ h).bind fun y h => Res.of (op2 o h x y) h
  | .neg a, σ, h => (evE F a σ h).bind fun x h => match x with
    | .int i => .ok (.int (-i)) h
    | _ => .fail
  | .not a, σ, h => (evE F a σ h).bind fun x h => Res.of ((truD h x).map fun b => .bl (!b)) h
  | .and a b, σ, h => (evE F a σ h).bind fun x h => match truD h x with
    | some true => evE F b σ h
    | some false => .ok x h
    | none => .fail
  | .or a b, σ, h => (evE F a σ h).bind fun x h => match truD h x with
    | some true => .ok x h
    | some false => evE F b σ h
    | none => .fail
  | .ite c a b, σ, h => (evE F c σ h).bind fun x h => match truD h x with
    | some true => evE F a σ h
    | some false => evE F b σ h
    | none => .fail
  | .chain o o' a b c, σ, h => (evE F a σ h).bind fun x h => (evE F b σ h).bind fun y h => match op2 o h x y with
    | some (.bl true) => (evE F c σ h).bind fun z h => Res.of (op2 o' h y z) h
    | some (.bl false) => .ok (.bl false) h
    | _ => .fail
  | .chain3 o o' o'' a b c d, σ, h => (evE F a σ h).bind fun x h => (evE F b σ h).bind fun y h => match op2 o h x y with
    | some (.bl true) => (evE F c σ h).bind fun z h => (match op2 o' h y z with
      | some (.bl true) => (evE F d σ h).bind fun w h => Res.of (op2 o'' h z w) h
      | some (.bl false) => .ok (.bl false) h
      | _ => .fail)
    | some (.bl false) => .ok (.bl false) h
    | _ => .fail
  | .bad, _, _ => .fail
  | .idx a b, σ, h => (evE F a σ h).bind fun x h => (evE F b σ h).bind fun y h => Res.of (idxOp h x y) h
  | .slice a lo hi, σ, h => (evE F a σ h).bind fun x h => (evO F lo σ h).bind fun l h => (evO F hi σ h).bind fun u h => Res.of (slOp h x l u) h
  | .rev a, σ, h => (evE F a σ h).bind fun x h => Res.of (revOp h x) h
  | .call n es, σ, h => (evEs F es σ h).bind fun ds h => F.call n ds h
  | .callE f es, σ, h => (evE F f σ h).bind fun x h => match x with
    | .fn n => (evEs F es σ h).bind fun ds h => F.call n ds h
    | _ => .fail
  | .bi b es, σ, h => (evEs F es σ h).bind fun ds h => Res.of (biN b h ds) h
  | .lrng es, σ, h => (evEs F es σ h).bind fun ds h => Res.of ((rngOf ds).bind fun xs => if xs.length ≤ 100000 then some (.lst xs) else none) h
  | .trng es, σ, h => (evEs F es σ h).bind fun ds h => Res.of ((rngOf ds).bind fun xs => if xs.length ≤ 100000 then some (.tup xs) else none) h
  | .meth m o es, σ, h => (evE F o σ h).bind fun x h => if recvOk m h x then (evEs F es σ h).bind fun ds h => match mth F.base m h x ds with
    | some (d, h) => .ok d h
    | none => .fail
    else .fail
  | .isin e tys, σ, h => (evE F e σ h).bind fun x h => Res.of ((tys.mapM (tyD h x)).map fun bs => .bl (bs.any id)) h
  | .comp vs elt gs, σ, h => (evG F (fun σ h => (evE F elt σ h).bind fun d h => .ok [d] h) vs gs σ h).bind fun ds h => if ds.length ≤ 100000 then .ok (.lst ds) h else .fail
  | .cell e, σ, h => (evE F e σ h).bind fun d h => match d with
    | .lst xs => .ok (.ref h.length) (h ++ [.lst xs])
    | .dct ks vs => .ok (.ref h.length) (h ++ [.dct ks vs])
    | _ => .fail
def evEs (F : Fr) : List Ex → Sl → Hh → Res (List D)
  | [], _, h => .ok [] h
  | e :: es, σ, h => (evE F e σ h).bind fun d h => (evEs F es σ h).bind fun ds h => .ok (d :: ds) h
def evO (F : Fr) : Option Ex → Sl → Hh → Res (Option Int)
  | none, _, h => .ok none h
  | some e, σ, h => (evE F e σ h).bind fun d h => match d with
    | .int i => .ok (some i) h
    | _ => .fail
def evI (F : Fr) : Itr → Sl → Hh → Res Src
  | .val e, σ, h => (evE F e σ h).bind fun d h => Res.of (srcV h d) h
  | .rng es, σ, h => (evEs F es σ h).bind fun ds h => Res.of ((rngOf ds).map .items) h
  | .enum e, σ, h => (evE F e σ h).bind fun d h => Res.of (srcE h d) h
  | .zip a b, σ, h => (evE F a σ h).bind fun x h => (evE F b σ h).bind fun y h => Res.of (zipS x y) h
  | .enzip a b, σ, h => (evE F a σ h).bind fun x h => (evE F b σ h).bind fun y h => Res.of (zipE x y) h
def evTests (F : Fr) : List Ex → Sl → Hh → Res Bool
  | [], _, h => .ok true h
  | e :: es, σ, h => (evE F e σ h).bind fun d h => match truD h d with
    | some true => evTests F es σ h
    | some false => .ok false h
    | none => .fail
def evG (F : Fr) (k : Sl → Hh → Res (List D)) (vs : List Nat) : List Gn → Sl → Hh → Res (List D)
  | [], σ, h => k σ h
  | .mk tg it ifs :: gs, σ, h => (evI F it σ h).bind fun s h => match s with
    | .items xs => compL (fun x h => Res.quiet ((Res.of (bindT tg x (wipe vs σ)) h).bind fun σ h => (evTests F ifs σ h).bind fun b h => if b then evG F k (gs.flatMap slotsG) gs σ h else .ok [] h)) xs h
    | .cell en n => compC (fun x h => Res.quiet ((Res.of (bindT tg x (wipe vs σ)) h).bind fun σ h => (evTests F ifs σ h).bind fun b h => if b then evG F k (gs.flatMap slotsG) gs σ h else .ok [] h)) en n 100000 0 h
end

mutual
def asgE (F : Fr) : At → D → Sl → Hh → Res Sl
  | .name i, d, σ, h => if i < σ.length then .ok (σ.set i (some d)) h else .fail
  | .sub o i, d, σ, h => (evE F o σ h).bind fun x h => (evE F i σ h).bind fun k h => match setOp F.base h x k d with
    | some h => .ok σ h
    | none => .fail
  | .whole o, d, σ, h => (evE F o σ h).bind fun x h => match x, d with
    | .ref n, .lst xs => if stOk F.base n d then (match h[n]? with
      | some (.lst _) => .ok σ (h.set n (.lst xs))
      | _ => .fail) else .fail
    | _, _ => .fail
  | .tup ts, d, σ, h => match d with
    | .tup ds => if ts.length = ds.length then asgEs F ts ds σ h else .fail
    | _ => .fail
def asgEs (F : Fr) : List At → List D → Sl → Hh → Res Sl
  | [], [], σ, h => .ok σ h
  | t :: ts, d :: ds, σ, h => (asgE F t d σ h).bind fun σ h => asgEs F ts ds σ h
  | _, _, _, h => .fail
end

/-- what an except clause tells -/
def hdl (isa : Str → Str → Bool) (val : Str → Bool) (c : Str) (pl : List D) (σ : Sl) (h : Hh) : List Hd → Res (Flow × Sl)
  | [] => .exc c pl h
  | x :: r => if isa c x.cls then
      (if !x.base then .fail else match x.fld, pl with
      | none, [] => if x.nm < σ.length ∧ x.tg < σ.length then .ok (.next, (σ.set x.tg (some (.lst [.str x.word, .bl (x.base)]))).set x.nm none) h else .fail
      | _, _ => .fail)
    else hdl isa val c pl σ h r

/-- name op= e: ints, texts -/
def augOp (o : Op) (x y : D) : Option D := match o, x, y with
  | .add, .int i, .int j => some (.int (i + j))
  | .sub, .int i, .int j => some (.int (i - j))
  | .add, .str a, .str b => if a.length + b.length ≤ 100000 then some (.str (a ++ b)) else none
  | _, _, _ => none
def resB (r : Res D) (h : Hh) : Res Bool := r.bind fun d h => Res.of (truD h d) h

mutual
def evS (F : Fr) : Sm → Sl → Hh → Res (Flow × Sl)
  | .asg t e, σ, h => (evE F e σ h).bind fun d h => (asgE F t d σ h).bind fun σ h => .ok (.next, σ) h
  | .par ts es, σ, h => (evEs F es σ h).bind fun ds h => (asgEs F ts ds σ h).bind fun σ h => .ok (.next, σ) h
  | .aug i o e, σ, h => (Res.of (σ[i]?.join) h).bind fun x h => (evE F e σ h).bind fun y h => (Res.of (augOp o x y) h).bind fun z h => .ok (.next, σ.set i (some z)) h
  | .expr e, σ, h => (evE F e σ h).bind fun _ h => .ok (.next, σ) h
  | .ret e, σ, h => (evE F e σ h).bind fun d h => .ok (.ret d, σ) h
  | .retN, σ, h => .ok (.ret .non, σ) h
  | .ife c a b, σ, h => (evE F c σ h).bind fun x h => match truD h x with
    | some true => evB F a σ h
    | some false => evB F b σ h
    | none => .fail
  | .forr tg it b, σ, h => (evI F it σ h).bind fun s h => match s with
    | .items xs => forL (fun x σ h => (Res.of (bindT tg x σ) h).bind fun σ h => evB F b σ h) xs σ h
    | .cell en n => forC (fun x σ h => (Res.of (bindT tg x σ) h).bind fun σ h => evB F b σ h) en n 100000 0 σ h
  | .whil c b, σ, h => whilL (fun σ h => (evE F c σ h).bind fun d h => Res.of (truD h d) h) (fun σ h => evB F b σ h) F.wf σ h
  | .brk, σ, h => .ok (.brk, σ) h
  | .cnt, σ, h => .ok (.cnt, σ) h
  | .pass, σ, h => .ok (.next, σ) h
  | .rais c es, σ, h => (evEs F es σ h).bind fun ds h => .exc c ds h
  | .trys b hs, σ, h => match evB F b σ h with
    | .ok r h => .ok r h
    | .exc c pl h => hdl (fun a b => a == b) (fun _ => true) c pl (List.replicate σ.length none) h hs
    | .fail => .fail
  | .del o i, σ, h => (evE F o σ h).bind fun x h => (evE F i σ h).bind fun k h => match delOp h x k with
    | some h => .ok (.next, σ) h
    | none => .fail
  | .augs o i op e, σ, h => (evE F o σ h).bind fun x h => (evE F i σ h).bind fun k h => (Res.of (idxRef h x k) h).bind fun v h => (evE F e σ h).bind fun y h => (Res.of (augOp op v y) h).bind fun z h => match setOp F.base h x k z with
    | some h => .ok (.next, σ) h
    | none => .fail
  | .bad, _, _ => .fail
def evB (F : Fr) : List Sm → Sl → Hh → Res (Flow × Sl)
  | [], σ, h => .ok (.next, σ) h
  | s :: r, σ, h => (evS F s σ h).bind fun q h => match q.1 with
    | .next => evB F r q.2 h
    | _ => .ok q h
end

/-! ### defs -/
inductive Mode where
  | frz | top
  deriving DecidableEq
structure Fn where
  np : Nat
  ns : Nat
  body : List Sm
  mode : Mode := .frz
  wf : Nat := 100000

def leave (m : Mode) (b : Nat) (d : D) (h : Hh) : Res D := match m with
  | .frz => Res.of (frz h b h.length 30 d) (h.take b)
  | .top => match d with
    | .ref n => if n < b then .ok d (h.take b) else match h[n]? with
      | some (.lst xs) => match xs.mapM (frz h b n 30) with
        | some ys => .ok (.ref b) (h.take b ++ [.lst ys])
        | none => .fail
      | _ => .fail
    | _ => .fail
def run (T : Nat → Option Fn) : Nat → Call
  | 0, _, _, _ => .fail
  | n + 1, x, ds, h => match T x with
    | none => .fail
    | some f => if ds.length = f.np then
        let b := h.length
        match evB ⟨run T n, b, f.wf⟩ f.body (ds.map some ++ List.replicate (f.ns - f.np) none) h with
        | .ok (.ret d, _) h' => leave f.mode h.length d h'
        | .ok (.next, _) h' => leave f.mode h.length .non h'
        | .exc c pl h' => match pl.mapM (frz h' h.length h'.length 30) with
          | some pl => .exc c pl (h'.take h.length)
          | none => .fail
        | _ => .fail
      else .fail
end Ev

set_option linter.all false
/-! EvC: from the row's terms to the core language. -/
namespace Ev
open PySem

/-- what the module's names stand for -/
structure Names where
  fns : List (Str × Nat)
  gints : List (Str × Int)
  excs : List Str
  hcl : List Str := []
/-- a def's frame: its names by slot, its scope's kinds, those of its names that hold cells (with how deep) -/
structure Cc where
  M : Names
  N : List Str
  mu : List (Str × Nat)
  top : Bool

def slotOf (N : List Str) (x : Str) : Option Nat := N.findIdx? (· == x)
def okName (x : Str) : Bool := !(x == ("__debug__" : Str)) && !(x == ("__classdict__" : Str)) && !(x == ("__name__" : Str))
def isVar (sc : List (Str × NameKind)) (x : Str) : Bool := okName x && match sc.lookup x with
  | some .local => true
  | some .cell => true
  | some .free => true
  | _ => false
def isOwn (sc : List (Str × NameKind)) (x : Str) : Bool := match sc.lookup x with
  | some .local => true
  | some .cell => true
  | _ => false
def isGl (sc : List (Str × NameKind)) (x : Str) : Bool := okName x && match sc.lookup x with
  | some .globalImplicit => true
  | _ => false
def biName : Bi → Str
  | .len => "len"
  | .abs => "abs"
  | .int => "int"
  | .bool => "bool"
  | .tuple => "tuple"
  | .list => "list"
  | .sum => "sum"
  | .max => "max"
  | .min => "min"
  | .any => "any"
  | .all => "all"
  | .sorted => "sorted"
  | .set => "set"
  | .dict => "dict"
def biOf (x : Str) : Option Bi := [Bi.len, .abs, .int, .bool, .tuple, .list, .sum, .max, .min, .any, .all, .sorted, .set, .dict].find? fun b => biName b == x
/-- a method's name -/
def mtName : Mt → Str
  | .append => "append"
  | .extend => "extend"
  | .pop => "pop"
  | .remove => "remove"
  | .index => "index"
  | .count => "count"
  | .get => "get"
def mtOf (x : Str) : Option Mt := [Mt.append, .extend, .pop, .remove, .index, .count].find? fun m => mtName m == x
def tyStr : Ty → String
  | .int => "int"
  | .bool => "bool"
  | .str => "str"
  | .list => "list"
  | .tuple => "tuple"
def tyNm (t : Ty) : Str := Str.ofString (tyStr t)
def tyOf (x : Str) : Option Ty := [Ty.int, .bool, .str, .list, .tuple].find? fun t => tyNm t == x
def opOf : Operator → Option Op
  | .Add => some .add
  | .Sub => some .sub
  | .Mult => some .mul
  | .FloorDiv => some .fdiv
  | .Mod => some .mod
  | .Pow => some .pow
  | _ => none
def cmpOf : CmpOp → Option Op
  | .Eq => some .eq
  | .NotEq => some .ne
  | .Lt => some .lt
  | .LtE => some .le
  | .Gt => some .gt
  | .GtE => some .ge
  | .In => some .isin
  | .NotIn => some .notin
  | .Is => some .isN
  | .IsNot => some .notN
/-- a tree that makes a new list or dict -/
def fresh : Ex → Bool
  | .lst _ => true
  | .comp _ _ _ => true
  | .dct _ => true
  | .bi b _ => b == .list || b == .sorted || b == .dict
  | .lrng _ => true
  | .op o _ _ => o == .add || o == .mul
  | .slice _ _ _ => true
  | .rev _ => true
  | .or a b => fresh a && fresh b
  | .ite _ a b => fresh a && fresh b
  | _ => false
def relNames (own outer : List (Str × NameKind)) : List (Str × NameKind) :=
  own.map fun (n, k) => if (k == .free && outer.lookup n == some .cell) then (n, .cell) else (n, k)
/-- a comprehension's own names with their slots -/
def ownOf (N : List Str) (own : List (Str × NameKind)) : List (Str × Nat) :=
  own.filterMap fun p => if p.2 == .local || p.2 == .cell then (slotOf N p.1).map fun i => (p.1, i) else none
def blkB (N : List Str) (sc : List (Str × NameKind)) (scope : Scope) (own : List (Str × Nat)) : Bool :=
  scope.kind == .function && (scope.names.all fun y => scope.names.lookup y.1 == some y.2) && (own.all fun p => N[p.2]? == some p.1) &&
    (scope.names.all fun y => match y.2 with
      | .free => (match sc.lookup y.1 with | some .cell => true | some .free => true | _ => false)
      | .local => (own.map (·.1)).contains y.1 || !N.contains y.1
      | .cell => (own.map (·.1)).contains y.1 || !N.contains y.1
      | _ => true)

/-- zip(a, b) -/
def zipArgs (sc : List (Str × NameKind)) : Expr → Option (Expr × Expr)
  | .Call (.Name y _) [a, b] [] _ => if isGl sc y && y == ("zip" : Str) then some (a, b) else none
  | _ => none
mutual
def tgE (N : List Str) (own : List (Str × NameKind)) : Nat → Expr → Option Tg
  | 0, _ => none
  | n + 1, e => match e with
    | .Name x _ => if isOwn own x then (slotOf N x).map .one else none
    | .Tuple es _ _ => (tgEs N own n es).map .many
    | _ => none
def tgEs (N : List Str) (own : List (Str × NameKind)) : Nat → List Expr → Option (List Tg)
  | 0, _ => none
  | n + 1, [] => some []
  | n + 1, e :: es => match tgE N own n e, tgEs N own n es with
    | some t, some ts => some (t :: ts)
    | _, _ => none
end

def tyNames (sc : List (Str × NameKind)) : List Expr → Option (List Ty)
  | [] => some []
  | .Name t _ :: r => if isGl sc t then (match tyOf t, tyNames sc r with
    | some t, some r => some (t :: r)
    | _, _ => none) else none
  | _ => none
/-- isinstance's second argument -/
def isiTys (sc : List (Str × NameKind)) : Expr → Option (List Ty)
  | .Name t _ => if isGl sc t then (tyOf t).map fun t => [t] else none
  | .Tuple ts _ _ => if 0 < ts.length && ts.length ≤ 1000 then tyNames sc ts else none
  | _ => none
/-- a range as the one argument -/
def rgArg (sc : List (Str × NameKind)) : List Expr → Option (List Expr)
  | [.Call (.Name r _) as [] _] => if r == ("range" : Str) && isGl sc r then some as else none
  | _ => none
/-- the kinds of a subscript -/
inductive Sk where
  | rev | sl (lo hi : Option Expr) | no | plain
def isRev : Expr → Bool
  | .UnaryOp .USub (.Constant (.int 1) _ _) _ => true
  | _ => false
def skOf : Expr → Sk
  | .Slice none none (some st) _ => if isRev st then .rev else .no
  | .Slice lo hi none _ => .sl lo hi
  | .Slice _ _ _ _ => .no
  | _ => .plain
/-- a method's receiver: a name or a subscript -/
def isName : Expr → Bool
  | .Name _ _ => true
  | .Subscript _ _ _ => true
  | _ => false
mutual
/-- sc: the kinds of the names where it stands -/
def cE (C : Cc) : Nat → List (Str × NameKind) → Expr → Option Ex
  | 0, _, _ => none
  | n + 1, sc, e => match e with
    | .Constant .none _ _ => some .non
    | .Constant (.bool b) _ _ => some (.bl b)
    | .Constant (.int i) _ _ => some (.int i)
    | .Constant (.str x) _ _ => some (.str x)
    | .Name x _ => if isVar sc x then (slotOf C.N x).map .var else if isGl sc x then (match C.M.gints.lookup x with
        | some i => some (.gint x i)
        | none => (C.M.fns.lookup x).map .gfn) else none
    | .Dict [] [] _ => some (.dct [])
    | .Dict [some k] [v] _ => match cE C n sc k, cE C n sc v with
      | some k, some v => some (.dct [k, v])
      | _, _ => none
    | .Tuple es _ _ => if es.length ≤ 1000 then (cEs C n sc es).map .tup else none
    | .List es _ => if es.length ≤ 1000 then (cEs C n sc es).map .lst else none
    | .BinOp a o b _ => match opOf o, cE C n sc a, cE C n sc b with
      | some o, some a, some b => some (.op o a b)
      | _, _, _ => none
    | .UnaryOp .USub a _ => (cE C n sc a).map .neg
    | .UnaryOp .Not a _ => (cE C n sc a).map .not
    | .BoolOp o es _ => match cEs C n sc es with
      | some (e :: es) => some (boolE o e es)
      | _ => none
    | .Compare a [o] [b] _ => match cmpOf o, cE C n sc a, cE C n sc b with
      | some o, some a, some b => some (.op o a b)
      | _, _, _ => none
    | .Compare a [o, o'] [b, c] _ => match cmpOf o, cmpOf o', cE C n sc a, cE C n sc b, cE C n sc c with
      | some o, some o', some a, some b, some c => some (.chain o o' a b c)
      | _, _, _, _, _ => none
    | .Compare a [o, o', o''] [b, c, d] _ => match cmpOf o, cmpOf o', cmpOf o'', cE C n sc a, cE C n sc b, cE C n sc c, cE C n sc d with
      | some o, some o', some o'', some a, some b, some c, some d => some (.chain3 o o' o'' a b c d)
      | _, _, _, _, _, _, _ => none
    | .IfExp c a b _ => match cE C n sc c, cE C n sc a, cE C n sc b with
      | some c, some a, some b => some (.ite c a b)
      | _, _, _ => none
    | .Subscript a b _ => match skOf b with
      | .rev => (cE C n sc a).map .rev
      | .sl lo hi => (match cE C n sc a, cO C n sc lo, cO C n sc hi with
        | some a, some lo, some hi => some (.slice a lo hi)
        | _, _, _ => none)
      | .no => none
      | .plain => (match cE C n sc a, cE C n sc b with
        | some a, some b => some (.idx a b)
        | _, _ => none)
    | .Call (.Name x _) es [] _ => if isGl sc x then (
        match C.M.fns.lookup x with
        | some k => (cEs C n sc es).map (.call k)
        | none => if x == ("isinstance" : Str) then (match es with
            | [e, t] => (match cE C n sc e, isiTys sc t with
              | some e, some ts => some (.isin e ts)
              | _, _ => none)
            | _ => none)
          else match biOf x with
            | none => none
            | some b => (match rgArg sc es with
              | some as => if b == .list then (cEs C n sc as).map .lrng else if b == .tuple then (cEs C n sc as).map .trng else (cEs C n sc es).map (.bi b)
              | none => (cEs C n sc es).map (.bi b))) else none
    | .Call (.Attribute o m ap) es [] cp => if ap.endLine == cp.line && es.length < 20 && isName o then (match mtOf m, cE C n sc o, cEs C n sc es with
      | some m, some o, some es => some (.meth m o es)
      | _, _, _ => none) else none
    | .Call (.Subscript a i p) es [] _ => if 0 < es.length then (match cE C n sc (.Subscript a i p), cEs C n sc es with
      | some f, some es => some (.callE f es)
      | _, _ => none) else none
    | .ListComp elt gs scope _ => if blkB C.N sc scope (ownOf C.N scope.names) then (match cE C n (relNames scope.names sc) elt, cGs C n scope.names (relNames scope.names sc) sc gs with
      | some e, some gs => if (gs.length == 1 || gs.length == 2) && gs.all fun g => (slotsG g).all ((ownOf C.N scope.names).map (·.2)).contains then some (.comp ((ownOf C.N scope.names).map (·.2)) e gs) else none
      | _, _ => none) else none
    | _ => none
def cEs (C : Cc) : Nat → List (Str × NameKind) → List Expr → Option (List Ex)
  | 0, _, _ => none
  | n + 1, _, [] => some []
  | n + 1, sc, e :: es => match cE C n sc e, cEs C n sc es with
    | some e, some es => some (e :: es)
    | _, _ => none
def cKV (C : Cc) : Nat → List (Str × NameKind) → List (Option Expr) → List Expr → Option (List Ex)
  | 0, _, _, _ => none
  | n + 1, _, [], [] => some []
  | n + 1, sc, some k :: ks, v :: vs => match cE C n sc k, cE C n sc v, cKV C n sc ks vs with
    | some k, some v, some r => some (k :: v :: r)
    | _, _, _ => none
  | _, _, _, _ => none
def cO (C : Cc) : Nat → List (Str × NameKind) → Option Expr → Option (Option Ex)
  | 0, _, _ => none
  | n + 1, _, none => some none
  | n + 1, sc, some e => (cE C n sc e).map some
def cI (C : Cc) : Nat → List (Str × NameKind) → Expr → Option Itr
  | 0, _, _ => none
  | n + 1, sc, e => match e with
    | .Call (.Name x _) es [] _ => if isGl sc x && x == ("range" : Str) then (if es.length ≤ 3 then (cEs C n sc es).map .rng else none)
      else if isGl sc x && x == ("enumerate" : Str) then (match es with
        | [a0] => (match zipArgs sc a0 with
          | some (a, b) => (match cE C n sc a, cE C n sc b with
            | some a, some b => some (.enzip a b)
            | _, _ => none)
          | none => (cE C n sc a0).map .enum)
        | _ => none)
      else if isGl sc x && x == ("zip" : Str) then (match es with
        | [a, b] => match cE C n sc a, cE C n sc b with
          | some a, some b => some (.zip a b)
          | _, _ => none
        | _ => none)
      else (cE C n sc e).map .val
    | e => (cE C n sc e).map .val
def cGs (C : Cc) : Nat → List (Str × NameKind) → List (Str × NameKind) → List (Str × NameKind) → List Comprehension → Option (List Gn)
  | 0, _, _, _, _ => none
  | n + 1, _, _, _, [] => some []
  | n + 1, own, sc, sc0, ⟨tg, it, ifs, a⟩ :: gs => match tgE C.N own n tg, cI C n sc0 it, cEs C n sc ifs, cGs C n own sc sc gs with
    | some tg, some it, some ifs, some gs => if a == 0 && ifs.length ≤ 1 && tgFit (itKind it) tg then some (.mk tg it ifs :: gs) else none
    | _, _, _, _ => none
def boolE : BoolOp → Ex → List Ex → Ex
  | _, e, [] => e
  | .And, e, f :: r => .and e (boolE .And f r)
  | .Or, e, f :: r => .or e (boolE .Or f r)
end

/-- cells where a name wants them, d deep -/
def innE (g : Ex → Ex) : Ex → Ex
  | .comp vs x gs => .comp vs (g x) gs
  | .lst es => .lst (es.map g)
  | e => e
def cellE : Nat → Ex → Ex
  | 0, e => e
  | d + 1, e => if fresh e then .cell (innE (cellE d) e) else e
def muOf (C : Cc) (e : Expr) : Nat := match e with
  | .Name x _ => (C.mu.lookup x).getD 0
  | _ => 0

/-- how a display of names is stored: in order, or from the right (with these names) -/
def swB (sc : List (Str × NameKind)) (ts vs : List Expr) : Option (Option (List Str)) :=
  if !(ts.length == 2 || ts.length == 3) || vs.length != ts.length then some none else
  if vs.any fun | .Starred .. => true | _ => false then some none else
  let line := (ts.head?.map (·.pos.line)).getD 0
  let names := ts.filterMap fun
    | .Name id pos => if sc.lookup id == some .local && pos.line == line then some id else none
    | _ => none
  if names.length != ts.length || names.eraseDups.length != names.length then some none else
  if vs.all (foldedForSure 8) then some none else
  if vs.all (constantsAlone 8) then none else some (some names)
mutual
def cAt (C : Cc) (sc : List (Str × NameKind)) : Nat → Expr → Option At
  | 0, _ => none
  | n + 1, t => match t with
    | .Name x _ => if isOwn sc x then (slotOf C.N x).map .name else none
    | .Subscript o i _ => match skOf i with
      | .plain => (match cE C n sc o, cE C n sc i with
        | some o, some i => some (.sub o i)
        | _, _ => none)
      | _ => none
    | .Tuple ts _ _ => (cAts C sc n ts).map .tup
    | _ => none
def cAts (C : Cc) (sc : List (Str × NameKind)) : Nat → List Expr → Option (List At)
  | 0, _ => none
  | n + 1, [] => some []
  | n + 1, t :: ts => match cAt C sc n t, cAts C sc n ts with
    | some t, some ts => some (t :: ts)
    | _, _ => none
end
/-- a display's trees with the cells that its targets want -/
def parE (C : Cc) : List Expr → List Ex → List Ex
  | t :: ts, e :: es => cellE (muOf C t) e :: parE C ts es
  | _, es => es

/-- except c as n: t = ["word", isinstance(n, ValueError)] -/
def cHdG (C : Cc) (sc : List (Str × NameKind)) : ExceptHandler → Option Hd
  | .ExceptHandler (some (.Name c _)) (some n) [.Assign [.Name t _] (.List [.Constant (.str w) _ _, .Call (.Name i _) [.Name n2 _, .Name b _] [] _] _) _] _ => match slotOf C.N n, slotOf C.N t with
    | some n', some t' => if i == ("isinstance" : Str) && n2 == n && b == ("ValueError" : Str) && C.M.excs.contains c && isGl sc c && isGl sc i && isGl sc b && isVar sc n && isOwn sc t && sc.lookup n == some .local && n' != t' then some ⟨c, n', t', w, none, true⟩ else none
    | _, _ => none
  | _ => none
/-- a clause that we read, or one that is never to take anything -/
def cHd (C : Cc) (sc : List (Str × NameKind)) (x : ExceptHandler) : Option Hd := match cHdG C sc x with
  | some h => some h
  | none => match x with
    | .ExceptHandler (some (.Name c _)) (some n) (_ :: _) _ => if C.M.hcl.contains c && isGl sc c && sc.lookup n == some .local && (slotOf C.N n).isSome then some ⟨c, 0, 0, c, none, false⟩ else none
    | _ => none
def cHds (C : Cc) (sc : List (Str × NameKind)) : List ExceptHandler → Option (List Hd)
  | [] => some []
  | x :: r => match cHd C sc x, cHds C sc r with
    | some h, some hs => some (h :: hs)
    | _, _ => none
def notComp : Expr → Bool
  | .ListComp _ _ _ _ => false
  | _ => true

def tupOf : Expr → Option (List Expr)
  | .Tuple es _ _ => some es
  | _ => none
mutual
def cS (C : Cc) (sc : List (Str × NameKind)) : Nat → Stmt → Option Sm
  | 0, _ => none
  | n + 1, s => match s with
    | .Assign [t] e _ => match cAt C sc n t with
      | none => none
      | some t' => (match tupOf t, tupOf e with
        | some ts, some es => (match swB sc ts es, cEs C n sc es with
          | some _, some es' => if es.length ≤ 1000 then some (.asg t' (.tup (parE C ts es'))) else none
          | _, _ => none)
        | _, _ => (match cE C n sc e with
          | some e' => some (.asg t' (cellE (muOf C t) e'))
          | none => none))
    | .AugAssign (.Name x _) o e _ => match (if isOwn sc x then slotOf C.N x else none), opOf o, cE C n sc e with
      | some i, some o, some e => some (.aug i o e)
      | _, _, _ => none
    | .AugAssign (.Subscript o i _) op e _ => (match skOf i with
      | .plain => (match cE C n sc o, cE C n sc i, opOf op, cE C n sc e with
        | some o, some i, some op, some e => some (.augs o i op e)
        | _, _, _, _ => none)
      | _ => none)
    | .Expr e _ => if notComp e then (cE C n sc e).map .expr else none
    | .Return (some e) _ => (cE C n sc e).map fun e => .ret (if C.top then cellE 1 e else e)
    | .Return none _ => some .retN
    | .If c a b _ => match cE C n sc c, cB C sc n a, cB C sc n b with
      | some c, some a, some b => some (.ife c a b)
      | _, _, _ => none
    | .For tg it b [] _ => match tgE C.N sc n tg, cI C n sc it, cB C sc n b with
      | some tg, some it, some b => if tgFit (itKind it) tg then some (.forr tg it b) else none
      | _, _, _ => none
    | .While c b [] _ => match cE C n sc c, cB C sc n b with
      | some c, some b => some (.whil c b)
      | _, _ => none
    | .Break _ => some .brk
    | .Continue _ => some .cnt
    | .Pass _ => some .pass
    | .Raise (some (.Call (.Name c _) [] [] _)) none _ => if isGl sc c && C.M.excs.contains c then some (.rais c []) else none
    | .Try b (hd :: hds) [] [] _ => match cB C sc n b, cHds C sc (hd :: hds) with
      | some b, some hds => some (.trys b hds)
      | _, _ => none
    | _ => none
def cB (C : Cc) (sc : List (Str × NameKind)) : Nat → List Stmt → Option (List Sm)
  | 0, _ => none
  | n + 1, [] => some []
  | n + 1, s :: r => match cB C sc n r with
    | some r => some ((cS C sc n s).getD .bad :: r)
    | _ => none
end

/-- all names of a comprehension's own, in a body -/
def addNew (N : List Str) (xs : List Str) : List Str := xs.foldl (fun N x => if N.contains x then N else N ++ [x]) N
mutual
def ownE : Nat → Expr → List Str
  | 0, _ => []
  | n + 1, e => match e with
    | .ListComp elt gs scope _ => (scope.names.filter fun p => p.2 == .local || p.2 == .cell).map (·.1) ++ ownE n elt ++ gs.flatMap fun g => ownE n g.iter ++ g.ifs.flatMap (ownE n)
    | .Tuple es _ _ => es.flatMap (ownE n)
    | .List es _ => es.flatMap (ownE n)
    | .Dict ks vs _ => (ks.flatMap fun k => match k with | some k => ownE n k | none => []) ++ vs.flatMap (ownE n)
    | .BinOp a _ b _ => ownE n a ++ ownE n b
    | .UnaryOp _ a _ => ownE n a
    | .BoolOp _ es _ => es.flatMap (ownE n)
    | .Compare a _ bs _ => ownE n a ++ bs.flatMap (ownE n)
    | .IfExp a b c _ => ownE n a ++ ownE n b ++ ownE n c
    | .Subscript a b _ => ownE n a ++ ownE n b
    | .Slice a b _ _ => (match a with | some a => ownE n a | none => []) ++ (match b with | some b => ownE n b | none => [])
    | .Call f es _ _ => ownE n f ++ es.flatMap (ownE n)
    | .Attribute a _ _ => ownE n a
    | _ => []
def ownS : Nat → Stmt → List Str
  | 0, _ => []
  | n + 1, s => match s with
    | .Assign ts e _ => ts.flatMap (ownE n) ++ ownE n e
    | .AugAssign t _ e _ => ownE n t ++ ownE n e
    | .Expr e _ => ownE n e
    | .Return (some e) _ => ownE n e
    | .If c a b _ => ownE n c ++ a.flatMap (ownS n) ++ b.flatMap (ownS n)
    | .For _ it b _ _ => ownE n it ++ b.flatMap (ownS n)
    | .While c b _ _ => ownE n c ++ b.flatMap (ownS n)
    | .Raise (some e) _ _ => ownE n e
    | .Try b _ _ _ _ => b.flatMap (ownS n)
    | .Delete es _ => es.flatMap (ownE n)
    | _ => []
end
/-- a def's names by slot: parameters, other own names, the comprehensions' names -/
def namesOf (ps : List Str) (sc : Scope) (body : List Stmt) : List Str :=
  addNew (addNew ps ((sc.names.filter fun p => p.2 == .local || p.2 == .cell).map (·.1))) (body.flatMap (ownS 40))
structure Opt where
  mu : List (Str × Nat) := []
  mode : Mode := .frz
def cFn (M : Names) (o : Opt) (args : Arguments) (body : List Stmt) (sc : Scope) : Option Fn :=
  let ps := args.args.map (·.arg)
  let N := namesOf ps sc body
  (cB ⟨M, N, o.mu, o.mode == .top⟩ sc.names 60 body).map fun b => ⟨ps.length, N.length, b, o.mode, 100000⟩
end Ev

set_option Elab.async false
set_option linter.all false
set_option maxRecDepth 100000
set_option maxHeartbeats 1000000
/-! EvDi: dicts in the model's heap, by data. -/
namespace Ev
open PySem PySem.Spec PyProof.Rows L2

mutual
/-- a key, as the library tells keys -/
def nk : D → NestedKey
  | .int i => .num i
  | .tup xs => .tup (nks xs)
  | _ => .none
def nks : List D → List NestedKey
  | [] => []
  | x :: xs => nk x :: nks xs
end
mutual
/-- its hash, where no text is in it -/
def hash0 : NestedKey → Int
  | .none => reduceHash 0xFCA86420
  | .num i => hashInt i
  | .text _ => 0
  | .tup ks => reduceHash (Builtin.Tuple.tupleHashOf (hashes0 ks))
def hashes0 : List NestedKey → List Int
  | [] => []
  | k :: ks => hash0 k :: hashes0 ks
end
theorem sI_tup {n : Nat} {xs : List D} (h : sI n (.tup xs) = true) : ∃ m, n = m + 1 ∧ ∀ x ∈ xs, sI m x = true := by
  cases n with
  | zero => cases h
  | succ m => exact ⟨m, rfl, fun x hx => List.all_eq_true.mp h x hx⟩
mutual
theorem nk_hash (w : World) : ∀ (n : Nat) (d : D), sI n d = true → (nk d).hash w = hash0 (nk d)
  | n, .int i, _ => by simp [nk, NestedKey.hash, hash0]
  | n, .tup xs, h => by
    obtain ⟨m, rfl, h1⟩ := sI_tup h
    simp [nk, NestedKey.hash, hash0, nks_hash w m xs h1]
  | n, .non, h => by cases n <;> cases h
  | n, .bl _, h => by cases n <;> cases h
  | n, .str _, h => by cases n <;> cases h
  | n, .lst _, h => by cases n <;> cases h
  | n, .dct _ _, h => by cases n <;> cases h
  | n, .set _, h => by cases n <;> cases h
  | n, .ref _, h => by cases n <;> cases h
  | n, .fn _, h => by cases n <;> cases h
  | n, .scr _, h => by cases n <;> cases h
theorem nks_hash (w : World) : ∀ (n : Nat) (ds : List D), (∀ x ∈ ds, sI n x = true) → NestedKey.hashes w (nks ds) = hashes0 (nks ds)
  | n, [], _ => by simp [nks, NestedKey.hashes, hashes0]
  | n, d :: ds, h => by simp [nks, NestedKey.hashes, hashes0, nk_hash w n d (h d (by simp)), nks_hash w n ds fun x hx => h x (by simp [hx])]
end
mutual
theorem nk_depth : ∀ (n : Nat) (d : D), sI n d = true → (nk d).depth ≤ n
  | n, .int i, _ => by simp [nk, NestedKey.depth]
  | n, .tup xs, h => by
    obtain ⟨m, rfl, h1⟩ := sI_tup h
    have := nks_depth m xs h1
    simp only [nk, NestedKey.depth]; omega
  | n, .non, h => by cases n <;> cases h
  | n, .bl _, h => by cases n <;> cases h
  | n, .str _, h => by cases n <;> cases h
  | n, .lst _, h => by cases n <;> cases h
  | n, .dct _ _, h => by cases n <;> cases h
  | n, .set _, h => by cases n <;> cases h
  | n, .ref _, h => by cases n <;> cases h
  | n, .fn _, h => by cases n <;> cases h
  | n, .scr _, h => by cases n <;> cases h
theorem nks_depth : ∀ (n : Nat) (ds : List D), (∀ x ∈ ds, sI n x = true) → NestedKey.depthAll (nks ds) ≤ n
  | n, [], _ => by simp [nks, NestedKey.depthAll]
  | n, d :: ds, h => by
    have h1 := nk_depth n d (h d (by simp))
    have h2 := nks_depth n ds fun x hx => h x (by simp [hx])
    simp only [nks, NestedKey.depthAll]; omega
end
mutual
theorem nk_eq : ∀ (n m : Nat) (x y : D), sI n x = true → sI m y = true → eqD x y = decide (nk x = nk y)
  | n, m, .int i, y, _, h => by
    cases y with
    | int j => simp [nk, eqD]; exact Bool.beq_eq_decide_eq i j
    | tup ys => simp [nk, eqD]
    | _ => cases m <;> cases h
  | n, m, .tup xs, y, h, h' => by
    cases y with
    | int j => simp [nk, eqD]
    | tup ys =>
      obtain ⟨n1, rfl, h1⟩ := sI_tup h
      obtain ⟨m1, rfl, h2⟩ := sI_tup h'
      simp only [nk, eqD, NestedKey.tup.injEq]
      exact nks_eq n1 m1 xs ys h1 h2
    | _ => cases m <;> cases h'
  | n, _, .non, _, h, _ => by cases n <;> cases h
  | n, _, .bl _, _, h, _ => by cases n <;> cases h
  | n, _, .str _, _, h, _ => by cases n <;> cases h
  | n, _, .lst _, _, h, _ => by cases n <;> cases h
  | n, _, .dct _ _, _, h, _ => by cases n <;> cases h
  | n, _, .set _, _, h, _ => by cases n <;> cases h
  | n, _, .ref _, _, h, _ => by cases n <;> cases h
  | n, _, .fn _, _, h, _ => by cases n <;> cases h
  | n, _, .scr _, _, h, _ => by cases n <;> cases h
theorem nks_eq : ∀ (n m : Nat) (xs ys : List D), (∀ x ∈ xs, sI n x = true) → (∀ y ∈ ys, sI m y = true) → eqDs xs ys = decide (nks xs = nks ys)
  | _, _, [], [], _, _ => by simp [nks, eqDs]
  | _, _, [], _ :: _, _, _ => by simp [nks, eqDs]
  | _, _, _ :: _, [], _, _ => by simp [nks, eqDs]
  | n, m, x :: xs, y :: ys, h, h' => by
    simp only [nks, eqDs, List.cons.injEq]
    rw [nk_eq n m x y (h x (by simp)) (h' y (by simp)), nks_eq n m xs ys (fun z hz => h z (by simp [hz])) fun z hz => h' z (by simp [hz])]
    exact (Bool.decide_and _ _).symm
end

/-! ### the entries -/
inductive Ents : List D → List V → List V → List DictEntry → Prop
  | nil : Ents [] [] [] []
  | cons {k : D} {u v : V} {u' v' : Value} {ks : List D} {us vs : List V} {es : List DictEntry} : RelV u u' → RelV v v' → Ents ks us vs es → Ents (k :: ks) (u :: us) (v :: vs) (⟨hash0 (nk k), u', v'⟩ :: es)
def DictAt (h : Heap) (a : Addr) (ks : List D) (us vs : List V) : Prop :=
  (a == sysModules) = false ∧ ks.length ≤ sizeLine ∧ (ks.map nk).Nodup ∧ ∃ o es ep, h.get? a = some o ∧ o.ExactDict ∧ o.data = .dict es ep ∧ Ents ks us vs es.toList
/-- a dict with keys ks (us), values vs -/
def DictO (a : Addr) (ks : List D) (us vs : List V) : HO := .ext fun h => DictAt h a ks us vs
theorem dictO_new {P : Program} {w : World} {H : Hp} {h : Heap} {a : Addr} {ks : List D} {us vs : List V} (x : DictAt h a ks us vs) : ObjOk P w H h a (DictO a ks us vs) := by
  refine ⟨x, ?_, fun h1 h2 y k => ?_⟩
  · obtain ⟨_, _, _, o, _, _, e, _⟩ := x; exact ⟨o, e⟩
  · obtain ⟨y1, y2, y3, o, es, ep, e, r⟩ := y; exact ⟨y1, y2, y3, o, es, ep, k _ e, r⟩
theorem dictO_get {X : Cx} {pins : List (Addr × Obj)} {σ : L2.St} {H : Hp} {s : Shared} {a : Addr} {ks : List D} {us vs : List V} (I : Inv X pins σ H s) (ha : H a = some (DictO a ks us vs)) : DictAt s.heap a ks us vs := (I.hok a _ ha).1

/-! ### keys that are tuples -/
def tupK (d : D) : Bool := isTup d && sI 8 d
inductive KT (h : Heap) : List D → List V → Prop
  | nil : KT h [] []
  | cons {k : D} {b : Addr} {ks : List D} {us : List V} : tupK k = true → NestedIs h (nk k) (.ref b) → KT h ks us → KT h (k :: ks) (.ref b :: us)
inductive Xr (h : Heap) : List D → List V → List V → List (NestedKey × Addr × Value) → Prop
  | nil : Xr h [] [] [] []
  | cons {k : D} {b : Addr} {v : V} {v' : Value} {ks : List D} {us vs : List V} {xs : List (NestedKey × Addr × Value)} : tupK k = true → NestedIs h (nk k) (.ref b) → RelV v v' → Xr h ks us vs xs → Xr h (k :: ks) (.ref b :: us) (v :: vs) ((nk k, b, v') :: xs)
section
variable {P : Program} {w : World} {h h' : Heap} {ks : List D} {us vs : List V} {xs : List (NestedKey × Addr × Value)} {es : List DictEntry}
theorem tupK_ok {d : D} (h : tupK d = true) : isTup d = true ∧ sI 8 d = true := Bool.and_eq_true_iff.mp h
theorem Xr.ents (x : Xr h ks us vs xs) : Ents ks us vs (xs.map (entryOfKey (nestedKind P w))) := by
  induction x with
  | nil => exact .nil
  | cons hk hn rv _ ih =>
    have e := nk_hash w 8 _ (tupK_ok hk).2
    show Ents _ _ _ (⟨(nk _).hash w, _, _⟩ :: _)
    rw [e]
    exact .cons rfl rv ih
theorem Ents.xr (e : Ents ks us vs es) : KT h ks us → ∃ xs, Xr h ks us vs xs ∧ es = xs.map (entryOfKey (nestedKind P w)) := by
  induction e with
  | nil => exact fun _ => ⟨[], .nil, rfl⟩
  | cons ru rv _ ih =>
    intro t
    cases t with
    | cons hk hn t =>
      obtain ⟨xs, x, rfl⟩ := ih t
      have ru : _ = Value.ref _ := ru
      subst ru
      refine ⟨_, .cons hk hn rv x, ?_⟩
      rw [List.map_cons]
      show _ = DictEntry.mk ((nk _).hash w) _ _ :: _
      rw [nk_hash w 8 _ (tupK_ok hk).2]
theorem Xr.keys (x : Xr h ks us vs xs) : xs.map (·.1) = ks.map nk := by
  induction x with
  | nil => rfl
  | cons _ _ _ _ ih => rw [List.map_cons, List.map_cons, ih]
theorem Xr.length (x : Xr h ks us vs xs) : xs.length = ks.length := by
  have := congrArg List.length x.keys
  simpa using this
theorem Xr.lens (x : Xr h ks us vs xs) : us.length = ks.length ∧ vs.length = ks.length := by
  induction x with
  | nil => exact ⟨rfl, rfl⟩
  | cons _ _ _ _ ih => exact ⟨by simp [ih.1], by simp [ih.2]⟩
theorem Xr.is (x : Xr h ks us vs xs) : ∀ y ∈ xs, (nestedKind P w).is h y.1 y.2.1 := by
  induction x with
  | nil => exact fun _ hy => by cases hy
  | cons hk hn _ _ ih =>
    intro y hy
    rcases List.mem_cons.mp hy with rfl | hy
    · exact ⟨hn, nk_depth 8 _ (tupK_ok hk).2⟩
    · exact ih y hy
theorem DictAt.dictOfH {a : Addr} (x : DictAt h a ks us vs) (t : KT h ks us) : ∃ xs, Xr h ks us vs xs ∧ h.DictOfH (nestedKind P w) a xs ∧ (a == sysModules) = false ∧ xs.length ≤ sizeLine := by
  obtain ⟨x1, x2, x3, o, es, ep, e1, e2, e3, e4⟩ := x
  obtain ⟨xs, q, e5⟩ := e4.xr (P := P) (w := w) t
  exact ⟨xs, q, ⟨o, es, ep, e1, e2, e3, e5, q.is, by rw [q.keys]; exact x3⟩, x1, by rw [q.length]; exact x2⟩
theorem DictAt.ofH {a : Addr} (hs : (a == sysModules) = false) (hl : ks.length ≤ sizeLine) (x : Xr h' ks us vs xs) (d : h.DictOfH (nestedKind P w) a xs) : DictAt h a ks us vs := by
  obtain ⟨o, es, ep, e1, e2, e3, e5, _, e6⟩ := d
  rw [x.keys] at e6
  exact ⟨hs, hl, e6, o, es, ep, e1, e2, e3, by rw [e5]; exact x.ents⟩
/-- looked up -/
theorem Xr.look (x : Xr h ks us vs xs) {k : D} (hk : sI 8 k = true) : ∀ {dvs : List D}, dvs.length = ks.length → (∀ d, lookD k ks dvs = some d → ∃ (i : Nat) (v : V) (p : Addr × Value), dvs[i]? = some d ∧ vs[i]? = some v ∧ atKey xs (nk k) = some p ∧ RelV v p.2) := by
  induction x with
  | nil => intro dvs _ d e; cases dvs <;> cases e
  | @cons k1 b v v' ks us vs xs hk1 hn rv x ih =>
    intro dvs hl d e
    cases dvs with
    | nil => cases e
    | cons d1 dvs =>
      have e : (if eqD k1 k = true then some d1 else lookD k ks dvs) = some d := e
      have q := nk_eq 8 8 k1 k (tupK_ok hk1).2 hk
      split at e
      · rename_i hq
        cases e
        rw [q] at hq
        have hq := of_decide_eq_true hq
        exact ⟨0, v, (b, v'), rfl, rfl, by simp [atKey, hq], rv⟩
      · rename_i hq
        rw [q] at hq
        have hq : ¬ nk k1 = nk k := fun z => hq (decide_eq_true z)
        obtain ⟨i, v2, p, e1, e2, e3, e4⟩ := ih (by simpa using hl) d e
        refine ⟨i + 1, v2, p, by simpa using e1, by simpa using e2, ?_, e4⟩
        simpa [atKey, List.find?_cons, hq] using e3
theorem Xr.any (x : Xr h ks us vs xs) {k : D} (hk : sI 8 k = true) : (atKey xs (nk k)).isSome = ks.any fun y => eqD y k := by
  induction x with
  | nil => rfl
  | @cons k1 b v v' ks us vs xs hk1 hn rv x ih =>
    rw [List.any_cons, nk_eq 8 8 k1 k (tupK_ok hk1).2 hk, ← ih]
    by_cases q : nk k1 = nk k
    · simp [atKey, q]
    · simp [atKey, List.find?_cons, q]
theorem idx_any {k : D} : ∀ {ks : List D}, (idxD k ks).isSome = ks.any fun y => eqD y k
  | [] => rfl
  | y :: ks => by
    rw [List.any_cons]
    show (if eqD y k = true then some 0 else (idxD k ks).map (· + 1)).isSome = _
    cases q : eqD y k with
    | true => rfl
    | false => simp [← idx_any (k := k) (ks := ks)]
/-- stored -/
theorem Xr.put_old (x : Xr h ks us vs xs) {k : D} (hk : sI 8 k = true) {v : V} {v' : Value} (rv : RelV v v') : ∀ {i : Nat}, (ks.map nk).Nodup → idxD k ks = some i → Xr h ks us (vs.set i v) (xs.map (putAt (nk k) v')) := by
  induction x with
  | nil => intro i _ e; cases e
  | @cons k1 b v1 v1' ks us vs xs hk1 hn rv1 x ih =>
    intro i nd e
    have e : (if eqD k1 k = true then some 0 else (idxD k ks).map (· + 1)) = some i := e
    have q := nk_eq 8 8 k1 k (tupK_ok hk1).2 hk
    rw [List.map_cons, List.nodup_cons] at nd
    split at e
    · rename_i hq
      cases e
      rw [q] at hq
      have hq := of_decide_eq_true hq
      have : xs.map (putAt (nk k) v') = xs := map_putAt_of_not_mem xs _ _ (by rw [x.keys, ← hq]; exact nd.1)
      rw [List.map_cons, this]
      show Xr h _ _ (v :: vs) (putAt (nk k) v' (nk k1, b, v1') :: xs)
      unfold putAt
      rw [if_pos hq]
      exact .cons hk1 hn rv x
    · rename_i hq
      rw [q] at hq
      have hq : ¬ nk k1 = nk k := fun z => hq (decide_eq_true z)
      obtain ⟨j, e1, rfl⟩ := Option.map_eq_some_iff.mp e
      rw [List.map_cons, List.set_cons_succ]
      unfold putAt
      rw [if_neg hq]
      exact .cons hk1 hn rv1 (ih nd.2 e1)
theorem Xr.snoc (x : Xr h ks us vs xs) {k : D} {b : Addr} {v : V} {v' : Value} (hk : tupK k = true) (hn : NestedIs h (nk k) (.ref b)) (rv : RelV v v') : Xr h (ks ++ [k]) (us ++ [.ref b]) (vs ++ [v]) (xs ++ [(nk k, b, v')]) := by
  induction x with
  | nil => exact .cons hk hn rv .nil
  | cons h1 h2 h3 _ ih => exact .cons h1 h2 h3 ih
/-- the keys' values behind a store -/
def putU (ks : List D) (us : List V) (k : D) (b : V) : List V := match idxD k ks with
  | some _ => us
  | none => us ++ [b]
def putV (ks : List D) (vs : List V) (k : D) (v : V) : List V := match idxD k ks with
  | some i => vs.set i v
  | none => vs ++ [v]
theorem Xr.put (x : Xr h ks us vs xs) (nd : (ks.map nk).Nodup) {k : D} {b : Addr} {v : V} {v' : Value} (hk : tupK k = true) (hn : NestedIs h (nk k) (.ref b)) (rv : RelV v v') (dvs : List D) (dv : D) :
    Xr h (putD ks dvs k dv).1 (putU ks us k (.ref b)) (putV ks vs k v) (storedH xs (nk k) b v') := by
  have a := x.any (tupK_ok hk).2
  rw [← idx_any] at a
  unfold putD putU putV storedH
  cases q : idxD k ks with
  | some i =>
    rw [q] at a
    have a : _ = true := a
    rw [if_pos a]
    exact x.put_old (tupK_ok hk).2 rv nd q
  | none =>
    rw [q] at a
    have a : _ = false := a
    rw [if_neg (by rw [a]; decide)]
    exact x.snoc hk hn rv
end

/-! ### keys that are ints -/
inductive KI : List D → List V → List Int → Prop
  | nil : KI [] [] []
  | cons {i : Int} {ks : List D} {us : List V} {is : List Int} : KI ks us is → KI (.int i :: ks) (.int i :: us) (i :: is)
section
variable {P : Program} {w : World} {h h' : Heap} {ks : List D} {us vs : List V} {es : List DictEntry} {is : List Int} {kvs : List (Int × Value)}
theorem KI.keys (x : KI ks us is) : ks.map nk = is.map NestedKey.num := by
  induction x with
  | nil => rfl
  | cons _ ih => simp [nk, ih]
theorem nodup_map {α β : Type} {f : α → β} (inj : ∀ a b, f a = f b → a = b) : ∀ {l : List α}, (l.map f).Nodup ↔ l.Nodup
  | [] => by simp
  | a :: l => by
    rw [List.map_cons, List.nodup_cons, List.nodup_cons, nodup_map inj]
    refine ⟨fun ⟨h1, h2⟩ => ⟨fun z => h1 (List.mem_map.mpr ⟨a, z, rfl⟩), h2⟩, fun ⟨h1, h2⟩ => ⟨fun z => ?_, h2⟩⟩
    obtain ⟨b, hb, e⟩ := List.mem_map.mp z
    rw [inj _ _ e] at hb
    exact h1 hb
theorem Ents.pairs (e : Ents ks us vs es) : ∀ {is : List Int}, KI ks us is → ∃ kvs : List (Int × Value), Pairs (intKind P w) es kvs ∧ (∀ x ∈ es, ∃ k, (intKind P w).is k x.key = true ∧ x.hash = (intKind P w).hash k) ∧ kvs.map (·.1) = is ∧ Vals vs (kvs.map (·.2)) := by
  induction e with
  | nil => intro is t; cases t; exact ⟨[], .nil, (fun _ hx => by cases hx), rfl, .nil⟩
  | cons ru rv _ ih =>
    intro is t
    cases t with
    | @cons i _ _ is t =>
      obtain ⟨kvs, p, q, e1, r⟩ := ih t
      obtain ⟨t, rfl⟩ := ru
      refine ⟨(i, _) :: kvs, .cons (intKind_is P w i t) rfl p, fun x hx => ?_, by rw [List.map_cons, e1], .cons rv r⟩
      rcases List.mem_cons.mp hx with rfl | hx
      · exact ⟨i, intKind_is P w i t, by simp [nk, hash0]; rfl⟩
      · exact q x hx
theorem DictAt.dictOf {a : Addr} (x : DictAt h a ks us vs) (t : KI ks us is) : ∃ kvs, kvs.map (·.1) = is ∧ Vals vs (kvs.map (·.2)) ∧ h.DictOf (intKind P w) a kvs ∧ (a == sysModules) = false ∧ kvs.length ≤ sizeLine ∧ kvs.length = ks.length := by
  obtain ⟨x1, x2, x3, o, es, ep, e1, e2, e3, e4⟩ := x
  obtain ⟨kvs, p, q, e5, r⟩ := e4.pairs (P := P) (w := w) t
  have hl : kvs.length = ks.length := by
    have h1 := congrArg List.length e5
    have h2 := congrArg List.length t.keys
    simp at h1 h2
    omega
  refine ⟨kvs, e5, r, ⟨o, es, ep, e1, e2, e3, fun e he => q e (by simpa using he), p, ?_⟩, x1, by omega, hl⟩
  rw [e5]
  rw [t.keys] at x3
  exact (nodup_map fun a b e => by injection e).mp x3
theorem ents_of {es : List DictEntry} : ∀ {kvs : List (Int × Value)} {ks : List D} {us vs : List V}, Pairs (intKind P w) es kvs → (∀ x ∈ es, ∃ k, (intKind P w).is k x.key = true ∧ x.hash = (intKind P w).hash k) → KI ks us (kvs.map (·.1)) → Vals vs (kvs.map (·.2)) → Ents ks us vs es := by
  intro kvs ks us vs p
  induction p generalizing ks us vs with
  | nil => intro _ t r; cases t; cases r; exact .nil
  | @cons e kv es kvs h1 h2 p ih =>
    intro q t r
    rw [List.map_cons] at t r
    cases t with
    | cons t =>
      cases r with
      | cons r1 r =>
        obtain ⟨k, q1, q2⟩ := q e (by simp)
        obtain ⟨hh, key, val⟩ := e
        have ek := (intKind P w).inj _ _ _ q1 h1
        subst ek
        obtain ⟨t0, e1⟩ := Value.isInt_shape (k := kv.1) (v := key) h1
        have e1 : key = _ := e1
        subst e1
        have h2 : val = kv.2 := h2
        subst h2
        have q2 : hh = hashInt kv.1 := q2
        subst q2
        have := Ents.cons (k := .int kv.1) (u := .int kv.1) (u' := .int kv.1 t0) ⟨t0, rfl⟩ r1 (ih (fun x hx => q x (by simp [hx])) t r)
        simpa [nk, hash0] using this
theorem DictAt.ofI {a : Addr} (hs : (a == sysModules) = false) (hl : ks.length ≤ sizeLine) (t : KI ks us (kvs.map (·.1))) (r : Vals vs (kvs.map (·.2))) (d : h.DictOf (intKind P w) a kvs) : DictAt h a ks us vs := by
  obtain ⟨o, es, ep, e1, e2, e3, q, p, nd⟩ := d
  refine ⟨hs, hl, ?_, o, es, ep, e1, e2, e3, ents_of p (fun x hx => q x (by simpa using hx)) t r⟩
  rw [t.keys]
  exact (nodup_map fun a b e => by injection e).mpr nd
theorem KI.look (t : KI ks us is) {i : Int} : ∀ {kvs : List (Int × Value)} {vs : List V} {dvs : List D}, kvs.map (·.1) = is → Vals vs (kvs.map (·.2)) → dvs.length = ks.length → ∀ d, lookD (.int i) ks dvs = some d → ∃ (j : Nat) (v : V) (v' : Value), dvs[j]? = some d ∧ vs[j]? = some v ∧ valueAt kvs i = some v' ∧ RelV v v' := by
  induction t with
  | nil => intro kvs vs dvs _ _ _ d e; cases dvs <;> cases e
  | @cons i1 ks us is t ih =>
    intro kvs vs dvs ek r hl d e
    match kvs, ek, r, dvs, e with
    | (i2, v') :: kvs, ek, .cons rv r, d1 :: dvs, e =>
      rw [List.map_cons] at ek
      injection ek with ek1 ek2
      have ek1 : i2 = i1 := ek1
      subst ek1
      have e : (if eqD (.int i2) (.int i) = true then some d1 else lookD (.int i) ks dvs) = some d := e
      split at e
      · rename_i hq
        cases e
        have hq : i2 = i := eq_of_beq (show (i2 == i) = true from hq)
        subst hq
        exact ⟨0, _, v', rfl, rfl, by simp [valueAt], rv⟩
      · rename_i hq
        have hq : ¬ i2 = i := fun z => hq (by show (i2 == i) = true; rw [z]; simp)
        obtain ⟨j, v2, v2', e1, e2, e3, e4⟩ := ih ek2 r (by simpa using hl) d e
        refine ⟨j + 1, v2, v2', by simpa using e1, by simpa using e2, ?_, e4⟩
        simpa [valueAt, List.find?_cons, hq] using e3
theorem KI.any (t : KI ks us is) {i : Int} : ∀ {kvs : List (Int × Value)}, kvs.map (·.1) = is → (valueAt kvs i).isSome = ks.any fun y => eqD y (.int i) := by
  induction t with
  | nil => intro kvs e; cases kvs with | nil => rfl | cons _ _ => cases e
  | @cons i1 ks us is t ih =>
    intro kvs ek
    match kvs, ek with
    | (i2, v') :: kvs, ek =>
      rw [List.map_cons] at ek
      injection ek with ek1 ek2
      have ek1 : i2 = i1 := ek1
      subst ek1
      rw [List.any_cons, ← ih ek2]
      by_cases q : i2 = i
      · subst q; simp [valueAt, eqD]
      · have : eqD (.int i2) (.int i) = false := by show (i2 == i) = false; exact beq_eq_false_iff_ne.mpr q
        rw [this, Bool.false_or]
        simp [valueAt, List.find?_cons, q]
theorem KI.put (t : KI ks us is) {i : Int} {v : V} {v' : Value} (rv : RelV v v') (dvs : List D) (dv : D) {kvs : List (Int × Value)} {vs : List V} (e : kvs.map (·.1) = is) (nd : is.Nodup) (r : Vals vs (kvs.map (·.2))) :
    KI (putD ks dvs (.int i) dv).1 (putU ks us (.int i) (.int i)) ((stored kvs i v').map (·.1)) ∧ Vals (putV ks vs (.int i) v) ((stored kvs i v').map (·.2)) := by
  have a := t.any (i := i) e
  rw [← idx_any] at a
  have a2 : (kvs.any fun kv => decide (kv.1 = i)) = (valueAt kvs i).isSome := by
    clear a r e
    induction kvs with
    | nil => rfl
    | cons p kvs ih =>
      by_cases q : p.1 = i
      · simp [valueAt, q]
      · simpa [valueAt, List.find?_cons, q] using ih
  unfold putD putU putV stored
  rw [a2, a]
  cases q : idxD (.int i) ks with
  | some j =>
    rw [if_pos (show (some j).isSome = true from rfl)]
    dsimp only
    refine ⟨?_, ?_⟩
    · have : (kvs.map fun kv => if kv.1 = i then (kv.1, v') else kv).map (·.1) = kvs.map (·.1) := by
        rw [List.map_map]
        refine List.map_congr_left fun p _ => ?_
        dsimp only [Function.comp]
        split <;> rfl
      rw [this, e]
      exact t
    · clear a a2
      induction t generalizing kvs vs j with
      | nil => cases q
      | @cons i1 ks us is t ih =>
        match kvs, vs, e, r with
        | (i2, w') :: kvs, w :: vs, e, .cons rw' r =>
          rw [List.map_cons] at e
          injection e with ek1 ek2
          have ek1 : i2 = i1 := ek1
          subst ek1
          have q : (if eqD (.int i2) (.int i) = true then some 0 else (idxD (.int i) ks).map (· + 1)) = some j := q
          have nd := List.nodup_cons.mp nd
          split at q
          · rename_i hq
            cases q
            have hq : i2 = i := eq_of_beq (show (i2 == i) = true from hq)
            subst hq
            have : (kvs.map fun kv => if kv.1 = i2 then (kv.1, v') else kv) = kvs := map_store_of_not_mem kvs i2 v' (by rw [ek2]; exact nd.1)
            rw [List.map_cons, this]
            simp only [if_pos, List.map_cons, List.set_cons_zero]
            exact .cons rv r
          · rename_i hq
            have hq : ¬ i2 = i := fun z => hq (by show (i2 == i) = true; rw [z]; simp)
            obtain ⟨j1, q1, rfl⟩ := Option.map_eq_some_iff.mp q
            rw [List.map_cons, List.map_cons, if_neg hq, List.set_cons_succ]
            exact .cons rw' (ih ek2 nd.2 r _ q1)
  | none =>
    dsimp only
    rw [if_neg (by simp)]
    rw [List.map_append, List.map_append, e]
    refine ⟨?_, Vals.append r (.cons rv .nil)⟩
    clear e r a a2 nd
    induction t with
    | nil => exact .cons .nil
    | @cons i1 ks us is t ih =>
      have q : (if eqD (.int i1) (.int i) = true then some 0 else (idxD (.int i) ks).map (· + 1)) = none := q
      split at q
      · cases q
      · exact .cons (ih (by simpa using q))
end
end Ev

set_option Elab.async false
set_option linter.all false
set_option maxRecDepth 100000
set_option maxHeartbeats 1000000
/-! EvD: the core language's data in the model's heap. -/
namespace Ev
open PySem PySem.Spec PyProof.Rows L2

/-- no cell, not reserved -/
def Off (f : Nat → Addr) (n : Nat) (R : Addr → Prop) (a : Addr) : Prop := ¬ R a ∧ ∀ k, k < n → a ≠ f k
/-- a tuple: its object is known to have no dict -/
def TuAt (H : Hp) (a : Addr) (vs : List V) : Prop := ∃ o : Obj, H a = some (.frz o (.tup vs)) ∧ o.cls = .type "tuple" ∧ o.dict = none
theorem TuAt.some {H : Hp} {a : Addr} {vs : List V} (h : TuAt H a vs) : (H a).isSome = true := by obtain ⟨o, e, _⟩ := h; rw [e]; rfl
theorem TuAt.to {H H' : Hp} {a : Addr} {vs : List V} (h : TuAt H a vs) (e : H' a = H a) : TuAt H' a vs := by obtain ⟨o, q, r⟩ := h; exact ⟨o, e.trans q, r⟩
theorem TuAt.sq {K : PySem.W.Frag} {H : Hp} {a : Addr} {vs : List V} (h : TuAt H a vs) : SqT K H a vs := by obtain ⟨o, q, r⟩ := h; exact .inl (.inr ⟨o, q⟩)
/-- where the defs stand; of which program, in which world -/
structure FA where
  fn : Nat → Option Addr
  P : Program
  w : World
instance : CoeFun FA fun _ => Nat → Option Addr := ⟨FA.fn⟩
/-- a tuple of ints -/
def tI' (p : List Int) : D := .tup (p.map .int)
/-- what a set of tuples has, in order -/
def SetK (xs : List D) (L : List (Addr × List Int)) : Prop := xs.Perm (L.map fun p => tI' p.2) ∧ xs.Pairwise (fun a b => ltD a b = some true) ∧ ∃ d, 1 ≤ d ∧ ∀ p ∈ L, p.2.length = d ∧ ∀ x ∈ p.2, 0 ≤ x ∧ x < 64
mutual
inductive RD (fa : FA) (f : Nat → Addr) (n : Nat) (R : Addr → Prop) (H : Hp) : D → V → Prop
  | non : RD fa f n R H .non .non
  | bl (b : Bool) : RD fa f n R H (.bl b) (.bl b)
  | int (i : Int) : RD fa f n R H (.int i) (.int i)
  | str (x : Str) : RD fa f n R H (.str x) (.str x)
  | tup {a : Addr} {xs : List D} {vs : List V} : TuAt H a vs → Off f n R a → RDs fa f n R H xs vs → RD fa f n R H (.tup xs) (.ref a)
  | lst {a : Addr} {xs : List D} {vs : List V} : H a = some (.lst vs) → Off f n R a → RDs fa f n R H xs vs → RD fa f n R H (.lst xs) (.ref a)
  | ref {k : Nat} : k < n → RD fa f n R H (.ref k) (.ref (f k))
  | fn {k : Nat} {a : Addr} : fa k = some a → RD fa f n R H (.fn k) (.ref a)
  | scr {a : Addr} {o : Obj} {xs : List D} {vs : List V} : H a = some (.frz o (.lst vs)) → Off f n R a → RDs fa f n R H xs vs → RD fa f n R H (.scr xs) (.ref a)
  | dct {a : Addr} {ks vs : List D} {us ws : List V} : H a = some (DictO a ks us ws) → Off f n R a → ks.all keyD = true → RDs fa f n R H ks us → RDs fa f n R H vs ws → RD fa f n R H (.dct ks vs) (.ref a)
  | set {a : Addr} {xs : List D} {L : List (Addr × List Int)} : H a = some (SetTO fa.P fa.w a L) → Off f n R a → SetK xs L → RDs fa f n R H (L.map fun p => tI' p.2) (L.map fun p => V.ref p.1) → RD fa f n R H (.set xs) (.ref a)
  | seti {a : Addr} {ns : List Int} {S : Int → Bool} : H a = some (SetO fa.w a S ns.length) → Off f n R a → (∀ k, k ∈ ns ↔ S k = true) → (ns.Pairwise (· < ·) ∧ ns.length < 64) → RD fa f n R H (.set (ns.map .int)) (.ref a)
inductive RDs (fa : FA) (f : Nat → Addr) (n : Nat) (R : Addr → Prop) (H : Hp) : List D → List V → Prop
  | nil : RDs fa f n R H [] []
  | cons {d : D} {v : V} {ds : List D} {vs : List V} : RD fa f n R H d v → RDs fa f n R H ds vs → RDs fa f n R H (d :: ds) (v :: vs)
end
section
variable {fa : FA} {f f' : Nat → Addr} {n n' : Nat} {R R' : Addr → Prop} {B : Nat → Prop} {H H' : Hp}
theorem RDs.length : ∀ {ds : List D} {vs : List V}, RDs fa f n R H ds vs → ds.length = vs.length
  | _, _, .nil => rfl
  | _, _, .cons _ t => by rw [List.length_cons, List.length_cons, RDs.length t]
theorem RDs.get : ∀ {ds : List D} {vs : List V} {i : Nat} {d : D}, RDs fa f n R H ds vs → ds[i]? = some d → ∃ v, vs[i]? = some v ∧ RD fa f n R H d v
  | _, _, _, _, .nil, e => by simp at e
  | _, _, 0, _, .cons r _, e => by simp at e; subst e; exact ⟨_, rfl, r⟩
  | _, _, i + 1, d, .cons _ t, e => by
    obtain ⟨v, h1, h2⟩ := RDs.get (i := i) t (by simpa using e)
    exact ⟨v, by simpa using h1, h2⟩
theorem RDs.append : ∀ {as bs : List D} {us vs : List V}, RDs fa f n R H as us → RDs fa f n R H bs vs → RDs fa f n R H (as ++ bs) (us ++ vs)
  | _, _, _, _, .nil, s => s
  | _, _, _, _, .cons r t, s => .cons r (RDs.append t s)
theorem RDs.take : ∀ {as : List D} {us : List V} (k : Nat), RDs fa f n R H as us → RDs fa f n R H (as.take k) (us.take k)
  | _, _, 0, _ => by simpa using .nil
  | _, _, _ + 1, .nil => by simpa using .nil
  | _, _, k + 1, .cons r t => by simpa using .cons r (RDs.take k t)
theorem RDs.drop : ∀ {as : List D} {us : List V} (k : Nat), RDs fa f n R H as us → RDs fa f n R H (as.drop k) (us.drop k)
  | _, _, 0, r => by simpa using r
  | _, _, _ + 1, .nil => by simpa using .nil
  | _, _, k + 1, .cons _ t => by simpa using RDs.drop k t
theorem RDs.set : ∀ {as : List D} {us : List V} (i : Nat) {d : D} {v : V}, RDs fa f n R H as us → RD fa f n R H d v → RDs fa f n R H (as.set i d) (us.set i v)
  | _, _, _, _, _, .nil, _ => by simpa using .nil
  | _, _, 0, _, _, .cons _ t, r => by simpa using .cons r t
  | _, _, i + 1, _, _, .cons q t, r => by simpa using .cons q (RDs.set i t r)
theorem RDs.eraseIdx : ∀ {as : List D} {us : List V} (i : Nat), RDs fa f n R H as us → RDs fa f n R H (as.eraseIdx i) (us.eraseIdx i)
  | _, _, _, .nil => by simpa using .nil
  | _, _, 0, .cons _ t => by simpa using t
  | _, _, i + 1, .cons q t => by simpa using .cons q (RDs.eraseIdx i t)
theorem RDs.reverse {as : List D} {us : List V} (h : RDs fa f n R H as us) : RDs fa f n R H as.reverse us.reverse := by
  induction as generalizing us with
  | nil => cases h; exact .nil
  | cons d ds ih =>
    cases h with
    | cons r t =>
      rw [List.reverse_cons, List.reverse_cons]
      exact (ih t).append (.cons r .nil)
theorem RDs.dropLast {as : List D} {us : List V} (h : RDs fa f n R H as us) : RDs fa f n R H as.dropLast us.dropLast := by
  rw [List.dropLast_eq_take, List.dropLast_eq_take, ← h.length]
  exact h.take _
theorem RDs.rep {as : List D} {us : List V} (h : RDs fa f n R H as us) : ∀ k : Nat, RDs fa f n R H (List.replicate k as).flatten (List.replicate k us).flatten
  | 0 => .nil
  | k + 1 => by
    rw [List.replicate_succ, List.replicate_succ, List.flatten_cons, List.flatten_cons]
    exact h.append (h.rep k)
mutual
/-- the relation goes over -/
theorem RD.go (hR : ∀ a, Off f n R a → (H a).isSome = true → Off f' n' R' a ∧ H' a = H a) (hf : ∀ k, k < n → k < n' ∧ f' k = f k) : ∀ {d : D} {v : V}, RD fa f n R H d v → RD fa f' n' R' H' d v
  | _, _, .non => .non
  | _, _, .bl b => .bl b
  | _, _, .int i => .int i
  | _, _, .str x => .str x
  | _, _, .tup e o t => .tup (e.to (hR _ o e.some).2) (hR _ o e.some).1 (RDs.go hR hf t)
  | _, _, .lst e o t => .lst ((hR _ o (by rw [e]; rfl)).2.trans e) (hR _ o (by rw [e]; rfl)).1 (RDs.go hR hf t)
  | _, _, .ref (k := k) h => by
    have q := hf k h
    rw [← q.2]
    exact .ref q.1
  | _, _, .fn e => .fn e
  | _, _, .scr e o t => .scr ((hR _ o (by rw [e]; rfl)).2.trans e) (hR _ o (by rw [e]; rfl)).1 (RDs.go hR hf t)
  | _, _, .dct e o k t t' => .dct ((hR _ o (by rw [e]; rfl)).2.trans e) (hR _ o (by rw [e]; rfl)).1 k (RDs.go hR hf t) (RDs.go hR hf t')
  | _, _, .set e o k t => .set ((hR _ o (by rw [e]; rfl)).2.trans e) (hR _ o (by rw [e]; rfl)).1 k (RDs.go hR hf t)
  | _, _, .seti e o k t => .seti ((hR _ o (by rw [e]; rfl)).2.trans e) (hR _ o (by rw [e]; rfl)).1 k t
theorem RDs.go (hR : ∀ a, Off f n R a → (H a).isSome = true → Off f' n' R' a ∧ H' a = H a) (hf : ∀ k, k < n → k < n' ∧ f' k = f k) : ∀ {ds : List D} {vs : List V}, RDs fa f n R H ds vs → RDs fa f' n' R' H' ds vs
  | _, _, .nil => .nil
  | _, _, .cons r t => .cons (RD.go hR hf r) (RDs.go hR hf t)
end

def CellOk (fa : FA) (f : Nat → Addr) (n : Nat) (R : Addr → Prop) (H : Hp) (a : Addr) : Cell → Prop
  | .lst xs => ∃ vs, H a = some (.lst vs) ∧ RDs fa f n R H xs vs
  | .dct ks vs => ks.all keyD = true ∧ ∃ us ws, H a = some (DictO a ks us ws) ∧ RDs fa f n R H ks us ∧ RDs fa f n R H vs ws
structure Sim (fa : FA) (f : Nat → Addr) (R : Addr → Prop) (B : Nat → Prop) (h : Hh) (H : Hp) : Prop where
  cell : ∀ k c, h[k]? = some c → CellOk fa f h.length R H (f k) c
  inj : ∀ i j, i < h.length → j < h.length → f i = f j → i = j
  off : ∀ k, k < h.length → ¬ R (f k)
  res : ∀ a, R a → (H a).isSome = true
  own : ∀ b, B b → ∀ k c, k < b → h[k]? = some c → cellLt b c
/-- what a step leaves: old things that are no cells as they stood; new cells at new places -/
structure Ext (f : Nat → Addr) (n : Nat) (R : Addr → Prop) (H : Hp) (f' : Nat → Addr) (n' : Nat) (H' : Hp) : Prop where
  le : n ≤ n'
  same : ∀ k, k < n → f' k = f k
  new : ∀ k, n ≤ k → k < n' → H (f' k) = none
  keep : ∀ a, (∀ k, k < n → a ≠ f k) → (H a).isSome = true → H' a = H a
  there : ∀ a, (H a).isSome = true → (H' a).isSome = true
theorem Ext.refl : Ext f n R H f n H := ⟨Nat.le_refl _, fun _ _ => rfl, fun k h1 h2 => absurd h2 (by omega), fun _ _ _ => rfl, fun _ h => h⟩
theorem Ext.trans {f'' : Nat → Addr} {n'' : Nat} {H'' : Hp} (a : Ext f n R H f' n' H') (b : Ext f' n' R H' f'' n'' H'') : Ext f n R H f'' n'' H'' where
  le := Nat.le_trans a.le b.le
  same := fun k h => (b.same k (Nat.lt_of_lt_of_le h a.le)).trans (a.same k h)
  new := fun k h1 h2 => by
    by_cases hk : k < n'
    · rw [b.same k hk]; exact a.new k h1 hk
    · have e := b.new k (by omega) h2
      cases q : H (f'' k) with
      | none => rfl
      | some o =>
        have := a.there (f'' k) (by rw [q]; rfl)
        rw [e] at this
        cases this
  keep := fun x hx hs => by
    rw [b.keep x (fun k hk => ?_) (a.there x hs), a.keep x hx hs]
    by_cases h : k < n
    · rw [a.same k h]; exact hx k h
    · intro e
      have := a.new k (by omega) hk
      rw [← e] at this
      rw [this] at hs
      cases hs
  there := fun x hx => b.there x (a.there x hx)
theorem Off.ext (e : Ext f n R H f' n' H') {a : Addr} (o : Off f n R a) (hs : (H a).isSome = true) : Off f' n' R a ∧ H' a = H a := by
  refine ⟨⟨o.1, fun k hk => ?_⟩, e.keep a o.2 hs⟩
  by_cases h : k < n
  · rw [e.same k h]; exact o.2 k h
  · intro q
    have := e.new k (by omega) hk
    rw [← q] at this
    rw [this] at hs
    cases hs
theorem RD.ext (e : Ext f n R H f' n' H') {d : D} {v : V} (r : RD fa f n R H d v) : RD fa f' n' R H' d v :=
  r.go (fun _ o h => o.ext e h) fun k h => ⟨Nat.lt_of_lt_of_le h e.le, e.same k h⟩
theorem RDs.ext (e : Ext f n R H f' n' H') {d : List D} {v : List V} (r : RDs fa f n R H d v) : RDs fa f' n' R H' d v :=
  r.go (fun _ o h => o.ext e h) fun k h => ⟨Nat.lt_of_lt_of_le h e.le, e.same k h⟩

/-- slots -/
structure RSl (fa : FA) (f : Nat → Addr) (n : Nat) (R : Addr → Prop) (H : Hp) (ds : Sl) (σ : L2.St) : Prop where
  len : ds.length = σ.length
  get : ∀ (i : Nat) (d : D), ds[i]? = some (some d) → ∃ v, σ[i]? = some (some v) ∧ RD fa f n R H d v
theorem RSl.ext (e : Ext f n R H f' n' H') {ds : Sl} {σ : L2.St} (r : RSl fa f n R H ds σ) : RSl fa f' n' R H' ds σ :=
  ⟨r.len, fun i d h => by obtain ⟨v, h1, h2⟩ := r.get i d h; exact ⟨v, h1, h2.ext e⟩⟩
theorem RSl.set {ds : Sl} {σ : L2.St} (r : RSl fa f n R H ds σ) (i : Nat) {d : D} {v : V} (h : RD fa f n R H d v) : RSl fa f n R H (ds.set i (some d)) (σ.set i (some v)) := by
  refine ⟨by simp [r.len], fun j d' e => ?_⟩
  by_cases hj : i = j
  · subst hj
    by_cases hi : i < ds.length
    · rw [List.getElem?_set_self hi] at e
      cases e
      exact ⟨v, by rw [List.getElem?_set_self (by rw [← r.len]; exact hi)], h⟩
    · rw [List.getElem?_eq_none (by simpa using hi)] at e; cases e
  · rw [List.getElem?_set_ne hj] at e
    obtain ⟨w, h1, h2⟩ := r.get j d' e
    exact ⟨w, by rw [List.getElem?_set_ne hj]; exact h1, h2⟩

/-- what is asked of a result -/
def Post {α β : Type} (fa : FA) (f : Nat → Addr) (n : Nat) (R : Addr → Prop) (B : Nat → Prop) (H : Hp) (r : Res α) (rel : (Nat → Addr) → Hh → Hp → α → β → Prop) (Q : β → Hp → Prop)
    (W : Str → List D → (Nat → Addr) → Hh → Hp → Prop) : Prop := match r with
  | .ok a h' => ∀ f' H' b, Ext f n R H f' h'.length H' → Sim fa f' R B h' H' → rel f' h' H' a b → Q b H'
  | .exc c pl h' => ∀ f' H', Ext f n R H f' h'.length H' → Sim fa f' R B h' H' → W c pl f' h' H'
  | .fail => False
theorem Post.mono {α β : Type} {r : Res α} {rel : (Nat → Addr) → Hh → Hp → α → β → Prop} {Q : β → Hp → Prop} {W : Str → List D → (Nat → Addr) → Hh → Hp → Prop} (e : Ext f n R H f' n' H')
    (p : Post fa f n R B H r rel Q W) : Post fa f' n' R B H' r rel Q W := by
  cases r with
  | ok a h' => exact fun f'' H'' b e' s r => p f'' H'' b (e.trans e') s r
  | exc c pl h' => exact fun f'' H'' e' s => p f'' H'' (e.trans e') s
  | fail => exact p
theorem Post.bindR {α β : Type} {r : Res α} {rel rel2 : (Nat → Addr) → Hh → Hp → α → β → Prop} {Q : β → Hp → Prop} {W : Str → List D → (Nat → Addr) → Hh → Hp → Prop}
    (p : Post fa f n R B H r rel Q W) (hs : ∀ f' h' H' a b, Ext f n R H f' h'.length H' → Sim fa f' R B h' H' → rel2 f' h' H' a b → rel f' h' H' a b) : Post fa f n R B H r rel2 Q W := by
  cases r with
  | ok a h1 => exact fun f1 H1 b e s q => p f1 H1 b e s (hs f1 h1 H1 a b e s q)
  | exc c pl h' => exact p
  | fail => exact p
theorem Post.bind {α β γ δ : Type} {r : Res α} {k : α → Hh → Res γ} {rel : (Nat → Addr) → Hh → Hp → α → β → Prop} {rel2 : (Nat → Addr) → Hh → Hp → γ → δ → Prop} {Q : β → Hp → Prop} {Q2 : δ → Hp → Prop}
    {W : Str → List D → (Nat → Addr) → Hh → Hp → Prop} (p : Post fa f n R B H (r.bind k) rel2 Q2 W)
    (hs : ∀ a h1 f1 H1 b, r = .ok a h1 → Ext f n R H f1 h1.length H1 → Sim fa f1 R B h1 H1 → rel f1 h1 H1 a b → Post fa f1 h1.length R B H1 (k a h1) rel2 Q2 W → Q b H1) : Post fa f n R B H r rel Q W := by
  cases r with
  | ok a h1 => exact fun f1 H1 b e s q => hs a h1 f1 H1 b rfl e s q (Post.mono e p)
  | exc c pl h' => exact p
  | fail => exact p
end
end Ev

set_option Elab.async false
set_option linter.all false
set_option maxRecDepth 100000
set_option maxHeartbeats 1000000
/-! EvE: operators. -/
namespace Ev
open PySem PySem.Spec PyProof.Rows L2

section
variable {fa : FA} {f f' : Nat → Addr} {n n' : Nat} {R R' : Addr → Prop} {B : Nat → Prop} {H H' : Hp} {h : Hh} {p : Addr} {o : HO}
theorem Ext.upd (hp : H p = none) : Ext f n R H f n (L2.upd H p o) where
  le := Nat.le_refl _
  same := fun _ _ => rfl
  new := fun k h1 h2 => absurd h2 (by omega)
  keep := fun a _ hs => upd_ne fun e => by subst e; rw [hp] at hs; cases hs
  there := fun a hs => by rw [upd_ne fun e => by subst e; rw [hp] at hs; cases hs]; exact hs
theorem Sim.tracked (s : Sim fa f R B h H) {k : Nat} (hk : k < h.length) : (H (f k)).isSome = true := by
  have e : h[k]? = some h[k] := List.getElem?_eq_getElem hk
  have c := s.cell k _ e
  cases q : h[k] with
  | lst xs => rw [q] at c; obtain ⟨vs, e1, _⟩ := c; rw [e1]; rfl
  | dct ks vs => rw [q] at c; obtain ⟨_, us, ws, e1, _⟩ := c; rw [e1]; rfl
theorem Sim.offNew (s : Sim fa f R B h H) (hp : H p = none) : Off f h.length R p := by
  refine ⟨fun r => ?_, fun k hk e => ?_⟩
  · have := s.res p r; rw [hp] at this; cases this
  · have := s.tracked hk; rw [← e, hp] at this; cases this
theorem CellOk.ext (e : Ext f n R H f' n' H') {a : Addr} (ha : H' a = H a) {c : Cell} (x : CellOk fa f n R H a c) : CellOk fa f' n' R H' a c := by
  cases c with
  | lst xs => obtain ⟨vs, e1, r⟩ := x; exact ⟨vs, ha.trans e1, r.ext e⟩
  | dct _ _ => obtain ⟨k, us, ws, e1, r, r'⟩ := x; exact ⟨k, us, ws, ha.trans e1, r.ext e, r'.ext e⟩
theorem Sim.upd (s : Sim fa f R B h H) (hp : H p = none) : Sim fa f R B h (L2.upd H p o) where
  cell := fun k c e => (s.cell k c e).ext (Ext.upd hp) (upd_ne fun q => by
    have := s.tracked (k := k) (List.getElem?_eq_some_iff.mp e).1
    rw [q, hp] at this; cases this)
  inj := s.inj
  off := s.off
  res := fun a r => by
    have := s.res a r
    rw [upd_ne fun q => by subst q; rw [hp] at this; cases this]
    exact this
  own := s.own
/-- a tuple's object -/
def tOb (o : Obj) : Prop := o.cls = .type "tuple" ∧ o.dict = none
theorem RD.newTup (s : Sim fa f R B h H) (hp : H p = none) {ob : Obj} (ho : tOb ob) {xs : List D} {vs : List V} (r : RDs fa f h.length R H xs vs) : RD fa f h.length R (L2.upd H p (.frz ob (.tup vs))) (.tup xs) (.ref p) :=
  .tup ⟨ob, upd_same, ho⟩ (s.offNew hp) (r.ext (Ext.upd hp))
theorem RD.newLst (s : Sim fa f R B h H) (hp : H p = none) {xs : List D} {vs : List V} (r : RDs fa f h.length R H xs vs) : RD fa f h.length R (L2.upd H p (.lst vs)) (.lst xs) (.ref p) :=
  .lst upd_same (s.offNew hp) (r.ext (Ext.upd hp))

/-- p reserved too -/
def Rp (R : Addr → Prop) (p : Addr) : Addr → Prop := fun a => R a ∨ a = p
theorem Off.rp {a : Addr} (o : Off f n R a) (hp : a ≠ p) : Off f n (Rp R p) a := ⟨fun z => z.elim o.1 hp, o.2⟩
theorem ne_none {a : Addr} (hp : H p = none) (hs : (H a).isSome = true) : a ≠ p := fun e => by rw [e, hp] at hs; cases hs
theorem RD.rp (hp : H p = none) {d : D} {v : V} (r : RD fa f n R H d v) : RD fa f n (Rp R p) (L2.upd H p o) d v :=
  r.go (fun a q hs => ⟨q.rp (ne_none hp hs), upd_ne (ne_none hp hs)⟩) fun k h => ⟨h, rfl⟩
theorem RDs.rp (hp : H p = none) {d : List D} {v : List V} (r : RDs fa f n R H d v) : RDs fa f n (Rp R p) (L2.upd H p o) d v :=
  r.go (fun a q hs => ⟨q.rp (ne_none hp hs), upd_ne (ne_none hp hs)⟩) fun k h => ⟨h, rfl⟩
theorem RD.unrp {d : D} {v : V} (r : RD fa f n (Rp R p) H d v) : RD fa f n R H d v := r.go (fun a q _ => ⟨⟨fun z => q.1 (.inl z), q.2⟩, rfl⟩) fun k h => ⟨h, rfl⟩
theorem RDs.unrp {d : List D} {v : List V} (r : RDs fa f n (Rp R p) H d v) : RDs fa f n R H d v := r.go (fun a q _ => ⟨⟨fun z => q.1 (.inl z), q.2⟩, rfl⟩) fun k h => ⟨h, rfl⟩
theorem Sim.rp (s : Sim fa f R B h H) (hp : H p = none) : Sim fa f (Rp R p) B h (L2.upd H p o) where
  cell := fun k c e => by
    have x := s.cell k c e
    have hk := s.tracked (k := k) (List.getElem?_eq_some_iff.mp e).1
    have ne : f k ≠ p := fun q => by rw [q, hp] at hk; cases hk
    cases c with
    | lst xs => obtain ⟨vs, e1, r⟩ := x; exact ⟨vs, (upd_ne ne).trans e1, r.rp hp⟩
    | dct _ _ => obtain ⟨k, us, ws, e1, r, r'⟩ := x; exact ⟨k, us, ws, (upd_ne ne).trans e1, r.rp hp, r'.rp hp⟩
  inj := s.inj
  off := fun k hk z => z.elim (s.off k hk) fun q => by
    have := s.tracked hk
    rw [q, hp] at this; cases this
  res := fun a r => by
    rcases r with r | r
    · have := s.res a r
      rw [upd_ne fun q => by subst q; rw [hp] at this; cases this]
      exact this
    · subst r; rw [upd_same]; rfl
  own := s.own
theorem Sim.unrp (s : Sim fa f (Rp R p) B h H) : Sim fa f R B h H where
  cell := fun k c e => by
    have x := s.cell k c e
    cases c with
    | lst xs => obtain ⟨vs, e1, r⟩ := x; exact ⟨vs, e1, r.unrp⟩
    | dct _ _ => obtain ⟨k, us, ws, e1, r, r'⟩ := x; exact ⟨k, us, ws, e1, r.unrp, r'.unrp⟩
  inj := s.inj
  off := fun k hk z => s.off k hk (.inl z)
  res := fun a r => s.res a (.inl r)
  own := s.own
/-- a new list that nothing holds yet; H: the heap ahead of it -/
def Fre (fa : FA) (f : Nat → Addr) (R : Addr → Prop) (B : Nat → Prop) (h : Hh) (H H' : Hp) (d : D) (v : V) : Prop := match d with
  | .lst xs => ∃ p vs, v = .ref p ∧ H p = none ∧ H' p = some (.lst vs) ∧ RDs fa f h.length (Rp R p) H' xs vs ∧ Sim fa f (Rp R p) B h H'
  | .dct ks vs => ∃ p us ws, v = .ref p ∧ H p = none ∧ H' p = some (DictO p ks us ws) ∧ ks.all keyD = true ∧ RDs fa f h.length (Rp R p) H' ks us ∧ RDs fa f h.length (Rp R p) H' vs ws ∧ Sim fa f (Rp R p) B h H'
  | _ => True
theorem Fre.new (s : Sim fa f R B h H) (hp : H p = none) {xs : List D} {vs : List V} (r : RDs fa f h.length R H xs vs) : Fre fa f R B h H (L2.upd H p (.lst vs)) (.lst xs) (.ref p) :=
  ⟨p, vs, rfl, hp, upd_same, r.rp hp, s.rp hp⟩
theorem Fre.newD (s : Sim fa f R B h H) (hp : H p = none) {ks vs : List D} {us ws : List V} (k : ks.all keyD = true) (r : RDs fa f h.length R H ks us) (r' : RDs fa f h.length R H vs ws) : Fre fa f R B h H (L2.upd H p (DictO p ks us ws)) (.dct ks vs) (.ref p) :=
  ⟨p, us, ws, rfl, hp, upd_same, k, r.rp hp, r'.rp hp, s.rp hp⟩
theorem RD.newD (s : Sim fa f R B h H) (hp : H p = none) {ks vs : List D} {us ws : List V} (k : ks.all keyD = true) (r : RDs fa f h.length R H ks us) (r' : RDs fa f h.length R H vs ws) : RD fa f h.length R (L2.upd H p (DictO p ks us ws)) (.dct ks vs) (.ref p) :=
  .dct upd_same (s.offNew hp) k (r.ext (Ext.upd hp)) (r'.ext (Ext.upd hp))
theorem none_back {H0 : Hp} {p : Addr} (k : ∀ a, (H0 a).isSome = true → (H a).isSome = true) (e2 : H p = none) : H0 p = none := by
  cases q : H0 p with
  | none => rfl
  | some o => have := k p (by rw [q]; rfl); rw [e2] at this; cases this
theorem Fre.back {H0 : Hp} {d : D} {v : V} (k : ∀ a, (H0 a).isSome = true → (H a).isSome = true) (x : Fre fa f R B h H H' d v) : Fre fa f R B h H0 H' d v := by
  cases d <;> first | exact x | skip
  · obtain ⟨p, vs, e1, e2, r⟩ := x
    exact ⟨p, vs, e1, none_back k e2, r⟩
  · obtain ⟨p, us, ws, e1, e2, r⟩ := x
    exact ⟨p, us, ws, e1, none_back k e2, r⟩

/-- a thing as it stands, its own cell opened -/
def RDv (fa : FA) (f : Nat → Addr) (n : Nat) (R : Addr → Prop) (H : Hp) : D → V → Prop
  | .lst xs, v => ∃ a vs, v = .ref a ∧ H a = some (.lst vs) ∧ RDs fa f n R H xs vs
  | .tup xs, v => ∃ a vs, v = .ref a ∧ TuAt H a vs ∧ RDs fa f n R H xs vs
  | .dct ks vs, v => ∃ a us ws, v = .ref a ∧ H a = some (DictO a ks us ws) ∧ ks.all keyD = true ∧ RDs fa f n R H ks us ∧ RDs fa f n R H vs ws
  | d, v => RD fa f n R H d v
theorem RD.v {d : D} {v : V} (r : RD fa f n R H d v) : RDv fa f n R H d v := by
  cases r with
  | lst e o t => exact ⟨_, _, rfl, e, t⟩
  | tup e o t => exact ⟨_, _, rfl, e, t⟩
  | non => exact .non
  | bl b => exact .bl b
  | int i => exact .int i
  | str x => exact .str x
  | ref q => exact .ref q
  | fn q => exact .fn q
  | scr e o t => exact .scr e o t
  | dct e o k t t' => exact ⟨_, _, _, rfl, e, k, t, t'⟩
  | set e o k t => exact .set e o k t
  | seti e o k t => exact .seti e o k t
theorem top_ok (s : Sim fa f R B h H) {d : D} {v : V} (r : RD fa f h.length R H d v) : RDv fa f h.length R H (top h d) v := by
  cases r with
  | ref q =>
    rename_i k
    dsimp only [top]
    have e : h[k]? = some h[k] := List.getElem?_eq_getElem q
    have c := s.cell k _ e
    rw [e]
    cases qq : h[k] with
    | lst xs => rw [qq] at c; obtain ⟨vs, e1, t⟩ := c; exact ⟨_, _, rfl, e1, t⟩
    | dct ks vs => rw [qq] at c; obtain ⟨k, us, ws, e1, t, t'⟩ := c; exact ⟨_, _, _, rfl, e1, k, t, t'⟩
  | lst e o t => exact ⟨_, _, rfl, e, t⟩
  | tup e o t => exact ⟨_, _, rfl, e, t⟩
  | non => exact .non
  | bl b => exact .bl b
  | int i => exact .int i
  | str x => exact .str x
  | fn q => exact .fn q
  | scr e o t => exact .scr e o t
  | dct e o k t t' => exact ⟨_, _, _, rfl, e, k, t, t'⟩
  | set e o k t => exact .set e o k t
  | seti e o k t => exact .seti e o k t
/-- a row of things -/
theorem seq_ok (s : Sim fa f R B h H) {d : D} {v : V} {xs : List D} (r : RD fa f h.length R H d v) (e : seqOf h d = some xs) :
    ∃ a vs, v = .ref a ∧ RDs fa f h.length R H xs vs ∧ ((H a = some (.lst vs) ∧ ∀ ys, d ≠ .tup ys) ∨ (TuAt H a vs ∧ d = .tup xs)) := by
  cases r with
  | ref q =>
    rename_i k
    dsimp only [seqOf] at e
    have e1 : h[k]? = some h[k] := List.getElem?_eq_getElem q
    have c := s.cell k _ e1
    rw [e1] at e
    cases qq : h[k] with
    | lst ys =>
      rw [qq] at c e
      obtain ⟨vs, e2, t⟩ := c
      have e3 : ys = xs := Option.some.inj e
      subst e3
      exact ⟨_, vs, rfl, t, .inl ⟨e2, fun _ z => nomatch z⟩⟩
    | dct ks vs => rw [qq] at e; cases e
  | lst e1 o t =>
    have e3 := Option.some.inj (show some _ = some xs from e)
    subst e3
    exact ⟨_, _, rfl, t, .inl ⟨e1, fun _ z => nomatch z⟩⟩
  | tup e1 o t =>
    have e3 := Option.some.inj (show some _ = some xs from e)
    subst e3
    exact ⟨_, _, rfl, t, .inr ⟨e1, rfl⟩⟩
  | non => cases e
  | bl b => cases e
  | int i => cases e
  | str x => cases e
  | fn q => cases e
  | scr e1 o t => cases e
  | dct _ _ _ _ _ => cases e
  | set _ _ _ _ => cases e
  | seti _ _ _ _ => cases e
end

/-! ### plain data as the model's data -/
mutual
def py : D → PyData
  | .non => .none
  | .bl b => .bool b
  | .int i => .int i
  | .str x => .str x
  | .tup xs => .tuple (pys xs)
  | .lst xs => .list (pys xs)
  | _ => .none
def pys : List D → List PyData
  | [] => []
  | x :: xs => py x :: pys xs
end
theorem plain_tup {n : Nat} {xs : List D} (h : plain n (.tup xs) = true) : ∃ m, n = m + 1 ∧ ∀ x ∈ xs, plain m x = true := by
  cases n with
  | zero => cases h
  | succ m => exact ⟨m, rfl, fun x hx => List.all_eq_true.mp h x hx⟩
theorem plain_lst {n : Nat} {xs : List D} (h : plain n (.lst xs) = true) : ∃ m, n = m + 1 ∧ ∀ x ∈ xs, plain m x = true := by
  cases n with
  | zero => cases h
  | succ m => exact ⟨m, rfl, fun x hx => List.all_eq_true.mp h x hx⟩
theorem plain_str {n : Nat} {x : Str} (h : plain n (.str x) = true) : PyData.strOk x = true := by
  cases n <;> exact h
mutual
theorem py_eq : ∀ (d e : D) (n m : Nat), plain n d = true → plain m e = true → eqD d e = PyData.eqv (py d) (py e)
  | .non, e, _, m, _, he => by cases e <;> first | rfl | (cases m <;> cases he)
  | .bl b, e, _, m, _, he => by cases e <;> first | rfl | (cases m <;> cases he)
  | .int i, e, _, m, _, he => by cases e <;> first | rfl | (cases m <;> cases he)
  | .str x, e, _, m, _, he => by cases e <;> first | rfl | (cases m <;> cases he)
  | .tup xs, e, n, m, hd, he => by
    cases e with
    | tup ys =>
      obtain ⟨n', rfl, h1⟩ := plain_tup hd
      obtain ⟨m', rfl, h2⟩ := plain_tup he
      exact pys_eq xs ys n' m' h1 h2
    | non => rfl
    | bl b => rfl
    | int i => rfl
    | str x => rfl
    | lst ys => rfl
    | dct _ _ => cases m <;> cases he
    | set _ => cases m <;> cases he
    | ref _ => cases m <;> cases he
    | fn _ => cases m <;> cases he
    | scr _ => cases m <;> cases he
  | .lst xs, e, n, m, hd, he => by
    cases e with
    | lst ys =>
      obtain ⟨n', rfl, h1⟩ := plain_lst hd
      obtain ⟨m', rfl, h2⟩ := plain_lst he
      exact pys_eq xs ys n' m' h1 h2
    | non => rfl
    | bl b => rfl
    | int i => rfl
    | str x => rfl
    | tup ys => rfl
    | dct _ _ => cases m <;> cases he
    | set _ => cases m <;> cases he
    | ref _ => cases m <;> cases he
    | fn _ => cases m <;> cases he
    | scr _ => cases m <;> cases he
  | .dct _ _, _, n, _, hd, _ => by cases n <;> cases hd
  | .set _, _, n, _, hd, _ => by cases n <;> cases hd
  | .ref _, _, n, _, hd, _ => by cases n <;> cases hd
  | .fn _, _, n, _, hd, _ => by cases n <;> cases hd
  | .scr _, _, n, _, hd, _ => by cases n <;> cases hd
theorem pys_eq : ∀ (ds es : List D) (n m : Nat), (∀ x ∈ ds, plain n x = true) → (∀ x ∈ es, plain m x = true) → eqDs ds es = PyData.eqvAll (pys ds) (pys es)
  | [], [], _, _, _, _ => rfl
  | [], _ :: _, _, _, _, _ => rfl
  | _ :: _, [], _, _, _, _ => rfl
  | d :: ds, e :: es, n, m, h1, h2 => by
    show (eqD d e && eqDs ds es) = (PyData.eqv (py d) (py e) && PyData.eqvAll (pys ds) (pys es))
    rw [py_eq d e n m (h1 d (by simp)) (h2 e (by simp)), pys_eq ds es n m (fun x hx => h1 x (by simp [hx])) fun x hx => h2 x (by simp [hx])]
end
mutual
theorem py_lay : ∀ (d : D) (n : Nat), plain n d = true → PyData.canLay0 (py d) = true ∧ (py d).depth ≤ n
  | .non, n, _ => ⟨rfl, by show PyData.depth .none ≤ n; simp [PyData.depth]⟩
  | .bl b, n, _ => ⟨rfl, by show PyData.depth (.bool b) ≤ n; simp [PyData.depth]⟩
  | .int i, n, _ => ⟨rfl, by show PyData.depth (.int i) ≤ n; simp [PyData.depth]⟩
  | .str x, n, h => ⟨by show PyData.canLay0 (.str x) = true; simpa [PyData.canLay0] using plain_str h, by show PyData.depth (.str x) ≤ n; simp [PyData.depth]⟩
  | .tup xs, n, h => by
    obtain ⟨m, rfl, h1⟩ := plain_tup h
    obtain ⟨a, b⟩ := pys_lay xs m h1
    exact ⟨by show PyData.canLay0 (.tuple (pys xs)) = true; simpa [PyData.canLay0] using a, by show PyData.depth (.tuple (pys xs)) ≤ m + 1; simp only [PyData.depth]; omega⟩
  | .lst xs, n, h => by
    obtain ⟨m, rfl, h1⟩ := plain_lst h
    obtain ⟨a, b⟩ := pys_lay xs m h1
    exact ⟨by show PyData.canLay0 (.list (pys xs)) = true; simpa [PyData.canLay0] using a, by show PyData.depth (.list (pys xs)) ≤ m + 1; simp only [PyData.depth]; omega⟩
  | .dct _ _, n, h => by cases n <;> cases h
  | .set _, n, h => by cases n <;> cases h
  | .ref _, n, h => by cases n <;> cases h
  | .fn _, n, h => by cases n <;> cases h
  | .scr _, n, h => by cases n <;> cases h
theorem pys_lay : ∀ (ds : List D) (n : Nat), (∀ x ∈ ds, plain n x = true) → PyData.canLayAll0 (pys ds) = true ∧ PyData.depthAll (pys ds) ≤ n
  | [], n, _ => ⟨by simp [pys, PyData.canLayAll0], by simp [pys, PyData.depthAll]⟩
  | d :: ds, n, h => by
    obtain ⟨a, b⟩ := py_lay d n (h d (by simp))
    obtain ⟨a', b'⟩ := pys_lay ds n fun x hx => h x (by simp [hx])
    exact ⟨by simp [pys, PyData.canLayAll0, a, a'], by simp only [pys, PyData.depthAll]; omega⟩
end
theorem py_shaped {d : D} {n : Nat} (h : plain n d = true) (hn : n ≤ 64) : SeqAt.shaped (py d) = true := by
  obtain ⟨a, b⟩ := py_lay d n h
  exact Bool.and_eq_true_iff.mpr ⟨a, decide_eq_true (by omega)⟩
section
variable {fa : FA} {f f' : Nat → Addr} {n n' : Nat} {R R' : Addr → Prop} {B : Nat → Prop} {H H' : Hp} {h : Hh} {K : PySem.W.Frag}
mutual
theorem dp_of : ∀ {d : D} {v : V} (m : Nat), RD fa f n R H d v → plain m d = true → Dp K H v (py d)
  | _, _, _, .non, _ => .non
  | _, _, _, .bl b, _ => .bl b
  | _, _, _, .int i, _ => .int i
  | _, _, _, .str x, _ => .str x
  | _, _, m, .tup e o t, h => by
    obtain ⟨m', rfl, h1⟩ := plain_tup h
    exact .tup e.sq (dps_of m' t h1)
  | _, _, m, .lst e o t, h => by
    obtain ⟨m', rfl, h1⟩ := plain_lst h
    exact .lst (.inl (.of e)) (dps_of m' t h1)
  | _, _, m, .ref _, h => by cases m <;> cases h
  | _, _, m, .fn _, h => by cases m <;> cases h
  | _, _, m, .scr _ _ _, h => by cases m <;> cases h
  | _, _, m, .dct _ _ _ _ _, h => by cases m <;> cases h
  | _, _, m, .set _ _ _ _, h => by cases m <;> cases h
  | _, _, m, .seti _ _ _ _, h => by cases m <;> cases h
theorem dps_of : ∀ {ds : List D} {vs : List V} (m : Nat), RDs fa f n R H ds vs → (∀ x ∈ ds, plain m x = true) → DpAll K H vs (pys ds)
  | _, _, _, .nil, _ => .nil
  | _, _, m, .cons r t, h => .cons (dp_of m r (h _ (by simp))) (dps_of m t fun x hx => h x (by simp [hx]))
end
theorem dpv_of {d : D} {v : V} (m : Nat) (r : RDv fa f n R H d v) (hp : plain m d = true) : Dp K H v (py d) := by
  cases d with
  | lst xs =>
    obtain ⟨a, vs, rfl, e, t⟩ := r
    obtain ⟨m', rfl, h1⟩ := plain_lst hp
    exact .lst (.inl (.of e)) (dps_of m' t h1)
  | tup xs =>
    obtain ⟨a, vs, rfl, e, t⟩ := r
    obtain ⟨m', rfl, h1⟩ := plain_tup hp
    exact .tup e.sq (dps_of m' t h1)
  | non => exact dp_of m (show RD fa f n R H .non v from r) hp
  | bl b => exact dp_of m (show RD fa f n R H (.bl b) v from r) hp
  | int b => exact dp_of m (show RD fa f n R H (.int b) v from r) hp
  | str b => exact dp_of m (show RD fa f n R H (.str b) v from r) hp
  | dct _ _ => cases m <;> cases hp
  | set _ => cases m <;> cases hp
  | ref _ => cases m <;> cases hp
  | fn _ => cases m <;> cases hp
  | scr _ => cases m <;> cases hp
end
end Ev

set_option Elab.async false
set_option linter.all false
set_option maxRecDepth 100000
set_option maxHeartbeats 2000000
/-! EvDj: what is done with dicts, by values. -/
namespace Ev
open PySem PySem.Spec PyProof.Rows L2
section
variable {X : Cx} {pins : List (Addr × Obj)} {σ : L2.St} {H : Hp} {s : Shared} {fa : FA} {f : Nat → Addr} {n : Nat} {R : Addr → Prop}
mutual
theorem nis_of (I : Inv X pins σ H s) : ∀ (d : D) (v : V) (u : Value) (m : Nat), RD fa f n R H d v → sI m d = true → RelV v u → NestedIs s.heap (nk d) u
  | .int i, v, u, m, r, _, q => by
    cases r
    obtain ⟨t, rfl⟩ := q
    exact .int i t
  | .tup xs, v, u, m, r, h, q => by
    obtain ⟨m', rfl, h1⟩ := sI_tup h
    cases r with
    | tup e o t =>
      cases q
      obtain ⟨its, rv, ⟨ob, e1, e2, n', e3⟩, _⟩ := I.tuple e.sq
      exact .tup e1 e2 e3 (by simpa using niss_of I xs _ its m' t h1 rv)
  | .non, _, _, m, _, h, _ => by cases m <;> cases h
  | .bl _, _, _, m, _, h, _ => by cases m <;> cases h
  | .str _, _, _, m, _, h, _ => by cases m <;> cases h
  | .lst _, _, _, m, _, h, _ => by cases m <;> cases h
  | .dct _ _, _, _, m, _, h, _ => by cases m <;> cases h
  | .set _, _, _, m, _, h, _ => by cases m <;> cases h
  | .ref _, _, _, m, _, h, _ => by cases m <;> cases h
  | .fn _, _, _, m, _, h, _ => by cases m <;> cases h
  | .scr _, _, _, m, _, h, _ => by cases m <;> cases h
theorem niss_of (I : Inv X pins σ H s) : ∀ (ds : List D) (vs : List V) (us : List Value) (m : Nat), RDs fa f n R H ds vs → (∀ x ∈ ds, sI m x = true) → Vals vs us → NestedAll s.heap (nks ds) us
  | [], _, _, _, r, _, q => by cases r; cases q; exact .nil
  | d :: ds, _, _, m, r, h, q => by
    cases r with
    | cons r t =>
      cases q with
      | cons q1 q2 => exact .cons (nis_of I d _ _ m r (h d (by simp)) q1) (niss_of I ds _ _ m t (fun x hx => h x (by simp [hx])) q2)
end
theorem rd_tupRef {xs : List D} {v : V} (r : RD fa f n R H (.tup xs) v) : ∃ a, v = .ref a := by cases r; exact ⟨_, rfl⟩
theorem isTup_ok {d : D} (h : isTup d = true) : ∃ xs, d = .tup xs := by cases d <;> first | exact ⟨_, rfl⟩ | cases h
theorem isI_ok {d : D} (h : isI d = true) : ∃ i, d = .int i := by cases d <;> first | exact ⟨_, rfl⟩ | cases h
theorem kt_of (I : Inv X pins σ H s) : ∀ {ks : List D} {us : List V}, RDs fa f n R H ks us → ks.all keyD = true → ks.all isTup = true → KT s.heap ks us
  | [], _, r, _, _ => by cases r; exact .nil
  | k :: ks, _, r, h1, h2 => by
    cases r with
    | cons r t =>
      simp only [List.all_cons, Bool.and_eq_true] at h1 h2
      obtain ⟨xs, rfl⟩ := isTup_ok h2.1
      obtain ⟨b, rfl⟩ := rd_tupRef r
      exact .cons (Bool.and_eq_true_iff.mpr ⟨h2.1, h1.1⟩) (nis_of I _ _ _ 8 r h1.1 rfl) (kt_of I t h1.2 h2.2)
theorem ki_of : ∀ {ks : List D} {us : List V}, RDs fa f n R H ks us → ks.all isI = true → ∃ is, KI ks us is
  | [], _, r, _ => by cases r; exact ⟨[], .nil⟩
  | k :: ks, _, r, h2 => by
    cases r with
    | cons r t =>
      simp only [List.all_cons, Bool.and_eq_true] at h2
      obtain ⟨i, rfl⟩ := isI_ok h2.1
      obtain ⟨is, q⟩ := ki_of t h2.2
      cases r
      exact ⟨i :: is, .cons q⟩
theorem keyD_cases {d : D} (h : keyD d = true) : (∃ i, d = .int i) ∨ ∃ xs, d = .tup xs := by
  cases d with
  | int i => exact .inl ⟨i, rfl⟩
  | tup xs => exact .inr ⟨xs, rfl⟩
  | _ => cases h
/-- what a key is looked up as -/
theorem kd_cases {ks : List D} {d : D} (h : kdOk ks d = true) : (∃ i, d = .int i ∧ ks.all isI = true) ∨ ∃ xs, d = .tup xs ∧ tupK d = true ∧ ks.all isTup = true := by
  obtain ⟨h1, h2⟩ := Bool.and_eq_true_iff.mp h
  rcases keyD_cases h1 with ⟨i, rfl⟩ | ⟨xs, rfl⟩
  · exact .inl ⟨i, rfl, h2⟩
  · exact .inr ⟨xs, rfl, Bool.and_eq_true_iff.mpr ⟨rfl, h1⟩, h2⟩
theorem kd_keyD {ks : List D} {d : D} (h : kdOk ks d = true) : keyD d = true := (Bool.and_eq_true_iff.mp h).1
variable {ks vs : List D} {us ws : List V} {a : Addr} {d : D} {x : V} {u : Value} {E : Value → Shared → Prop} {A : Around}
theorem dict_in {Q : Value → Shared → Prop} (hu : A.units + 20 < cLine) (I : Inv X pins σ H s) (e : H a = some (DictO a ks us ws)) (kd : ks.all keyD = true) (rk : RDs fa f n R H ks us) (r : RD fa f n R H d x) (hk : kdOk ks d = true) (rx : RelV x u)
    (h : ∀ s', Inv X pins σ H s' → Q (.bool (ks.any fun k => eqD k d)) s') : wpAny (model X.prog X.w) A (compareOp .In u (.ref a)) Q E s := by
  have dd := dictO_get I e
  rcases kd_cases hk with ⟨i, rfl, h1⟩ | ⟨xs, rfl, h1, h2⟩
  · obtain ⟨is, t⟩ := ki_of rk h1
    obtain ⟨kvs, e1, e2, e3, e4, e5, _⟩ := dd.dictOf (P := X.prog) (w := X.w) t
    cases r
    obtain ⟨tk, rfl⟩ := rx
    refine wpAny_in_of (intKind_is X.prog X.w i tk) e4 e3.mapOf ?_
    rw [t.any e1]
    exact h _ (I.tok _)
  · obtain ⟨ys, y, e3, e4, e5⟩ := dd.dictOfH (P := X.prog) (w := X.w) (kt_of I rk kd h2)
    obtain ⟨b, rfl⟩ := rd_tupRef r
    cases rx
    have hk1 := (tupK_ok h1).2
    refine wpAny_in_heap (knd := nestedKind X.prog X.w) (k := nk (.tup xs)) (by show A.units + 1 + 8 < cLine; omega) ⟨nis_of I _ _ _ 8 r hk1 rfl, nk_depth 8 _ hk1⟩ e4 e3 ?_
    rw [y.any hk1]
    exact h _ (I.tok _)
theorem dict_notin {Q : Value → Shared → Prop} (hu : A.units + 20 < cLine) (I : Inv X pins σ H s) (e : H a = some (DictO a ks us ws)) (kd : ks.all keyD = true) (rk : RDs fa f n R H ks us) (r : RD fa f n R H d x) (hk : kdOk ks d = true) (rx : RelV x u)
    (h : ∀ s', Inv X pins σ H s' → Q (.bool (!ks.any fun k => eqD k d)) s') : wpAny (model X.prog X.w) A (compareOp .NotIn u (.ref a)) Q E s := by
  have dd := dictO_get I e
  rcases kd_cases hk with ⟨i, rfl, h1⟩ | ⟨xs, rfl, h1, h2⟩
  · obtain ⟨is, t⟩ := ki_of rk h1
    obtain ⟨kvs, e1, e2, e3, e4, e5, _⟩ := dd.dictOf (P := X.prog) (w := X.w) t
    cases r
    obtain ⟨tk, rfl⟩ := rx
    refine wpAny_notIn_of (intKind_is X.prog X.w i tk) e4 e3.mapOf ?_
    rw [t.any e1]
    exact h _ (I.tok _)
  · obtain ⟨ys, y, e3, e4, e5⟩ := dd.dictOfH (P := X.prog) (w := X.w) (kt_of I rk kd h2)
    obtain ⟨b, rfl⟩ := rd_tupRef r
    cases rx
    have hk1 := (tupK_ok h1).2
    refine wpAny_notIn_heap (knd := nestedKind X.prog X.w) (k := nk (.tup xs)) (by show A.units + 1 + 8 < cLine; omega) ⟨nis_of I _ _ _ 8 r hk1 rfl, nk_depth 8 _ hk1⟩ e4 e3 ?_
    rw [y.any hk1]
    exact h _ (I.tok _)
theorem dict_get {z : D} (hu : A.units + 20 < cLine) (I : Inv X pins σ H s) (e : H a = some (DictO a ks us ws)) (kd : ks.all keyD = true) (rk : RDs fa f n R H ks us) (rv : RDs fa f n R H vs ws) (r : RD fa f n R H d x) (hk : kdOk ks d = true) (rx : RelV x u)
    (hz : lookD d ks vs = some z) : ∃ v u', RD fa f n R H z v ∧ RelV v u' ∧ ∀ (Q : Value → Shared → Prop) (E : Value → Shared → Prop), (∀ s', Inv X pins σ H s' → Q u' s') → wpAny (model X.prog X.w) A (getItem (.ref a) u) Q E s := by
  have dd := dictO_get I e
  rcases kd_cases hk with ⟨i, rfl, h1⟩ | ⟨xs, rfl, h1, h2⟩
  · obtain ⟨is, t⟩ := ki_of rk h1
    obtain ⟨kvs, e1, e2, e3, e4, e5, e6⟩ := dd.dictOf (P := X.prog) (w := X.w) t
    have hl : vs.length = ks.length := by
      have := rv.length
      have := Vals.length e2
      rw [List.length_map] at this
      omega
    obtain ⟨j, v, v', q1, q2, q3, q4⟩ := t.look e1 e2 hl z hz
    obtain ⟨v2, q5, q6⟩ := rv.get q1
    rw [q2] at q5
    cases q5
    cases r
    obtain ⟨tk, rfl⟩ := rx
    exact ⟨v, v', q6, q4, fun Q E h => wpAny_getItem_of (intKind_is X.prog X.w i tk) e3.mapOf q3 (h _ (I.tok _))⟩
  · obtain ⟨ys, y, e3, e4, e5⟩ := dd.dictOfH (P := X.prog) (w := X.w) (kt_of I rk kd h2)
    obtain ⟨b, rfl⟩ := rd_tupRef r
    cases rx
    have hk1 := (tupK_ok h1).2
    have hl : vs.length = ks.length := by
      have := rv.length
      have := y.lens.2
      omega
    obtain ⟨j, v, p, q1, q2, q3, q4⟩ := y.look hk1 hl z hz
    obtain ⟨v2, q5, q6⟩ := rv.get q1
    rw [q2] at q5
    cases q5
    exact ⟨v, p.2, q6, q4, fun Q E h => wpAny_getItem_heap (knd := nestedKind X.prog X.w) (k := nk (.tup xs)) (by show A.units + 1 + 8 < cLine; omega) ⟨nis_of I _ _ _ 8 r hk1 rfl, nk_depth 8 _ hk1⟩ e3 q3 (h _ (I.tok _))⟩
theorem idxD_lt {k : D} : ∀ {ks : List D} {i : Nat}, idxD k ks = some i → i < ks.length
  | [], _, h => by cases h
  | y :: ks, i, h => by
    have h : (if eqD y k = true then some 0 else (idxD k ks).map (· + 1)) = some i := h
    split at h
    · cases h; simp
    · obtain ⟨j, h1, rfl⟩ := Option.map_eq_some_iff.mp h
      have := idxD_lt h1
      simp; omega
theorem rds_put (rk : RDs fa f n R H ks us) (rv : RDs fa f n R H vs ws) {z : D} {v : V} (r : RD fa f n R H d x) (rz : RD fa f n R H z v) : RDs fa f n R H (putD ks vs d z).1 (putU ks us d x) ∧ RDs fa f n R H (putD ks vs d z).2 (putV ks ws d v) := by
  unfold putD putU putV
  cases idxD d ks with
  | some i => exact ⟨rk, rv.set i rz⟩
  | none => exact ⟨rk.append (.cons r .nil), rv.append (.cons rz .nil)⟩
theorem keys_put (kd : ks.all keyD = true) (hk : kdOk ks d = true) (z : D) : (putD ks vs d z).1.all keyD = true := by
  unfold putD
  cases idxD d ks with
  | some i => exact kd
  | none =>
    rw [List.all_append, kd, List.all_cons, kd_keyD hk]
    rfl
theorem len_put (z : D) : (putD ks vs d z).1.length ≤ ks.length + 1 := by
  unfold putD
  cases idxD d ks with
  | some i => show ks.length ≤ _; omega
  | none => simp
theorem dict_set {Q : Unit → Shared → Prop} {z : D} {v : V} {v' : Value} (hu : A.units + 20 < cLine) (I : Inv X pins σ H s) (e : H a = some (DictO a ks us ws)) (kd : ks.all keyD = true) (rk : RDs fa f n R H ks us) (rv : RDs fa f n R H vs ws) (r : RD fa f n R H d x) (hk : kdOk ks d = true) (rx : RelV x u)
    (hz : RelV v v') (hl : ks.length < 100000) (h : ∀ s', Inv X pins σ (L2.upd H a (DictO a (putD ks vs d z).1 (putU ks us d x) (putV ks ws d v))) s' → Q () s') : wpAny (model X.prog X.w) A (setItem (.ref a) u v') Q E s := by
  have dd := dictO_get I e
  have mu : Mut (H a) := by rw [e]; exact trivial
  have hsys := dd.1
  have hl1 : ks.length < sizeLine := Nat.lt_of_lt_of_le hl (by rw [sizeLine_eq]; decide)
  have hlp : (putD ks vs d z).1.length ≤ sizeLine := Nat.le_trans (len_put z) (by omega)
  rcases kd_cases hk with ⟨i, rfl, h1⟩ | ⟨xs, rfl, h1, h2⟩
  · obtain ⟨is, t⟩ := ki_of rk h1
    obtain ⟨kvs, e1, e2, e3, e4, e5, e6⟩ := dd.dictOf (P := X.prog) (w := X.w) t
    cases r
    obtain ⟨tk, rfl⟩ := rx
    have nd : is.Nodup := by
      obtain ⟨_, _, _, _, _, _, _, _, nd⟩ := e3
      rw [e1] at nd
      exact nd
    obtain ⟨p1, p2⟩ := t.put (i := i) hz vs z e1 nd e2
    refine wpAny_setItem_pairs (hsz := e5) (intKind_is X.prog X.w i tk) e3 fun h' d' hs => ?_
    have he : ∃ q, h'.get? a = some q := by obtain ⟨o, _, _, ho, _⟩ := d'; exact ⟨o, ho⟩
    exact h _ (d_write I mu hs he (dictO_new (DictAt.ofI hsys hlp p1 p2 d')))
  · obtain ⟨ys, y, e3, e4, e5⟩ := dd.dictOfH (P := X.prog) (w := X.w) (kt_of I rk kd h2)
    obtain ⟨b, rfl⟩ := rd_tupRef r
    cases rx
    have hk1 := (tupK_ok h1).2
    have hn := nis_of I _ _ _ 8 r hk1 rfl
    refine wpAny_setItem_heap (hsz := e5) (knd := nestedKind X.prog X.w) (k := nk (.tup xs)) (by show A.units + 1 + 8 < cLine; omega) ⟨hn, nk_depth 8 _ hk1⟩ e3 fun h' d' hs => ?_
    have he : ∃ q, h'.get? a = some q := by obtain ⟨o, _, _, ho, _⟩ := d'; exact ⟨o, ho⟩
    exact h _ (d_write I mu hs he (dictO_new (DictAt.ofH (P := X.prog) (w := X.w) hsys hlp (y.put dd.2.2.1 h1 hn hz vs z) d')))
theorem dictAt_type {a : Addr} (dd : DictAt s.heap a ks us ws) : s.TypeIs (.ref a) "dict" := by
  obtain ⟨_, _, _, o, _, _, e1, e2, _⟩ := dd
  exact ⟨o, e1, e2.1⟩
/-- d[x] -/
def rIxDc (fa : FA) : R2 := fun x y H Q => ∃ (a : Addr) (f : Nat → Addr) (n : Nat) (R : Addr → Prop) (ks vs : List D) (us ws : List V) (d z : D), x = .ref a ∧ H a = some (DictO a ks us ws) ∧ ks.all keyD = true ∧ RDs fa f n R H ks us ∧ RDs fa f n R H vs ws ∧ RD fa f n R H d y ∧ kdOk ks d = true ∧ lookD d ks vs = some z ∧ ∀ v, RD fa f n R H z v → Q v H
theorem ix_dict (hu : X.A.units + 20 < cLine) : IxR X (rIxDc fa) := by
  intro value slice pins s σ H x y v u Q I rx ry h hs
  obtain ⟨a, f, n, R, ks, vs, us, ws, d, z, rfl, e, kd, rk, rv, r, hk, hz, q⟩ := h
  cases rx
  obtain ⟨v1, u1, h1, h2, h3⟩ := dict_get (A := X.A) hu I e kd rk rv r hk ry hz
  refine subscriptTail_builtinR (x := u1) (dictAt_type (dictO_get I e)) PySem.F.slot_dict_getitem.lookup (h3 _ _ fun s' I' => ⟨rfl, v1, H, I', h2, q v1 h1⟩) hs
/-- d[x] = v -/
def rSetDc (fa : FA) : TSet := fun o i v H Q => ∃ (a : Addr) (f : Nat → Addr) (n : Nat) (R : Addr → Prop) (ks vs : List D) (us ws : List V) (d z : D), o = .ref a ∧ H a = some (DictO a ks us ws) ∧ ks.all keyD = true ∧ RDs fa f n R H ks us ∧ RDs fa f n R H vs ws ∧ RD fa f n R H d i ∧ kdOk ks d = true ∧ ks.length < 100000 ∧ Q (L2.upd H a (DictO a (putD ks vs d z).1 (putU ks us d i) (putV ks ws d v)))
theorem set_dict (hu : X.A.units + 20 < cLine) : PSet X (rSetDc fa) := by
  intro pins s σ H o i v ov iv u Q I ro ri rv h
  obtain ⟨a, f, n, R, ks, vs, us, ws, d, z, rfl, e, kd, rk, rv2, r, hk, hl, q⟩ := h
  cases ro
  exact dict_set (z := z) hu I e kd rk rv2 r hk ri rv hl fun s' I' => ⟨_, I', q⟩
theorem PSet.or {t t' : TSet} (h : PSet X t) (h' : PSet X t') : PSet X (fun o i v H Q => t o i v H Q ∨ t' o i v H Q) := by
  intro pins s σ H o i v ov iv u Q I ro ri rv q
  rcases q with q | q
  · exact h pins s σ H o i v ov iv u Q I ro ri rv q
  · exact h' pins s σ H o i v ov iv u Q I ro ri rv q
end
end Ev

set_option Elab.async false
set_option linter.all false
set_option maxRecDepth 100000
set_option maxHeartbeats 2000000
/-! EvF: operators by values. -/
namespace Ev
open PySem PySem.Spec PyProof.Rows L2

/-- what an operator is asked: two things of the state, what comes of them -/
def rOp (fa : FA) (o : Op) : R2 := fun x y H Q => ∃ (f : Nat → Addr) (R : Addr → Prop) (B : Nat → Prop) (h : Hh) (d e z : D), Sim fa f R B h H ∧ RD fa f h.length R H d x ∧ RD fa f h.length R H e y ∧ op2 o h d e = some z ∧
  ∀ H' v, Ext f h.length R H f h.length H' → Sim fa f R B h H' → RD fa f h.length R H' z v → Fre fa f R B h H H' z v → Q v H'
theorem small_ok {i : Int} (h : small i = true) : -(2 ^ 64) < i ∧ i < 2 ^ 64 := by
  obtain ⟨a, b⟩ := Bool.and_eq_true_iff.mp h
  exact ⟨of_decide_eq_true a, of_decide_eq_true b⟩
theorem line_ge : 100000 ≤ sizeLine := by rw [sizeLine_eq]; decide
section
variable {fa : FA} {f : Nat → Addr} {n : Nat} {R : Addr → Prop} {B : Nat → Prop} {H : Hp} {h : Hh}
theorem isLst_of (s : Sim fa f R B h H) {d : D} {v : V} {xs : List D} (r : RD fa f h.length R H d v) (e : seqOf h d = some xs) (hd : ∀ ys, d ≠ .tup ys) :
    ∃ a vs, v = .ref a ∧ RDs fa f h.length R H xs vs ∧ H a = some (.lst vs) := by
  obtain ⟨a, vs, e1, t, q⟩ := seq_ok s r e
  rcases q with ⟨q, _⟩ | ⟨_, q⟩
  · exact ⟨a, vs, e1, t, q⟩
  · exact absurd q (hd _)
theorem rd_int {i : Int} {v : V} (r : RD fa f n R H (.int i) v) : v = .int i := by cases r; rfl
theorem rd_str {i : Str} {v : V} (r : RD fa f n R H (.str i) v) : v = .str i := by cases r; rfl
theorem rd_bl {i : Bool} {v : V} (r : RD fa f n R H (.bl i) v) : v = .bl i := by cases r; rfl
theorem rd_non {v : V} (r : RD fa f n R H .non v) : v = .non := by cases r; rfl
theorem rd_tup {xs : List D} {v : V} (r : RD fa f n R H (.tup xs) v) : ∃ a vs, v = .ref a ∧ TuAt H a vs ∧ RDs fa f n R H xs vs := by
  cases r with
  | tup e o t => exact ⟨_, _, rfl, e, t⟩
theorem rd_lst {xs : List D} {v : V} (r : RD fa f n R H (.lst xs) v) : ∃ a vs, v = .ref a ∧ H a = some (.lst vs) ∧ RDs fa f n R H xs vs := by
  cases r with
  | lst e o t => exact ⟨_, _, rfl, e, t⟩
theorem add_cases {d e z : D} (ez : addOp h d e = some z) : (∃ i j, d = .int i ∧ e = .int j ∧ z = .int (i + j)) ∨ (∃ a b, d = .str a ∧ e = .str b ∧ a.length + b.length ≤ 100000 ∧ z = .str (a ++ b)) ∨
      (∃ a b, d = .tup a ∧ e = .tup b ∧ a.length + b.length ≤ 100000 ∧ z = .tup (a ++ b)) ∨ (∃ xs ys, seqOf h d = some xs ∧ seqOf h e = some ys ∧ xs.length + ys.length ≤ 100000 ∧ z = .lst (xs ++ ys) ∧ (∀ ys, d ≠ .tup ys) ∧ ∀ ys, e ≠ .tup ys) := by
  unfold addOp at ez
  split at ez
  · cases ez; exact .inl ⟨_, _, rfl, rfl, rfl⟩
  · split at ez
    · cases ez; exact .inr (.inl ⟨_, _, rfl, rfl, ‹_›, rfl⟩)
    · cases ez
  · split at ez
    · cases ez; exact .inr (.inr (.inl ⟨_, _, rfl, rfl, ‹_›, rfl⟩))
    · cases ez
  · cases ez
  · cases ez
  · split at ez
    · split at ez
      · cases ez
        refine .inr (.inr (.inr ⟨_, _, ‹_›, ‹_›, ‹_›, rfl, fun ys q => ?_, fun ys q => ?_⟩))
        · subst q; simp_all
        · subst q; simp_all
      · cases ez
    · cases ez
end
/-! ### tuples that are known -/
def tObj (us : List Value) : Obj := { cls := .type "tuple", data := .seq us.toArray }
theorem tObj_ok (us : List Value) : tOb (tObj us) := ⟨rfl, rfl⟩
theorem laidT {X : Cx} {pins : List (Addr × Obj)} {σ : L2.St} {H : Hp} {s : Shared} {vs : List V} {us : List Value} (I : Inv X pins σ H s) (hz : vs.length ≤ sizeLine) (r : Vals vs us) :
    Inv X pins σ (L2.upd H s.heap.objs.size (.frz (tObj us) (.tup vs))) { s with heap := s.heap.push (tObj us) } :=
  I.laid (t' := s.toks) (o := .frz (tObj us) (.tup vs)) (fun b ob q => Heap.get?_push_of_some _ q) (Nat.le_refl _) ⟨Heap.get?_push_size _ rfl, hz, us, r, IsTup.new _ _⟩
/-- what a new tuple is handed on as -/
def NewT (H : Hp) (Q : VK) (vs : List V) : Prop := ∀ p ob, H p = none → tOb ob → Q (.ref p) (L2.upd H p (.frz ob (.tup vs)))
theorem newT_ok {X : Cx} {pins : List (Addr × Obj)} {σ : L2.St} {H : Hp} {s : Shared} {Q : VK} {vs : List V} {us : List Value} (I : Inv X pins σ H s) (hz : vs.length ≤ sizeLine) (r : Vals vs us) (q : NewT H Q vs) :
    EP X pins σ Q (.ref s.heap.objs.size) { s with heap := s.heap.push (tObj us) } :=
  ⟨.ref s.heap.objs.size, _, laidT I hz r, rfl, q _ _ (I.hok.fresh (Nat.le_refl _)) (tObj_ok us)⟩
theorem op_catK {X : Cx} : OpR X (binaryOp .Add) (fun x y H Q => ∃ a b xs ys, x = .ref a ∧ y = .ref b ∧ SqT X.K H a xs ∧ SqT X.K H b ys ∧ xs.length + ys.length ≤ sizeLine ∧ (xs = [] → Q (.ref b) H) ∧ (xs ≠ [] → ys = [] → Q (.ref a) H) ∧ (xs ≠ [] → ys ≠ [] → NewT H Q (xs ++ ys))) := by
  intro pins s σ H x y v u Q I rx ry h
  obtain ⟨a, b, xs, ys, rfl, rfl, ha, hb, hz, q0, q1, q2⟩ := h
  cases rx
  cases ry
  obtain ⟨its, r1, p1, _⟩ := I.tuple ha
  obtain ⟨its2, r2, p2, _⟩ := I.tuple hb
  by_cases hx : xs = []
  · subst hx
    cases r1
    exact cat_tup0 p1 p2 ⟨.ref b, H, I, rfl, q0 rfl⟩
  · exact HT.cat_tup p1 p2 (fun z => hx (r1.nil_iff.mp z)) (fun z => ⟨.ref a, H, I, rfl, q1 hx (r2.nil_iff.mp z)⟩) (fun z => newT_ok I (by rw [List.length_append]; exact hz) (r1.append r2) (q2 hx fun w => z (r2.nil_iff.mpr w))) (by rw [← r1.length, ← r2.length]; exact hz)
section
variable {X : Cx} {fa : FA}
theorem snd_add : OpR X (binaryOp .Add) (rOp fa .add) := by
  intro pins s σ H x y v u Q I rx ry hh
  obtain ⟨f, R, B, h, d, e, z, sm, r1, r2, ez, q⟩ := hh
  rcases add_cases ez with ⟨i, j, rfl, rfl, rfl⟩ | ⟨a, b, rfl, rfl, hl, rfl⟩ | ⟨a, b, rfl, rfl, hl, rfl⟩ | ⟨xs, ys, e1, e2, hl, rfl, nt⟩
  · cases r1; cases r2
    exact op_add pins s σ H _ _ v u Q I rx ry ⟨i, j, rfl, rfl, q H _ .refl sm (.int _) trivial⟩
  · cases r1; cases r2
    exact op_add_str pins s σ H _ _ v u Q I rx ry ⟨a, b, rfl, rfl, Nat.le_trans hl line_ge, q H _ .refl sm (.str _) trivial⟩
  · have q1 := r1
    have q2 := r2
    cases r1 with
    | tup e1 o1 t1 =>
      cases r2 with
      | tup e2 o2 t2 =>
        refine op_catK pins s σ H _ _ v u Q I rx ry ⟨_, _, _, _, rfl, rfl, e1.sq, e2.sq, by rw [← t1.length, ← t2.length]; exact Nat.le_trans hl line_ge, fun h0 => ?_, fun h0 h1 => ?_, fun h0 h1 p ob hp ho => ?_⟩
        · subst h0
          cases t1
          exact q H _ .refl sm (by simpa using q2) trivial
        · subst h1
          cases t2
          exact q H _ .refl sm (by simpa using q1) trivial
        · exact q _ _ (Ext.upd hp) (sm.upd hp) (RD.newTup sm hp ho (t1.append t2)) trivial
  · obtain ⟨a, vs, rfl, t1, h1⟩ := isLst_of sm r1 e1 nt.1
    obtain ⟨b, ws, rfl, t2, h2⟩ := isLst_of sm r2 e2 nt.2
    exact op_cat pins s σ H _ _ v u Q I rx ry ⟨a, b, vs, ws, rfl, rfl, h1, h2, by rw [← t1.length, ← t2.length]; exact Nat.le_trans hl line_ge, fun p hp => q _ _ (Ext.upd hp) (sm.upd hp) (RD.newLst sm hp (t1.append t2)) (Fre.new sm hp (t1.append t2))⟩
theorem snd_sub : OpR X (binaryOp .Sub) (rOp fa .sub) := by
  intro pins s σ H x y v u Q I rx ry hh
  obtain ⟨f, R, B, h, d, e, z, sm, r1, r2, ez, q⟩ := hh
  have ez : subOp d e = some z := ez
  unfold subOp at ez
  split at ez
  · cases ez; cases r1; cases r2
    exact op_sub pins s σ H _ _ v u Q I rx ry ⟨_, _, rfl, rfl, q H _ .refl sm (.int _) trivial⟩
  · cases ez
theorem snd_mul : OpR X (binaryOp .Mult) (rOp fa .mul) := by
  intro pins s σ H x y v u Q I rx ry hh
  obtain ⟨f, R, B, h, d, e, z, sm, r1, r2, ez, q⟩ := hh
  have ez : mulOp d e = some z := ez
  unfold mulOp at ez
  split at ez
  · split at ez
    · cases ez; cases r1; cases r2
      rename_i i j hc
      rw [Bool.or_eq_true, Bool.or_eq_true] at hc
      rcases hc with (hc | hc) | hc
      · exact op_mul pins s σ H _ _ v u Q I rx ry ⟨_, _, rfl, rfl, .inl (small_ok hc), q H _ .refl sm (.int _) trivial⟩
      · exact op_mul pins s σ H _ _ v u Q I rx ry ⟨_, _, rfl, rfl, .inr (small_ok hc), q H _ .refl sm (.int _) trivial⟩
      · exact op_mulW pins s σ H _ _ v u Q I rx ry ⟨_, _, rfl, rfl, (of_decide_eq_true hc : i.natAbs.log2 + j.natAbs.log2 < 1000000), q H _ .refl sm (.int _) trivial⟩
    · cases ez
  · split at ez
    · cases ez
      rename_i a k hc
      simp only [Bool.and_eq_true, decide_eq_true_eq] at hc
      obtain ⟨b, vs, rfl, h1, t⟩ := rd_lst r1
      obtain rfl := rd_int r2
      refine op_rep pins s σ H _ _ v u Q I rx ry ⟨b, k, vs, rfl, rfl, h1, by omega, by omega, ?_, fun p hp => q _ _ (Ext.upd hp) (sm.upd hp) (RD.newLst sm hp (t.rep _)) (Fre.new sm hp (t.rep _))⟩
      rw [← t.length]
      exact Nat.le_trans hc.2 line_ge
    · cases ez
  · cases ez
theorem snd_fdiv : OpR X (binaryOp .FloorDiv) (rOp fa .fdiv) := by
  intro pins s σ H x y v u Q I rx ry hh
  obtain ⟨f, R, B, h, d, e, z, sm, r1, r2, ez, q⟩ := hh
  have ez : fdivOp d e = some z := ez
  unfold fdivOp at ez
  split at ez
  · split at ez
    · cases ez; cases r1; cases r2
      rename_i i j hc
      simp only [Bool.and_eq_true, decide_eq_true_eq] at hc
      exact op_fdivW pins s σ H _ _ v u Q I rx ry ⟨_, _, rfl, rfl, hc, q H _ .refl sm (.int _) trivial⟩
    · cases ez
  · cases ez
theorem snd_mod : OpR X (binaryOp .Mod) (rOp fa .mod) := by
  intro pins s σ H x y v u Q I rx ry hh
  obtain ⟨f, R, B, h, d, e, z, sm, r1, r2, ez, q⟩ := hh
  have ez : modOp d e = some z := ez
  unfold modOp at ez
  split at ez
  · split at ez
    · cases ez; cases r1; cases r2
      exact op_mod pins s σ H _ _ v u Q I rx ry ⟨_, _, rfl, rfl, ‹_›, q H _ .refl sm (.int _) trivial⟩
    · cases ez
  · cases ez
theorem snd_pow : OpR X (binaryOp .Pow) (rOp fa .pow) := by
  intro pins s σ H x y v u Q I rx ry hh
  obtain ⟨f, R, B, h, d, e, z, sm, r1, r2, ez, q⟩ := hh
  have ez : powOp d e = some z := ez
  unfold powOp at ez
  split at ez
  · split at ez
    · cases ez; cases r1; cases r2
      rename_i i j hc
      simp only [Bool.and_eq_true, decide_eq_true_eq] at hc
      exact op_pow pins s σ H _ _ v u Q I rx ry ⟨_, _, rfl, rfl, ⟨hc.1.1, hc.1.2, hc.2⟩, q H _ .refl sm (.int _) trivial⟩
    · cases ez
  · cases ez
theorem snd_bin {bo : Operator} {o : Op} (e : opOf bo = some o) : OpR X (binaryOp bo) (rOp fa o) := by
  cases bo <;> first | (cases e; done) | skip
  all_goals cases e
  · exact snd_add
  · exact snd_sub
  · exact snd_mul
  · exact snd_mod
  · exact snd_pow
  · exact snd_fdiv

theorem eq_ok {f : Nat → Addr} {R : Addr → Prop} {H : Hp} {h : Hh} {K : PySem.W.Frag} (s : Sim fa f R B h H) {d e : D} {x y : V} {b : Bool} (r1 : RD fa f h.length R H d x) (r2 : RD fa f h.length R H e y) (hb : eqOp h d e = some b) :
    ∃ p q, Dp K H x p ∧ Dp K H y q ∧ SeqAt.shaped p = true ∧ SeqAt.shaped q = true ∧ PyData.eqv p q = b := by
  unfold eqOp at hb
  split at hb
  · rename_i hc
    cases hb
    simp only [Bool.and_eq_true] at hc
    exact ⟨_, _, dpv_of 30 (top_ok s r1) hc.1, dpv_of 30 (top_ok s r2) hc.2, py_shaped hc.1 (by decide), py_shaped hc.2 (by decide), (py_eq _ _ 30 30 hc.1 hc.2).symm⟩
  · cases hb
theorem snd_eq (hu : X.A.units + 64 < cLine) : OpR X (compareOp .Eq) (rOp fa .eq) := by
  intro pins s σ H x y v u Q I rx ry hh
  obtain ⟨f, R, B, h, d, e, z, sm, r1, r2, ez, q⟩ := hh
  obtain ⟨b, hb, rfl⟩ := Option.map_eq_some_iff.mp (show (eqOp h d e).map D.bl = some z from ez)
  obtain ⟨p, p', h1, h2, h3, h4, h5⟩ := eq_ok sm r1 r2 hb
  refine op_eqD hu pins s σ H _ _ v u Q I rx ry ⟨p, p', h1, h2, h3, h4, ?_⟩
  rw [h5]
  exact q H _ .refl sm (.bl _) trivial
theorem snd_ne (hu : X.A.units + 64 < cLine) : OpR X (compareOp .NotEq) (rOp fa .ne) := by
  intro pins s σ H x y v u Q I rx ry hh
  obtain ⟨f, R, B, h, d, e, z, sm, r1, r2, ez, q⟩ := hh
  obtain ⟨b, hb, rfl⟩ := Option.map_eq_some_iff.mp (show (eqOp h d e).map (fun b => D.bl (!b)) = some z from ez)
  obtain ⟨p, p', h1, h2, h3, h4, h5⟩ := eq_ok sm r1 r2 hb
  refine op_neD hu pins s σ H _ _ v u Q I rx ry ⟨p, p', h1, h2, h3, h4, ?_⟩
  rw [h5]
  exact q H _ .refl sm (.bl _) trivial
theorem any_py (d : D) (m : Nat) (hm : plain m d = true) : ∀ (xs : List D) (k : Nat), (∀ x ∈ xs, plain k x = true) → (xs.any fun y => eqD y d) = (pys xs).any fun z => PyData.eqv z (py d)
  | [], _, _ => rfl
  | x :: xs, k, h => by
    show (eqD x d || xs.any fun y => eqD y d) = (PyData.eqv (py x) (py d) || (pys xs).any fun z => PyData.eqv z (py d))
    rw [py_eq x d k m (h x (by simp)) hm, any_py d m hm xs k fun y hy => h y (by simp [hy])]
/-- a dict on the right -/
theorem in_dct {f : Nat → Addr} {R : Addr → Prop} {H : Hp} {h : Hh} (s : Sim fa f R B h H) {d e : D} {x y : V} {b : Bool} {ks vs : List D} (r1 : RD fa f h.length R H d x) (r2 : RD fa f h.length R H e y) (hb : inOp h d e = some b) (q : top h e = .dct ks vs) :
    ∃ a us ws, y = .ref a ∧ H a = some (DictO a ks us ws) ∧ ks.all keyD = true ∧ RDs fa f h.length R H ks us ∧ kdOk ks d = true ∧ (ks.any fun k => eqD k d) = b := by
  have t2 := top_ok s r2
  unfold inOp at hb
  rw [q] at hb t2
  obtain ⟨a, us, ws, rfl, e1, k, t, t'⟩ := t2
  dsimp only at hb
  split at hb
  · rename_i hc
    cases hb
    exact ⟨a, us, ws, rfl, e1, k, t, hc, rfl⟩
  · cases hb
theorem in_cases {f : Nat → Addr} {R : Addr → Prop} {H : Hp} {h : Hh} {K : PySem.W.Frag} (s : Sim fa f R B h H) {d e : D} {x y : V} {b : Bool} (r1 : RD fa f h.length R H d x) (r2 : RD fa f h.length R H e y) (hb : inOp h d e = some b) (nd : ∀ ks vs, top h e ≠ .dct ks vs) :
    ∃ p ps, Dp K H x p ∧ (Dp K H y (.list ps) ∨ Dp K H y (.tuple ps)) ∧ SeqAt.shaped p = true ∧ SeqAt.shaped (.list ps) = true ∧ (ps.any fun z => PyData.eqv z p) = b := by
  have t2 := top_ok s r2
  unfold inOp at hb
  cases q : top h e with
  | tup xs =>
    rw [q] at hb t2
    obtain ⟨a, vs, rfl, e1, t⟩ := t2
    dsimp only at hb
    split at hb
    · rename_i hc
      cases hb
      simp only [Bool.and_eq_true, List.all_eq_true] at hc
      refine ⟨py (top h d), pys xs, dpv_of 30 (top_ok s r1) hc.1, .inr (.tup e1.sq (dps_of 30 t hc.2)), py_shaped hc.1 (by decide), ?_, (any_py _ 30 hc.1 xs 30 hc.2).symm⟩
      exact py_shaped (d := .lst xs) (n := 31) (by show (xs.all (plain 30)) = true; exact List.all_eq_true.mpr hc.2) (by decide)
    · cases hb
  | lst xs =>
    rw [q] at hb t2
    obtain ⟨a, vs, rfl, e1, t⟩ := t2
    dsimp only at hb
    split at hb
    · rename_i hc
      cases hb
      simp only [Bool.and_eq_true, List.all_eq_true] at hc
      refine ⟨py (top h d), pys xs, dpv_of 30 (top_ok s r1) hc.1, .inl (.lst (.inl (.of e1)) (dps_of 30 t hc.2)), py_shaped hc.1 (by decide), ?_, (any_py _ 30 hc.1 xs 30 hc.2).symm⟩
      exact py_shaped (d := .lst xs) (n := 31) (by show (xs.all (plain 30)) = true; exact List.all_eq_true.mpr hc.2) (by decide)
    · cases hb
  | dct ks vs => exact absurd q (nd ks vs)
  | set ks => rw [q] at hb; cases hb
  | non => rw [q] at hb; cases hb
  | bl _ => rw [q] at hb; cases hb
  | int _ => rw [q] at hb; cases hb
  | str _ => rw [q] at hb; cases hb
  | ref _ => rw [q] at hb; cases hb
  | fn _ => rw [q] at hb; cases hb
  | scr _ => rw [q] at hb; cases hb
theorem tup_shaped {ps : List PyData} (h : SeqAt.shaped (.list ps) = true) : SeqAt.shaped (.tuple ps) = true := by
  have h1 := SeqAt.canLay_of_shaped h
  have h2 := SeqAt.depth_of_shaped h
  refine Bool.and_eq_true_iff.mpr ⟨by simpa [PyData.canLay0] using h1, decide_eq_true ?_⟩
  simpa [PyData.depth] using h2
theorem snd_in (hu : X.A.units + 65 < cLine) : OpR X (compareOp .In) (rOp fa .isin) := by
  intro pins s σ H x y v u Q I rx ry hh
  obtain ⟨f, R, B, h, d, e, z, sm, r1, r2, ez, q⟩ := hh
  obtain ⟨b, hb, rfl⟩ := Option.map_eq_some_iff.mp (show (inOp h d e).map D.bl = some z from ez)
  rcases Classical.em (∃ ks vs, top h e = .dct ks vs) with ⟨ks, vs, hq⟩ | hq
  · obtain ⟨a, us, ws, rfl, e1, k1, t1, k2, rfl⟩ := in_dct sm r1 r2 hb hq
    cases ry
    exact dict_in (by omega) I e1 k1 t1 r1 k2 rx fun s' I' => ⟨.bl _, H, I', rfl, q H _ .refl sm (.bl _) trivial⟩
  have nd : ∀ ks vs, top h e ≠ .dct ks vs := fun ks vs z => hq ⟨ks, vs, z⟩
  obtain ⟨p, ps, h1, h2, h3, h4, h5⟩ := in_cases (K := X.K) sm r1 r2 hb nd
  have fin : Q (.bl (ps.any fun z => PyData.eqv z p)) H := by rw [h5]; exact q H _ .refl sm (.bl _) trivial
  rcases h2 with h2 | h2
  · exact op_inD hu pins s σ H _ _ v u Q I rx ry ⟨p, ps, h1, h2, h3, h4, fin⟩
  · obtain ⟨as, q1⟩ := Dp.reads I p x v h1 rx
    obtain ⟨bs, q2⟩ := Dp.reads I (.tuple ps) y u h2 ry
    exact SeqAt.in_tuple_reads q2 q1 (SeqAt.canLay_of_shaped h4) (SeqAt.canLay_of_shaped h3) (room_in_shaped h3 hu) ⟨.bl _, H, I, rfl, fin⟩
theorem snd_notin (hu : X.A.units + 65 < cLine) : OpR X (compareOp .NotIn) (rOp fa .notin) := by
  intro pins s σ H x y v u Q I rx ry hh
  obtain ⟨f, R, B, h, d, e, z, sm, r1, r2, ez, q⟩ := hh
  obtain ⟨b, hb, rfl⟩ := Option.map_eq_some_iff.mp (show (inOp h d e).map (fun b => D.bl (!b)) = some z from ez)
  rcases Classical.em (∃ ks vs, top h e = .dct ks vs) with ⟨ks, vs, hq⟩ | hq
  · obtain ⟨a, us, ws, rfl, e1, k1, t1, k2, rfl⟩ := in_dct sm r1 r2 hb hq
    cases ry
    exact dict_notin (by omega) I e1 k1 t1 r1 k2 rx fun s' I' => ⟨.bl _, H, I', rfl, q H _ .refl sm (.bl _) trivial⟩
  have nd : ∀ ks vs, top h e ≠ .dct ks vs := fun ks vs z => hq ⟨ks, vs, z⟩
  obtain ⟨p, ps, h1, h2, h3, h4, h5⟩ := in_cases (K := X.K) sm r1 r2 hb nd
  have fin : Q (.bl (!ps.any fun z => PyData.eqv z p)) H := by rw [h5]; exact q H _ .refl sm (.bl _) trivial
  rcases h2 with h2 | h2
  · exact op_notInD hu pins s σ H _ _ v u Q I rx ry ⟨p, ps, h1, h2, h3, h4, fin⟩
  · obtain ⟨as, q1⟩ := Dp.reads I p x v h1 rx
    obtain ⟨bs, q2⟩ := Dp.reads I (.tuple ps) y u h2 ry
    exact SeqAt.notIn_tuple_reads q2 q1 (SeqAt.canLay_of_shaped h4) (SeqAt.canLay_of_shaped h3) (room_in_shaped h3 hu) ⟨.bl _, H, I, rfl, fin⟩
theorem snd_gt : OpR X (compareOp .Gt) (rOp fa .gt) := by
  intro pins s σ H x y v u Q I rx ry hh
  obtain ⟨f, R, B, h, d, e, z, sm, r1, r2, ez, q⟩ := hh
  obtain ⟨b, hb, rfl⟩ := Option.map_eq_some_iff.mp (show (gtOp d e).map D.bl = some z from ez)
  unfold gtOp at hb
  split at hb
  · cases hb; cases r1; cases r2
    exact op_gt pins s σ H _ _ v u Q I rx ry ⟨_, _, rfl, rfl, q H _ .refl sm (.bl _) trivial⟩
  · cases hb
theorem snd_le : OpR X (compareOp .LtE) (rOp fa .le) := by
  intro pins s σ H x y v u Q I rx ry hh
  obtain ⟨f, R, B, h, d, e, z, sm, r1, r2, ez, q⟩ := hh
  obtain ⟨b, hb, rfl⟩ := Option.map_eq_some_iff.mp (show (leOp d e).map D.bl = some z from ez)
  unfold leOp at hb
  split at hb
  · cases hb; cases r1; cases r2
    exact op_le pins s σ H _ _ v u Q I rx ry ⟨_, _, rfl, rfl, q H _ .refl sm (.bl _) trivial⟩
  · cases hb
theorem snd_ge : OpR X (compareOp .GtE) (rOp fa .ge) := by
  intro pins s σ H x y v u Q I rx ry hh
  obtain ⟨f, R, B, h, d, e, z, sm, r1, r2, ez, q⟩ := hh
  obtain ⟨b, hb, rfl⟩ := Option.map_eq_some_iff.mp (show (geOp d e).map D.bl = some z from ez)
  unfold geOp at hb
  split at hb
  · cases hb; cases r1; cases r2
    exact op_ge pins s σ H _ _ v u Q I rx ry ⟨_, _, rfl, rfl, q H _ .refl sm (.bl _) trivial⟩
  · cases hb
theorem none_ok {f : Nat → Addr} {R : Addr → Prop} {H : Hp} {n : Nat} {d : D} {x : V} (r : RD fa f n R H d x) : decide (x = .non) = isNone d := by
  cases r <;> rfl
theorem snd_isN : OpR X (compareOp .Is) (rOp fa .isN) := by
  intro pins s σ H x y v u Q I rx ry hh
  obtain ⟨f, R, B, h, d, e, z, sm, r1, r2, ez, q⟩ := hh
  have ez : (if isNone e then some (D.bl (isNone d)) else none) = some z := ez
  split at ez
  · rename_i hc
    cases ez
    have e1 : y = .non := by rw [← none_ok r2] at hc; exact of_decide_eq_true hc
    refine op_isN pins s σ H _ _ v u Q I rx ry ⟨e1, ?_⟩
    rw [none_ok r1]
    exact q H _ .refl sm (.bl _) trivial
  · cases ez
theorem snd_notN : OpR X (compareOp .IsNot) (rOp fa .notN) := by
  intro pins s σ H x y v u Q I rx ry hh
  obtain ⟨f, R, B, h, d, e, z, sm, r1, r2, ez, q⟩ := hh
  have ez : (if isNone e then some (D.bl (!isNone d)) else none) = some z := ez
  split at ez
  · rename_i hc
    cases ez
    have e1 : y = .non := by rw [← none_ok r2] at hc; exact of_decide_eq_true hc
    refine op_notN pins s σ H _ _ v u Q I rx ry ⟨e1, ?_⟩
    rw [none_ok r1]
    exact q H _ .refl sm (.bl _) trivial
  · cases ez
end
end Ev

set_option Elab.async false
set_option linter.all false
set_option maxRecDepth 100000
set_option maxHeartbeats 2000000
/-! EvG: the order of tuples, nested. -/
namespace Ev
open PySem PySem.Spec PyProof.Rows L2

/-- x < y of two rows of values, item by item -/
inductive LtL (A : Around) (s : Shared) : List Value → List Value → Bool → Prop
  | nil : LtL A s [] [] false
  | less {y : Value} {ys : List Value} : LtL A s [] (y :: ys) true
  | more {x : Value} {xs : List Value} : LtL A s (x :: xs) [] false
  | same {x y : Value} {xs ys : List Value} {r : Bool} : SeqAt.EqAt A s x y true → LtL A s xs ys r → LtL A s (x :: xs) (y :: ys) r
  | here {x y : Value} {xs ys : List Value} {r : Bool} : SeqAt.EqAt A s x y false → (∀ (prog : Program) (w : World) (E : Value → Shared → Prop) (Q : Value → Shared → Prop), Q (.bool r) s → wpAny (model prog w) A (richCompare .Lt x y) Q E s) → LtL A s (x :: xs) (y :: ys) r

section
open PySem.SeqAt
open PySem.AutoSeq1 (wpAny_loadPart')
open PySem.MeetsSeq PySem.MeetsSeq2 PySem.MeetsSeq3
theorem tuple_lt_gen (l b : Addr) (items items2 : Array Value) (n n2 : Nat) (dd dd2 : Option Addr) (sl sl2 : Array (Option Value)) (r : Bool) :
    Meets (Builtin.«tuple.__lt__» ⟨[.ref l, .ref b], []⟩)
      (fun A R s => s.heap.get? l = some { cls := .type "tuple", dict := dd, data := .seq items n, slots := sl } ∧ s.heap.get? b = some { cls := .type "tuple", dict := dd2, data := .seq items2 n2, slots := sl2 } ∧
        LtL A.in1 s items.toList items2.toList r ∧ R (.ok (.ret (.bool r))) s) :=
  .of_wp fun prog w A R s h => by
    obtain ⟨hp, g, d, tk, os⟩ := s; obtain ⟨hl, hb, hL, h⟩ := h
    have f2 := AutoSeq1.sub_tuple_tuple
    wp_walk using wpAny_loadPart' hl, wpAny_loadPart' hb, wpAny_forIn_list _ (fun rest b s' => b.1 = none ∧ s' = ⟨hp, g, d, tk, os⟩ ∧ ∃ (vs ws : List Value), rest = vs.zip ws ∧
      vs.length + items2.size = ws.length + items.size ∧ LtL A.in1 ⟨hp, g, d, tk, os⟩ vs ws r) _
    case turn =>
      rintro ⟨y, x⟩ rest b s' ⟨hb', rfl, vs, ws, hz, hlen, hL⟩
      cases hL with
      | nil => rw [List.zip_nil_left] at hz; cases hz
      | less => rw [List.zip_nil_left] at hz; cases hz
      | more => rw [List.zip_nil_right] at hz; cases hz
      | same he hL' =>
        rw [List.zip_cons_cons] at hz
        injection hz with hyx hrest
        injection hyx with hy hx
        subst hy hx
        simp only [List.length_cons] at hlen
        refine wpAny_bind (he prog w _ _ ?_)
        wp_walk
        exact ⟨rfl, rfl, _, _, hrest, by omega, hL'⟩
      | here he hlt =>
        rw [List.zip_cons_cons] at hz
        injection hz with hyx hrest
        injection hyx with hy hx
        subst hy hx
        refine wpAny_bind (he prog w _ _ ?_)
        have hri := hlt prog w
        wp_walk using hri
        exact ⟨_, rfl, by simpa using h⟩
    case fin =>
      rintro ⟨b1, b2⟩ s' ⟨hb', rfl, vs, ws, hz, hlen, hL⟩
      simp only at hb'
      subst hb'
      have hv : r = decide (items.size < items2.size) := by
        cases hL with
        | nil => simp only [List.length_nil] at hlen; exact (decide_eq_false (by omega)).symm
        | less => simp only [List.length_nil, List.length_cons] at hlen; exact (decide_eq_true (by omega)).symm
        | more => simp only [List.length_nil, List.length_cons] at hlen; exact (decide_eq_false (by omega)).symm
        | same _ _ => rw [List.zip_cons_cons] at hz; cases hz
        | here _ _ => rw [List.zip_cons_cons] at hz; cases hz
      rw [hv] at h
      wp_walk
      exact ⟨_, rfl, by simpa [Builtin.Tuple.tupleCompareSizes] using h⟩
    case h =>
      exact ⟨rfl, rfl, items.toList, items2.toList, rfl, by simp; omega, hL⟩
end
theorem lt_tupG {prog : Program} {w : World} {A : Around} {E : Value → Shared → Prop} {s : Shared} {l b : Addr} {items items2 : Array Value} {r : Bool} {Q : Value → Shared → Prop} (hl : IsTup s.heap l items) (hb : IsTup s.heap b items2)
    (hL : LtL A.in1 s items.toList items2.toList r) (hu : A.units < cLine) (h : Q (.bool r) s) : wpAny (model prog w) A (richCompare .Lt (.ref l) (.ref b)) Q E s := by
  obtain ⟨⟨cls, dd, data, sl⟩, ho, hc, n, hd⟩ := id hl
  obtain ⟨⟨cls2, dd2, data2, sl2⟩, ho2, hc2, n2, hd2⟩ := id hb
  simp only at hc hd hc2 hd2
  subst hc hd hc2 hd2
  exact richCompare_meets_room (op := .Lt) ⟨_, ho, rfl⟩ ⟨_, ho2, rfl⟩ PySem.F.slot_tuple_lt PySem.F.entry_tuple_lt (PySem.F.args_tuple_lt_2 _ _) (tuple_lt_gen l b items items2 n n2 dd dd2 sl sl2 r)
    ⟨ho, ho2, hL, show Value.bool r ≠ Value.notImplemented ∧ Q (.bool r) s from ⟨(fun x => nomatch x), h⟩⟩ hu
theorem in1_units (A : Around) : A.in1.units = A.units + 1 := rfl
section
variable {X : Cx} {pins : List (Addr × Obj)} {σ : L2.St} {H : Hp} {s : Shared} {fa : FA} {f : Nat → Addr} {n : Nat} {R : Addr → Prop}
theorem eqAt_ok (I : Inv X pins σ H s) {d e : D} {v w : V} {u u' : Value} {m k : Nat} (r1 : RD fa f n R H d v) (r2 : RD fa f n R H e w) (hd : plain m d = true) (he : plain k e = true) (hm : m ≤ 64) (q1 : RelV v u) (q2 : RelV w u') (A : Around) (hu : A.units + 64 < cLine) :
    SeqAt.EqAt A s u u' (eqD d e) := by
  obtain ⟨as, a1⟩ := Dp.reads I _ _ _ (dp_of m r1 hd) q1
  obtain ⟨bs, b1⟩ := Dp.reads I _ _ _ (dp_of k r2 he) q2
  rw [py_eq d e m k hd he]
  obtain ⟨l1, l2⟩ := py_lay d m hd
  exact SeqAt.eqAt_reads _ _ A s u u' as bs a1 b1 l1 (py_lay e k he).1 (by omega)
mutual
theorem ltv_ok (I : Inv X pins σ H s) : ∀ (d e : D) (m k : Nat) (v w : V) (u u' : Value) (r : Bool), plain m d = true → plain k e = true → m ≤ 30 → RD fa f n R H d v → RD fa f n R H e w → RelV v u → RelV w u' → ltD d e = some r →
    ∀ (A : Around), A.units + 2 * m + 66 < cLine → ∀ (prog : Program) (w : World) (E : Value → Shared → Prop) (Q : Value → Shared → Prop), Q (.bool r) s → wpAny (model prog w) A (richCompare .Lt u u') Q E s
  | .int i, e, m, k, v, w, u, u', r, hd, he, hm, r1, r2, q1, q2, hl, A, hu => by
    intro prog w' E Q hq
    cases e with
    | int j =>
      cases hl
      cases r1; cases r2
      obtain ⟨t, rfl⟩ := q1
      obtain ⟨t', rfl⟩ := q2
      exact (PyProof.Rows.lt_int hq : wpAny (model prog w') A (compareOp .Lt (.int i t) (.int j t')) Q E s)
    | non => cases hl
    | bl _ => cases hl
    | str _ => cases hl
    | tup _ => cases hl
    | lst _ => cases hl
    | dct _ _ => cases hl
    | set _ => cases hl
    | ref _ => cases hl
    | fn _ => cases hl
    | scr _ => cases hl
  | .str i, e, m, k, v, w, u, u', r, hd, he, hm, r1, r2, q1, q2, hl, A, hu => by
    intro prog w' E Q hq
    cases e with
    | str j =>
      cases hl
      cases r1; cases r2
      obtain ⟨t, rfl⟩ := q1
      obtain ⟨t', rfl⟩ := q2
      exact (PySem.P.lt_str hq : wpAny (model prog w') A (compareOp .Lt (.str i t) (.str j t')) Q E s)
    | non => cases hl
    | bl _ => cases hl
    | int _ => cases hl
    | tup _ => cases hl
    | lst _ => cases hl
    | dct _ _ => cases hl
    | set _ => cases hl
    | ref _ => cases hl
    | fn _ => cases hl
    | scr _ => cases hl
  | .tup xs, e, m, k, v, w, u, u', r, hd, he, hm, r1, r2, q1, q2, hl, A, hu => by
    intro prog w' E Q hq
    cases e with
    | tup ys =>
      obtain ⟨m', rfl, h1⟩ := plain_tup hd
      obtain ⟨k', rfl, h2⟩ := plain_tup he
      obtain ⟨a, vs, rfl, e1, t1⟩ := rd_tup r1
      obtain ⟨b, ws, rfl, e2, t2⟩ := rd_tup r2
      cases q1
      cases q2
      obtain ⟨its, rv, p, _⟩ := I.tuple e1.sq
      obtain ⟨its2, rv2, p2, _⟩ := I.tuple e2.sq
      have hl' : ltDs xs ys = some r := hl
      exact lt_tupG p p2 (by simpa using lts_ok I xs ys m' k' vs ws its its2 r h1 h2 (by omega) t1 t2 rv rv2 hl' A.in1 (by rw [in1_units]; omega)) (by omega) hq
    | non => cases hl
    | bl _ => cases hl
    | int _ => cases hl
    | str _ => cases hl
    | lst _ => cases hl
    | dct _ _ => cases hl
    | set _ => cases hl
    | ref _ => cases hl
    | fn _ => cases hl
    | scr _ => cases hl
  | .non, e, _, _, _, _, _, _, _, _, _, _, _, _, _, _, hl, _, _ => by cases e <;> cases hl
  | .bl _, e, _, _, _, _, _, _, _, _, _, _, _, _, _, _, hl, _, _ => by cases e <;> cases hl
  | .lst _, e, _, _, _, _, _, _, _, _, _, _, _, _, _, _, hl, _, _ => by cases e <;> cases hl
  | .dct _ _, e, _, _, _, _, _, _, _, _, _, _, _, _, _, _, hl, _, _ => by cases e <;> cases hl
  | .set _, e, _, _, _, _, _, _, _, _, _, _, _, _, _, _, hl, _, _ => by cases e <;> cases hl
  | .ref _, e, _, _, _, _, _, _, _, _, _, _, _, _, _, _, hl, _, _ => by cases e <;> cases hl
  | .fn _, e, _, _, _, _, _, _, _, _, _, _, _, _, _, _, hl, _, _ => by cases e <;> cases hl
  | .scr _, e, _, _, _, _, _, _, _, _, _, _, _, _, _, _, hl, _, _ => by cases e <;> cases hl
theorem lts_ok (I : Inv X pins σ H s) : ∀ (ds es : List D) (m k : Nat) (vs ws : List V) (us us' : List Value) (r : Bool), (∀ x ∈ ds, plain m x = true) → (∀ x ∈ es, plain k x = true) → m ≤ 30 → RDs fa f n R H ds vs → RDs fa f n R H es ws → Vals vs us → Vals ws us' → ltDs ds es = some r →
    ∀ (A : Around), A.units + 2 * m + 66 < cLine → LtL A s us us' r
  | [], [], _, _, _, _, _, _, _, _, _, _, r1, r2, q1, q2, hl, _, _ => by
    cases r1; cases r2; cases q1; cases q2; cases hl; exact .nil
  | [], _ :: _, _, _, _, _, _, _, _, _, _, _, r1, r2, q1, q2, hl, _, _ => by
    cases r1; cases r2; cases q1; cases q2; cases hl; exact .less
  | _ :: _, [], _, _, _, _, _, _, _, _, _, _, r1, r2, q1, q2, hl, _, _ => by
    cases r1; cases r2; cases q1; cases q2; cases hl; exact .more
  | d :: ds, e :: es, m, k, _, _, _, _, r, h1, h2, hm, r1, r2, q1, q2, hl, A, hu => by
    cases r1 with
    | cons a1 b1 =>
      cases r2 with
      | cons a2 b2 =>
        cases q1 with
        | cons c1 d1 =>
          cases q2 with
          | cons c2 d2 =>
            have hl' : (if eqD d e = true then ltDs ds es else ltD d e) = some r := hl
            have eq := eqAt_ok I a1 a2 (h1 d (by simp)) (h2 e (by simp)) (by omega) c1 c2 A (by omega)
            cases hq : eqD d e with
            | true =>
              rw [hq] at eq
              rw [if_pos hq] at hl'
              exact .same eq (lts_ok I ds es m k _ _ _ _ r (fun x hx => h1 x (by simp [hx])) (fun x hx => h2 x (by simp [hx])) hm b1 b2 d1 d2 hl' A hu)
            | false =>
              rw [hq] at eq
              rw [if_neg (by rw [hq]; decide)] at hl'
              exact .here eq fun prog w' E Q => ltv_ok I d e m k _ _ _ _ r (h1 d (by simp)) (h2 e (by simp)) hm a1 a2 c1 c2 hl' A hu prog w' E Q
end
end
theorem snd_lt {X : Cx} {fa : FA} (hu : X.A.units + 200 < cLine) : OpR X (compareOp .Lt) (rOp fa .lt) := by
  intro pins s σ H x y v u Q I rx ry hh
  obtain ⟨f, R, B, h, d, e, z, sm, r1, r2, ez, q⟩ := hh
  obtain ⟨b, hb, rfl⟩ := Option.map_eq_some_iff.mp (show (ltOp d e).map D.bl = some z from ez)
  unfold ltOp at hb
  split at hb
  · cases hb; cases r1; cases r2
    exact op_lt pins s σ H _ _ v u Q I rx ry ⟨_, _, rfl, rfl, q H _ .refl sm (.bl _) trivial⟩
  · split at hb
    · rename_i a a' hc
      simp only [Bool.and_eq_true, List.all_eq_true] at hc
      have p1 : plain 9 (.tup a) = true := List.all_eq_true.mpr hc.1
      have p2 : plain 9 (.tup a') = true := List.all_eq_true.mpr hc.2
      exact ltv_ok I (.tup a) (.tup a') 9 9 x y v u b p1 p2 (by decide) r1 r2 rx ry hb X.A (by omega) X.prog X.w X.xe _ ⟨.bl b, H, I, rfl, q H _ .refl sm (.bl _) trivial⟩
    · cases hb
  · cases hb
theorem snd_cmp {X : Cx} {fa : FA} {co : CmpOp} {o : Op} (e : cmpOf co = some o) (hu : X.A.units + 200 < cLine) : OpR X (compareOp co) (rOp fa o) := by
  cases co <;> cases e
  · exact snd_eq (by omega)
  · exact snd_ne (by omega)
  · exact snd_lt hu
  · exact snd_le
  · exact snd_gt
  · exact snd_ge
  · exact snd_isN
  · exact snd_notN
  · exact snd_in (by omega)
  · exact snd_notin (by omega)
end Ev

set_option Elab.async false
set_option linter.all false
set_option maxRecDepth 100000
set_option maxHeartbeats 2000000
/-! EvH: expressions. -/
namespace Ev
open PySem PySem.Spec PyProof.Rows L2

/-- what stands fixed: where the defs stand, the classes of exceptions -/
structure Cst where
  fa : FA
  ex : Str → Option Value
/-- an exception's class and what it bears -/
def ER (Γ : Cst) (c : Str) (pl : List D) (cls : Value) (d : Option Addr) (f : Nat → Addr) (R : Addr → Prop) (h : Hh) (H : Hp) : Prop :=
  Γ.ex c = some cls ∧ (pl = [] → d = none)
def exW (Γ : Cst) (R : Addr → Prop) (W : WX) (σ : L2.St) : Str → List D → (Nat → Addr) → Hh → Hp → Prop := fun c pl f h H => ∀ cls d, ER Γ c pl cls d f R h H → W cls d σ H

/-- a frame's state -/
structure Pnt (Γ : Cst) (F : Fr) (R : Addr → Prop) (B : Nat → Prop) (f : Nat → Addr) (h : Hh) (ds : Sl) (σ : L2.St) (H : Hp) : Prop where
  sim : Sim Γ.fa f R B h H
  bb : ∀ b, B b → b ≤ F.base
  bl : F.base ≤ h.length
  sl : RSl Γ.fa f h.length R H ds σ
theorem Pnt.go {Γ : Cst} {F : Fr} {R : Addr → Prop} {B : Nat → Prop} {f f1 : Nat → Addr} {h h1 : Hh} {ds : Sl} {σ : L2.St} {H H1 : Hp} (A : Pnt Γ F R B f h ds σ H) (x : Ext f h.length R H f1 h1.length H1) (s : Sim Γ.fa f1 R B h1 H1) : Pnt Γ F R B f1 h1 ds σ H1 :=
  ⟨s, A.bb, Nat.le_trans A.bl x.le, A.sl.ext x⟩

def relE (Γ : Cst) (R : Addr → Prop) (B : Nat → Prop) (H0 : Hp) (e : Ex) : (Nat → Addr) → Hh → Hp → D → V → Prop := fun f h H d v => RD Γ.fa f h.length R H d v ∧ (fresh e = true → Fre Γ.fa f R B h H0 H d v)
def relL (Γ : Cst) (R : Addr → Prop) : (Nat → Addr) → Hh → Hp → List D → List V → Prop := fun f h H d v => RDs Γ.fa f h.length R H d v
def tE (Γ : Cst) (F : Fr) (W : WX) (e : Ex) : TE := fun σ H Q => ∃ R B f h ds, Pnt Γ F R B f h ds σ H ∧ Post Γ.fa f h.length R B H (evE F e ds h) (relE Γ R B H e) Q (exW Γ R W σ)
def tA (Γ : Cst) (F : Fr) (W : WX) (es : List Ex) : TA := fun σ H Q => ∃ R B f h ds, Pnt Γ F R B f h ds σ H ∧ Post Γ.fa f h.length R B H (evEs F es ds h) (relL Γ R) Q (exW Γ R W σ)
def tT (Γ : Cst) (F : Fr) (W : WX) (e : Ex) : TT := fun σ H Q => ∃ R B f h ds, Pnt Γ F R B f h ds σ H ∧ Post Γ.fa f h.length R B H ((evE F e ds h).bind fun d h => Res.of (truD h d) h) (fun _ _ _ a b => a = b) Q (exW Γ R W σ)
def tO (Γ : Cst) (F : Fr) (W : WX) (e : Option Ex) : TO := fun σ H Q => ∃ R B f h ds, Pnt Γ F R B f h ds σ H ∧ Post Γ.fa f h.length R B H (evO F e ds h) (fun _ _ _ a b => a = b) Q (exW Γ R W σ)

theorem Post.of {α β : Type} {fa : FA} {f : Nat → Addr} {n : Nat} {R : Addr → Prop} {B : Nat → Prop} {H : Hp} {z : Option α} {h : Hh} {rel : (Nat → Addr) → Hh → Hp → α → β → Prop} {Q : β → Hp → Prop} {W : Str → List D → (Nat → Addr) → Hh → Hp → Prop}
    (p : Post fa f n R B H (Res.of z h) rel Q W) : ∃ a, z = some a ∧ ∀ f' H' b, Ext f n R H f' h.length H' → Sim fa f' R B h H' → rel f' h H' a b → Q b H' := by
  cases z with
  | none => exact p.elim
  | some a => exact ⟨a, rfl, p⟩

section
variable {Γ : Cst} {F : Fr} {W : WX} {R : Addr → Prop} {B : Nat → Prop} {f : Nat → Addr} {h : Hh} {ds : Sl} {σ : L2.St} {H : Hp}
theorem mkE {γ δ : Type} {e : Ex} {k : D → Hh → Res γ} {rel2 : (Nat → Addr) → Hh → Hp → γ → δ → Prop} {Q2 : δ → Hp → Prop} {Q : VK} (A : Pnt Γ F R B f h ds σ H) (p : Post Γ.fa f h.length R B H ((evE F e ds h).bind k) rel2 Q2 (exW Γ R W σ))
    (hs : ∀ d v f1 h1 H1, Ext f h.length R H f1 h1.length H1 → Pnt Γ F R B f1 h1 ds σ H1 → RD Γ.fa f1 h1.length R H1 d v → (fresh e = true → Fre Γ.fa f1 R B h1 H H1 d v) → Post Γ.fa f1 h1.length R B H1 (k d h1) rel2 Q2 (exW Γ R W σ) → Q v H1) :
    tE Γ F W e σ H Q := ⟨R, B, f, h, ds, A, p.bind fun a h1 f1 H1 b _ x s r q => hs a b f1 h1 H1 x (A.go x s) r.1 r.2 q⟩
theorem mkA {γ δ : Type} {es : List Ex} {k : List D → Hh → Res γ} {rel2 : (Nat → Addr) → Hh → Hp → γ → δ → Prop} {Q2 : δ → Hp → Prop} {Q : List V → Hp → Prop} (A : Pnt Γ F R B f h ds σ H) (p : Post Γ.fa f h.length R B H ((evEs F es ds h).bind k) rel2 Q2 (exW Γ R W σ))
    (hs : ∀ d v f1 h1 H1, Ext f h.length R H f1 h1.length H1 → Pnt Γ F R B f1 h1 ds σ H1 → RDs Γ.fa f1 h1.length R H1 d v → Post Γ.fa f1 h1.length R B H1 (k d h1) rel2 Q2 (exW Γ R W σ) → Q v H1) :
    tA Γ F W es σ H Q := ⟨R, B, f, h, ds, A, p.bind fun a h1 f1 H1 b _ x s r q => hs a b f1 h1 H1 x (A.go x s) r q⟩
theorem mkT {γ δ : Type} {e : Ex} {k : D → Hh → Res γ} {k2 : Bool → Hh → Res γ} {rel2 : (Nat → Addr) → Hh → Hp → γ → δ → Prop} {Q2 : δ → Hp → Prop} {Q : Bool → Hp → Prop} (A : Pnt Γ F R B f h ds σ H) (p : Post Γ.fa f h.length R B H ((evE F e ds h).bind k) rel2 Q2 (exW Γ R W σ))
    (hk : ∀ d h, k d h = (Res.of (truD h d) h).bind k2)
    (hs : ∀ c f1 h1 H1, Ext f h.length R H f1 h1.length H1 → Pnt Γ F R B f1 h1 ds σ H1 → Post Γ.fa f1 h1.length R B H1 (k2 c h1) rel2 Q2 (exW Γ R W σ) → Q c H1) :
    tT Γ F W e σ H Q := by
  have e1 : (evE F e ds h).bind k = ((evE F e ds h).bind fun d h => Res.of (truD h d) h).bind k2 := by
    cases evE F e ds h with
    | ok a h1 => exact hk a h1
    | exc _ _ _ => rfl
    | fail => rfl
  rw [e1] at p
  exact ⟨R, B, f, h, ds, A, p.bind fun a h1 f1 H1 b _ x s r q => by cases r; exact hs a f1 h1 H1 x (A.go x s) q⟩
end
theorem imE {X : Cx} {e : Expr} {t t' : TE} (h : PE X e t) (k : ∀ σ H Q, t' σ H Q → t σ H Q) : PE X e t' := ⟨fun pins s σ H Q I q => h.run pins s σ H Q I (k _ _ _ q)⟩
theorem imT {X : Cx} {e : Expr} {t t' : TT} (h : PT X e t) (k : ∀ σ H Q, t' σ H Q → t σ H Q) : PT X e t' := ⟨fun pins s σ H Q I q => h.run pins s σ H Q I (k _ _ _ q)⟩
theorem imW {X : Cx} {e : Expr} {t t' : TT} (h : PW X e t) (k : ∀ σ H Q, t' σ H Q → t σ H Q) : PW X e t' := ⟨fun wh pins s σ H Q I q => h.run wh pins s σ H Q I (k _ _ _ q)⟩
theorem imA {X : Cx} {e : List Expr} {t t' : TA} (h : PA X e t) (k : ∀ σ H Q, t' σ H Q → t σ H Q) : PA X e t' := ⟨fun wh pins s σ H Q I q => h.run wh pins s σ H Q I (k _ _ _ q)⟩
theorem imO {X : Cx} {e : Option Expr} {t t' : TO} (h : PO X e t) (k : ∀ σ H Q, t' σ H Q → t σ H Q) : PO X e t' := ⟨fun pins s σ H Q I q => h.run pins s σ H Q I (k _ _ _ q)⟩

section
variable {X : Cx} {Γ : Cst} {F : Fr} {W : WX} {a b c : Expr} {a' b' c' : Ex} {pos : Pos}
/-! constants -/
theorem snd_C {e : Expr} {e' : Ex} {d : D} {v : V} (he : PE X e (tC v)) (h1 : ∀ ds h, evE F e' ds h = .ok d h) (h2 : fresh e' = false) (r : ∀ f n R H, RD Γ.fa f n R H d v) : PE X e (tE Γ F W e') :=
  imE he fun σ H Q ⟨R, B, f, h, ds, A, p⟩ => by
    rw [h1] at p
    exact p f H v .refl A.sim ⟨r _ _ _ _, fun z => by rw [h2] at z; cases z⟩
theorem snd_var {i : Nat} {x : Str} (hN : X.N[i]? = some x) (hv : Vis X.env.scope x) (hd : (x == ("__debug__" : Str)) = false) (hcd : (x == ("__classdict__" : Str)) = false) : PE X (.Name x pos) (tE Γ F W (.var i)) :=
  imE (pe_var hN hv hd hcd) fun σ H Q ⟨R, B, f, h, ds, A, p⟩ => by
    obtain ⟨d, e1, q⟩ := p.of
    have e2 : ds[i]? = some (some d) := by
      cases q : ds[i]? with
      | none => rw [q] at e1; cases e1
      | some o => rw [q] at e1; exact congrArg some e1
    obtain ⟨v, e3, r⟩ := A.sl.get i d e2
    exact ⟨v, e3, q f H v .refl A.sim ⟨r, fun z => by cases z⟩⟩
/-! operators -/
theorem snd_op {bo : Operator} {o : Op} (e1 : opOf bo = some o) (ha : PE X a (tE Γ F W a')) (hb : PE X b (tE Γ F W b')) : PE X (.BinOp a bo b pos) (tE Γ F W (.op o a' b')) :=
  imE (pe_op (snd_bin (fa := Γ.fa) e1) ha hb) fun σ H Q ⟨R, B, f, h, ds, A, p⟩ => mkE A p fun d v f1 h1 H1 x1 A1 r1 _ p1 => mkE A1 p1 fun e w f2 h2 H2 x2 A2 r2 _ p2 => by
    obtain ⟨z, hz, q⟩ := p2.of
    exact ⟨f2, R, B, h2, d, e, z, A2.sim, r1.ext x2, r2, hz, fun H' v' x s r fr => q f2 H' v' x s ⟨r, fun _ => fr.back fun a y => x2.there a (x1.there a y)⟩⟩
theorem snd_neg (ha : PE X a (tE Γ F W a')) : PE X (.UnaryOp .USub a pos) (tE Γ F W (.neg a')) :=
  imE (pe_un un_neg ha) fun σ H Q ⟨R, B, f, h, ds, A, p⟩ => mkE A p fun d v f1 h1 H1 x1 A1 r1 _ p1 => by
    cases d with
    | int i => exact ⟨i, rd_int r1, p1 f1 H1 _ .refl A1.sim ⟨.int _, fun z => by cases z⟩⟩
    | _ => exact p1.elim
end
section
variable {X : Cx} {Γ : Cst} {F : Fr} {W : WX} {a b c : Expr} {a' b' c' : Ex} {pos : Pos}
/-- no star, no set display, no slice: what the compile step lets through -/
def nice : Expr → Bool
  | .Starred _ _ => false
  | .Set _ _ _ => false
  | .Slice _ _ _ _ => false
  | _ => true
theorem nice_mark {op : CmpOp} (h : nice b = true) : behindInMarks op b = false := by cases b <;> first | rfl | cases h
theorem nice_star {es : List Expr} (h : nice b = true) {env : Env} : starEach (b :: es) env = (false, eval b env) :: starEach es env := by cases b <;> first | rfl | cases h
theorem nice_fold (h : nice b = true) {env : Env} (x : Value) : foldedSetIterable b env x = pure x := by cases b <;> first | rfl | cases h
theorem nice_ix (h : nice b = true) : PlainIx b := by intro o i; cases b <;> first | rfl | cases h
/-! tests -/
theorem truV_ok {K : PySem.W.Frag} {fa : FA} {f : Nat → Addr} {R : Addr → Prop} {B : Nat → Prop} {h : Hh} {H : Hp} {d : D} {v : V} {k : Bool} (s : Sim fa f R B h H) (r : RD fa f h.length R H d v) (e : truD h d = some k) : TruV K v H k := by
  cases r with
  | non => cases e; rfl
  | bl b => cases e; rfl
  | int i => cases e; rfl
  | str x =>
    dsimp only [truD] at e
    split at e
    · rename_i hl
      refine ⟨Nat.le_trans hl line_ge, ?_⟩
      have e := Option.some.inj e
      rw [← e]
      cases hq : x.length <;> simp [bne, BEq.beq] <;> omega
    · cases e
  | tup e1 o t =>
    cases e
    refine .inr (.inl ⟨_, e1.sq, ?_⟩)
    cases t <;> rfl
  | lst e1 o t =>
    cases e
    refine .inl ⟨_, .of e1, ?_⟩
    cases t <;> rfl
  | ref q =>
    rename_i n
    dsimp only [truD] at e
    have e1 : h[n]? = some h[n] := List.getElem?_eq_getElem q
    have c := s.cell n _ e1
    rw [e1] at e
    cases qq : h[n] with
    | lst ys =>
      rw [qq] at c e
      obtain ⟨vs, e2, t⟩ := c
      have e := Option.some.inj e
      refine .inl ⟨_, .of e2, ?_⟩
      rw [← e]
      cases t <;> rfl
    | dct ks vs => rw [qq] at e; cases e
  | fn q => cases e
  | scr e1 o t => cases e
  | dct _ _ _ _ _ => cases e
  | set _ _ _ _ => cases e
  | seti _ _ _ _ => cases e
/-- by its value -/
def byVal : Expr → Bool
  | .UnaryOp .Not _ _ => false
  | .BoolOp _ _ _ => false
  | .IfExp _ _ _ _ => false
  | .Compare _ _ _ _ => false
  | _ => true
theorem byVal_ok {e : Expr} {env : Env} (h : byVal e = true) : ∀ whole, isTrue e env whole = (do let v ← whole; standAt e.pos; holding [v] (truthy v)) := by
  intro whole
  cases e with
  | UnaryOp o a p => cases o <;> first | rfl | cases h
  | BoolOp _ _ _ => cases h
  | IfExp _ _ _ _ => cases h
  | Compare _ _ _ _ => cases h
  | _ => rfl
theorem snd_truth (ha : PE X a (tE Γ F W a')) (hv : byVal a = true) : PT X a (tT Γ F W a') :=
  imT (pt_truth ha (byVal_ok hv)) fun σ H Q ⟨R, B, f, h, ds, A, p⟩ => mkE A p fun d v f1 h1 H1 x1 A1 r1 _ p1 => by
    obtain ⟨k, hk, q⟩ := p1.of
    exact ⟨k, truV_ok A1.sim r1 hk, q f1 H1 k .refl A1.sim rfl⟩
theorem snd_notT (ha : PT X a (tT Γ F W a')) : PT X (.UnaryOp .Not a pos) (tT Γ F W (.not a')) :=
  imT (pt_not ha) fun σ H Q ⟨R, B, f, h, ds, A, p⟩ => by
    have e1 : ((evE F (.not a') ds h).bind fun d h => Res.of (truD h d) h) = (evE F a' ds h).bind fun d h => (Res.of (truD h d) h).bind fun b h => .ok (!b) h := by
      show ((evE F a' ds h).bind _).bind _ = _
      cases evE F a' ds h with
      | ok d h1 => dsimp only [Res.bind]; cases truD h1 d <;> rfl
      | _ => rfl
    rw [e1] at p
    exact mkT A p (fun _ _ => rfl) fun c f1 h1 H1 x A1 p1 => p1 f1 H1 (!c) .refl A1.sim rfl
theorem snd_not (ha : PE X a (tE Γ F W a')) : PE X (.UnaryOp .Not a pos) (tE Γ F W (.not a')) :=
  imE (pe_notT ha) fun σ H Q ⟨R, B, f, h, ds, A, p⟩ => mkE A p fun d v f1 h1 H1 x1 A1 r1 _ p1 => by
    obtain ⟨z, hz, q⟩ := p1.of
    obtain ⟨k, hk, rfl⟩ := Option.map_eq_some_iff.mp hz
    exact ⟨k, truV_ok A1.sim r1 hk, q f1 H1 _ .refl A1.sim ⟨.bl _, fun z => by cases z⟩⟩
/-- expressions with their trees -/
structure PP (X : Cx) (Γ : Cst) (F : Fr) (W : WX) (a : Expr) (a' : Ex) : Prop where
  e : PE X a (tE Γ F W a')
  t : PT X a (tT Γ F W a')
  n : nice a = true
inductive All2 {α β : Type} (P : α → β → Prop) : List α → List β → Prop
  | nil : All2 P [] []
  | cons {a : α} {b : β} {as : List α} {bs : List β} : P a b → All2 P as bs → All2 P (a :: as) (b :: bs)
theorem All2.length {α β : Type} {P : α → β → Prop} {as : List α} {bs : List β} (h : All2 P as bs) : as.length = bs.length := by
  induction h with
  | nil => rfl
  | cons _ _ ih => simp [ih]
theorem snd_args {es : List Expr} {es' : List Ex} (h : All2 (PP X Γ F W) es es') : PA X es (tA Γ F W es') := by
  induction h with
  | nil => exact imA pa_nil fun σ H Q ⟨R, B, f, h, ds, A, p⟩ => p f H [] .refl A.sim .nil
  | cons hp _ ih =>
    exact imA (pa_cons hp.e ih (nice_star hp.n)) fun σ H Q ⟨R, B, f, h, ds, A, p⟩ => mkE A p fun d v f1 h1 H1 x1 A1 r1 _ p1 => mkA A1 p1 fun ds' vs f2 h2 H2 x2 A2 r2 p2 =>
      p2 f2 H2 _ .refl A2.sim (.cons (r1.ext x2) r2)
theorem bool_pe (o : BoolOp) : ∀ {es : List Expr} {es' : List Ex} {a : Expr} {a' : Ex}, PP X Γ F W a a' → All2 (PP X Γ F W) es es' → PE X (.BoolOp o (a :: es) pos) (tE Γ F W (boolE o a' es'))
  | _, _, _, _, ha, .nil => by cases o <;> exact pe_one ha.e
  | _, _, _, _, ha, .cons hb r => by
    have ih := bool_pe o hb r
    cases o with
    | And =>
      exact imE (pe_andT ha.e ih) fun σ H Q ⟨R, B, f, h, ds, A, p⟩ => mkE A p fun d v f1 h1 H1 x1 A1 r1 _ p1 => by
        cases hk : truD h1 d with
        | none => rw [hk] at p1; exact p1.elim
        | some k =>
          rw [hk] at p1
          refine ⟨k, truV_ok A1.sim r1 hk, ?_⟩
          cases k with
          | true => exact ⟨R, B, f1, h1, ds, A1, p1.bindR fun f2 h2 H2 d2 v2 _ _ q => ⟨q.1, fun z => by cases z⟩⟩
          | false => exact p1 f1 H1 v .refl A1.sim ⟨r1, fun z => by cases z⟩
    | Or =>
      exact imE (pe_orT ha.e ih) fun σ H Q ⟨R, B, f, h, ds, A, p⟩ => mkE A p fun d v f1 h1 H1 x1 A1 r1 fr1 p1 => by
        cases hk : truD h1 d with
        | none => rw [hk] at p1; exact p1.elim
        | some k =>
          rw [hk] at p1
          refine ⟨k, truV_ok A1.sim r1 hk, ?_⟩
          cases k with
          | false => exact ⟨R, B, f1, h1, ds, A1, p1.bindR fun f2 h2 H2 d2 v2 _ _ q => ⟨q.1, fun z => (q.2 (Bool.and_eq_true_iff.mp z).2).back x1.there⟩⟩
          | true => exact p1 f1 H1 v .refl A1.sim ⟨r1, fun z => fr1 (Bool.and_eq_true_iff.mp z).1⟩
theorem bool_pw (o : BoolOp) : ∀ {es : List Expr} {es' : List Ex} {a : Expr} {a' : Ex}, PP X Γ F W a a' → All2 (PP X Γ F W) es es' → PW X (.BoolOp o (a :: es) pos) (tT Γ F W (boolE o a' es'))
  | _, _, _, _, ha, .nil => by
    cases o
    · exact pw_and1 ha.t
    · exact pw_or1 ha.t
  | _, _, _, _, ha, .cons (b := b') (bs := bs') hb r => by
    rename_i a a' es es'
    have ih := bool_pw o hb r
    cases o with
    | And =>
      refine imW (pw_and ha.t ih) fun σ H Q ⟨R, B, f, h, ds, A, p⟩ => ?_
      have e1 : ((evE F (.and a' (boolE .And b' bs')) ds h).bind fun d h => Res.of (truD h d) h) = (evE F a' ds h).bind fun d h => (Res.of (truD h d) h).bind fun c h => if c = true then (evE F (boolE .And b' bs') ds h).bind fun d h => Res.of (truD h d) h else .ok false h := by
        show ((evE F a' ds h).bind _).bind _ = _
        cases evE F a' ds h with
        | ok d h1 =>
          dsimp only [Res.bind]
          cases hk : truD h1 d with
          | none => rfl
          | some k => cases k <;> simp [Res.of, hk]
        | _ => rfl
      have p : Post _ _ _ _ _ _ ((evE F (.and a' (boolE .And b' bs')) ds h).bind fun d h => Res.of (truD h d) h) _ _ _ := p
      rw [e1] at p
      refine mkT A p (fun _ _ => rfl) fun c f1 h1 H1 x A1 p1 => ?_
      cases c with
      | true => exact ⟨R, B, f1, h1, ds, A1, p1⟩
      | false => exact p1 f1 H1 false .refl A1.sim rfl
    | Or =>
      refine imW (pw_or ha.t ih) fun σ H Q ⟨R, B, f, h, ds, A, p⟩ => ?_
      have e1 : ((evE F (.or a' (boolE .Or b' bs')) ds h).bind fun d h => Res.of (truD h d) h) = (evE F a' ds h).bind fun d h => (Res.of (truD h d) h).bind fun c h => if c = true then .ok true h else (evE F (boolE .Or b' bs') ds h).bind fun d h => Res.of (truD h d) h := by
        show ((evE F a' ds h).bind _).bind _ = _
        cases evE F a' ds h with
        | ok d h1 =>
          dsimp only [Res.bind]
          cases hk : truD h1 d with
          | none => rfl
          | some k => cases k <;> simp [Res.of, hk]
        | _ => rfl
      have p : Post _ _ _ _ _ _ ((evE F (.or a' (boolE .Or b' bs')) ds h).bind fun d h => Res.of (truD h d) h) _ _ _ := p
      rw [e1] at p
      refine mkT A p (fun _ _ => rfl) fun c f1 h1 H1 x A1 p1 => ?_
      cases c with
      | false => exact ⟨R, B, f1, h1, ds, A1, p1⟩
      | true => exact p1 f1 H1 true .refl A1.sim rfl
end
section
variable {X : Cx} {Γ : Cst} {F : Fr} {W : WX} {a b c : Expr} {a' b' c' : Ex} {pos : Pos}
/-! a if c else b -/
theorem snd_ite (hc : PT X c (tT Γ F W c')) (ha : PE X a (tE Γ F W a')) (hb : PE X b (tE Γ F W b')) : PE X (.IfExp c a b pos) (tE Γ F W (.ite c' a' b')) :=
  imE (pe_ifExp hc ha hb) fun σ H Q ⟨R, B, f, h, ds, A, p⟩ => by
    have e1 : evE F (.ite c' a' b') ds h = (evE F c' ds h).bind fun d h => (Res.of (truD h d) h).bind fun k h => if k = true then evE F a' ds h else evE F b' ds h := by
      show (evE F c' ds h).bind _ = _
      cases evE F c' ds h with
      | ok d h1 =>
        dsimp only [Res.bind]
        cases hk : truD h1 d with
        | none => rfl
        | some k => cases k <;> simp [Res.of]
      | _ => rfl
    rw [e1] at p
    refine mkT A p (fun _ _ => rfl) fun k f1 h1 H1 x A1 p1 => ?_
    cases k with
    | true => exact ⟨R, B, f1, h1, ds, A1, p1.bindR fun f2 h2 H2 d2 v2 _ _ q => ⟨q.1, fun z => (q.2 (Bool.and_eq_true_iff.mp z).1).back x.there⟩⟩
    | false => exact ⟨R, B, f1, h1, ds, A1, p1.bindR fun f2 h2 H2 d2 v2 _ _ q => ⟨q.1, fun z => (q.2 (Bool.and_eq_true_iff.mp z).2).back x.there⟩⟩
theorem snd_iteT (hc : PT X c (tT Γ F W c')) (ha : PT X a (tT Γ F W a')) (hb : PT X b (tT Γ F W b')) : PT X (.IfExp c a b pos) (tT Γ F W (.ite c' a' b')) := by
  refine ⟨fun pins s σ H Q I hw => ?_⟩
  obtain ⟨R, B, f, h, ds, A, p⟩ := hw
  have e1 : ((evE F (.ite c' a' b') ds h).bind fun d h => Res.of (truD h d) h) = (evE F c' ds h).bind fun d h => (Res.of (truD h d) h).bind fun k h => if k = true then (evE F a' ds h).bind fun d h => Res.of (truD h d) h else (evE F b' ds h).bind fun d h => Res.of (truD h d) h := by
    show ((evE F c' ds h).bind _).bind _ = _
    cases evE F c' ds h with
    | ok d h1 =>
      dsimp only [Res.bind]
      cases hk : truD h1 d with
      | none => rfl
      | some k => cases k <;> simp [Res.of]
    | _ => rfl
  rw [e1] at p
  have q : tT Γ F W c' σ H fun k H1 => if k = true then tT Γ F W a' σ H1 Q else tT Γ F W b' σ H1 Q := mkT A p (fun _ _ => rfl) fun k f1 h1 H1 x A1 p1 => by
    cases k with
    | true => exact ⟨R, B, f1, h1, ds, A1, p1⟩
    | false => exact ⟨R, B, f1, h1, ds, A1, p1⟩
  refine isTrue_IfExp (thn (hc.run pins s σ H _ I q) fun k s1 ⟨H1, I1, q1⟩ => ?_)
  cases k with
  | true => exact ha.run pins s1 σ H1 Q I1 q1
  | false => exact hb.run pins s1 σ H1 Q I1 q1
/-! comparisons -/
theorem cmp_bl {co : CmpOp} {o : Op} (e : cmpOf co = some o) {h : Hh} {x y z : D} (hz : op2 o h x y = some z) : ∃ k, z = .bl k := by
  cases co <;> cases e <;> dsimp only [op2] at hz
  all_goals first
    | (obtain ⟨k, _, rfl⟩ := Option.map_eq_some_iff.mp hz; exact ⟨_, rfl⟩)
    | (split at hz <;> first | (cases hz; exact ⟨_, rfl⟩) | cases hz)
theorem snd_cmpE {co : CmpOp} {o : Op} (e1 : cmpOf co = some o) (hu : X.A.units + 200 < cLine) (ha : PE X a (tE Γ F W a')) (hb : PE X b (tE Γ F W b')) (n : nice b = true) : PE X (.Compare a [co] [b] pos) (tE Γ F W (.op o a' b')) :=
  imE (pe_cmpR (snd_cmp (fa := Γ.fa) e1 hu) ha hb (nice_mark n)) fun σ H Q ⟨R, B, f, h, ds, A, p⟩ => mkE A p fun d v f1 h1 H1 x1 A1 r1 _ p1 => mkE A1 p1 fun e w f2 h2 H2 x2 A2 r2 _ p2 => by
    obtain ⟨z, hz, q⟩ := p2.of
    exact ⟨f2, R, B, h2, d, e, z, A2.sim, r1.ext x2, r2, hz, fun H' v' x s r fr => q f2 H' v' x s ⟨r, fun _ => fr.back fun a y => x2.there a (x1.there a y)⟩⟩
theorem snd_cmpT {co : CmpOp} {o : Op} (e1 : cmpOf co = some o) (hu : X.A.units + 200 < cLine) (ha : PE X a (tE Γ F W a')) (hb : PE X b (tE Γ F W b')) (n : nice b = true) : PT X (.Compare a [co] [b] pos) (tT Γ F W (.op o a' b')) :=
  imT (pt_cmpR (snd_cmp (fa := Γ.fa) e1 hu) ha hb (nice_mark n)) fun σ H Q ⟨R, B, f, h, ds, A, p⟩ => by
    have e2 : ((evE F (.op o a' b') ds h).bind fun d h => Res.of (truD h d) h) = (evE F a' ds h).bind fun x h => (evE F b' ds h).bind fun y h => (Res.of (op2 o h x y) h).bind fun d h => Res.of (truD h d) h := by
      show ((evE F a' ds h).bind _).bind _ = _
      cases evE F a' ds h with
      | ok d h1 =>
        dsimp only [Res.bind]
        cases evE F b' ds h1 <;> rfl
      | _ => rfl
    rw [e2] at p
    exact mkE A p fun d v f1 h1 H1 x1 A1 r1 _ p1 => mkE A1 p1 fun e w f2 h2 H2 x2 A2 r2 _ p2 => by
      cases hz : op2 o h2 d e with
      | none => rw [hz] at p2; exact p2.elim
      | some z =>
        obtain ⟨k, rfl⟩ := cmp_bl e1 hz
        rw [hz] at p2
        exact ⟨f2, R, B, h2, d, e, _, A2.sim, r1.ext x2, r2, hz, fun H' v' x s r fr => ⟨k, rd_bl r, p2 f2 H' k x s rfl⟩⟩
theorem chain_run {r r' : R2} {co co' : CmpOp} {o o' : Op} (e1 : cmpOf co = some o) (e2 : cmpOf co' = some o') {Q : VK} {σ : L2.St} {H : Hp} (hr : r = rOp Γ.fa o) (hr' : r' = rOp Γ.fa o')
    {R : Addr → Prop} {B : Nat → Prop} {f : Nat → Addr} {h : Hh} {ds : Sl} (A : Pnt Γ F R B f h ds σ H) {rel2 : (Nat → Addr) → Hh → Hp → D → V → Prop} (hrel : ∀ f h H k, rel2 f h H (.bl k) (.bl k)) (p : Post Γ.fa f h.length R B H (evE F (.chain o o' a' b' c') ds h) rel2 Q (exW Γ R W σ)) :
    tChain r r' (tE Γ F W a') (tE Γ F W b') (tE Γ F W c') σ H Q := by
  subst hr hr'
  exact mkE A p fun d v f1 h1 H1 x1 A1 r1 _ p1 => mkE A1 p1 fun e w f2 h2 H2 x2 A2 r2 _ p2 => by
    cases hz : op2 o h2 d e with
    | none => rw [hz] at p2; exact p2.elim
    | some z =>
      obtain ⟨k, rfl⟩ := cmp_bl e1 hz
      rw [hz] at p2
      refine ⟨f2, R, B, h2, d, e, _, A2.sim, r1.ext x2, r2, hz, fun H' v' x s r fr => ⟨k, rd_bl r, ?_⟩⟩
      have A3 := A2.go x s
      cases k with
      | false => exact p2 f2 H' _ x s (hrel _ _ _ _)
      | true =>
        refine mkE A3 (Post.mono x p2) fun g w3 f4 h4 H4 x4 A4 r4 _ p4 => ?_
        obtain ⟨z2, hz2, q⟩ := p4.of
        obtain ⟨k2, rfl⟩ := cmp_bl e2 hz2
        exact ⟨f4, R, B, h4, e, g, _, A4.sim, (r2.ext x).ext x4, r4, hz2, fun H5 v5 x5 s5 r5 fr5 => by
          have := rd_bl r5
          subst this
          exact q f4 H5 _ x5 s5 (hrel _ _ _ _)⟩
theorem snd_chain {co co' : CmpOp} {o o' : Op} (e1 : cmpOf co = some o) (e2 : cmpOf co' = some o') (hu : X.A.units + 200 < cLine) (ha : PE X a (tE Γ F W a')) (hb : PE X b (tE Γ F W b')) (hc : PE X c (tE Γ F W c')) (n : nice c = true) :
    PE X (.Compare a [co, co'] [b, c] pos) (tE Γ F W (.chain o o' a' b' c')) :=
  imE (pe_chain (snd_cmp (fa := Γ.fa) e1 hu) (snd_cmp (fa := Γ.fa) e2 hu) ha hb hc (by show behindInMarks co' c = false; exact nice_mark n)) fun σ H Q ⟨R, B, f, h, ds, A, p⟩ =>
    chain_run e1 e2 rfl rfl A (fun _ _ _ _ => ⟨.bl _, fun z => by cases z⟩) p
theorem snd_chainT {co co' : CmpOp} {o o' : Op} (e1 : cmpOf co = some o) (e2 : cmpOf co' = some o') (hu : X.A.units + 200 < cLine) (ha : PE X a (tE Γ F W a')) (hb : PE X b (tE Γ F W b')) (hc : PE X c (tE Γ F W c')) (n : nice c = true) :
    PT X (.Compare a [co, co'] [b, c] pos) (tT Γ F W (.chain o o' a' b' c')) :=
  imT (pt_chain (snd_cmp (fa := Γ.fa) e1 hu) (snd_cmp (fa := Γ.fa) e2 hu) ha hb hc (by show behindInMarks co' c = false; exact nice_mark n)) fun σ H Q ⟨R, B, f, h, ds, A, p⟩ => by
    have p : Post Γ.fa f h.length R B H ((evE F (.chain o o' a' b' c') ds h).bind fun d h => Res.of (truD h d) h) _ Q _ := p
    refine chain_run e1 e2 rfl rfl A (rel2 := fun _ _ _ d v => ∃ k, d = .bl k ∧ v = .bl k) (fun _ _ _ k => ⟨k, rfl, rfl⟩) ?_
    revert p
    cases evE F (.chain o o' a' b' c') ds h with
    | ok d h1 =>
      intro p f' H' b x s q
      obtain ⟨k, rfl, rfl⟩ := q
      exact ⟨k, rfl, p f' H' k x s rfl⟩
    | exc _ _ _ => exact fun p => p
    | fail => exact fun p => p
end
end Ev

set_option Elab.async false
set_option linter.all false
set_option maxRecDepth 100000
set_option maxHeartbeats 4000000
/-! EvRv: a tuple turned about. -/
namespace Ev
open PySem PySem.Spec PyProof.Rows L2 HT
theorem range_all {α : Type} : ∀ l : List α, ((List.range l.length).filterMap fun k => l[k]?) = l
  | [] => rfl
  | x :: l => by
    rw [List.length_cons, List.range_succ_eq_map, List.filterMap_cons]
    show x :: _ = _
    congr 1
    rw [List.filterMap_map]
    exact range_all l
theorem filt_congr {α β : Type} {f g : α → Option β} : ∀ {l : List α}, (∀ x ∈ l, f x = g x) → l.filterMap f = l.filterMap g
  | [], _ => rfl
  | x :: l, h => by rw [List.filterMap_cons, List.filterMap_cons, h x (by simp), filt_congr fun y hy => h y (by simp [hy])]
theorem rev_pick (xs : Array Value) : ((List.range xs.size).filterMap fun (k : Nat) => xs[(((xs.size : Int) - 1) + (k : Int) * (-1)).toNat]?).toArray = xs.toList.reverse.toArray := by
  congr 1
  have e : xs.size = xs.toList.reverse.length := by simp
  rw [← range_all xs.toList.reverse, ← e]
  refine filt_congr fun k hk => ?_
  have hk : k < xs.size := List.mem_range.mp hk
  have e2 : (((xs.size : Int) - 1) + (k : Int) * (-1)).toNat = xs.size - 1 - k := by omega
  rw [e2, List.getElem?_reverse (by simpa using hk)]
  simp
theorem rev_cnt (n : Nat) : Builtin.Slice.slicePlaces ((n : Int) - 1) (-1) (-1) = n := by
  unfold Builtin.Slice.slicePlaces
  rw [if_neg (by decide)]
  split
  · have : (-(-1 : Int)) = 1 := rfl
    rw [this, Int.ediv_one]
    omega
  · show (0 : Int).toNat = n
    have : n = 0 := by omega
    subst this
    rfl
section
variable {prog : Program} {w : World} {A : Around} {E : Value → Shared → Prop} {s : Shared}
theorem rev_app {sl : Addr} {vl vu vs : Value} {n : Nat} {Q : Int × Int × Nat → Shared → Prop} (hs : s.heap.IsSliceOf sl vl vu vs) (pl : IsPart vl none) (pu : IsPart vu none) (ps : IsPart vs (some (-1))) (q : Q ((n : Int) - 1, -1, n) s) :
    wpAny (model prog w) A (Builtin.Slice.sliceApplied (.ref sl) (pure (n : Int))) Q E s := by
  obtain ⟨ob, e1, e2, e3⟩ := hs
  have fin : wpAny (model prog w) A (pure ((n : Int) - 1, (-1 : Int), Builtin.Slice.slicePlaces ((n : Int) - 1) (-1) (-1)) : Sem (Int × Int × Nat)) Q E s := by rw [rev_cnt]; exact wpAny_pure q
  refine wpAny_bind (m := Builtin.Slice.sliceFields (.ref sl)) (wpAny_bind (wpAny_field e1 e3 (x := vl) rfl (wpAny_bind (wpAny_field e1 e3 (x := vu) rfl (wpAny_bind (wpAny_field e1 e3 (x := vs) rfl (wpAny_pure ?_)))))))
  refine wpAny_bind (slicePart_ ps ?_)
  show wpAny (model prog w) A (if ((-1 : Int) == 0) = true then _ else _) Q E s
  rw [if_neg (by decide)]
  exact wpAny_bind (slicePart_ pl (wpAny_bind (slicePart_ pu (wpAny_bind (wpAny_pure fin)))))
theorem rev_item {t sl : Addr} {items : Array Value} {vl vu vs : Value} {Q : Value → Shared → Prop} (ht : IsTup s.heap t items) (hs : s.heap.IsSliceOf sl vl vu vs) (pl : IsPart vl none) (pu : IsPart vu none) (ps : IsPart vs (some (-1)))
    (q : Q (.ref s.heap.objs.size) { s with heap := s.heap.push { cls := .type "tuple", data := .seq items.toList.reverse.toArray } }) (hz : items.size ≤ sizeLine) : wpAny (model prog w) A (getItem (.ref t) (.ref sl)) Q E s := by
  obtain ⟨ob, e1, e2, e3⟩ := id hs
  have ty : s.TypeIs (.ref sl) "slice" := ⟨ob, e1, e2⟩
  have ok : sizeOk (.seq items.toList.reverse.toArray) := by show items.toList.reverse.toArray.size ≤ sizeLine; simpa using hz
  have no : ¬ ((((items.size : Int) - 1) == 0 && (-1 : Int) == 1 && items.size == items.size) = true) := by
    rw [show ((-1 : Int) == 1) = false from rfl, Bool.and_false, Bool.false_and]
    decide
  unfold getItem
  try with_reducible refine wpAny_holding ?_
  first | refine wpAny_bind (wpAny_pure ?_) | skip
  refine wpAny_bind (wpAny_sequenceKey ht.typeIs (by decide) (wpAny_bind (wpAny_callSpecial?_slot (name := Str.ofString "__getitem__") ht.typeIs PyProof.Rows.slot_tuple_getitem (wpAny_call_entry PyProof.Rows.slot_tuple_getitem ht.typeIs entry_tuple_getitem ?_ (args_tuple_getitem _ _)))))
  refine wpAny_bind (m := Builtin.Tuple.tupleItemsOf (.ref t)) (tupleItemsOf_ ht (wpAny_bind (wpAny_typeOf ty ?_)))
  rw [if_pos (by decide)]
  refine wpAny_bind (rev_app hs pl pu ps ?_)
  show wpAny (model prog w) _ (if (((items.size : Int) - 1) == 0 && (-1 : Int) == 1 && items.size == items.size) = true then _ else _) _ _ s
  rw [if_neg no, rev_pick]
  first
    | exact wpAny_bind (m := Builtin.Tuple.tupleExact _) (wpAny_newObj_type (wpAny_pure ⟨_, rfl, wpAny_pure q⟩) ok)
    | exact wpAny_bind (wpAny_bind (m := Builtin.Tuple.tupleExact _) (wpAny_newObj_type (wpAny_pure ⟨_, rfl, wpAny_pure q⟩) ok))
    | exact wpAny_bind (wpAny_bind (m := Builtin.Tuple.tupleExact _) (wpAny_newObj_type (wpAny_pure (wpAny_pure ⟨_, rfl, wpAny_pure q⟩)) ok))
end
/-- xs[::-1], a list's or a tuple's -/
def tRevG (K : PySem.W.Frag) (te : TE) : TE := fun σ H Q => te σ H fun x H1 => ∃ a xs, x = .ref a ∧ ((SqL K H1 a xs ∧ ∀ p, H1 p = none → Q (.ref p) (L2.upd H1 p (.lst xs.reverse))) ∨ (SqT K H1 a xs ∧ NewT H1 Q xs.reverse))
theorem pe_revG {X : Cx} {e : Expr} {te : TE} {k : Nat} {p1 p2 p3 pos : Pos} (he : PE X e te) : PE X (.Subscript e (.Slice none none (some (.UnaryOp .USub (.Constant (.int 1) k p1) p2)) p3) pos) (tRevG X.K te) := by
  have step : PO X (some (.UnaryOp .USub (.Constant (.int 1) k p1) p2)) (tPart (tUn (rU fun i => .int (-i)) (tC (.int 1)))) := po_some (pe_un un_neg pe_int)
  constructor
  intro pins s σ H Q I h
  refine Subscript_ (thn (he.run pins s σ H _ I h) fun v s1 ⟨x, H1, I1, r1, a, xs, ex, q⟩ => ?_)
  subst ex
  cases r1
  refine wpAny_Slice (thn (po_none.run pins s1 σ H1 (fun o G => o = none ∧ G = H1) I1 ⟨rfl, rfl⟩) fun vl s2 ⟨l, G, I2, pl, el, e2⟩ => thn (po_none.run pins s2 σ G (fun o G' => o = none ∧ G' = G) I2 ⟨rfl, rfl⟩) fun vu s3 ⟨u, G', I3, pu, eu, e3⟩ =>
    thn (step.run pins s3 σ G' (fun o G2 => o = some (-1) ∧ G2 = G') I3 ⟨1, rfl, -1, rfl, rfl, rfl⟩) fun vs s4 ⟨o, G2, I4, ps, eo, e4⟩ => ?_)
  subst el e2 eu e3 eo e4
  have J : Inv X pins σ G2 { s4 with heap := s4.heap.push { cls := .type "slice", data := .fields #[vl, vu, vs] } } := I4.kept (t' := s4.toks) fun _ _ z => Heap.get?_push_of_some _ z
  show wpAny (model X.prog X.w) X.A (subscriptTail e (.Slice none none (some (.UnaryOp .USub (.Constant (.int 1) k p1) p2)) p3) (.ref a) (.ref s4.heap.objs.size)) (EP X pins σ Q) X.xe _
  rcases q with ⟨hx, q⟩ | ⟨hx, q⟩
  · obtain ⟨its, r, ht, hz⟩ := J.list hx
    have ln := r.length
    refine tail_any (ops := [.ref a, .ref s4.heap.objs.size]) ht.isList.typeIs (PySem.slot_list_getitem.lookup) (wpAny_getItem_list_slice ht.isList (Heap.IsSliceOf.new _ vl vu vs) pl pu ps (by decide) ?_ (by rw [List.size_toArray]; omega)) (by with_unfolding_all rfl)
    rw [PySem.W.krv_pick]
    exact ⟨.ref _, _, J.laid (t' := s4.toks) (o := .lst xs.reverse) (fun _ _ z => Heap.get?_push_of_some _ z) (Nat.le_refl _) ⟨by rw [List.length_reverse]; exact hz, _, 0, r.reverse, Heap.get?_push_size _ rfl⟩, rfl, q _ (J.hok.fresh (Nat.le_refl _))⟩
  · obtain ⟨its, r, ht, hz⟩ := J.tuple hx
    have ln := r.length
    exact tail_any (ops := [.ref a, .ref s4.heap.objs.size]) ht.typeIs (PyProof.Rows.slot_tuple_getitem.lookup) (rev_item ht (Heap.IsSliceOf.new _ vl vu vs) pl pu ps (newT_ok J (by rw [List.length_reverse]; exact hz) r.reverse q) (by rw [List.size_toArray]; omega)) (by with_unfolding_all rfl)
end Ev

set_option Elab.async false
set_option linter.all false
set_option maxRecDepth 100000
set_option maxHeartbeats 2000000
/-! EvI: displays, subscripts, calls of defs. -/
namespace Ev
open PySem PySem.Spec PyProof.Rows L2
section
variable {fa : FA} {f : Nat → Addr} {R : Addr → Prop} {B : Nat → Prop} {h : Hh} {H : Hp}
/-- a row, as HandS reads it -/
theorem seqS_ok {K : PySem.W.Frag} (s : Sim fa f R B h H) {d : D} {v : V} {xs : List D} (r : RD fa f h.length R H d v) (e : seqOf h d = some xs) :
    ∃ a vs, v = .ref a ∧ RDs fa f h.length R H xs vs ∧ ((SqL K H a vs ∧ ∀ ys, d ≠ .tup ys) ∨ (SqT K H a vs ∧ d = .tup xs)) := by
  obtain ⟨a, vs, e1, t, q⟩ := seq_ok s r e
  rcases q with ⟨q, z⟩ | ⟨q, z⟩
  · exact ⟨a, vs, e1, t, .inl ⟨.of q, z⟩⟩
  · exact ⟨a, vs, e1, t, .inr ⟨q.sq, z⟩⟩
theorem ixN_eq (n : Nat) (i : Int) : Ev.ixN n i = L2.ixN n i := rfl
theorem sIx_eq (n d : Nat) (i : Option Int) : Ev.sIx n d i = HT.sIx n d i := by cases i <;> rfl
theorem cut_ok {xs : List D} {vs : List V} {lo hi : Option Int} {n : Nat} (t : RDs fa f n R H xs vs) : RDs fa f n R H (cut xs lo hi) (cutV vs lo hi) := by
  unfold cut cutV
  rw [sIx_eq, sIx_eq, t.length]
  exact (t.drop _).take _
theorem cut_whole {xs : List D} {lo hi : Option Int} (e : HT.sIx xs.length 0 lo = 0 ∧ HT.sIx xs.length xs.length hi = xs.length) : cut xs lo hi = xs := by
  unfold cut
  rw [sIx_eq, sIx_eq, e.1, e.2]
  simp
end
section
variable {X : Cx} {Γ : Cst} {F : Fr} {W : WX} {a b c : Expr} {a' b' c' : Ex} {pos : Pos}
theorem evEs_len {F : Fr} : ∀ {es : List Ex} {ds : Sl} {h h1 : Hh} {xs : List D}, evEs F es ds h = .ok xs h1 → xs.length = es.length
  | [], _, _, _, _, q => by cases q; rfl
  | e :: es, ds, h, h1, xs, q => by
    have q : (evE F e ds h).bind (fun d h => (evEs F es ds h).bind fun ds h => .ok (d :: ds) h) = .ok xs h1 := q
    cases q1 : evE F e ds h with
    | ok d h2 =>
      rw [q1] at q
      cases q2 : evEs F es ds h2 with
      | ok ys h3 =>
        have q : (evEs F es ds h2).bind (fun ds h => .ok (d :: ds) h) = .ok xs h1 := q
        rw [q2] at q
        cases q
        rw [List.length_cons, List.length_cons, evEs_len q2]
      | exc _ _ _ => have q : (evEs F es ds h2).bind (fun ds h => .ok (d :: ds) h) = .ok xs h1 := q; rw [q2] at q; cases q
      | fail => have q : (evEs F es ds h2).bind (fun ds h => .ok (d :: ds) h) = .ok xs h1 := q; rw [q2] at q; cases q
    | exc _ _ _ => rw [q1] at q; cases q
    | fail => rw [q1] at q; cases q
/-- the arguments' values, how many -/
theorem mkA' {γ δ : Type} {R : Addr → Prop} {B : Nat → Prop} {f : Nat → Addr} {h : Hh} {ds : Sl} {σ : L2.St} {H : Hp} {es : List Ex} {k : List D → Hh → Res γ} {rel2 : (Nat → Addr) → Hh → Hp → γ → δ → Prop} {Q2 : δ → Hp → Prop} {Q : List V → Hp → Prop} (A : Pnt Γ F R B f h ds σ H) (p : Post Γ.fa f h.length R B H ((evEs F es ds h).bind k) rel2 Q2 (exW Γ R W σ))
    (hs : ∀ d v f1 h1 H1, d.length = es.length → Ext f h.length R H f1 h1.length H1 → Pnt Γ F R B f1 h1 ds σ H1 → RDs Γ.fa f1 h1.length R H1 d v → Post Γ.fa f1 h1.length R B H1 (k d h1) rel2 Q2 (exW Γ R W σ) → Q v H1) :
    tA Γ F W es σ H Q := ⟨R, B, f, h, ds, A, p.bind fun a h1 f1 H1 b e x s r q => hs a b f1 h1 H1 (evEs_len e) x (A.go x s) r q⟩
theorem pe_tupK {es : List Expr} {t : TA} {x1 : Nat} (h : PA X es t) : PE X (.Tuple es x1 pos) (fun σ H Q => t σ H fun xs H1 => xs.length ≤ sizeLine ∧ NewT H1 Q xs) := by
  refine ⟨fun pins s σ H Q I hq => ?_⟩
  exact wpAny_Tuple_spliced (thn (h.run pos pins s σ H _ I hq) fun us s1 ⟨xs, H1, I1, r, z, q⟩ => ⟨by rw [← r.length]; exact z, newT_ok I1 z r q⟩)
theorem sl_tupK : SlR X (fun x lo hi H Q => ∃ a xs, x = .ref a ∧ SqT X.K H a xs ∧
    (HT.sIx xs.length 0 lo = 0 ∧ HT.sIx xs.length xs.length hi = xs.length → Q (.ref a) H) ∧ (¬ (HT.sIx xs.length 0 lo = 0 ∧ HT.sIx xs.length xs.length hi = xs.length) → NewT H Q (cutV xs lo hi))) := by
  intro pins s σ H x v vl vu lo hi sl Q I rx hs pl pu h
  obtain ⟨a, xs, rfl, hx, q1, q2⟩ := h
  cases rx
  obtain ⟨its, r, ht, hz⟩ := I.tuple hx
  have hlen : its.toArray.size = xs.length := by rw [List.size_toArray]; exact r.length.symm
  refine ⟨"tuple", _, PyProof.Rows.slot_tuple_getitem.lookup, ht.typeIs, ?_⟩
  by_cases hw : HT.sIx xs.length 0 lo = 0 ∧ HT.sIx xs.length xs.length hi = xs.length
  · exact getItem_tuple_whole ht hs pl pu (by rw [hlen]; exact hw) ⟨.ref a, H, I, rfl, q1 hw⟩
  · refine HT.getItem_tuple_cut ht hs pl pu (by rw [hlen]; exact hw) ?_ (by rw [hlen]; exact hz)
    rw [hlen]
    exact newT_ok I (Nat.le_trans (cutV_length xs lo hi) hz) ((r.drop (HT.sIx xs.length 0 lo)).take (HT.sIx xs.length xs.length hi - HT.sIx xs.length 0 lo)) (q2 hw)
theorem snd_tup {es : List Expr} {es' : List Ex} {k : Nat} (ha : All2 (PP X Γ F W) es es') (hl : es.length ≤ 1000) : PE X (.Tuple es k pos) (tE Γ F W (.tup es')) :=
  imE (pe_tupK (snd_args ha)) fun σ H Q ⟨R, B, f, h, ds, A, p⟩ => mkA' A p fun xs vs f1 h1 H1 ln x A1 r p1 => by
    refine ⟨?_, fun pp ob hp ho => p1 f1 _ _ (Ext.upd hp) (A1.sim.upd hp) ⟨RD.newTup A1.sim hp ho r, fun z => by cases z⟩⟩
    rw [← RDs.length r, ln, ← ha.length]
    exact Nat.le_trans hl (Nat.le_trans (by decide) line_ge)
theorem snd_lst {es : List Expr} {es' : List Ex} (ha : All2 (PP X Γ F W) es es') (hl : es.length ≤ 1000) : PE X (.List es pos) (tE Γ F W (.lst es')) :=
  imE (pe_lst (snd_args ha)) fun σ H Q ⟨R, B, f, h, ds, A, p⟩ => mkA' A p fun xs vs f1 h1 H1 ln x A1 r p1 => by
    refine ⟨?_, fun pp hp => p1 f1 _ _ (Ext.upd hp) (A1.sim.upd hp) ⟨RD.newLst A1.sim hp r, fun _ => (Fre.new A1.sim hp r).back x.there⟩⟩
    rw [← RDs.length r, ln, ← ha.length]
    exact Nat.le_trans hl (Nat.le_trans (by decide) line_ge)
/-! a[b] -/
theorem get_ok {fa : FA} {f : Nat → Addr} {n : Nat} {R : Addr → Prop} {H : Hp} {xs : List D} {vs : List V} {i : Int} {z : D} (t : RDs fa f n R H xs vs) (e : ((Ev.ixN xs.length i).bind fun k => xs[k]?) = some z) : ∃ v, atI vs i = some v ∧ RD fa f n R H z v := by
  cases q : Ev.ixN xs.length i with
  | none => rw [q] at e; cases e
  | some k =>
    rw [q] at e
    obtain ⟨v, e1, r⟩ := t.get (i := k) e
    refine ⟨v, ?_, r⟩
    unfold atI
    rw [← t.length, ← ixN_eq, q]
    exact e1
theorem snd_ix (hu : X.A.units + 20 < cLine) (ha : PE X a (tE Γ F W a')) (hb : PE X b (tE Γ F W b')) (n : nice b = true) : PE X (.Subscript a b pos) (tE Γ F W (.idx a' b')) :=
  imE (pe_ix ((ix_list.or ix_tup).or (ix_dict (fa := Γ.fa) hu)) ha hb (nice_ix n)) fun σ H Q ⟨R, B, f, h, ds, A, p⟩ => mkE A p fun d v f1 h1 H1 x1 A1 r1 _ p1 => mkE A1 p1 fun e w f2 h2 H2 x2 A2 r2 _ p2 => by
    obtain ⟨z, hz, q⟩ := p2.of
    have hr : ∀ y, RD Γ.fa f2 h2.length R H2 z y → Q y H2 := fun y r => q f2 H2 y .refl A2.sim ⟨r, fun z => by cases z⟩
    have t2 := top_ok A2.sim (r1.ext x2)
    unfold idxOp at hz
    cases ht : top h2 d with
    | tup xs =>
      rw [ht] at hz t2
      obtain ⟨a, vs, rfl, e1, t⟩ := t2
      cases e with
      | int i =>
        obtain ⟨y, e2, r⟩ := get_ok t hz
        exact .inl (.inr ⟨a, vs, i, y, rfl, rd_int r2, e1.sq, e2, hr _ r⟩)
      | _ => cases hz
    | lst xs =>
      rw [ht] at hz t2
      obtain ⟨a, vs, rfl, e1, t⟩ := t2
      cases e with
      | int i =>
        obtain ⟨y, e2, r⟩ := get_ok t hz
        exact .inl (.inl ⟨a, vs, i, y, rfl, rd_int r2, .of e1, e2, hr _ r⟩)
      | _ => cases hz
    | dct ks vs =>
      rw [ht] at hz t2
      obtain ⟨a, us, ws, rfl, e1, k, t, t'⟩ := t2
      have hz : (if kdOk ks e = true then lookD e ks vs else none) = some z := by cases e <;> exact hz
      split at hz
      · rename_i hk
        exact .inr ⟨a, f2, h2.length, R, ks, vs, us, ws, e, z, rfl, e1, k, t, t', r2, hk, hz, hr⟩
      · cases hz
    | _ => rw [ht] at hz; cases hz
/-! slices -/
theorem sl_cases {h : Hh} {d z : D} {lo hi : Option Int} (e : slOp h d lo hi = some z) : (∃ xs, d = .scr xs ∧ z = .lst (cut xs lo hi)) ∨ (∃ xs, d = .tup xs ∧ z = .tup (cut xs lo hi)) ∨ (∃ xs, seqOf h d = some xs ∧ (∀ ys, d ≠ .tup ys) ∧ z = .lst (cut xs lo hi)) := by
  have g : ∀ d : D, (seqOf h d).map (fun xs => D.lst (cut xs lo hi)) = some z → (∀ ys, d ≠ .tup ys) → ∃ xs, seqOf h d = some xs ∧ (∀ ys, d ≠ .tup ys) ∧ z = .lst (cut xs lo hi) := fun d e n => by
    obtain ⟨xs, hx, e2⟩ := Option.map_eq_some_iff.mp e
    exact ⟨xs, hx, n, e2.symm⟩
  cases d with
  | scr xs => cases e; exact .inl ⟨_, rfl, rfl⟩
  | tup xs => cases e; exact .inr (.inl ⟨_, rfl, rfl⟩)
  | _ => exact .inr (.inr (g _ e fun _ z => nomatch z))
theorem rev_cases {h : Hh} {d z : D} (e : revOp h d = some z) : (∃ xs, d = .tup xs ∧ z = .tup xs.reverse) ∨ ∃ xs, seqOf h d = some xs ∧ (∀ ys, d ≠ .tup ys) ∧ z = .lst xs.reverse := by
  have g : ∀ d : D, (seqOf h d).map (fun xs => D.lst xs.reverse) = some z → (∀ ys, d ≠ .tup ys) → ∃ xs, seqOf h d = some xs ∧ (∀ ys, d ≠ .tup ys) ∧ z = .lst xs.reverse := fun d e n => by
    obtain ⟨xs, hx, e2⟩ := Option.map_eq_some_iff.mp e
    exact ⟨xs, hx, n, e2.symm⟩
  cases d with
  | tup xs => cases e; exact .inl ⟨_, rfl, rfl⟩
  | _ => exact .inr (g _ e fun _ z => nomatch z)
theorem snd_none : PO X none (tO Γ F W none) := imO po_none fun σ H Q ⟨R, B, f, h, ds, A, p⟩ => p f H none .refl A.sim rfl
theorem snd_some (ha : PE X a (tE Γ F W a')) : PO X (some a) (tO Γ F W (some a')) :=
  imO (po_some ha) fun σ H Q ⟨R, B, f, h, ds, A, p⟩ => mkE A p fun d v f1 h1 H1 x1 A1 r1 _ p1 => by
    cases d with
    | int i => exact ⟨i, rd_int r1, p1 f1 H1 _ .refl A1.sim rfl⟩
    | _ => exact p1.elim
theorem mkO {γ δ : Type} {R : Addr → Prop} {B : Nat → Prop} {f : Nat → Addr} {h : Hh} {ds : Sl} {σ : L2.St} {H : Hp} {e : Option Ex} {k : Option Int → Hh → Res γ} {rel2 : (Nat → Addr) → Hh → Hp → γ → δ → Prop} {Q2 : δ → Hp → Prop} {Q : Option Int → Hp → Prop} (A : Pnt Γ F R B f h ds σ H) (p : Post Γ.fa f h.length R B H ((evO F e ds h).bind k) rel2 Q2 (exW Γ R W σ))
    (hs : ∀ d f1 h1 H1, Ext f h.length R H f1 h1.length H1 → Pnt Γ F R B f1 h1 ds σ H1 → Post Γ.fa f1 h1.length R B H1 (k d h1) rel2 Q2 (exW Γ R W σ) → Q d H1) :
    tO Γ F W e σ H Q := ⟨R, B, f, h, ds, A, p.bind fun a h1 f1 H1 b e x s r q => by subst r; exact hs a f1 h1 H1 x (A.go x s) q⟩
theorem snd_slice {lo hi : Option Expr} {lo' hi' : Option Ex} {p2 : Pos} (ha : PE X a (tE Γ F W a')) (hl : PO X lo (tO Γ F W lo')) (hh : PO X hi (tO Γ F W hi')) : PE X (.Subscript a (.Slice lo hi none p2) pos) (tE Γ F W (.slice a' lo' hi')) :=
  imE (pe_slice (sl_list.or sl_tupK) ha hl hh) fun σ H Q ⟨R, B, f, h, ds, A, p⟩ => mkE A p fun d v f1 h1 H1 x1 A1 r1 _ p1 => mkO A1 p1 fun lo f2 h2 H2 x2 A2 p2 => mkO A2 p2 fun hi f3 h3 H3 x3 A3 p3 => by
    obtain ⟨z, hz, q⟩ := p3.of
    have r3 := (r1.ext x2).ext x3
    have th : ∀ a, (H a).isSome = true → (H3 a).isSome = true := fun a y => x3.there a (x2.there a (x1.there a y))
    rcases sl_cases hz with ⟨xs, rfl, rfl⟩ | ⟨xs, rfl, rfl⟩ | ⟨xs, hx, nt, rfl⟩
    · cases r3 with
      | scr e1 o t => exact .inl ⟨_, _, rfl, .inl (.inr ⟨_, e1⟩), fun p hp => q f3 _ _ (Ext.upd hp) (A3.sim.upd hp) ⟨RD.newLst A3.sim hp (cut_ok t), fun _ => (Fre.new A3.sim hp (cut_ok t)).back th⟩⟩
    · have r4 := r3
      obtain ⟨a, vs, rfl, e1, t⟩ := rd_tup r3
      refine .inr ⟨a, vs, rfl, e1.sq, fun w => ?_, fun _ p ob hp ho => q f3 _ _ (Ext.upd hp) (A3.sim.upd hp) ⟨RD.newTup A3.sim hp ho (cut_ok t), fun _ => trivial⟩⟩
      rw [← t.length] at w
      exact q f3 H3 _ .refl A3.sim ⟨by rw [cut_whole w]; exact r4, fun _ => trivial⟩
    · obtain ⟨a, vs, rfl, t, e1⟩ := isLst_of A3.sim r3 hx nt
      exact .inl ⟨a, vs, rfl, .of e1, fun p hp => q f3 _ _ (Ext.upd hp) (A3.sim.upd hp) ⟨RD.newLst A3.sim hp (cut_ok t), fun _ => (Fre.new A3.sim hp (cut_ok t)).back th⟩⟩
theorem snd_rev {k : Nat} {p1 p2 p3 : Pos} (ha : PE X a (tE Γ F W a')) : PE X (.Subscript a (.Slice none none (some (.UnaryOp .USub (.Constant (.int 1) k p1) p2)) p3) pos) (tE Γ F W (.rev a')) :=
  imE (pe_revG ha) fun σ H Q ⟨R, B, f, h, ds, A, p⟩ => mkE A p fun d v f1 h1 H1 x1 A1 r1 _ p1 => by
    obtain ⟨z, hz, q⟩ := p1.of
    rcases rev_cases hz with ⟨xs, rfl, rfl⟩ | ⟨xs, hx, hn, rfl⟩
    · obtain ⟨a, vs, rfl, e1, t⟩ := rd_tup r1
      exact ⟨a, vs, rfl, .inr ⟨e1.sq, fun p ob hp ho => q f1 _ _ (Ext.upd hp) (A1.sim.upd hp) ⟨RD.newTup A1.sim hp ho t.reverse, fun _ => trivial⟩⟩⟩
    · obtain ⟨a, vs, rfl, t, e1⟩ := isLst_of A1.sim r1 hx hn
      exact ⟨a, vs, rfl, .inl ⟨.of e1, fun p hp => q f1 _ _ (Ext.upd hp) (A1.sim.upd hp) ⟨RD.newLst A1.sim hp t.reverse, fun _ => (Fre.new A1.sim hp t.reverse).back x1.there⟩⟩⟩
/-! calls of defs -/
/-- what a def promises: what its number runs to -/
def spF (Γ : Cst) (call : Call) (n : Nat) (np : Nat) : Sp := fun vs H Q E => vs.length = np ∧ ∃ R B f h ds, Sim Γ.fa f R B h H ∧ (∀ b, B b → b ≤ h.length) ∧ RDs Γ.fa f h.length R H ds vs ∧
  Post Γ.fa f h.length R B H (call n ds h) (fun f h H d v => RD Γ.fa f h.length R H d v) Q (fun c pl f h H => ∀ cls d, ER Γ c pl cls d f R h H → E cls d H)
theorem any_plain {es : List Expr} {env : Env} (h : ∀ e ∈ es, nice e = true) : (backTo pos (starEach es env)).any (·.1) = false := by
  induction es with
  | nil => rfl
  | cons e es ih =>
    rw [nice_star (h e (by simp))]
    show (false || _) = false
    rw [Bool.false_or]
    exact ih fun x hx => h x (by simp [hx])
theorem All2.nice {es : List Expr} {es' : List Ex} (h : All2 (PP X Γ F W) es es') : ∀ e ∈ es, nice e = true := by
  induction h with
  | nil => intro e he; cases he
  | cons hp _ ih =>
    intro e he
    rcases List.mem_cons.mp he with rfl | he
    · exact hp.n
    · exact ih e he
theorem pe_callS0 {CX : CXT} {k : Nat} {f : Addr} {fd : FuncData} {ps : List Str} {sp : Sp} {E : L2.St → XK} {x : Str} {p : Pos} (Fo : FnOk X.prog X.w X.K X.mg X.base CX k f fd ps sp) (hr : Room k X.A) (hg : Gl X x) (hm : X.mg x = some (.ref f)) (hk : PySem.W.keepIn X.K (.ref f) = true) (hb : Binds X.K fd ps []) (hx : ∀ σ, PassesAt CX X σ (E σ))
    (hdb : (x == ("__debug__" : Str)) = false) : PE X (.Call (.Name x p) [] [] pos) (tCallS sp E tNil) := by
  refine ⟨fun pins s σ H Q I h => ?_⟩
  refine wpAny_Call_Name_kw (ld_glob I hg hm ?_ hdb)
  exact PySem.W.callWith_K0 I.kIn hk (run_fnS (us := []) Fo hr hb (hx σ) I .nil h)
theorem snd_call {k : Nat} {fad : Addr} {fd : FuncData} {ps : List Str} {x : Str} {p : Pos} {n np : Nat} {es : List Expr} {es' : List Ex} (tk : Takes X W) (hnp : ∀ ds h, ds.length ≠ np → F.call n ds h = .fail) (Fo : FnOk X.prog X.w X.K X.mg X.base (L2.CX X.prog X.w) k fad fd ps (spF Γ F.call n np)) (hr : Room k X.A) (hg : Gl X x) (hm : X.mg x = some (.ref fad)) (hk : PySem.W.keepIn X.K (.ref fad) = true) (hb : Binds X.K fd ps [])
    (hdb : (x == ("__debug__" : Str)) = false) (ha : All2 (PP X Γ F W) es es') : PE X (.Call (.Name x p) es [] pos) (tE Γ F W (.call n es')) := by
  have run : ∀ (σ : L2.St) (H : Hp) (Q : VK), tE Γ F W (.call n es') σ H Q → tCallS (spF Γ F.call n np) (WE W) (tA Γ F W es') σ H Q := fun σ H Q ⟨R, B, f, h, ds, A, p⟩ => mkA' A p fun xs vs f1 h1 H1 ln x A1 r p1 => by
    have hl : xs.length = np := by
      apply Classical.byContradiction
      intro hl
      have p1 : Post Γ.fa f1 h1.length R B H1 (F.call n xs h1) _ Q _ := p1
      rw [hnp xs h1 hl] at p1
      exact p1
    refine ⟨by rw [← r.length, hl], R, B, f1, h1, xs, A1.sim, fun b hb => Nat.le_trans (A1.bb b hb) A1.bl, r, ?_⟩
    exact Post.bindR p1 fun f' h' H' a b _ _ q => ⟨q, fun z => by cases z⟩
  cases es with
  | nil =>
    cases ha
    exact imE (pe_callS0 Fo hr hg hm hk hb (fun σ => passAt tk σ) hdb) fun σ H Q q => by
      have := run σ H Q q
      obtain ⟨R, B, f, h, ds, A, p⟩ := this
      exact p f H [] .refl A.sim .nil
  | cons e es =>
    exact imE (pe_callS Fo hr hg hm hk hb (fun σ => passAt tk σ) (snd_args ha) hdb (nice_star (ha.nice e (by simp))) (any_plain fun z hz => ha.nice z (by simp [hz]))) run
end
end Ev

set_option Elab.async false
set_option linter.all false
set_option maxRecDepth 100000
set_option maxHeartbeats 2000000
/-! EvJ: built-ins by value. -/
namespace Ev
open PySem PySem.Spec PyProof.Rows L2
def rB (fa : FA) (b : Bi) : List V → Hp → VK → Prop := fun vs H Q => ∃ (f : Nat → Addr) (R : Addr → Prop) (B : Nat → Prop) (h : Hh) (ds : List D) (z : D), Sim fa f R B h H ∧ RDs fa f h.length R H ds vs ∧ biN b h ds = some z ∧
  ∀ H' v, Ext f h.length R H f h.length H' → Sim fa f R B h H' → RD fa f h.length R H' z v → Fre fa f R B h H H' z v → Q v H'
section
variable {fa : FA} {f : Nat → Addr} {R : Addr → Prop} {B : Nat → Prop} {h : Hh} {H : Hp} {n : Nat}
theorem rds1 {d : D} {vs : List V} (r : RDs fa f n R H [d] vs) : ∃ v, vs = [v] ∧ RD fa f n R H d v := by
  cases r with
  | cons a b => cases b; exact ⟨_, rfl, a⟩
theorem rds2 {d e : D} {vs : List V} (r : RDs fa f n R H [d, e] vs) : ∃ v w, vs = [v, w] ∧ RD fa f n R H d v ∧ RD fa f n R H e w := by
  cases r with
  | cons a b =>
    obtain ⟨w, rfl, q⟩ := rds1 b
    exact ⟨_, w, rfl, a, q⟩
/-- two ints, or one thing -/
theorem bi_cases {b : Bi} {ds : List D} {z : D} (e : biN b h ds = some z) : (∃ x, ds = [x] ∧ bi1 b h x = some z) ∨ (∃ i j, ds = [.int i, .int j] ∧ ((b = .max ∧ z = .int (if j > i then j else i)) ∨ (b = .min ∧ z = .int (if j < i then j else i)))) := by
  unfold biN at e
  split at e
  · exact .inl ⟨_, rfl, e⟩
  · cases b <;> first | (cases e; done) | skip
    · exact .inr ⟨_, _, rfl, .inl ⟨rfl, (Option.some.inj e).symm⟩⟩
    · exact .inr ⟨_, _, rfl, .inr ⟨rfl, (Option.some.inj e).symm⟩⟩
  · cases e
theorem bi_one {b : Bi} {ds : List D} {z : D} (e : biN b h ds = some z) (h1 : b ≠ .max) (h2 : b ≠ .min) : ∃ x, ds = [x] ∧ bi1 b h x = some z := by
  rcases bi_cases e with q | ⟨i, j, _, ⟨q, _⟩ | ⟨q, _⟩⟩
  · exact q
  · exact absurd q h1
  · exact absurd q h2
theorem tupB_cases {d z : D} (e : bi1 .tuple h d = some z) : (∃ xs, d = .tup xs ∧ z = .tup xs) ∨ (∃ xs, seqOf h d = some xs ∧ (∀ ys, d ≠ .tup ys) ∧ z = .tup xs) := by
  have g : ∀ d : D, (seqOf h d).map D.tup = some z → (∀ ys, d ≠ .tup ys) → ∃ xs, seqOf h d = some xs ∧ (∀ ys, d ≠ .tup ys) ∧ z = .tup xs := fun d e n => by
    obtain ⟨xs, hx, e2⟩ := Option.map_eq_some_iff.mp e
    exact ⟨xs, hx, n, e2.symm⟩
  cases d with
  | tup xs => cases e; exact .inl ⟨_, rfl, rfl⟩
  | non => exact .inr (g .non e fun _ z => nomatch z)
  | bl b => exact .inr (g (.bl b) e fun _ z => nomatch z)
  | int b => exact .inr (g (.int b) e fun _ z => nomatch z)
  | str b => exact .inr (g (.str b) e fun _ z => nomatch z)
  | lst b => exact .inr (g (.lst b) e fun _ z => nomatch z)
  | dct b c => exact .inr (g (.dct b c) e fun _ z => nomatch z)
  | set b => exact .inr (g (.set b) e fun _ z => nomatch z)
  | ref b => exact .inr (g (.ref b) e fun _ z => nomatch z)
  | fn b => exact .inr (g (.fn b) e fun _ z => nomatch z)
  | scr b => exact .inr (g (.scr b) e fun _ z => nomatch z)
theorem seqL_ok {K : PySem.W.Frag} (s : Sim fa f R B h H) {d : D} {v : V} {xs : List D} (r : RD fa f h.length R H d v) (e : seqL h d = some xs) : ∃ a vs, v = .ref a ∧ RDs fa f h.length R H xs vs ∧ SqL K H a vs := by
  have e1 : seqOf h d = some xs ∧ ∀ ys, d ≠ .tup ys := by
    cases d with
    | tup _ => cases e
    | _ => exact ⟨e, fun _ z => nomatch z⟩
  obtain ⟨a, vs, e2, t, q⟩ := isLst_of s r e1.1 e1.2
  exact ⟨a, vs, e2, t, .of q⟩
theorem allI_ok : ∀ {xs : List D} {vs : List V} {ns : List Int}, RDs fa f n R H xs vs → allI xs = some ns → vs = ns.map V.int
  | [], _, _, .nil, e => by cases e; rfl
  | d :: xs, _, ns, .cons r t, e => by
    cases d with
    | int i =>
      obtain ⟨ms, e1, rfl⟩ := Option.map_eq_some_iff.mp (show (allI xs).map (i :: ·) = some ns from e)
      rw [rd_int r, allI_ok t e1]
      rfl
    | _ => cases e
theorem allB_ok : ∀ {xs : List D} {vs : List V} {ns : List Bool}, RDs fa f n R H xs vs → allB xs = some ns → vs = ns.map V.bl
  | [], _, _, .nil, e => by cases e; rfl
  | d :: xs, _, ns, .cons r t, e => by
    cases d with
    | bl i =>
      obtain ⟨ms, e1, rfl⟩ := Option.map_eq_some_iff.mp (show (allB xs).map (i :: ·) = some ns from e)
      rw [rd_bl r, allB_ok t e1]
      rfl
    | _ => cases e
theorem fold_max : ∀ (ns : List Int) (a : Int), (ns.foldl (fun a b => if a < b then b else a) a ∈ a :: ns) ∧ (∀ y ∈ a :: ns, y ≤ ns.foldl (fun a b => if a < b then b else a) a)
  | [], a => ⟨by simp, fun y hy => by simp at hy; subst hy; simp⟩
  | b :: ns, a => by
    rw [List.foldl_cons]
    by_cases hb : a < b
    · rw [if_pos hb]
      obtain ⟨h1, h2⟩ := fold_max ns b
      refine ⟨List.mem_cons_of_mem _ h1, fun y hy => ?_⟩
      rcases List.mem_cons.mp hy with rfl | hy
      · have := h2 b (by simp); omega
      · exact h2 y hy
    · rw [if_neg hb]
      obtain ⟨h1, h2⟩ := fold_max ns a
      refine ⟨?_, fun y hy => ?_⟩
      · rcases List.mem_cons.mp h1 with e | e
        · rw [e]; simp
        · exact List.mem_cons_of_mem _ (List.mem_cons_of_mem _ e)
      · rcases List.mem_cons.mp hy with rfl | hy
        · exact h2 _ (by simp)
        · rcases List.mem_cons.mp hy with rfl | hy
          · have := h2 a (by simp); omega
          · exact h2 y (List.mem_cons_of_mem _ hy)
theorem fold_min : ∀ (ns : List Int) (a : Int), (ns.foldl (fun a b => if b < a then b else a) a ∈ a :: ns) ∧ (∀ y ∈ a :: ns, ns.foldl (fun a b => if b < a then b else a) a ≤ y)
  | [], a => ⟨by simp, fun y hy => by simp at hy; subst hy; simp⟩
  | b :: ns, a => by
    rw [List.foldl_cons]
    by_cases hb : b < a
    · rw [if_pos hb]
      obtain ⟨h1, h2⟩ := fold_min ns b
      refine ⟨List.mem_cons_of_mem _ h1, fun y hy => ?_⟩
      rcases List.mem_cons.mp hy with rfl | hy
      · have := h2 b (by simp); omega
      · exact h2 y hy
    · rw [if_neg hb]
      obtain ⟨h1, h2⟩ := fold_min ns a
      refine ⟨?_, fun y hy => ?_⟩
      · rcases List.mem_cons.mp h1 with e | e
        · rw [e]; simp
        · exact List.mem_cons_of_mem _ (List.mem_cons_of_mem _ e)
      · rcases List.mem_cons.mp hy with rfl | hy
        · exact h2 _ (by simp)
        · rcases List.mem_cons.mp hy with rfl | hy
          · have := h2 a (by simp); omega
          · exact h2 y (List.mem_cons_of_mem _ hy)
theorem maxI_uniq {ns : List Int} {m k : Int} (e : maxI ns = some k) (hm : m ∈ ns) (hy : ∀ y, y ∈ ns → y ≤ m) : m = k := by
  cases ns with
  | nil => cases e
  | cons n ns =>
    obtain ⟨h1, h2⟩ := fold_max ns n
    have e : ns.foldl (fun a b => if a < b then b else a) n = k := Option.some.inj e
    rw [e] at h1 h2
    have := hy _ h1
    have := h2 _ hm
    omega
theorem minI_uniq {ns : List Int} {m k : Int} (e : minI ns = some k) (hm : m ∈ ns) (hy : ∀ y, y ∈ ns → m ≤ y) : m = k := by
  cases ns with
  | nil => cases e
  | cons n ns =>
    obtain ⟨h1, h2⟩ := fold_min ns n
    have e : ns.foldl (fun a b => if b < a then b else a) n = k := Option.some.inj e
    rw [e] at h1 h2
    have := hy _ h1
    have := h2 _ hm
    omega
end
section
variable {X : Cx} {fa : FA}
theorem cr_len : CallR X (.builtin "len") (rB fa .len) := by
  intro pins s σ H xs us Q I rx hh
  obtain ⟨f, R, B, h, ds, z, sm, rr, ee, q⟩ := hh
  obtain ⟨x, rfl, e⟩ := bi_one ee (by decide) (by decide)
  obtain ⟨v, rfl, r⟩ := rds1 rr
  have t := top_ok sm r
  have e : (match top h x with
    | .tup xs => some (D.int xs.length)
    | .lst xs => some (.int xs.length)
    | .str s => if s.length ≤ 100000 then some (.int s.length) else none
    | _ => none) = some z := e
  cases ht : top h x with
  | tup ys =>
    rw [ht] at e t
    cases e
    obtain ⟨a, vs, rfl, e1, t⟩ := t
    exact call_len pins s σ H _ us Q I rx ⟨_, _, rfl, .inr ⟨vs, e1.sq, rfl⟩, by rw [← t.length]; exact q H _ .refl sm (.int _) trivial⟩
  | lst ys =>
    rw [ht] at e t
    cases e
    obtain ⟨a, vs, rfl, e1, t⟩ := t
    exact call_len pins s σ H _ us Q I rx ⟨_, _, rfl, .inl ⟨vs, .of e1, rfl⟩, by rw [← t.length]; exact q H _ .refl sm (.int _) trivial⟩
  | str y =>
    rw [ht] at e t
    dsimp only at e
    split at e
    · cases e
      rename_i hl
      have := rd_str (show RD fa f h.length R H (.str y) v from t)
      subst this
      exact call_len pins s σ H _ us Q I rx ⟨_, _, rfl, ⟨Nat.le_trans hl line_ge, rfl⟩, q H _ .refl sm (.int _) trivial⟩
    · cases e
  | _ => rw [ht] at e; cases e
theorem cr_abs : CallR X (.builtin "abs") (rB fa .abs) := by
  intro pins s σ H xs us Q I rx hh
  obtain ⟨f, R, B, h, ds, z, sm, rr, ee, q⟩ := hh
  obtain ⟨x, rfl, e⟩ := bi_one ee (by decide) (by decide)
  obtain ⟨v, rfl, r⟩ := rds1 rr
  cases x with
  | int i =>
    cases e
    rw [rd_int r] at rx
    exact call_abs pins s σ H _ us Q I rx ⟨i, rfl, q H _ .refl sm (.int _) trivial⟩
  | _ => cases e
theorem cr_int : CallR X (.type "int") (rB fa .int) := by
  intro pins s σ H xs us Q I rx hh
  obtain ⟨f, R, B, h, ds, z, sm, rr, ee, q⟩ := hh
  obtain ⟨x, rfl, e⟩ := bi_one ee (by decide) (by decide)
  obtain ⟨v, rfl, r⟩ := rds1 rr
  cases x with
  | int i =>
    cases e
    rw [rd_int r] at rx
    exact call_int1 pins s σ H _ us Q I rx (.inl ⟨i, rfl, q H _ .refl sm (.int _) trivial⟩)
  | bl i =>
    cases e
    rw [rd_bl r] at rx
    exact call_int1 pins s σ H _ us Q I rx (.inr ⟨i, rfl, q H _ .refl sm (.int _) trivial⟩)
  | _ => cases e
theorem cr_bool : CallR X (.type "bool") (rB fa .bool) := by
  intro pins s σ H xs us Q I rx hh
  obtain ⟨f, R, B, h, ds, z, sm, rr, ee, q⟩ := hh
  obtain ⟨x, rfl, e⟩ := bi_one ee (by decide) (by decide)
  obtain ⟨v, rfl, r⟩ := rds1 rr
  cases x with
  | int i =>
    cases e
    rw [rd_int r] at rx
    exact call_bool1 pins s σ H _ us Q I rx (.inl ⟨i, rfl, q H _ .refl sm (.bl _) trivial⟩)
  | bl i =>
    cases e
    rw [rd_bl r] at rx
    exact call_bool1 pins s σ H _ us Q I rx (.inr ⟨i, rfl, q H _ .refl sm (.bl _) trivial⟩)
  | _ => cases e
theorem cr_tuple : CallR X (.type "tuple") (rB fa .tuple) := by
  intro pins s σ H xs us Q I rx hh
  obtain ⟨f, R, B, h, ds, z, sm, rr, ee, q⟩ := hh
  obtain ⟨x, rfl, e⟩ := bi_one ee (by decide) (by decide)
  obtain ⟨v, rfl, r⟩ := rds1 rr
  obtain ⟨u, rfl, ru⟩ := vals1 rx
  rcases tupB_cases e with ⟨ys, rfl, rfl⟩ | ⟨xs, e2, nt, rfl⟩
  · have r1 := r
    obtain ⟨a, vs, rfl, e1, t⟩ := rd_tup r
    cases ru
    obtain ⟨its, r', pl, hz⟩ := I.tuple e1.sq
    exact call_tuple_same pl ⟨.ref a, H, I, rfl, q H _ .refl sm r1 trivial⟩
  · obtain ⟨a, vs, rfl, t, e1⟩ := isLst_of sm r e2 nt
    cases ru
    obtain ⟨its, r', pl, hz⟩ := I.list (.of e1)
    refine call_tuple_list pl.isList (fun h' kp => ?_) (by rw [List.size_toArray, ← r'.length]; exact hz)
    have I1 : Inv X pins σ H { s with heap := h' } := I.kept (t' := s.toks) kp
    exact newT_ok I1 hz r' fun p ob hp ho => q _ _ (Ext.upd hp) (sm.upd hp) (RD.newTup sm hp ho t) trivial
theorem cr_list : CallR X (.type "list") (rB fa .list) := by
  intro pins s σ H xs us Q I rx hh
  obtain ⟨f, R, B, h, ds, z, sm, rr, ee, q⟩ := hh
  obtain ⟨x, rfl, e⟩ := bi_one ee (by decide) (by decide)
  obtain ⟨v, rfl, r⟩ := rds1 rr
  obtain ⟨xs, e1, e2⟩ := Option.map_eq_some_iff.mp (show Option.map D.lst (seqOf h _) = some z from e)
  subst e2
  obtain ⟨a, vs, rfl, t, e3⟩ := seqS_ok (K := X.K) sm r e1
  exact call_list_of pins s σ H _ us Q I rx ⟨a, vs, rfl, e3.imp And.left And.left, fun p hp => q _ _ (Ext.upd hp) (sm.upd hp) (RD.newLst sm hp t) (Fre.new sm hp t)⟩
theorem cr_sumB (hc : X.calm = true) : CallR X (.builtin "sum") (rB fa .sum) := by
  intro pins s σ H xs us Q I rx hh
  obtain ⟨f, R, B, h, ds, z, sm, rr, ee, q⟩ := hh
  obtain ⟨x, rfl, e⟩ := bi_one ee (by decide) (by decide)
  obtain ⟨v, rfl, r⟩ := rds1 rr
  obtain ⟨xs, e1, e⟩ := Option.bind_eq_some_iff.mp (show Option.bind (seqL h x) _ = some z from e)
  obtain ⟨ns, e2, rfl⟩ := Option.map_eq_some_iff.mp e
  obtain ⟨a, vs, rfl, t, e3⟩ := seqL_ok (K := X.K) sm r e1
  rw [allI_ok t e2] at e3
  exact cr_sum hc pins s σ H _ us Q I rx ⟨a, ns, rfl, e3, q H _ .refl sm (.int _) trivial⟩
theorem cr_anyB (hc : X.calm = true) : CallR X (.builtin "any") (rB fa .any) := by
  intro pins s σ H xs us Q I rx hh
  obtain ⟨f, R, B, h, ds, z, sm, rr, ee, q⟩ := hh
  obtain ⟨x, rfl, e⟩ := bi_one ee (by decide) (by decide)
  obtain ⟨v, rfl, r⟩ := rds1 rr
  obtain ⟨xs, e1, e⟩ := Option.bind_eq_some_iff.mp (show Option.bind (seqL h x) _ = some z from e)
  obtain ⟨ns, e2, rfl⟩ := Option.map_eq_some_iff.mp e
  obtain ⟨a, vs, rfl, t, e3⟩ := seqL_ok (K := X.K) sm r e1
  rw [allB_ok t e2] at e3
  exact cr_any hc pins s σ H _ us Q I rx ⟨a, ns, rfl, e3, q H _ .refl sm (.bl _) trivial⟩
theorem cr_allB (hc : X.calm = true) : CallR X (.builtin "all") (rB fa .all) := by
  intro pins s σ H xs us Q I rx hh
  obtain ⟨f, R, B, h, ds, z, sm, rr, ee, q⟩ := hh
  obtain ⟨x, rfl, e⟩ := bi_one ee (by decide) (by decide)
  obtain ⟨v, rfl, r⟩ := rds1 rr
  obtain ⟨xs, e1, e⟩ := Option.bind_eq_some_iff.mp (show Option.bind (seqL h x) _ = some z from e)
  obtain ⟨ns, e2, rfl⟩ := Option.map_eq_some_iff.mp e
  obtain ⟨a, vs, rfl, t, e3⟩ := seqL_ok (K := X.K) sm r e1
  rw [allB_ok t e2] at e3
  exact cr_all hc pins s σ H _ us Q I rx ⟨a, ns, rfl, e3, q H _ .refl sm (.bl _) trivial⟩
theorem cr_maxB (hc : X.calm = true) : CallR X (.builtin "max") (rB fa .max) := by
  intro pins s σ H xs us Q I rx hh
  obtain ⟨f, R, B, h, ds, z, sm, rr, ee, q⟩ := hh
  rcases bi_cases ee with ⟨x, rfl, e⟩ | ⟨i, j, rfl, ⟨_, rfl⟩ | ⟨w, _⟩⟩
  · obtain ⟨v, rfl, r⟩ := rds1 rr
    obtain ⟨xs, e1, e⟩ := Option.bind_eq_some_iff.mp (show Option.bind (seqL h x) _ = some z from e)
    obtain ⟨ns, e2, e⟩ := Option.bind_eq_some_iff.mp e
    obtain ⟨k, e4, rfl⟩ := Option.map_eq_some_iff.mp e
    obtain ⟨a, vs, rfl, t, e3⟩ := seqL_ok (K := X.K) sm r e1
    rw [allI_ok t e2] at e3
    refine cr_max hc pins s σ H _ us Q I rx ⟨a, ns, rfl, e3, ?_, fun m hm hy => ?_⟩
    · cases ns with
      | nil => cases e4
      | cons _ _ => simp
    · rw [maxI_uniq e4 hm hy]; exact q H _ .refl sm (.int _) trivial
  · obtain ⟨v, w, rfl, r1, r2⟩ := rds2 rr
    rw [rd_int r1, rd_int r2] at rx
    exact call_max2 hc pins s σ H _ us Q I rx ⟨i, j, rfl, q H _ .refl sm (.int _) trivial⟩
  · cases w
theorem cr_minB (hc : X.calm = true) : CallR X (.builtin "min") (rB fa .min) := by
  intro pins s σ H xs us Q I rx hh
  obtain ⟨f, R, B, h, ds, z, sm, rr, ee, q⟩ := hh
  rcases bi_cases ee with ⟨x, rfl, e⟩ | ⟨i, j, rfl, ⟨w, _⟩ | ⟨_, rfl⟩⟩
  · obtain ⟨v, rfl, r⟩ := rds1 rr
    obtain ⟨xs, e1, e⟩ := Option.bind_eq_some_iff.mp (show Option.bind (seqL h x) _ = some z from e)
    obtain ⟨ns, e2, e⟩ := Option.bind_eq_some_iff.mp e
    obtain ⟨k, e4, rfl⟩ := Option.map_eq_some_iff.mp e
    obtain ⟨a, vs, rfl, t, e3⟩ := seqL_ok (K := X.K) sm r e1
    rw [allI_ok t e2] at e3
    refine cr_min hc pins s σ H _ us Q I rx ⟨a, ns, rfl, e3, ?_, fun m hm hy => ?_⟩
    · cases ns with
      | nil => cases e4
      | cons _ _ => simp
    · rw [minI_uniq e4 hm hy]; exact q H _ .refl sm (.int _) trivial
  · cases w
  · obtain ⟨v, w, rfl, r1, r2⟩ := rds2 rr
    rw [rd_int r1, rd_int r2] at rx
    exact call_min2 hc pins s σ H _ us Q I rx ⟨i, j, rfl, q H _ .refl sm (.int _) trivial⟩
end
end Ev

set_option Elab.async false
set_option linter.all false
set_option maxRecDepth 100000
set_option maxHeartbeats 4000000
/-! EvT: sorted. -/
namespace Ev
open PySem PySem.Spec PyProof.Rows L2
/-! ### an order of rows of ints -/
def ltK : List Int → List Int → Bool
  | _, [] => false
  | [], _ :: _ => true
  | a :: as, b :: bs => if a = b then ltK as bs else decide (a < b)
theorem ltK_asym : ∀ as bs, ltK as bs = true → ltK bs as = false
  | [], [], h => by cases h
  | [], _ :: _, _ => rfl
  | _ :: _, [], h => by cases h
  | a :: as, b :: bs, h => by
    unfold ltK at h ⊢
    split at h
    · rename_i e
      rw [if_pos e.symm]
      exact ltK_asym as bs h
    · rename_i e
      rw [if_neg (Ne.symm e)]
      have := of_decide_eq_true h
      exact decide_eq_false (by omega)
theorem ltK_tr : ∀ as bs cs, ltK bs as = false → ltK cs bs = false → ltK cs as = false
  | as, bs, [], h1, h2 => by
    cases as with
    | nil => rfl
    | cons a as =>
      cases bs with
      | nil => cases h1
      | cons b bs => cases h2
  | [], _, c :: cs, _, _ => rfl
  | a :: as, [], c :: cs, h1, h2 => by cases h1
  | a :: as, b :: bs, c :: cs, h1, h2 => by
    unfold ltK at h1 h2 ⊢
    split at h1
    · rename_i e1
      subst e1
      split at h2
      · rename_i e2
        subst e2
        rw [if_pos rfl]
        exact ltK_tr as bs cs h1 h2
      · rename_i e2
        rw [if_neg e2]
        exact h2
    · rename_i e1
      have p1 := of_decide_eq_false h1
      split at h2
      · rename_i e2
        subst e2
        rw [if_neg e1]
        exact h1
      · rename_i e2
        have p2 := of_decide_eq_false h2
        rw [if_neg (by omega)]
        exact decide_eq_false (by omega)
/-- rows that first differ where b tells -/
inductive Dif (b : Bool) : List Int → List Int → Prop
  | here {x y : Int} {as bs : List Int} : x ≠ y → b = decide (x < y) → Dif b (x :: as) (y :: bs)
  | there {x : Int} {as bs : List Int} : Dif b as bs → Dif b (x :: as) (x :: bs)
theorem Dif.lt {b : Bool} {as bs : List Int} (h : Dif b as bs) : ltK as bs = b := by
  induction h with
  | here h e => unfold ltK; rw [if_neg h, e]
  | there _ ih => unfold ltK; rw [if_pos rfl]; exact ih
theorem Dif.app {b : Bool} {as bs : List Int} (h : Dif b as bs) (r t : List Int) : Dif b (as ++ r) (bs ++ t) := by
  induction h with
  | here h e => exact .here h e
  | there _ ih => exact .there ih
theorem Dif.pre {b : Bool} {as bs : List Int} (h : Dif b as bs) : ∀ p : List Int, Dif b (p ++ as) (p ++ bs)
  | [] => h
  | _ :: p => .there (Dif.pre h p)
theorem ltK_refl (as : List Int) : ltK as as = false := by
  cases h : ltK as as with
  | false => rfl
  | true => have := ltK_asym as as h; rw [h] at this; cases this
mutual
/-- a datum's row -/
def enc : D → List Int
  | .int i => [i]
  | .tup xs => encs xs
  | _ => []
def encs : List D → List Int
  | [] => [0]
  | x :: xs => 1 :: (enc x ++ encs xs)
end
theorem sI_plain : ∀ (n : Nat) (d : D), sI n d = true → plain n d = true
  | n, .int _, _ => by cases n <;> rfl
  | n + 1, .tup xs, h => by
    have h : xs.all (sI n) = true := h
    show xs.all (plain n) = true
    rw [List.all_eq_true] at h ⊢
    exact fun x hx => sI_plain n x (h x hx)
  | 0, .tup xs, h => by cases h
  | n, .non, h => by cases n <;> cases h
  | n, .bl _, h => by cases n <;> cases h
  | n, .str _, h => by cases n <;> cases h
  | n, .lst _, h => by cases n <;> cases h
  | n, .dct _ _, h => by cases n <;> cases h
  | n, .set _, h => by cases n <;> cases h
  | n, .ref _, h => by cases n <;> cases h
  | n, .fn _, h => by cases n <;> cases h
  | n, .scr _, h => by cases n <;> cases h
mutual
theorem enc_eq : ∀ (d e : D) (n m : Nat), sI n d = true → sI m e = true → eqD d e = true → enc d = enc e
  | .int i, e, n, m, h1, h2, h => by
    cases e with
    | int j =>
      have h : (i == j) = true := h
      rw [eq_of_beq h]
    | tup _ => cases h
    | _ => cases m <;> cases h2
  | .tup xs, e, n, m, h1, h2, h => by
    cases e with
    | int j => cases h
    | tup ys =>
      obtain ⟨n', rfl, k1⟩ := sI_tup h1
      obtain ⟨m', rfl, k2⟩ := sI_tup h2
      exact encs_eq xs ys n' m' k1 k2 h
    | _ => cases m <;> cases h2
  | .non, _, n, _, h, _, _ => by cases n <;> cases h
  | .bl _, _, n, _, h, _, _ => by cases n <;> cases h
  | .str _, _, n, _, h, _, _ => by cases n <;> cases h
  | .lst _, _, n, _, h, _, _ => by cases n <;> cases h
  | .dct _ _, _, n, _, h, _, _ => by cases n <;> cases h
  | .set _, _, n, _, h, _, _ => by cases n <;> cases h
  | .ref _, _, n, _, h, _, _ => by cases n <;> cases h
  | .fn _, _, n, _, h, _, _ => by cases n <;> cases h
  | .scr _, _, n, _, h, _, _ => by cases n <;> cases h
theorem encs_eq : ∀ (xs ys : List D) (n m : Nat), (∀ x ∈ xs, sI n x = true) → (∀ x ∈ ys, sI m x = true) → eqDs xs ys = true → encs xs = encs ys
  | [], [], _, _, _, _, _ => rfl
  | [], _ :: _, _, _, _, _, h => by cases h
  | _ :: _, [], _, _, _, _, h => by cases h
  | x :: xs, y :: ys, n, m, h1, h2, h => by
    have h : (eqD x y && eqDs xs ys) = true := h
    obtain ⟨a, b⟩ := Bool.and_eq_true_iff.mp h
    unfold encs
    rw [enc_eq x y n m (h1 x (by simp)) (h2 y (by simp)) a, encs_eq xs ys n m (fun z hz => h1 z (by simp [hz])) (fun z hz => h2 z (by simp [hz])) b]
end
mutual
theorem enc_lt : ∀ (d e : D) (n m : Nat) (b : Bool), sI n d = true → sI m e = true → ltD d e = some b → (eqD d e = true ∧ b = false) ∨ (eqD d e = false ∧ Dif b (enc d) (enc e))
  | .int i, e, n, m, b, h1, h2, h => by
    cases e with
    | int j =>
      cases h
      by_cases e : i = j
      · subst e; exact .inl ⟨beq_self_eq_true i, decide_eq_false (by omega)⟩
      · exact .inr ⟨beq_eq_false_iff_ne.mpr e, .here e rfl⟩
    | tup _ => cases h
    | _ => cases m <;> cases h2
  | .tup xs, e, n, m, b, h1, h2, h => by
    cases e with
    | int j => cases h
    | tup ys =>
      obtain ⟨n', rfl, k1⟩ := sI_tup h1
      obtain ⟨m', rfl, k2⟩ := sI_tup h2
      exact encs_lt xs ys n' m' b k1 k2 h
    | _ => cases m <;> cases h2
  | .non, _, n, _, _, h, _, _ => by cases n <;> cases h
  | .bl _, _, n, _, _, h, _, _ => by cases n <;> cases h
  | .str _, _, n, _, _, h, _, _ => by cases n <;> cases h
  | .lst _, _, n, _, _, h, _, _ => by cases n <;> cases h
  | .dct _ _, _, n, _, _, h, _, _ => by cases n <;> cases h
  | .set _, _, n, _, _, h, _, _ => by cases n <;> cases h
  | .ref _, _, n, _, _, h, _, _ => by cases n <;> cases h
  | .fn _, _, n, _, _, h, _, _ => by cases n <;> cases h
  | .scr _, _, n, _, _, h, _, _ => by cases n <;> cases h
theorem encs_lt : ∀ (xs ys : List D) (n m : Nat) (b : Bool), (∀ x ∈ xs, sI n x = true) → (∀ x ∈ ys, sI m x = true) → ltDs xs ys = some b → (eqDs xs ys = true ∧ b = false) ∨ (eqDs xs ys = false ∧ Dif b (encs xs) (encs ys))
  | [], [], _, _, _, _, _, h => by cases h; exact .inl ⟨rfl, rfl⟩
  | [], _ :: _, _, _, _, _, _, h => by cases h; exact .inr ⟨rfl, .here (by decide) (by decide)⟩
  | _ :: _, [], _, _, _, _, _, h => by cases h; exact .inr ⟨rfl, .here (by decide) (by decide)⟩
  | x :: xs, y :: ys, n, m, b, h1, h2, h => by
    have h : (if eqD x y = true then ltDs xs ys else ltD x y) = some b := h
    have e0 : eqDs (x :: xs) (y :: ys) = (eqD x y && eqDs xs ys) := rfl
    rw [e0]
    unfold encs
    cases q : eqD x y with
    | true =>
      rw [if_pos q] at h
      rw [enc_eq x y n m (h1 x (by simp)) (h2 y (by simp)) q]
      rcases encs_lt xs ys n m b (fun z hz => h1 z (by simp [hz])) (fun z hz => h2 z (by simp [hz])) h with ⟨a, c⟩ | ⟨a, c⟩
      · exact .inl ⟨by rw [a]; rfl, c⟩
      · exact .inr ⟨by rw [a]; rfl, .there (c.pre _)⟩
    | false =>
      rw [if_neg (by rw [q]; decide)] at h
      rcases enc_lt x y n m b (h1 x (by simp)) (h2 y (by simp)) h with ⟨a, _⟩ | ⟨_, c⟩
      · rw [q] at a; cases a
      · exact .inr ⟨rfl, .there (c.app _ _)⟩
end
/-- the order of data -/
def ltE (x y : D) : Bool := ltK (enc x) (enc y)
theorem ltE_swo : SrtO.Swo ltE := ⟨fun x y => ltK_asym _ _, fun x y z => ltK_tr _ _ _⟩
theorem ltE_of {d e : D} {n m : Nat} {b : Bool} (h1 : sI n d = true) (h2 : sI m e = true) (h : ltD d e = some b) : ltE d e = b := by
  rcases enc_lt d e n m b h1 h2 h with ⟨a, c⟩ | ⟨_, c⟩
  · unfold ltE
    rw [enc_eq d e n m h1 h2 a, ltK_refl, c]
  · exact c.lt
/-! ### the merge -/
open SrtO in
theorem mrg_ok {n : Nat} : ∀ (k : Nat) (as bs out : List D), (∀ x ∈ as, sI n x = true) → (∀ x ∈ bs, sI n x = true) → Srtd ltE as → Srtd ltE bs → mrg k as bs = some out → Srtd ltE out ∧ Stb ltE out (as ++ bs)
  | k, [], bs, out, _, _, _, s2, e => by
    have e : some bs = some out := by cases k <;> exact e
    cases e
    exact ⟨s2, .refl _⟩
  | k, a :: as, [], out, _, _, s1, _, e => by
    have e : some (a :: as) = some out := by cases k <;> exact e
    cases e
    exact ⟨s1, by rw [List.append_nil]; exact .refl _⟩
  | 0, _ :: _, _ :: _, _, _, _, _, _, e => by cases e
  | k + 1, a :: as, b :: bs, out, h1, h2, s1, s2, e => by
    have e : (match ltD b a with
    | some true => (mrg k (a :: as) bs).map (b :: ·)
    | some false => (mrg k as (b :: bs)).map (a :: ·)
    | none => none) = some out := e
    have hb := h2 b (by simp)
    have ha := h1 a (by simp)
    split at e
    · rename_i hl
      obtain ⟨m1, e1, rfl⟩ := Option.map_eq_some_iff.mp e
      obtain ⟨q1, q2⟩ := mrg_ok k (a :: as) bs m1 h1 (fun x hx => h2 x (by simp [hx])) s1 (List.pairwise_cons.mp s2).2 e1
      have l := ltE_of hb ha hl
      have lall := ltE_swo.lt_all s1 l
      refine ⟨List.pairwise_cons.mpr ⟨fun y hy => ?_, q1⟩, ?_⟩
      · rcases List.mem_append.mp (q2.perm.mem_iff.mp hy) with hy | hy
        · exact ltE_swo.asym _ _ (lall y hy)
        · exact srtd_head s2 y hy
      · have t1 : Stb ltE ([b] ++ m1) ([b] ++ ((a :: as) ++ bs)) := (Stb.refl [b]).app q2
        have t2 : Stb ltE ([b] ++ (a :: as)) ((a :: as) ++ [b]) := Stb.swap ltE_swo fun x hx y hy => by rw [List.mem_singleton.mp hx]; exact lall y hy
        have t3 := t2.app (Stb.refl bs)
        have t4 := t1.trans (by rw [← List.append_assoc]; exact t3)
        rw [List.append_assoc] at t4
        exact t4
    · rename_i hl
      obtain ⟨m1, e1, rfl⟩ := Option.map_eq_some_iff.mp e
      obtain ⟨q1, q2⟩ := mrg_ok k as (b :: bs) m1 (fun x hx => h1 x (by simp [hx])) h2 (List.pairwise_cons.mp s1).2 s2 e1
      have l := ltE_of hb ha hl
      have lall := ltE_swo.le_all s2 (x := b) (y := a) l
      refine ⟨List.pairwise_cons.mpr ⟨fun y hy => ?_, q1⟩, ?_⟩
      · rcases List.mem_append.mp (q2.perm.mem_iff.mp hy) with hy | hy
        · exact srtd_head s1 y hy
        · exact lall y hy
      · exact (Stb.refl [a]).app q2
    · cases e
open SrtO in
theorem sortN_ok {n : Nat} : ∀ (k : Nat) (xs out : List D), (∀ x ∈ xs, sI n x = true) → sortN k xs = some out → Srtd ltE out ∧ Stb ltE out xs
  | k, [], out, _, e => by
    have e : some [] = some out := by cases k <;> exact e
    cases e
    exact ⟨.nil, .refl _⟩
  | k, [x], out, _, e => by
    have e : some [x] = some out := by cases k <;> exact e
    cases e
    exact ⟨srtd_one x, .refl _⟩
  | 0, _ :: _ :: _, _, _, e => by cases e
  | k + 1, x :: y :: r, out, h, e => by
    have e : (match sortN k ((x :: y :: r).take ((x :: y :: r).length / 2)), sortN k ((x :: y :: r).drop ((x :: y :: r).length / 2)) with
    | some a, some b => mrg (x :: y :: r).length a b
    | _, _ => none) = some out := e
    split at e
    · rename_i a b ea eb
      obtain ⟨p1, p2⟩ := sortN_ok k _ _ (fun z hz => h z (List.mem_of_mem_take hz)) ea
      obtain ⟨q1, q2⟩ := sortN_ok k _ _ (fun z hz => h z (List.mem_of_mem_drop hz)) eb
      obtain ⟨t1, t2⟩ := mrg_ok (n := n) _ a b out (fun z hz => h z (List.mem_of_mem_take (p2.perm.mem_iff.mp hz))) (fun z hz => h z (List.mem_of_mem_drop (q2.perm.mem_iff.mp hz))) p1 q1 e
      refine ⟨t1, t2.trans ?_⟩
      have := p2.app q2
      rw [List.take_append_drop] at this
      exact this
    · cases e
/-! ### sorted by value -/
theorem ints_lt : ∀ (xs ys : List D), xs.all isI = true → ys.all isI = true → (ltDs xs ys).isSome = true
  | [], [], _, _ => rfl
  | [], _ :: _, _, _ => rfl
  | _ :: _, [], _, _ => rfl
  | x :: xs, y :: ys, h1, h2 => by
    obtain ⟨a1, b1⟩ := Bool.and_eq_true_iff.mp (show (isI x && xs.all isI) = true from h1)
    obtain ⟨a2, b2⟩ := Bool.and_eq_true_iff.mp (show (isI y && ys.all isI) = true from h2)
    show (if eqD x y = true then ltDs xs ys else ltD x y).isSome = true
    split
    · exact ints_lt xs ys b1 b2
    · cases x <;> cases a1
      cases y <;> cases a2
      rfl
theorem rowI_lt {x y : D} (h1 : rowI x = true) (h2 : rowI y = true) : (ltD x y).isSome = true := by
  cases x <;> first | cases h1 | skip
  cases y <;> first | cases h2 | skip
  exact ints_lt _ _ h1 h2
theorem rows_lt : ∀ (xs ys : List D), xs.all rowI = true → ys.all rowI = true → (ltDs xs ys).isSome = true
  | [], [], _, _ => rfl
  | [], _ :: _, _, _ => rfl
  | _ :: _, [], _, _ => rfl
  | x :: xs, y :: ys, h1, h2 => by
    obtain ⟨a1, b1⟩ := Bool.and_eq_true_iff.mp (show (rowI x && xs.all rowI) = true from h1)
    obtain ⟨a2, b2⟩ := Bool.and_eq_true_iff.mp (show (rowI y && ys.all rowI) = true from h2)
    show (if eqD x y = true then ltDs xs ys else ltD x y).isSome = true
    split
    · exact rows_lt xs ys b1 b2
    · exact rowI_lt a1 a2
theorem rowT_lt {x y : D} (h1 : rowT x = true) (h2 : rowT y = true) : (ltD x y).isSome = true := by
  cases x <;> first | cases h1 | skip
  cases y <;> first | cases h2 | skip
  exact rows_lt _ _ h1 h2
theorem okSort_ok {xs : List D} (h : okSort xs = true) : xs.length ≤ 1 ∨ xs.all isI = true ∨ ((xs.all hdI = true ∨ xs.all hdT = true ∨ (hdE xs = true ∧ xs.all isTup = true)) ∧ ∀ x ∈ xs, ∀ y ∈ xs, ∃ b, ltD x y = some b) := by
  unfold okSort at h
  simp only [Bool.or_eq_true, Bool.and_eq_true, decide_eq_true_eq] at h
  rcases h with (h | h) | ⟨h1, h2⟩
  · exact .inl h
  · exact .inr (.inl h)
  · refine .inr (.inr ⟨by rcases h1 with (h1 | h1) | h1 <;> simp [h1], fun x hx y hy => Option.isSome_iff_exists.mp ?_⟩)
    rcases h2 with (h2 | h2) | h2
    · exact rowI_lt (List.all_eq_true.mp h2 x hx) (List.all_eq_true.mp h2 y hy)
    · exact rowT_lt (List.all_eq_true.mp h2 x hx) (List.all_eq_true.mp h2 y hy)
    · exact List.all_eq_true.mp (List.all_eq_true.mp h2 x hx) y hy
section
variable {fa : FA} {f : Nat → Addr} {n : Nat} {R : Addr → Prop} {H : Hp}
mutual
theorem RD.uniq : ∀ {d e : D} {v : V} {m k : Nat}, RD fa f n R H d v → RD fa f n R H e v → sI m d = true → sI k e = true → d = e
  | .int i, e, v, m, k, r1, r2, h1, h2 => by
    cases r1
    cases r2
    rfl
  | .tup xs, e, v, m, k, r1, r2, h1, h2 => by
    obtain ⟨m', rfl, k1⟩ := sI_tup h1
    cases r1 with
    | tup e1 o1 t1 =>
      cases e with
      | tup ys =>
        obtain ⟨k', rfl, k2⟩ := sI_tup h2
        cases r2 with
        | tup e2 o2 t2 =>
          obtain ⟨_, q1, _⟩ := e1
          obtain ⟨_, q2, _⟩ := e2
          rw [q1] at q2
          cases q2
          rw [RDs.uniq t1 t2 k1 k2]
      | int _ => cases r2
      | _ => cases k <;> cases h2
  | .non, _, _, n, _, _, _, h, _ => by cases n <;> cases h
  | .bl _, _, _, n, _, _, _, h, _ => by cases n <;> cases h
  | .str _, _, _, n, _, _, _, h, _ => by cases n <;> cases h
  | .lst _, _, _, n, _, _, _, h, _ => by cases n <;> cases h
  | .dct _ _, _, _, n, _, _, _, h, _ => by cases n <;> cases h
  | .set _, _, _, n, _, _, _, h, _ => by cases n <;> cases h
  | .ref _, _, _, n, _, _, _, h, _ => by cases n <;> cases h
  | .fn _, _, _, n, _, _, _, h, _ => by cases n <;> cases h
  | .scr _, _, _, n, _, _, _, h, _ => by cases n <;> cases h
theorem RDs.uniq : ∀ {xs ys : List D} {vs : List V} {m k : Nat}, RDs fa f n R H xs vs → RDs fa f n R H ys vs → (∀ x ∈ xs, sI m x = true) → (∀ x ∈ ys, sI k x = true) → xs = ys
  | [], _, _, _, _, .nil, .nil, _, _ => rfl
  | x :: xs, _, _, _, _, .cons r1 t1, .cons r2 t2, h1, h2 => by
    rw [RD.uniq r1 r2 (h1 _ (by simp)) (h2 _ (by simp)), RDs.uniq t1 t2 (fun z hz => h1 z (by simp [hz])) (fun z hz => h2 z (by simp [hz]))]
end
/-- the datum that a value stands for -/
def Rep (fa : FA) (f : Nat → Addr) (n : Nat) (R : Addr → Prop) (H : Hp) (u : Value) (d : D) : Prop := sI 8 d = true ∧ ∃ v, RD fa f n R H d v ∧ RelV v u
theorem Rep.uniq {u : Value} {d e : D} (h1 : Rep fa f n R H u d) (h2 : Rep fa f n R H u e) : d = e := by
  obtain ⟨a, v, r, q⟩ := h1
  obtain ⟨b, w, r', q'⟩ := h2
  rw [q.inj q'] at r
  exact r.uniq r' a b
noncomputable def dOf (fa : FA) (f : Nat → Addr) (n : Nat) (R : Addr → Prop) (H : Hp) (u : Value) : D := by
  classical
  exact if h : ∃ d, Rep fa f n R H u d then h.choose else .non
theorem dOf_eq {u : Value} {d : D} (h : Rep fa f n R H u d) : dOf fa f n R H u = d := by
  unfold dOf
  have e : ∃ d, Rep fa f n R H u d := ⟨d, h⟩
  rw [dif_pos e]
  exact e.choose_spec.uniq h
theorem reps : ∀ {xs : List D} {vs : List V} {us : List Value}, RDs fa f n R H xs vs → Vals vs us → (∀ x ∈ xs, sI 8 x = true) → us.map (dOf fa f n R H) = xs ∧ ∀ u ∈ us, ∃ d ∈ xs, Rep fa f n R H u d
  | _, _, _, .nil, .nil, _ => ⟨rfl, fun u hu => absurd hu (by simp)⟩
  | d :: xs, _, u :: us, .cons r t, .cons q p, h => by
    obtain ⟨h1, h2⟩ := reps t p fun z hz => h z (by simp [hz])
    have hr : Rep fa f n R H u d := ⟨h d (by simp), _, r, q⟩
    refine ⟨by rw [List.map_cons, h1, dOf_eq hr], fun w hw => ?_⟩
    rcases List.mem_cons.mp hw with e | hw
    · subst e; exact ⟨d, by simp, hr⟩
    · obtain ⟨e, he, q⟩ := h2 w hw
      exact ⟨e, by simp [he], q⟩
def vOf : Value → V
  | .ref a => .ref a
  | .int i _ => .int i
  | _ => .non
theorem vOf_ok {u : Value} {d : D} (h : Rep fa f n R H u d) : RD fa f n R H d (vOf u) ∧ RelV (vOf u) u := by
  obtain ⟨a, v, r, q⟩ := h
  cases r with
  | int i =>
    obtain ⟨t, rfl⟩ := q
    exact ⟨.int i, t, rfl⟩
  | tup e o t =>
    cases q
    exact ⟨.tup e o t, rfl⟩
  | _ => cases a
theorem reps_out {out : List Value} (h : ∀ u ∈ out, ∃ d, Rep fa f n R H u d) : RDs fa f n R H (out.map (dOf fa f n R H)) (out.map vOf) ∧ Vals (out.map vOf) out := by
  induction out with
  | nil => exact ⟨.nil, .nil⟩
  | cons u out ih =>
    obtain ⟨i1, i2⟩ := ih fun w hw => h w (by simp [hw])
    obtain ⟨d, hr⟩ := h u (by simp)
    obtain ⟨q1, q2⟩ := vOf_ok hr
    rw [← dOf_eq hr] at q1
    exact ⟨.cons q1 i1, .cons q2 i2⟩
end
section
variable {X : Cx} {pins : List (Addr × Obj)} {σ : L2.St} {H : Hp} {s : Shared} {fa : FA} {f : Nat → Addr} {n : Nat} {R : Addr → Prop}
theorem kat_ok (I : Inv X pins σ H s) {prog : Program} {w : World} {A : Around} (hu : A.units + 90 < cLine) {b fin r : Bool} : ∀ (ds es : List D) (vs ws : List V) (us us' : List Value) (i : Nat), (∀ x ∈ ds, sI 7 x = true) → (∀ x ∈ es, sI 7 x = true) → RDs fa f n R H ds vs → RDs fa f n R H es ws → Vals vs us → Vals ws us' →
    ltDs ds es = some r → fin = decide (us.length < us'.length) → ((b && i == 0) = true → (∀ d ∈ ds.head?, isI d = true) ∧ ∀ d ∈ es.head?, isI d = true) → PySem.W.KatLex prog w A b fin (fun r' s' => s' = s ∧ r' = r) (us.zip us') i s
  | [], [], _, _, _, _, _, _, _, .nil, .nil, .nil, .nil, h, hf, _ => by
    cases h
    subst hf
    exact PySem.W.kat_nil ⟨rfl, rfl⟩
  | [], _ :: _, _, _, _, _, _, _, _, .nil, .cons _ _, .nil, .cons _ _, h, hf, _ => by
    cases h
    subst hf
    exact PySem.W.kat_nil ⟨rfl, decide_eq_true (Nat.succ_pos _)⟩
  | _ :: _, [], _, _, _, _, _, _, _, .cons _ _, .nil, .cons _ _, .nil, h, hf, _ => by
    cases h
    subst hf
    exact PySem.W.kat_nil ⟨rfl, decide_eq_false (Nat.not_lt_zero _)⟩
  | d :: ds, e :: es, _, _, _, _, i, h1, h2, .cons r1 t1, .cons r2 t2, .cons q1 p1, .cons q2 p2, h, hf, hb => by
    have h : (if eqD d e = true then ltDs ds es else ltD d e) = some r := h
    rw [List.zip_cons_cons]
    refine PySem.W.kat_cons (eqAt_ok I r1 r2 (sI_plain 7 d (h1 d (by simp))) (sI_plain 7 e (h2 e (by simp))) (by decide) q1 q2 A (by omega) _ _ _ _ (PySem.W.kat_go (fun e1 => ?_) fun e1 => ?_))
    · rw [if_pos e1] at h
      exact PySem.W.kat_yes (kat_ok I hu ds es _ _ _ _ (i + 1) (fun z hz => h1 z (by simp [hz])) (fun z hz => h2 z (by simp [hz])) t1 t2 p1 p2 h (by rw [hf]; simp) (fun z => by simp at z))
    · rw [if_neg (by rw [e1]; decide)] at h
      refine PySem.W.kat_no ?_
      cases hbi : (b && i == 0) with
      | false => exact PySem.W.kat_one _ _ (ltv_ok I d e 7 7 _ _ _ _ r (sI_plain 7 d (h1 d (by simp))) (sI_plain 7 e (h2 e (by simp))) (by decide) r1 r2 q1 q2 h A (by omega) prog w _ _ ⟨rfl, rfl⟩)
      | true =>
        obtain ⟨b1, b2⟩ := hb hbi
        have b1 := b1 d rfl
        have b2 := b2 e rfl
        cases d <;> cases b1
        cases e <;> cases b2
        cases r1; cases r2
        obtain ⟨t, rfl⟩ := q1
        obtain ⟨t', rfl⟩ := q2
        cases h
        exact oneLt_int ⟨rfl, rfl⟩
theorem tup_parts (I : Inv X pins σ H s) {u : Value} {xs : List D} (h : Rep fa f n R H u (.tup xs)) : ∃ a vs, ∃ its : List Value, u = .ref a ∧ RDs fa f n R H xs vs ∧ Vals vs its ∧ IsTup s.heap a its.toArray ∧ ∀ x ∈ xs, sI 7 x = true := by
  obtain ⟨hs, v, r, q⟩ := h
  obtain ⟨a, vs, rfl, e1, t1⟩ := rd_tup r
  cases q
  obtain ⟨its, rv, p, _⟩ := I.tuple e1.sq
  exact ⟨a, vs, its, rfl, t1, rv, p, List.all_eq_true.mp hs⟩
theorem firsts_ok (I : Inv X pins σ H s) {g : D → Bool} {P : Value → Prop} (hg : ∀ u d, g d = true → Rep fa f n R H u d → ∃ a its fst, u = .ref a ∧ IsTup s.heap a its ∧ its[0]? = some fst ∧ P fst) :
    ∀ {us : List Value}, (∀ u ∈ us, ∃ d, g d = true ∧ Rep fa f n R H u d) → ∃ fs, PySem.W.KatTups s.heap us fs ∧ fs.length = us.length ∧ ∀ v ∈ fs, P v
  | [], _ => ⟨[], PySem.W.KatTups.nil, rfl, fun v hv => absurd hv (by simp)⟩
  | u :: us, h => by
    obtain ⟨fs, h1, h2, h3⟩ := firsts_ok I hg (us := us) fun w hw => h w (by simp [hw])
    obtain ⟨d, hd, hr⟩ := h u (by simp)
    obtain ⟨a, its, fst, rfl, ⟨o, ho, hc, k, hq⟩, hf, hp⟩ := hg u d hd hr
    refine ⟨fst :: fs, PySem.W.KatTups.cons ho hc hq hf h1, by rw [List.length_cons, List.length_cons, h2], fun v hv => ?_⟩
    rcases List.mem_cons.mp hv with e | hv
    · subst e; exact hp
    · exact h3 v hv
theorem hdI_first (I : Inv X pins σ H s) (u : Value) (d : D) (h : hdI d = true) (r : Rep fa f n R H u d) : ∃ a its fst, u = .ref a ∧ IsTup s.heap a its ∧ its[0]? = some fst ∧ ∃ i t, fst = .int i t := by
  cases d with
  | tup xs =>
    obtain ⟨a, vs, its, rfl, t1, rv, p, _⟩ := tup_parts I r
    cases xs with
    | nil => cases h
    | cons x xs =>
      cases x with
      | int i =>
        cases t1 with
        | cons r1 t1 =>
          cases rv with
          | cons q1 q2 =>
            cases r1
            obtain ⟨t, rfl⟩ := q1
            exact ⟨a, _, .int i t, rfl, p, rfl, i, t, rfl⟩
      | _ => cases h
  | _ => cases h
theorem hdT_first (I : Inv X pins σ H s) (u : Value) (d : D) (h : hdT d = true) (r : Rep fa f n R H u d) : ∃ a its fst, u = .ref a ∧ IsTup s.heap a its ∧ its[0]? = some fst ∧ ∃ b o, fst = .ref b ∧ s.heap.get? b = some o ∧ o.cls = .type "tuple" := by
  cases d with
  | tup xs =>
    obtain ⟨a, vs, its, rfl, t1, rv, p, hs⟩ := tup_parts I r
    cases xs with
    | nil => cases h
    | cons x xs =>
      cases x with
      | tup ys =>
        cases t1 with
        | cons r1 t1 =>
          cases rv with
          | cons q1 q2 =>
            obtain ⟨b, ws, rfl, e1, _⟩ := rd_tup r1
            cases q1
            obtain ⟨its2, _, ⟨o, ho, hc, _⟩, _⟩ := I.tuple e1.sq
            exact ⟨a, _, .ref b, rfl, p, rfl, b, o, rfl, ho, hc⟩
      | _ => cases h
  | _ => cases h
theorem hd_tup {d : D} (h : hdI d = true ∨ hdT d = true) : ∃ xs, d = .tup xs := by
  cases d with
  | tup xs => exact ⟨xs, rfl⟩
  | _ => rcases h with h | h <;> cases h
/-- tuples compare as their data do -/
theorem tup_cmp (I : Inv X pins σ H s) {prog : Program} {w : World} {A : Around} (hu : A.units + 90 < cLine) {b : Bool} {its : List Value} {xs : List D} (hr : ∀ u ∈ its, ∃ d ∈ xs, Rep fa f n R H u d) (ht : ∀ d ∈ xs, ∃ ys, d = .tup ys) (hb : b = true → ∀ d ∈ xs, hdI d = true)
    (hl : ∀ x ∈ xs, ∀ y ∈ xs, ∃ b, ltD x y = some b) : SrtO.Cmp prog w A s (tuples' b) (fun p => p.1 ∈ its) (SrtO.lt2 fun u u' => ltE (dOf fa f n R H u) (dOf fa f n R H u')) := by
  intro p q hm hm'
  obtain ⟨d, hd, r1⟩ := hr _ hm
  obtain ⟨e, he, r2⟩ := hr _ hm'
  show wpAny (model prog w) A (keyLt' (tuples' b) p.1 q.1) (fun r s' => s' = s ∧ r = ltE (dOf fa f n R H p.1) (dOf fa f n R H q.1)) (fun _ _ => False) s
  rw [dOf_eq r1, dOf_eq r2]
  obtain ⟨r, hlt⟩ := hl d hd e he
  rw [ltE_of r1.1 r2.1 hlt]
  have hb1 : b = true → hdI d = true ∧ hdI e = true := fun z => ⟨hb z d hd, hb z e he⟩
  obtain ⟨ds, rfl⟩ := ht d hd
  obtain ⟨es, rfl⟩ := ht e he
  obtain ⟨a, vs, us, e1, t1, rv1, ⟨o, ho, hc, k1, hq⟩, hs1⟩ := tup_parts I r1
  obtain ⟨a', ws, us', e2, t2, rv2, ⟨o', ho', hc', k2, hq'⟩, hs2⟩ := tup_parts I r2
  rw [e1, e2]
  refine PySem.W.kat_lt ho hq ho' hq' ?_
  refine kat_ok I hu ds es vs ws us us' 0 hs1 hs2 t1 t2 rv1 rv2 hlt (by simp) fun z => ?_
  obtain ⟨z1, _⟩ := Bool.and_eq_true_iff.mp z
  obtain ⟨g1, g2⟩ := hb1 z1
  refine ⟨fun x hx => ?_, fun x hx => ?_⟩
  · cases ds with
    | nil => cases hx
    | cons y ys => cases hx; cases x <;> first | rfl | cases g1
  · cases es with
    | nil => cases hx
    | cons y ys => cases hx; cases x <;> first | rfl | cases g2
/-- one of two tuples, as the first test of a sort asks it -/
theorem oneLt_tup {prog : Program} {w : World} {A : Around} {E : Value → Shared → Prop} {l c : Addr} {as bs : Array Value} {r : Bool} {Q : Bool → Shared → Prop} (hl : IsTup s.heap l as) (hc : IsTup s.heap c bs) (hL : LtL A.in1 s as.toList bs.toList r) (hu : A.units < cLine) (h : Q r s) :
    wpAny (model prog w) A (oneLt' true (.ref l) (.ref c)) Q E s := by
  obtain ⟨⟨c1, d1, dt1, s1⟩, o1, t1, n1, q1⟩ := hl
  obtain ⟨⟨c2, d2, dt2, s2⟩, o2, t2, n2, q2⟩ := hc
  simp only at t1 q1 t2 q2
  subst t1 q1 t2 q2
  have g : wpAny (model prog w) A (call (.builtin "tuple.__lt__") [.ref l, .ref c]) (fun v s' => v = .bool r ∧ s' = s) E s :=
    call_meets PySem.F.slot_tuple_lt ⟨_, o1, rfl⟩ PySem.F.entry_tuple_lt (PySem.F.args_tuple_lt_2 _ _) (tuple_lt_gen l c as bs n1 n2 d1 d2 s1 s2 r) ⟨o1, o2, hL, rfl, rfl⟩
  rw [oneLt'_eq, if_pos rfl]
  refine wpAny_bind (wpAny_cRoomFor hu (wpAny_bind (wpAny_callSpecialIfBound?_slot ⟨_, o1, rfl⟩ PySem.F.slot_tuple_lt (wpAny_mono g (fun v s' hv => ?_) fun _ _ z => z))))
  obtain ⟨rfl, rfl⟩ := hv
  exact wpAny_truthy_bool h
/-- tuples and what stands first in each -/
inductive Fst (h : Heap) : List Value → List (Option Value) → Prop
  | nil : Fst h [] []
  | cons {a : Addr} {its : Array Value} {us : List Value} {fs : List (Option Value)} : IsTup h a its → Fst h us fs → Fst h (.ref a :: us) (its[0]? :: fs)
theorem fst_run {M : Model} {A : Around} {E : Value → Shared → Prop} {us : List Value} {fs : List (Option Value)} (t : Fst s.heap us fs) : ∀ {Q : List (Option Value) → Shared → Prop}, Q fs s → wpAny M A (us.mapM firstOfTuple') Q E s := by
  induction t with
  | nil =>
    intro Q h
    exact (List.mapM_nil (m := Sem) (f := firstOfTuple')).symm ▸ wpAny_pure h
  | cons ht _ ih =>
    intro Q h
    obtain ⟨ob, e1, e2, n, e3⟩ := ht
    rw [List.mapM_cons, PySem.W.kas_first_eq]
    have ty : PySem.W.Looks M s.heap (typeOf (.ref _)) ob.cls := (PySem.W.Looks.ld e1).andThen .now
    have ne : (ob.cls != Value.type "tuple") = false := by rw [e2]; decide
    refine wpAny_bind (wpAny_bind (ty.here ?_))
    rw [ne]
    exact wpAny_bind (listItems_at e1 e3 (wpAny_pure (wpAny_bind (ih (Q := fun bs s' => wpAny M A (pure (_ :: bs)) Q E s') (wpAny_pure h)))))
theorem fst_of (I : Inv X pins σ H s) : ∀ {us : List Value} {ds : List D}, (∀ d ∈ ds, isTup d = true) → us.map (dOf fa f n R H) = ds → (∀ u ∈ us, ∃ d ∈ ds, Rep fa f n R H u d) → ∃ fs, Fst s.heap us fs ∧ fs.length = us.length ∧ (hdE ds = true → fs.head? = some none)
  | [], ds, _, e, _ => by
    subst e
    exact ⟨[], .nil, rfl, fun z => by cases z⟩
  | u :: us, ds, ht, e, hr => by
    have key : ∀ w ∈ u :: us, Rep fa f n R H w (dOf fa f n R H w) := fun w hw => by
      obtain ⟨d, _, q⟩ := hr w hw
      rw [dOf_eq q]
      exact q
    obtain ⟨fs, h1, h2, _⟩ := fst_of I (us := us) (ds := us.map (dOf fa f n R H)) (fun d hd => ht d (by rw [← e]; exact List.mem_cons_of_mem _ hd)) rfl fun w hw => ⟨_, List.mem_map.mpr ⟨w, hw, rfl⟩, key w (List.mem_cons_of_mem _ hw)⟩
    have h0 := key u (by simp)
    have t0 := ht (dOf fa f n R H u) (by rw [← e]; simp)
    rw [← e]
    rw [List.map_cons]
    generalize dOf fa f n R H u = d0 at h0 t0
    cases d0 <;> cases t0
    rename_i ys
    obtain ⟨a, vs, its, rfl, t1, rv, p, _⟩ := tup_parts I h0
    refine ⟨_, .cons p h1, by rw [List.length_cons, List.length_cons, h2], fun z => ?_⟩
    cases ys with
    | cons _ _ => cases z
    | nil =>
      cases t1
      cases rv
      rfl
/-- where the first is empty, the sort compares tuples as such -/
theorem kind_empty (I : Inv X pins σ H s) {M : Model} {A : Around} {us : List Value} {ds : List D} (ht : ∀ d ∈ ds, isTup d = true) (e : us.map (dOf fa f n R H) = ds) (hr : ∀ u ∈ us, ∃ d ∈ ds, Rep fa f n R H u d) (he : hdE ds = true) {Q : SortKind → Shared → Prop} {E : Value → Shared → Prop} (h : Q oneType' s) :
    wpAny M A (keyKind' us.toArray) Q E s := by
  obtain ⟨fs, f1, f2, f3⟩ := fst_of I ht e hr
  have f3 := f3 he
  obtain ⟨fr, rfl⟩ : ∃ fr, fs = none :: fr := by
    cases fs with
    | nil => cases f3
    | cons x fr => cases f3; exact ⟨fr, rfl⟩
  have tt : ∀ u ∈ us, PySem.W.Looks M s.heap (typeOf u) (.type "tuple") := fun u hu => by
    obtain ⟨d, hd, q⟩ := hr u hu
    have := ht d hd
    cases d <;> cases this
    obtain ⟨a, _, _, rfl, _, _, ⟨ob, e1, e2, _⟩, _⟩ := tup_parts I q
    rw [← e2]
    exact (PySem.W.Looks.ld e1).andThen .now
  rw [keyKind'_eq, List.mapM_toArray, map_eq_pure_bind]
  refine wpAny_bind (wpAny_bind (fst_run f1 (wpAny_pure ?_)))
  have a1 : ((none :: fr).toArray.all fun x : Option Value => x.isSome) = false := by simp
  rw [a1, if_neg Bool.false_ne_true]
  have a2 : (((none :: fr : List (Option Value)).toArray[0]?).bind id).isSome = false := by simp
  rw [a2, if_neg Bool.false_ne_true, oneTypeOnly'_eq, List.mapM_toArray, map_eq_pure_bind]
  refine wpAny_bind (wpAny_bind (wpAny_bind (PySem.W.kas_mapM (r := Value.type "tuple") us (fun u hu Q' q => (tt u hu).here q) (wpAny_pure ?_))))
  have a3 : (us.map fun _ => Value.type "tuple").toArray.all (fun x => x == Value.type "tuple") = true := by
    simp only [List.all_toArray, List.all_map, List.all_eq_true]
    intro _ _
    rfl
  cases us with
  | nil => rw [List.length_nil, List.length_cons] at f2; omega
  | cons u us =>
    have a4 : ((u :: us).map fun _ => Value.type "tuple").toArray[0]? = some (Value.type "tuple") := by simp
    rw [a4]
    simp only [a3, if_true]
    exact wpAny_pure (wpAny_pure h)
theorem empty_cmp (I : Inv X pins σ H s) {prog : Program} {w : World} {A : Around} (hu : A.units + 90 < cLine) {its : List Value} {xs : List D} (hr : ∀ u ∈ its, ∃ d ∈ xs, Rep fa f n R H u d) (ht : ∀ d ∈ xs, isTup d = true)
    (hl : ∀ x ∈ xs, ∀ y ∈ xs, ∃ b, ltD x y = some b) : SrtO.Cmp prog w A s oneType' (fun p => p.1 ∈ its) (SrtO.lt2 fun u u' => ltE (dOf fa f n R H u) (dOf fa f n R H u')) := by
  intro p q hm hm'
  obtain ⟨d, hd, r1⟩ := hr _ hm
  obtain ⟨e, he, r2⟩ := hr _ hm'
  show wpAny (model prog w) A (keyLt' oneType' p.1 q.1) (fun r s' => s' = s ∧ r = ltE (dOf fa f n R H p.1) (dOf fa f n R H q.1)) (fun _ _ => False) s
  rw [dOf_eq r1, dOf_eq r2, keyLt'_oneType]
  obtain ⟨r, hlt⟩ := hl d hd e he
  rw [ltE_of r1.1 r2.1 hlt]
  have td := ht d hd
  have te := ht e he
  cases d <;> cases td
  cases e <;> cases te
  obtain ⟨a, vs, us, e1, t1, rv1, p1, hs1⟩ := tup_parts I r1
  obtain ⟨a', ws, us', e2, t2, rv2, p2, hs2⟩ := tup_parts I r2
  rw [e1, e2]
  refine oneLt_tup p1 p2 ?_ (by omega) ⟨rfl, rfl⟩
  exact lts_ok I _ _ 7 7 _ _ _ _ _ (fun x hx => sI_plain 7 x (hs1 x hx)) (fun x hx => sI_plain 7 x (hs2 x hx)) (by decide) t1 t2 rv1 rv2 hlt A.in1 (by rw [in1_units]; omega)
theorem allI_of : ∀ {xs : List D}, xs.all isI = true → ∃ ns, allI xs = some ns
  | [], _ => ⟨[], rfl⟩
  | x :: xs, h => by
    obtain ⟨a, b⟩ := Bool.and_eq_true_iff.mp (show (isI x && xs.all isI) = true from h)
    obtain ⟨ns, e⟩ := allI_of b
    cases x <;> cases a
    rename_i i
    refine ⟨i :: ns, ?_⟩
    unfold allI
    rw [e]
    rfl
theorem srt_able (I : Inv X pins σ H s) {prog : Program} {w : World} {A : Around} (hu : A.units + 90 < cLine) {xs : List D} {vs : List V} {its : List Value} (r : RDs fa f n R H xs vs) (rv : Vals vs its) (hs : ∀ x ∈ xs, sI 8 x = true) (ok : okSort xs = true) (h2 : 2 ≤ its.length)
    {h₁ : Heap} {a : Addr} (ha : h₁.get? a = some (seqObj "list" its.toArray 0)) (kk : ∀ b o, s.heap.get? b = some o → b ≠ a ∧ h₁.get? b = some o) :
    SrtO.SortableO prog w A { s with heap := h₁ } a its (fun u u' => ltE (dOf fa f n R H u) (dOf fa f n R H u')) := by
  intro h' keep
  have I' : Inv X pins σ H { s with heap := h' } := I.kept (t' := s.toks) (fun b o e => keep b o (kk b o e).1 (kk b o e).2)
  have hl : xs.length = its.length := by rw [r.length, rv.length]
  obtain ⟨hmp, hr⟩ := reps r rv hs
  rcases okSort_ok ok with h | h | ⟨h, hlt⟩
  · omega
  · obtain ⟨ns, hn⟩ := allI_of h
    have hv := allI_ok r hn
    rw [hv] at rv
    have hI := rv.ints
    refine ⟨oneType', fun Q E hq => ?_, fun p q hm hm' => ?_⟩
    · match its, hI, h2 with
      | v1 :: v2 :: rest, hI, _ =>
        rw [keyKind_ints hI]
        exact wpAny_pure hq
      | [], _, h => exact absurd h (by decide)
      | [v], _, h => exact absurd h (by simp)
    · obtain ⟨d, hd, r1⟩ := hr _ hm
      obtain ⟨e, he, r2⟩ := hr _ hm'
      show wpAny (model prog w) A (keyLt' oneType' p.1 q.1) (fun r s' => s' = _ ∧ r = ltE (dOf fa f n R H p.1) (dOf fa f n R H q.1)) (fun _ _ => False) _
      rw [dOf_eq r1, dOf_eq r2, keyLt'_oneType]
      have i1 := List.all_eq_true.mp h d hd
      have i2 := List.all_eq_true.mp h e he
      cases d <;> cases i1
      cases e <;> cases i2
      rename_i i j
      rw [ltE_of (n := 8) (m := 8) (b := decide (i < j)) rfl rfl rfl]
      obtain ⟨_, v, w1, q1⟩ := r1
      obtain ⟨_, v', w2, q2⟩ := r2
      cases w1
      cases w2
      obtain ⟨t, e1⟩ := q1
      obtain ⟨t', e2⟩ := q2
      rw [e1, e2]
      exact oneLt_int ⟨rfl, rfl⟩
  · rcases h with h | h | ⟨he, h⟩
    · have hh := List.all_eq_true.mp h
      refine ⟨tuples' true, fun Q E hq => ?_, tup_cmp I' hu hr (fun d hd => hd_tup (.inl (hh d hd))) (fun _ d hd => hh d hd) hlt⟩
      obtain ⟨fs, f1, f2, f3⟩ := firsts_ok I' (hdI_first I') (us := its) fun u hu => by
        obtain ⟨d, hd, q⟩ := hr u hu
        exact ⟨d, hh d hd, q⟩
      refine PySem.W.kat_kind (T := .type "int") f1 (by omega) (fun f hm => ?_) (by rfl) ?_
      · obtain ⟨x, t, rfl⟩ := f3 f hm
        exact PySem.W.Looks.now
      · have e : (Value.type "int" != Value.type "tuple") = true := by first | decide +kernel | rfl | decide
        rw [e]
        exact hq
    · have hh := List.all_eq_true.mp h
      refine ⟨tuples' false, fun Q E hq => ?_, tup_cmp I' hu hr (fun d hd => hd_tup (.inr (hh d hd))) (fun z => by cases z) hlt⟩
      obtain ⟨fs, f1, f2, f3⟩ := firsts_ok I' (hdT_first I') (us := its) fun u hu => by
        obtain ⟨d, hd, q⟩ := hr u hu
        exact ⟨d, hh d hd, q⟩
      refine PySem.W.kat_kind (T := .type "tuple") f1 (by omega) (fun f hm => ?_) (by rfl) ?_
      · obtain ⟨b, o, rfl, ho, hc⟩ := f3 f hm
        rw [← hc]
        exact (PySem.W.Looks.ld ho).andThen .now
      · have e : (Value.type "tuple" != Value.type "tuple") = false := by first | decide +kernel | rfl | decide
        rw [e]
        exact hq
    · have hh := List.all_eq_true.mp h
      exact ⟨oneType', fun Q E hq => kind_empty I' hh hmp hr he hq, empty_cmp I' hu hr hh hlt⟩
/-- what a tuple holds, collected -/
theorem collect_tp {prog : Program} {w : World} {A : Around} {E : Value → Shared → Prop} {l : Addr} {vs : List Value} {Q : List Value → Shared → Prop} (ht : IsTup s.heap l vs.toArray) (hz : vs.length ≤ sizeLine)
    (q : Q vs { s with heap := (s.heap.push (seqObj "list" #[] 0)).update s.heap.objs.size (Obj.mapSeq (· ++ vs.toArray)) }) : wpAny (model prog w) A (collect (.ref l)) Q E s := by
  obtain ⟨ob, e1, e2, n, e3⟩ := ht
  have e4 : (s.heap.push (seqObj "list" #[] 0)).get? l = some ob := Heap.get?_push_of_some _ e1
  have own : (s.heap.push (seqObj "list" #[] 0)).get? s.heap.objs.size = some (seqObj "list" #[] 0) := Heap.get?_push_size _ rfl
  have ne : (Value.type "tuple" == Value.type "tuple") = true := beq_self_eq_true _
  have sm : ((#[] : Array Value) ++ vs.toArray).toList = vs := by simp
  refine wpAny_bind (wpAny_runValue (codeAny_builtin entry_proto_collect' (wpAny_bind (wpAny_newList (wpAny_pure ⟨Code.quiet_builtin _ (by decide +kernel), codeAny_builtin entry_list_iadd' ?_⟩)))))
  refine wpAny_bind (m := typeOf (.ref l)) (wpAny_typeOf (T := "tuple") ⟨ob, e4, e2⟩ ?_)
  rw [if_pos (by rw [ne]; simp)]
  refine wpAny_bind (listItems_at e4 e3 (wpAny_bind (listItems_at (xs := #[]) (n := 0) own rfl ?_)))
  rw [if_neg (by simp)]
  refine wpAny_bind (listUpdate_at (xs := #[]) (n := 0) own rfl (wpAny_pure (wpAny_bind (wpAny_load (get?_update_seq own _) ?_))) (Nat.zero_le _) (by show (#[] ++ vs.toArray).size ≤ sizeLine + 1; simp only [Array.size_append, List.size_toArray, List.length_nil]; omega))
  exact (show wpAny (model prog w) A (pure ((#[] : Array Value) ++ vs.toArray).toList) Q E _ from sm.symm ▸ wpAny_pure q)
/-- sorted of a tuple -/
theorem sorted_tp {prog : Program} {w : World} {A : Around} {E : Value → Shared → Prop} {l : Addr} {vs : List Value} {ltv : Value → Value → Bool} {Q : Value → Shared → Prop} (O : SrtO.Swo ltv) (ht : IsTup s.heap l vs.toArray) (hz : vs.length ≤ sizeLine)
    (able : 2 ≤ vs.length → ∀ (h₁ : Heap) (a : Addr), h₁.get? a = some (seqObj "list" vs.toArray 0) → (∀ b o, s.heap.get? b = some o → b ≠ a ∧ h₁.get? b = some o) → SrtO.SortableO prog w A.in1.in1 { s with heap := h₁ } a vs ltv)
    (q : ∀ out : List Value, SrtO.Srtd ltv out → SrtO.Stb ltv out vs → Q (.ref (s.heap.objs.size + 1)) { s with heap := sortedAll s.heap vs out.toArray }) : wpAny (model prog w) A (call (.builtin "sorted") [.ref l]) Q E s := by
  have sz : ((s.heap.push (seqObj "list" #[] 0)).update s.heap.objs.size (Obj.mapSeq (· ++ vs.toArray))).objs.size = s.heap.objs.size + 1 := (Heap.size_update _ _ _).trans (size_push' _ _)
  refine Calls.call_function_entry kind_sorted plain_sorted entry_sorted (args_sorted1 _) (wpAny_bind (m := checkCount "sorted" 1 1 _) (wpAny_pure (wpAny_bind (collect_tp ht hz (wpAny_bind (wpAny_newList ?_ hz))))))
  have new : (((s.heap.push (seqObj "list" #[] 0)).update s.heap.objs.size (Obj.mapSeq (· ++ vs.toArray))).push (seqObj "list" vs.toArray 0)).get? (s.heap.objs.size + 1) = some (seqObj "list" vs.toArray 0) := by
    rw [← sz]
    exact Heap.get?_push_size _ rfl
  have old : ∀ b o, s.heap.get? b = some o → b ≠ s.heap.objs.size + 1 ∧ (((s.heap.push (seqObj "list" #[] 0)).update s.heap.objs.size (Obj.mapSeq (· ++ vs.toArray))).push (seqObj "list" vs.toArray 0)).get? b = some o := fun b o e => by
    have lt : b < s.heap.objs.size := Heap.lt_size e
    have nb : b ≠ s.heap.objs.size := Nat.ne_of_lt lt
    exact ⟨Nat.ne_of_lt (Nat.lt_succ_of_lt lt), Heap.get?_push_of_some _ (by rw [Heap.get?_update_ne _ _ _ _ nb]; exact Heap.get?_push_of_some _ e)⟩
  show wpAny _ _ _ _ _ { s with heap := (((s.heap.push (seqObj "list" #[] 0)).update s.heap.objs.size (Obj.mapSeq (· ++ vs.toArray))).push (seqObj "list" vs.toArray 0)) }
  rw [sz]
  exact wpAny_bind (wpAny_holding (wpAny_call_entry slot_list_sort ⟨_, new, rfl⟩ entry_list_sort (SrtO.list_sort_ord O new hz (fun h2 => able h2 _ _ new old) fun out hs hb => ⟨_, rfl, wpAny_pure ⟨_, rfl, q out hs hb⟩⟩) (args_list_sort _)))
/-- a dict's keys, walked -/
theorem kdl_raw {prog : Program} {w : World} {d : Addr} {es : Array DictEntry} {ep : Nat} (lo : (d == sysModules) = false) : PySem.W.KdlSrc prog w "dict" d d es.size (fun i v => ∃ hi : i < es.size, v = es[i].key) (fun h => h.DictRaw d es ep) where
  type := fun _ x => x.typeIs
  there := fun _ x => by obtain ⟨o, e, _⟩ := x; exact ⟨Heap.lt_size e, Heap.lt_size e⟩
  keep := fun _ _ x hk => x.at fun o e => hk d (.inl rfl) o e
  notList := by decide
  notTuple := by decide
  hint := fun _ _ _ _ x hq => PySem.W.kdl_hint_dict x.typeIs hq
  iter := fun _ _ hh x => ⟨_, _, (fun _ _ hq => wpAny_pyIter_dict_raw lo x hq), Walks.rawKeys hh _ d (by obtain ⟨o, e, _⟩ := x; exact Nat.ne_of_lt (Heap.lt_size e)) es ep, ⟨⟨_, Heap.get?_push_size _ rfl, rfl, rfl⟩, x.at fun o e => Heap.get?_push_of_some _ e⟩⟩
theorem acc_keys {es : Array DictEntry} {acc : Array Value} (h : ItemsOf (fun i v => ∃ hi : i < es.size, v = es[i].key) acc es.size) : acc.toList = es.toList.map (·.key) := by
  refine List.ext_getElem? fun i => ?_
  rw [List.getElem?_map]
  cases q : acc.toList[i]? with
  | none =>
    have : acc.toList.length ≤ i := List.getElem?_eq_none_iff.mp q
    rw [Array.length_toList, h.1] at this
    rw [List.getElem?_eq_none (by simpa using this)]
    rfl
  | some v =>
    obtain ⟨hi, e⟩ := h.2 i v (by rw [← Array.getElem?_toList]; exact q)
    rw [List.getElem?_eq_getElem (by simpa using hi)]
    simp [e]
/-- sorted of a dict -/
theorem sorted_raw {prog : Program} {w : World} {A : Around} {E : Value → Shared → Prop} {d : Addr} {es : Array DictEntry} {ep : Nat} {vs : List Value} {ltv : Value → Value → Bool} {Q : Value → Shared → Prop} (lo : (d == sysModules) = false) (hm : s.heap.DictRaw d es ep) (hv : es.toList.map (·.key) = vs)
    (hh : A.handled = none) (O : SrtO.Swo ltv) (hz : vs.length ≤ sizeLine)
    (able : 2 ≤ vs.length → ∀ (h0 : Heap) (tk : Nat) (h₁ : Heap) (a : Addr), (∀ b o, s.heap.get? b = some o → h0.get? b = some o) → h₁.get? a = some (seqObj "list" vs.toArray 0) → (∀ b o, h0.get? b = some o → b ≠ a ∧ h₁.get? b = some o) → SrtO.SortableO prog w A.in1.in1 { s with heap := h₁, toks := tk } a vs ltv)
    (q : ∀ (h0 : Heap) (tk : Nat) (h' : Heap) (out : List Value), SrtO.Srtd ltv out → SrtO.Stb ltv out vs → (∀ b o, s.heap.get? b = some o → h0.get? b = some o) → (∀ b o, h0.get? b = some o → h'.get? b = some o) → (∃ e, h'.get? h0.objs.size = some (seqObj "list" out.toArray e)) → Q (.ref h0.objs.size) { s with heap := h', toks := tk }) : wpAny (model prog w) A (call (.builtin "sorted") [.ref d]) Q E s := by
  have hes : es.size = vs.length := by
    have := congrArg List.length hv
    simpa using this
  refine Calls.call_function_entry kind_sorted plain_sorted entry_sorted (args_sorted1 _) (wpAny_bind (m := checkCount "sorted" 1 1 _) (wpAny_pure (wpAny_bind (PySem.W.kdu_collect (A := A.in1) (kdl_raw lo) hh hm (by rw [hes]; exact hz) fun h0 tk acc hk hacc => ?_))))
  have ha := (acc_keys hacc).trans hv
  rw [ha]
  refine wpAny_bind (wpAny_newList ?_ hz)
  have new : (h0.push (seqObj "list" vs.toArray 0)).get? h0.objs.size = some (seqObj "list" vs.toArray 0) := Heap.get?_push_size _ rfl
  have old : ∀ b o, h0.get? b = some o → b ≠ h0.objs.size ∧ (h0.push (seqObj "list" vs.toArray 0)).get? b = some o := fun b o e => ⟨Nat.ne_of_lt (Heap.lt_size e), Heap.get?_push_of_some _ e⟩
  show wpAny _ _ _ _ _ { s with heap := h0.push (seqObj "list" vs.toArray 0), toks := tk }
  refine wpAny_bind (wpAny_holding (wpAny_call_entry slot_list_sort ⟨_, new, rfl⟩ entry_list_sort (SrtO.list_sort_ord O new hz (fun h2 => able h2 h0 tk _ _ hk new old) fun out hs hb => ⟨_, rfl, wpAny_pure ⟨_, rfl, ?_⟩⟩) (args_list_sort _)))
  refine q h0 tk _ out hs hb hk (fun b o e => ?_) (PyProof.Rows.sortedHeap_at new)
  have lt := Heap.lt_size e
  rw [PyProof.Rows.sortedHeap_old (Nat.ne_of_lt lt) (by rw [size_push']; exact Nat.lt_succ_of_lt lt)]
  exact (old b o e).2
/-- sets of tuples, in order -/
theorem lt_code : ∀ (p q : List Int), p.length = q.length → TS.Bd 64 p → TS.Bd 64 q → TS.code 64 p ≤ TS.code 64 q → p ≠ q → ltDs (p.map .int) (q.map .int) = some true
  | [], [], _, _, _, _, ne => absurd rfl ne
  | [], _ :: _, hl, _, _, _, _ => by simp at hl
  | _ :: _, [], hl, _, _, _, _ => by simp at hl
  | x :: p, y :: q, hl, h1, h2, h, ne => by
    have hl' : p.length = q.length := by simpa using hl
    show (if eqD (.int x) (.int y) = true then ltDs (p.map .int) (q.map .int) else some (decide (x < y))) = some true
    have e0 : eqD (.int x) (.int y) = (x == y) := rfl
    rw [e0]
    by_cases e : x = y
    · subst e
      rw [if_pos (by simp)]
      refine lt_code p q hl' h1.tail h2.tail ?_ fun z => ne (by rw [z])
      have : TS.code 64 (x :: p) = x * 64 ^ p.length + TS.code 64 p := rfl
      have h3 : TS.code 64 (x :: q) = x * 64 ^ q.length + TS.code 64 q := rfl
      rw [this, h3, hl'] at h
      omega
    · rw [if_neg (by simpa using e)]
      rcases Int.lt_or_lt_of_ne e with c | c
      · rw [decide_eq_true c]
      · have := TS.code_lt hl'.symm h2.tail h1.tail c
        omega
theorem ltD_asym {a b : D} {n m : Nat} (ha : sI n a = true) (hb : sI m b = true) (h1 : ltD a b = some true) (h2 : ltD b a = some true) : False := by
  have e1 := ltE_of (n := n) (m := m) ha hb h1
  have e2 := ltE_of (n := m) (m := n) hb ha h2
  have := ltE_swo.asym _ _ e1
  rw [e2] at this
  cases this
theorem tI_sI (p : List Int) : sI 8 (tI' p) = true := by
  show (List.map D.int p).all (sI 7) = true
  rw [List.all_eq_true]
  intro x hx
  obtain ⟨i, _, rfl⟩ := List.mem_map.mp hx
  rfl
theorem setK_out {xs : List D} {L L' : List (Addr × List Int)} (k : SetK xs L) (pm : L'.Perm L) (nd : (L'.map (·.2)).Nodup) (pw : L'.Pairwise (fun q r => TS.code 64 q.2 ≤ TS.code 64 r.2)) : L'.map (fun p => tI' p.2) = xs := by
  obtain ⟨k1, k2, d, hd, k3⟩ := k
  have hb : ∀ p ∈ L', p.2.length = d ∧ TS.Bd 64 p.2 := fun p hp => k3 p (pm.mem_iff.mp hp)
  have sorted : (L'.map fun p => tI' p.2).Pairwise (fun a b => ltD a b = some true) := by
    rw [List.pairwise_map]
    have nd2 : L'.Pairwise (fun a b => a.2 ≠ b.2) := by
      have := nd
      unfold List.Nodup at this
      rw [List.pairwise_map] at this
      exact this
    refine (pw.and nd2).imp_of_mem fun {a b} ha hb' ⟨c1, c2⟩ => ?_
    exact lt_code a.2 b.2 ((hb a ha).1.trans (hb b hb').1.symm) (hb a ha).2 (hb b hb').2 c1 c2
  have pm2 : (L'.map fun p => tI' p.2).Perm xs := (pm.map _).trans k1.symm
  refine pm2.eq_of_pairwise (fun a b ha hb' h1 h2 => ?_) sorted k2
  exfalso
  obtain ⟨p, _, rfl⟩ := List.mem_map.mp ha
  obtain ⟨q, _, rfl⟩ := List.mem_map.mp (pm2.mem_iff.mpr hb')
  exact ltD_asym (tI_sI _) (tI_sI _) h1 h2
theorem rds_mem {α : Type} {g : α → D} {r : α → V} {fa : FA} {f : Nat → Addr} {n : Nat} {R : Addr → Prop} {H : Hp} : ∀ {L : List α}, RDs fa f n R H (L.map g) (L.map r) → ∀ x ∈ L, RD fa f n R H (g x) (r x)
  | [], _, _, hx => by cases hx
  | y :: L, q, x, hx => by
    cases q with
    | cons q1 q2 =>
      rcases List.mem_cons.mp hx with rfl | hx
      · exact q1
      · exact rds_mem q2 x hx
theorem rds_all {α : Type} {g : α → D} {r : α → V} {fa : FA} {f : Nat → Addr} {n : Nat} {R : Addr → Prop} {H : Hp} : ∀ {L : List α}, (∀ x ∈ L, RD fa f n R H (g x) (r x)) → RDs fa f n R H (L.map g) (L.map r)
  | [], _ => .nil
  | y :: L, h => .cons (h y (by simp)) (rds_all fun x hx => h x (by simp [hx]))
theorem rds_ints {fa : FA} {f : Nat → Addr} {n : Nat} {R : Addr → Prop} {H : Hp} : ∀ {p : List Int} {vs : List V}, RDs fa f n R H (p.map .int) vs → vs = p.map .int
  | [], _, r => by cases r; rfl
  | i :: p, _, r => by
    cases r with
    | cons r1 r2 =>
      cases r1
      rw [rds_ints r2]
      rfl
theorem tI_sq {K : PySem.W.Frag} {fa : FA} {f : Nat → Addr} {n : Nat} {R : Addr → Prop} {H : Hp} {p : List Int} {a : Addr} (r : RD fa f n R H (tI' p) (.ref a)) : SqT K H a (p.map .int) := by
  cases r with
  | tup e o t =>
    rw [rds_ints t] at e
    exact e.sq
theorem sz_all {xs : List D} {ws : List V} {fa : FA} {f : Nat → Addr} {n : Nat} {R : Addr → Prop} {H : Hp} (t : RDs fa f n R H xs ws) (h : ws.length ≤ sizeLine) : xs.length ≤ sizeLine := by rw [t.length]; exact h
theorem ents_vals {ks : List D} {us vs : List V} {es : List DictEntry} (h : Ents ks us vs es) : Vals us (es.map (·.key)) := by
  induction h with
  | nil => exact .nil
  | cons h1 _ _ ih => exact .cons h1 ih
theorem cr_sorted {fa : FA} (hc : X.calm = true) (hP : X.prog = fa.P) (hw : X.w = fa.w) (hu : X.A.units + 200 < cLine) : CallR X (.builtin "sorted") (rB fa .sorted) := by
  intro pins s σ H vs us Q I rx hh
  obtain ⟨f, R, B, h, ds, z, sm, rr, ee, q⟩ := hh
  rcases bi_cases ee with ⟨x, rfl, e⟩ | ⟨i, j, rfl, ⟨w, _⟩ | ⟨w, _⟩⟩
  · obtain ⟨v, rfl, r⟩ := rds1 rr
    have room : X.A.in1.in1.units + 90 < cLine := by rw [in1_units, in1_units]; omega
    have outs : ∀ {s' : Shared} {xs ys : List D} {ws : List V} (I' : Inv X pins σ H s') (t : RDs fa f h.length R H xs ws) (c1 : xs.all (sI 8) = true) (e4 : sortD xs = some ys) (its : List Value), Vals ws its → ∀ out : List Value, SrtO.Srtd (fun u u' => ltE (dOf fa f h.length R H u) (dOf fa f h.length R H u')) out → SrtO.Stb (fun u u' => ltE (dOf fa f h.length R H u) (dOf fa f h.length R H u')) out its →
        RDs fa f h.length R H ys (out.map vOf) ∧ Vals (out.map vOf) out ∧ (out.map vOf).length = ws.length := fun {s' xs ys ws} I' t c1 e4 its rv out o1 o2 => by
      have hs := List.all_eq_true.mp c1
      obtain ⟨hm, hr⟩ := reps t rv hs
      obtain ⟨s1, s2⟩ := sortN_ok 64 xs ys hs e4
      have m1 : SrtO.Srtd ltE (out.map (dOf fa f h.length R H)) := SrtO.srtd_map o1
      have m2 : SrtO.Stb ltE (out.map (dOf fa f h.length R H)) xs := by
        have := SrtO.Stb.map ltE_swo (dOf fa f h.length R H) o2
        rw [hm] at this
        exact this
      have m3 : SrtO.Stb ltE (out.map (dOf fa f h.length R H)) ys := m2.trans ⟨s2.perm.symm, fun x => (s2.cls x).symm⟩
      have m4 := SrtO.stb_uniq ltE_swo m1 s1 m3
      obtain ⟨k1, k2⟩ := reps_out (fa := fa) (f := f) (n := h.length) (R := R) (H := H) (out := out) fun u hu => by
        obtain ⟨d, _, hd⟩ := hr u (o2.perm.mem_iff.mp hu)
        exact ⟨d, hd⟩
      rw [m4] at k1
      exact ⟨k1, k2, by rw [List.length_map, o2.len, ← rv.length]⟩
    have O : SrtO.Swo (fun u u' => ltE (dOf fa f h.length R H u) (dOf fa f h.length R H u')) := ⟨fun x y => ltE_swo.asym _ _, fun x y z => ltE_swo.tr _ _ _⟩
    have seqC : ∀ xs ys : List D, seqOf h x = some xs → xs.all (sI 8) = true → okSort xs = true → sortD xs = some ys → z = .lst ys → wpAny (model X.prog X.w) X.A (call (.builtin "sorted") us) (EP X pins σ Q) X.xe s := fun xs ys e1 c1 c2 e4 ez => by
      subst ez
      obtain ⟨a, ws, rfl, t, e3⟩ := seqS_ok (K := X.K) sm r e1
      have hs := List.all_eq_true.mp c1
      rw [Vals.ref1 rx]
      have main : ∀ its : List Value, Vals ws its → ws.length ≤ sizeLine → ∀ out : List Value, SrtO.Srtd (fun u u' => ltE (dOf fa f h.length R H u) (dOf fa f h.length R H u')) out → SrtO.Stb (fun u u' => ltE (dOf fa f h.length R H u) (dOf fa f h.length R H u')) out its →
          EP X pins σ Q (.ref (s.heap.objs.size + 1)) { s with heap := sortedAll s.heap its out.toArray } := fun its rv hz out o1 o2 => by
        obtain ⟨k1, k2, k3⟩ := outs I t c1 e4 its rv out o1 o2
        obtain ⟨ep, he'⟩ := PyProof.Rows.sortedAll_at s.heap its out.toArray
        have hp : H (s.heap.objs.size + 1) = none := I.hok.fresh (Nat.le_succ _)
        exact ⟨.ref _, L2.upd H (s.heap.objs.size + 1) (.lst (out.map vOf)), I.laid (t' := s.toks) (fun _ _ => PyProof.Rows.sortedAll_old) (Nat.le_succ _) ⟨by rw [k3]; exact hz, out, ep, k2, he'⟩, rfl, q _ _ (Ext.upd hp) (sm.upd hp) (RD.newLst sm hp k1) (Fre.new sm hp k1)⟩
      rcases e3 with ⟨e3, _⟩ | ⟨e3, _⟩
      · obtain ⟨its, rv, hl, hz⟩ := I.list e3
        exact SrtO.sorted_ord O hl.isList (by rw [← rv.length]; exact hz) (fun h2 h₁ a' ha kk => srt_able I room t rv hs c2 h2 ha kk) (main its rv hz)
      · obtain ⟨its, rv, hl, hz⟩ := I.tuple e3
        exact sorted_tp O hl (by rw [← rv.length]; exact hz) (fun h2 h₁ a' ha kk => srt_able I room t rv hs c2 h2 ha kk) (main its rv hz)
    have seqG : (seqOf h x).bind (fun xs => if (xs.all (sI 8) && okSort xs) = true then (sortD xs).map D.lst else none) = some z → wpAny (model X.prog X.w) X.A (call (.builtin "sorted") us) (EP X pins σ Q) X.xe s := fun e => by
      obtain ⟨xs, e1, e⟩ := Option.bind_eq_some_iff.mp e
      split at e
      · rename_i hc
        obtain ⟨c1, c2⟩ := Bool.and_eq_true_iff.mp hc
        obtain ⟨ys, e4, e5⟩ := Option.map_eq_some_iff.mp e
        exact seqC xs ys e1 c1 c2 e4 e5.symm
      · cases e
    have tt := top_ok sm r
    have e : (match top h x with
      | .set xs => some (D.lst xs)
      | .dct ks _ => if (ks.all (sI 8) && okSort ks) = true then (sortD ks).map D.lst else none
      | _ => (seqOf h x).bind fun xs => if (xs.all (sI 8) && okSort xs) = true then (sortD xs).map D.lst else none) = some z := e
    cases ht : top h x with
    | set xs =>
      rw [ht] at e tt
      cases e
      cases (show RD fa f h.length R H (.set xs) v from tt) with
      | @set a _ L e1 o k t =>
        have tup : ∀ p ∈ L, RD fa f h.length R H (tI' p.2) (.ref p.1) := rds_mem t
        have k' := k
        obtain ⟨_, _, d, hd, hb⟩ := k
        refine cr_sortedT hc pins s σ H _ us Q I rx ⟨a, L, d, 64, rfl, by rw [hP, hw]; exact e1, fun p hp => tI_sq (tup p hp), hd, fun p hp => ⟨(hb p hp).1, (hb p hp).2⟩, fun L' p pm nd _ pw hp => ?_⟩
        have tr : RDs fa f h.length R H (L'.map fun p => tI' p.2) (L'.map fun p => V.ref p.1) := rds_all fun x hx => tup x (pm.mem_iff.mp hx)
        rw [setK_out k' pm nd pw] at tr
        exact q _ _ (Ext.upd hp) (sm.upd hp) (RD.newLst sm hp tr) (Fre.new sm hp tr)
      | @seti a ns S e1 o k pw =>
        · refine cr_sortedSet hc pins s σ H _ us Q I rx ⟨a, S, ns.length, rfl, by rw [hw]; exact e1, pw.2, fun ms p pw2 hm hl hp => ?_⟩
          have pw := pw.1
          have : ms = ns := by
            have pm : ms.Perm ns := (List.perm_ext_iff_of_nodup (pw2.imp fun h => Int.ne_of_lt h) (pw.imp fun h => Int.ne_of_lt h)).mpr fun x => (hm x).trans (k x).symm
            exact pm.eq_of_pairwise (fun a b _ _ h1 h2 => by omega) pw2 pw
          subst this
          have tr : RDs fa f h.length R H (ms.map D.int) (ms.map V.int) := rds_all fun x _ => .int x
          exact q _ _ (Ext.upd hp) (sm.upd hp) (RD.newLst sm hp tr) (Fre.new sm hp tr)
    | dct ks dvs =>
      rw [ht] at e tt
      obtain ⟨a, us', ws', rfl, e1, kd, t, t'⟩ := tt
      dsimp only at e
      split at e
      · rename_i hcc
        obtain ⟨c1, c2⟩ := Bool.and_eq_true_iff.mp hcc
        obtain ⟨ys, e4, rfl⟩ := Option.map_eq_some_iff.mp e
        rw [Vals.ref1 rx]
        have dd := dictO_get I e1
        obtain ⟨lo, hz, nd, o, es, ep, g1, g2, g3, g4⟩ := dd
        have rv := ents_vals g4
        have hl : (es.toList.map (·.key)).length ≤ sizeLine := by
          rw [← rv.length, ← t.length]
          exact hz
        refine sorted_raw lo ⟨o, g1, g2, g3⟩ rfl (I.ok.hd hc) O hl (fun h2 h0 tk h₁ a' hk ha kk => ?_) fun h0 tk h' out o1 o2 hk0 hk1 ⟨ee, he'⟩ => ?_
        · have I1 : Inv X pins σ H { s with heap := h0, toks := tk } := I.kept hk
          exact srt_able I1 room t rv (List.all_eq_true.mp c1) c2 h2 ha kk
        · have I1 : Inv X pins σ H { s with heap := h0, toks := tk } := I.kept hk0
          obtain ⟨k1, k2, k3⟩ := outs I t c1 e4 _ rv out o1 o2
          have hp : H h0.objs.size = none := I1.hok.fresh (Nat.le_refl _)
          exact ⟨.ref _, L2.upd H h0.objs.size (.lst (out.map vOf)), I1.laid (t' := tk) hk1 (Nat.le_refl _) ⟨by rw [k3, rv.length]; exact hl, out, ee, k2, he'⟩, rfl, q _ _ (Ext.upd hp) (sm.upd hp) (RD.newLst sm hp k1) (Fre.new sm hp k1)⟩
      · cases e
    | tup ys => rw [ht] at e; exact seqG e
    | lst ys => rw [ht] at e; exact seqG e
    | non => rw [ht] at e; exact seqG e
    | bl _ => rw [ht] at e; exact seqG e
    | int _ => rw [ht] at e; exact seqG e
    | str _ => rw [ht] at e; exact seqG e
    | ref _ => rw [ht] at e; exact seqG e
    | fn _ => rw [ht] at e; exact seqG e
    | scr _ => rw [ht] at e; exact seqG e
  · cases w
  · cases w
end
end Ev

set_option Elab.async false
set_option linter.all false
set_option maxRecDepth 100000
set_option maxHeartbeats 4000000
/-! EvJs: dict(pairs), displays, set(row). -/
namespace Ev
open PySem PySem.Spec PyProof.Rows L2
theorem pairs_kind : ∀ {xs ks vs : List D}, pairs xs = some (ks, vs) → ks.all keyD = true ∧ (ks.all isI = true ∨ ks.all isTup = true) ∧ vs.length = ks.length ∧ ks.length = xs.length
  | [], ks, vs, e => by cases e; exact ⟨rfl, .inl rfl, rfl, rfl⟩
  | .tup [k, v] :: r, ks, vs, e => by
    have e : (match pairs r with
      | some (ks, vs) => if kdOk ks k = true then some (k :: ks, v :: vs) else none
      | none => none) = some (ks, vs) := e
    split at e
    · rename_i ks1 vs1 h1
      split at e
      · rename_i hk
        cases e
        obtain ⟨i1, i2, i3, i4⟩ := pairs_kind h1
        refine ⟨by rw [List.all_cons, kd_keyD hk, i1]; rfl, ?_, by simp [i3], by simp [i4]⟩
        rcases kd_cases hk with ⟨i, rfl, h⟩ | ⟨ys, rfl, _, h⟩
        · exact .inl (by rw [List.all_cons, h]; rfl)
        · exact .inr (by rw [List.all_cons, h]; rfl)
      · cases e
    · cases e
  | .non :: _, _, _, e => by cases e
  | .bl _ :: _, _, _, e => by cases e
  | .int _ :: _, _, _, e => by cases e
  | .str _ :: _, _, _, e => by cases e
  | .lst _ :: _, _, _, e => by cases e
  | .dct _ _ :: _, _, _, e => by cases e
  | .set _ :: _, _, _, e => by cases e
  | .ref _ :: _, _, _, e => by cases e
  | .fn _ :: _, _, _, e => by cases e
  | .scr _ :: _, _, _, e => by cases e
  | .tup [] :: _, _, _, e => by cases e
  | .tup [_] :: _, _, _, e => by cases e
  | .tup (_ :: _ :: _ :: _) :: _, _, _, e => by cases e
section
variable {X : Cx} {pins : List (Addr × Obj)} {σ : L2.St} {H : Hp} {s : Shared} {fa : FA} {f : Nat → Addr} {n : Nat} {R : Addr → Prop}
theorem pairs_cons {d : D} {r ks vs : List D} (e : pairs (d :: r) = some (ks, vs)) : ∃ k v ks1 vs1, d = .tup [k, v] ∧ pairs r = some (ks1, vs1) ∧ ks = k :: ks1 ∧ vs = v :: vs1 := by
  unfold pairs at e
  split at e
  · rename_i h; cases h
  · rename_i h
    cases h
    split at e
    · split at e
      · cases e
        exact ⟨_, _, _, _, rfl, by assumption, rfl, rfl⟩
      · cases e
    · cases e
  · cases e
/-- pairs in the heap -/
theorem pairs_val (I : Inv X pins σ H s) {xs : List D} : ∀ {ks vs : List D} {ws : List V} {its : List Value}, RDs fa f n R H xs ws → Vals ws its → pairs xs = some (ks, vs) → ∃ (us us2 : List V) (ps : List (Value × Value)), RDs fa f n R H ks us ∧ RDs fa f n R H vs us2 ∧ Vals us (ps.map Prod.fst) ∧ Vals us2 (ps.map Prod.snd) ∧ its.length = ps.length ∧ ∀ (j : Nat) (k v : Value), ps[j]? = some (k, v) → ∃ T, its[j]? = some (Value.ref T) ∧ PairAt s.heap T k v := by
  induction xs with
  | nil =>
    intro ks vs ws its r q e
    cases r
    cases q
    cases e
    exact ⟨[], [], [], .nil, .nil, .nil, .nil, rfl, fun j k v e => by simp at e⟩
  | cons d r ih =>
    intro ks vs ws its rr q e
    obtain ⟨k, v, ks1, vs1, rfl, h1, rfl, rfl⟩ := pairs_cons e
    cases rr with
    | cons r1 r2 =>
      cases q with
      | cons q1 q2 =>
        obtain ⟨us, us2, ps, i1, i2, i3, i4, i5, i6⟩ := ih r2 q2 h1
        obtain ⟨a, xs, rfl, ta, tr⟩ := rd_tup r1
        cases q1
        cases tr with
        | cons t1 tr =>
          cases tr with
          | cons t2 tr =>
            cases tr
            obtain ⟨it2, rv, ht, _⟩ := I.tuple ta.sq
            cases rv with
            | cons w1 rv =>
              cases rv with
              | cons w2 rv =>
                cases rv
                refine ⟨_ :: us, _ :: us2, (_, _) :: ps, .cons t1 i1, .cons t2 i2, .cons w1 i3, .cons w2 i4, by simp [i5], fun j k v e => ?_⟩
                cases j with
                | zero =>
                  cases e
                  have ht' : s.heap.IsTuple a _ := ht
                  exact ⟨a, rfl, .inl (by simpa using ht')⟩
                | succ j =>
                  obtain ⟨T, h1, h2⟩ := i6 j k v (by simpa using e)
                  exact ⟨T, by simpa using h1, h2⟩
/-- keys that are tuples, from the pairs -/
theorem xr_of {h : Heap} {ks : List D} {us : List V} (t : KT h ks us) : ∀ {us2 : List V} {ps : List (Value × Value)}, Vals us (ps.map Prod.fst) → Vals us2 (ps.map Prod.snd) → ∃ xs : List (NestedKey × Addr × Value), Xr h ks us us2 xs ∧ xs.length = ps.length ∧ ∀ (i : Nat) (key v : Value), ps[i]? = some (key, v) → ∃ k b, xs[i]? = some (k, b, v) ∧ key = Value.ref b := by
  induction t with
  | nil =>
    intro us2 ps q1 q2
    cases ps with
    | nil => cases q2; exact ⟨[], .nil, rfl, fun i key v e => by simp at e⟩
    | cons p ps => rw [List.map_cons] at q1; cases q1
  | @cons k b ks us hk hn t ih =>
    intro us2 ps q1 q2
    match ps, us2, q1, q2 with
    | (k', v') :: ps, _ :: us2, .cons a1 a2, .cons b1 b2 =>
      obtain ⟨xs, x, hl, g⟩ := ih a2 b2
      have a1 : k' = .ref b := a1
      refine ⟨_, .cons hk hn b1 x, by simp [hl], fun i key v e => ?_⟩
      cases i with
      | zero => cases e; exact ⟨_, b, rfl, a1⟩
      | succ i =>
        obtain ⟨k2, b2, e1, e2⟩ := g i key v (by simpa using e)
        exact ⟨k2, b2, by simpa using e1, e2⟩
theorem nodup_put {ks vs : List D} {k z : D} (hk : keyD k = true) (kd : ks.all keyD = true) (nd : (ks.map nk).Nodup) : ((putD ks vs k z).1.map nk).Nodup := by
  have a : (idxD k ks).isSome = ks.any fun y => eqD y k := idx_any
  unfold putD
  cases q : idxD k ks with
  | some i => exact nd
  | none =>
    show ((ks ++ [k]).map nk).Nodup
    rw [List.map_append, List.nodup_append]
    refine ⟨nd, by simp, fun x hx y hy e => ?_⟩
    obtain ⟨z, hz, rfl⟩ := List.mem_map.mp hx
    simp at hy
    subst hy
    rw [q] at a
    have : (ks.any fun y => eqD y k) = true := List.any_eq_true.mpr ⟨z, hz, by rw [nk_eq 8 8 z k (List.all_eq_true.mp kd z hz) hk]; exact decide_eq_true e⟩
    rw [this] at a
    cases a
/-- all of them stored, one after the other: tuples -/
theorem xr_all {h : Heap} {ks : List D} {us us2 : List V} {xs : List (NestedKey × Addr × Value)} (x : Xr h ks us us2 xs) : ∀ {vs : List D}, RDs fa f n R H ks us → RDs fa f n R H vs us2 → ks.all keyD = true → ∀ {aks avs : List D} {aus aws : List V} {axs : List (NestedKey × Addr × Value)}, Xr h aks aus aws axs → (aks.map nk).Nodup → aks.all keyD = true → RDs fa f n R H aks aus → RDs fa f n R H avs aws →
    ∃ U Ws, Xr h (mkDct ks vs aks avs).1 U Ws (storedAllH axs xs) ∧ ((mkDct ks vs aks avs).1.map nk).Nodup ∧ (mkDct ks vs aks avs).1.all keyD = true ∧ RDs fa f n R H (mkDct ks vs aks avs).1 U ∧ RDs fa f n R H (mkDct ks vs aks avs).2 Ws ∧ (mkDct ks vs aks avs).1.length ≤ aks.length + ks.length := by
  induction x with
  | nil =>
    intro vs r1 r2 _ aks avs aus aws axs ax nd ak t1 t2
    cases r2
    exact ⟨aus, aws, ax, nd, ak, t1, t2, by show aks.length ≤ _; simp⟩
  | @cons k b v v' ks us vs' xs hk hn rv x ih =>
    intro vs r1 r2 kd aks avs aus aws axs ax nd ak t1 t2
    match vs, r1, r2 with
    | dv :: vs, .cons r1 r1', .cons r2 r2' =>
      rw [List.all_cons, Bool.and_eq_true] at kd
      have hl : avs.length = aks.length := by
        have := t2.length
        have := ax.lens.2
        omega
      have hkk : keyD k = true := kd.1
      have kdo : (putD aks avs k dv).1.all keyD = true := by
        unfold putD
        cases idxD k aks with
        | some i => exact ak
        | none => rw [List.all_append, ak, List.all_cons, hkk]; rfl
      obtain ⟨p1, p2⟩ := rds_put t1 t2 r1 r2
      obtain ⟨U, Ws, g1, g2, g3, g4, g5, g6⟩ := ih r1' r2' kd.2 (ax.put nd hk hn rv avs dv) (nodup_put hkk ak nd) kdo p1 p2
      refine ⟨U, Ws, g1, g2, g3, g4, g5, Nat.le_trans g6 ?_⟩
      have := len_put (ks := aks) (vs := avs) (d := k) dv
      simp only [List.length_cons]
      omega
/-- .. ints -/
theorem ki_all {ks : List D} {us : List V} {is : List Int} (t : KI ks us is) : ∀ {us2 : List V} {vs : List D} {kvs : List (Int × Value)}, kvs.map (·.1) = is → Vals us2 (kvs.map (·.2)) → RDs fa f n R H vs us2 → ∀ {aks avs : List D} {aus aws : List V} {ais : List Int} {akvs : List (Int × Value)}, KI aks aus ais → akvs.map (·.1) = ais → Vals aws (akvs.map (·.2)) → ais.Nodup → RDs fa f n R H aks aus → RDs fa f n R H avs aws → aks.all keyD = true →
    ∃ U Ws js, KI (mkDct ks vs aks avs).1 U js ∧ (merged akvs kvs).map (·.1) = js ∧ Vals Ws ((merged akvs kvs).map (·.2)) ∧ (mkDct ks vs aks avs).1.all keyD = true ∧ RDs fa f n R H (mkDct ks vs aks avs).1 U ∧ RDs fa f n R H (mkDct ks vs aks avs).2 Ws ∧ (mkDct ks vs aks avs).1.length ≤ aks.length + ks.length := by
  induction t with
  | nil =>
    intro us2 vs kvs e1 q r2 aks avs aus aws ais akvs at' e2 q2 nd t1 t2 ak
    cases kvs with
    | cons p ps => cases e1
    | nil =>
      cases q
      cases r2
      exact ⟨aus, aws, ais, at', e2, q2, ak, t1, t2, by show aks.length ≤ _; simp⟩
  | @cons i ks us is t ih =>
    intro us2 vs kvs e1 q r2 aks avs aus aws ais akvs at' e2 q2 nd t1 t2 ak
    match kvs, us2, vs, e1, q, r2 with
    | (i2, v') :: kvs, _ :: us2, dv :: vs, e1, .cons w1 w2, .cons r2 r2' =>
      rw [List.map_cons] at e1
      injection e1 with e1 e1'
      have e1 : i2 = i := e1
      subst e1
      have hl : avs.length = aks.length := by
        have h1 := t2.length
        have h2 := Vals.length q2
        have h3 := congrArg List.length e2
        have h4 := congrArg List.length at'.keys
        simp at h2 h3 h4
        omega
      obtain ⟨p1, p2⟩ := rds_put t1 t2 (RD.int (fa := fa) (f := f) (n := n) (R := R) (H := H) i2) r2
      obtain ⟨k1, k2⟩ := at'.put (i := i2) w1 avs dv e2 nd q2
      have nd2 : ((stored akvs i2 v').map (·.1)).Nodup := by
        have n1 := nodup_put (ks := aks) (vs := avs) (k := .int i2) (z := dv) rfl ak (by rw [at'.keys]; exact (nodup_map fun a b e => by injection e).mpr nd)
        rw [k1.keys] at n1
        exact (nodup_map fun a b e => by injection e).mp n1
      have kdo : (putD aks avs (.int i2) dv).1.all keyD = true := by
        unfold putD
        cases idxD (.int i2) aks with
        | some i => exact ak
        | none => rw [List.all_append, ak]; rfl
      obtain ⟨U, Ws, js, g1, g2, g3, g4, g5, g6, g7⟩ := ih e1' w2 r2' k1 rfl k2 nd2 p1 p2 kdo
      refine ⟨U, Ws, js, g1, g2, g3, g4, g5, g6, Nat.le_trans g7 ?_⟩
      have := len_put (ks := aks) (vs := avs) (d := .int i2) dv
      simp only [List.length_cons]
      omega
theorem ki_kvs {ks : List D} {us : List V} {is : List Int} (t : KI ks us is) : ∀ {us2 : List V} {ps : List (Value × Value)}, Vals us (ps.map Prod.fst) → Vals us2 (ps.map Prod.snd) → ∃ kvs : List (Int × Value), kvs.map (·.1) = is ∧ Vals us2 (kvs.map (·.2)) ∧ kvs.length = ps.length ∧ ∀ (i : Nat) (key v : Value), ps[i]? = some (key, v) → ∃ k, kvs[i]? = some (k, v) ∧ Value.isInt k key = true := by
  induction t with
  | nil =>
    intro us2 ps q1 q2
    cases ps with
    | nil => cases q2; exact ⟨[], rfl, .nil, rfl, fun i key v e => by simp at e⟩
    | cons p ps => rw [List.map_cons] at q1; cases q1
  | @cons i ks us is t ih =>
    intro us2 ps q1 q2
    match ps, us2, q1, q2 with
    | (k', v') :: ps, _ :: us2, .cons a1 a2, .cons b1 b2 =>
      obtain ⟨kvs, e1, e2, hl, g⟩ := ih a2 b2
      obtain ⟨tk, a1⟩ := a1
      have a1 : k' = _ := a1
      refine ⟨(i, v') :: kvs, by simp [e1], .cons b1 e2, by simp [hl], fun j key v e => ?_⟩
      cases j with
      | zero => cases e; exact ⟨i, rfl, by rw [a1]; simp [Value.isInt]⟩
      | succ j =>
        obtain ⟨k2, e3, e4⟩ := g j key v (by simpa using e)
        exact ⟨k2, by simpa using e3, e4⟩
def refOf : Value → Addr
  | .ref a => a
  | _ => 0
theorem cr_dictB (hc : X.calm = true) (hu : X.A.units + 200 < cLine) : CallR X (.type "dict") (rB fa .dict) := by
  intro pins s σ H xs us Q I rx hh
  obtain ⟨f, R, B, h, ds, z, sm, rr, ee, q⟩ := hh
  obtain ⟨x, rfl, e⟩ := bi_one ee (by decide) (by decide)
  obtain ⟨v, rfl, r⟩ := rds1 rr
  obtain ⟨xs, e1, e⟩ := Option.bind_eq_some_iff.mp (show Option.bind (seqL h x) _ = some z from e)
  obtain ⟨⟨ks, vs⟩, e2, rfl⟩ := Option.map_eq_some_iff.mp e
  obtain ⟨a, ws, rfl, t, e3⟩ := seqL_ok (K := X.K) sm r e1
  rw [Vals.ref1 rx]
  obtain ⟨its, rv, pl, hz⟩ := I.list e3
  obtain ⟨o, nn, ho, hcl, hdd, hdat⟩ := id pl
  obtain ⟨k1, k2, k3, k4⟩ := pairs_kind e2
  obtain ⟨us1, us2, ps, r1, r2, v1, v2, l1, g⟩ := pairs_val I t rv e2
  have big := I.big
  have hsys : (s.heap.objs.size == sysModules) = false := beq_eq_false_iff_ne.mpr (Nat.ne_of_gt big)
  have hps : ps.length ≤ sizeLine := by rw [← l1, ← rv.length]; exact hz
  have hksl : ks.length ≤ sizeLine := by rw [k4, t.length]; exact hz
  have okl : PlainSeq "list" s.heap a its.toArray ∧ PairItems s.heap its.toArray (fun j => refOf ((its[j]?).getD .none)) ps := by
    refine ⟨⟨o, nn, ho, hcl, hdd, hdat⟩, by simpa using l1, fun j k v e => ?_⟩
    obtain ⟨T, h1, h2⟩ := g j k v e
    have eT : refOf ((its[j]?).getD .none) = T := by rw [h1]; rfl
    dsimp only
    rw [eT]
    exact ⟨by simpa using h1, h2⟩
  have P := PairArg.list (prog := X.prog) (w := X.w) a its.toArray (fun j => refOf ((its[j]?).getD .none)) ps
  have fin : ∀ (h' : Heap) (tk : Nat) (U W : List V), DictAt h' s.heap.objs.size (mkDct ks vs [] []).1 U W → (∀ b o, b ∉ ([] : List Addr) → s.heap.get? b = some o → h'.get? b = some o) → (mkDct ks vs [] []).1.all keyD = true → RDs fa f h.length R H (mkDct ks vs [] []).1 U → RDs fa f h.length R H (mkDct ks vs [] []).2 W → EP X pins σ Q (.ref s.heap.objs.size) { s with heap := h', toks := tk } := fun h' tk U W dd hk kd t1 t2 => by
    have hp : H s.heap.objs.size = none := I.hok.fresh (Nat.le_refl _)
    exact ⟨.ref _, L2.upd H s.heap.objs.size (DictO s.heap.objs.size (mkDct ks vs [] []).1 U W), I.laid (t' := tk) (fun b u e => hk b u (by simp) e) (Nat.le_refl _) (dictO_new dd), rfl, q _ _ (Ext.upd hp) (sm.upd hp) (RD.newD sm hp kd t1 t2) (Fre.newD sm hp kd t1 t2)⟩
  rcases k2 with k2 | k2
  · obtain ⟨is, ki⟩ := ki_of r1 k2
    obtain ⟨kvs, f1, f2, f3, f4⟩ := ki_kvs ki v1 v2
    refine call_dict_pairs P (knd := intKind X.prog X.w) (kvs := kvs) (I.ok.hd hc) okl ⟨f3, fun i key v e => f4 i key v e⟩ hps fun h' tk d' hk => ?_
    obtain ⟨U, Ws, js, g1, g2, g3, g4, g5, g6, g7⟩ := ki_all ki f1 f2 r2 (.nil) (akvs := []) rfl .nil .nil (aks := []) (avs := []) .nil .nil rfl
    exact fin h' tk U Ws (DictAt.ofI (P := X.prog) (w := X.w) hsys (Nat.le_trans g7 (by simpa using hksl)) (by rw [g2]; exact g1) g3 d') hk g4 g5 g6
  · obtain ⟨xs', f1, f2, f3⟩ := xr_of (kt_of I r1 k1 k2) v1 v2
    have keyStay : ∀ h' : Heap, (∀ b o, s.heap.get? b = some o → h'.get? b = some o) → ∀ x ∈ xs', (nestedKind X.prog X.w).is h' x.1 x.2.1 := fun h' hk x hx => by
      have := f1.is (P := X.prog) (w := X.w) x hx
      exact nestedKind_stays.stays (fun b o vs n e _ => hk b o e) this
    refine call_dict_pairsH P (knd := nestedKind X.prog X.w) (ps := xs') (I.ok.hd hc) (by show X.A.units + 1 + 1 + 8 < cLine; omega) okl ⟨f2, fun i key v e => f3 i key v e⟩ (fun h' hk x hx => keyStay h' (fun b o e => hk b o (Nat.ne_of_lt (Heap.lt_size e)) (by simp) e) x hx) hps fun h' tk d' hk => ?_
    obtain ⟨U, Ws, g1, g2, g3, g4, g5, g6⟩ := xr_all f1 r1 r2 k1 .nil (by simp) rfl .nil .nil
    exact fin h' tk U Ws (DictAt.ofH (P := X.prog) (w := X.w) hsys (Nat.le_trans g6 (by simpa using hksl)) g1 d') hk g3 g4 g5
end
end Ev

set_option Elab.async false
set_option linter.all false
set_option maxRecDepth 100000
set_option maxHeartbeats 6400000
/-! EvJt: set(row). -/
namespace Ev
open PySem PySem.Spec PyProof.Rows L2
open PySem.MeetsSeq PySem.MeetsSeq2 PySem.MeetsSeq3
abbrev newSet (w : World) : Obj := { cls := .type "set", dict := none, data := .set #[] 0 (.fresh 0 0 (!w.params.followText "set-order")) }
section
variable {P : Program} {w : World} {A : Around} {E : Value → Shared → Prop} {s : Shared}
/-- what fills a new set from a walk -/
def Fills (P : Program) (w : World) (A : Around) (s : Shared) (items : Array Value) (Res : Heap → Addr → Prop) : Prop :=
  ∀ (A' : Around) (I : Addr) (fp wr : List Addr) (G : Array GenState → Array GenState → Prop) (St : Nat → Shared → Prop) (R : Result → Shared → Prop) (S : Addr) (s1 : Shared), WalksS P w A'.in1 I fp wr G items.size (fun i v => items[i]? = some v) St → A'.units ≤ A.units + 3 →
    S ∉ fp → s.heap.get? S = none → (∀ b ∈ wr, s.heap.get? b = none) → St 0 s1 → (∀ b o, s.heap.get? b = some o → s1.heap.get? b = some o) → s1.heap.get? S = some (newSet w) →
    (∀ s2, Moved (S :: wr) G s1 s2 → Res s2.heap S → (∀ b o, s.heap.get? b = some o → s2.heap.get? b = some o) → R (.ok (.ret .none)) s2) →
    codeAny (model P w) A' (.builtin "set.update.loop" ⟨[.ref S, .ref I], []⟩) R s1
/-- set(x) of a list or a tuple -/
theorem call_set_any {l : Addr} {items : Array Value} {Res : Heap → Addr → Prop} {Q : Value → Shared → Prop} (hh : A.handled = none) (hl : s.heap.IsList l items ∨ s.heap.IsTuple l items) (fill : Fills P w A s items Res)
    (h : ∀ (h' : Heap) (tk : Nat), Res h' s.heap.objs.size → (∀ b o, s.heap.get? b = some o → h'.get? b = some o) → Q (.ref s.heap.objs.size) { s with heap := h', toks := tk }) :
    wpAny (model P w) A (call (.type "set") [.ref l]) Q E s := by
  obtain ⟨c0, tl0, hmro⟩ := F.called_set.mro
  have hmade0 := F.called_set.made
  have hsub0 := F.called_set.sub
  refine wpAny_call (codeAny_of_tree ?_)
  show wpAny _ _ (callAny (.type "set") _) _ _ _
  refine wpAny_pure ⟨Code.quiet_builtin _ (by decide +kernel), codeAny_builtin F.entry_type_call ?_⟩
  rw [Around.under_plain (weight_type_call_type "set" [.ref l] []) rfl]
  have hnt := F.called_set.notType
  have hcc := F.called_set.canCreate
  have htc := F.typeCall_set_1 (.ref l)
  repeat (any_goals (first | assumption | wp_step))
  refine codeAny_mono (code_set_led1 (.ref l) (E := E) (Q₁ := fun obj s₁ => obj = .ref s.heap.objs.size ∧ s₁ = { s with heap := s.heap.push (newSet w) }) ⟨rfl, rfl⟩) fun r s₁ hr => ?_
  cases r with
  | error e => exact hr
  | ok fl =>
    cases fl with
    | ret obj =>
      obtain ⟨rfl, rfl⟩ := hr
      have hS : (s.heap.push (newSet w)).get? s.heap.objs.size = some (newSet w) := Heap.get?_push_size _ rfl
      have hT : Shared.TypeIs { s with heap := s.heap.push (newSet w) } (.ref s.heap.objs.size) "set" := ⟨_, hS, rfl⟩
      have hli0 := F.called_set.init.lookup
      have hbi0 := F.called_set.init.bind (.ref s.heap.objs.size)
      repeat (any_goals (first | assumption | wp_step))
      refine codeAny_mono (codeAny_call_builtin (R := wants (fun r s₂ => r = .none ∧ ∃ h' tk, s₂ = { s with heap := h', toks := tk } ∧ Res h' s.heap.objs.size ∧ (∀ b o, s.heap.get? b = some o → h'.get? b = some o)) E) F.called_set.init.plain F.entry_set_init (check_set_init_1 hT ?_)) fun r₂ s₂ hr₂ => ?_
      · have noneOf : ∀ b, s.heap.objs.size ≤ b → s.heap.get? b = none := fun b hb => by
          cases q : s.heap.get? b with
          | none => rfl
          | some o => exact absurd (Nat.lt_of_lt_of_le (Heap.lt_size q) hb) (Nat.lt_irrefl _)
        have hh4 : A.in1.in1.in1.handled = none := by simp [hh]
        have hsz1 : (s.heap.push (newSet w)).objs.size = s.heap.objs.size + 1 := Heap.size_push ..
        rcases hl with hl | hl
        · obtain ⟨ol, hol, hcl, nl, hdl⟩ := hl
          obtain ⟨ocls, odict, odata, oslots⟩ := ol
          simp only at hcl hdl
          subst hcl
          subst hdl
          have hol1 : (s.heap.push (newSet w)).get? l = some { cls := .type "list", dict := odict, data := .seq items nl, slots := oslots } := Heap.get?_push_of_some _ hol
          have hsls0 := F.sub_list_set
          have hslf0 := F.sub_list_frozenset
          have hne0 : (Value.type "list" == Value.type "dict") = false := by decide
          have hl1 : (s.heap.push (newSet w)).IsList l items := ⟨_, hol1, rfl, nl, rfl⟩
          unfold Builtin.«set.__init__» noKeywords Builtin.Frozenset.updateFrom
          generalize hPI : pyIter = PI
          wp_walk
          subst hPI
          refine wpAny_pyIter_list hl1 (wpAny_bind (wpAny_runValue ?_))
          have hlS : l < s.heap.objs.size := Heap.lt_size hol
          have hneI : l ≠ (s.heap.push (newSet w)).objs.size := by rw [hsz1]; exact Nat.ne_of_lt (Nat.lt_succ_of_lt hlS)
          refine fill _ _ _ _ _ _ _ s.heap.objs.size _ ((Walks.list hh4 _ l hneI items).toS) (by show A.units + 1 + 1 ≤ _; omega) ?_ (noneOf _ (Nat.le_refl _)) (fun b hb => noneOf b (by rw [List.mem_singleton.mp hb, hsz1]; omega))
            ⟨⟨_, Heap.get?_push_size _ rfl, rfl, rfl⟩, (hl1.push _)⟩ (fun b o e => Heap.get?_push_of_some _ (Heap.get?_push_of_some _ e)) (Heap.get?_push_of_some _ hS) fun s2 hm hres hkp => ?_
          · simp only [List.mem_cons, List.mem_singleton, List.not_mem_nil, or_false, not_or]
            rw [hsz1]
            exact ⟨Nat.ne_of_lt (Nat.lt_succ_self _), Nat.ne_of_gt hlS⟩
          · obtain ⟨h', g2, d', tk', os'⟩ := s2
            have eg : g2 = s.gens := hm.gens
            have ed : d' = s.drawn := hm.drawn
            have eo : os' = s.os := hm.os
            subst eg ed eo
            exact wpAny_pure (wpAny_pure ⟨rfl, h', tk', rfl, hres, hkp⟩)
        · obtain ⟨ol, hol, hcl, nl, hdl⟩ := hl
          obtain ⟨ocls, odict, odata, oslots⟩ := ol
          simp only at hcl hdl
          subst hcl
          subst hdl
          have hol1 : (s.heap.push (newSet w)).get? l = some { cls := .type "tuple", dict := odict, data := .seq items nl, slots := oslots } := Heap.get?_push_of_some _ hol
          have hsls0 := F.sub_tuple_set
          have hslf0 := F.sub_tuple_frozenset
          have hne0 : (Value.type "tuple" == Value.type "dict") = false := by decide
          have hl1 : (s.heap.push (newSet w)).IsTuple l items := ⟨_, hol1, rfl, nl, rfl⟩
          unfold Builtin.«set.__init__» noKeywords Builtin.Frozenset.updateFrom
          generalize hPI : pyIter = PI
          wp_walk
          subst hPI
          refine wpAny_pyIter_tuple hl1 (wpAny_bind (wpAny_runValue ?_))
          have hlS : l < s.heap.objs.size := Heap.lt_size hol
          have hneI : l ≠ (s.heap.push (newSet w)).objs.size := by rw [hsz1]; exact Nat.ne_of_lt (Nat.lt_succ_of_lt hlS)
          refine fill _ _ _ _ _ _ _ s.heap.objs.size _ ((Walks.tuple hh4 _ l hneI items).toS) (by show A.units + 1 + 1 ≤ _; omega) ?_ (noneOf _ (Nat.le_refl _)) (fun b hb => noneOf b (by rw [List.mem_singleton.mp hb, hsz1]; omega))
            ⟨⟨_, Heap.get?_push_size _ rfl, rfl, rfl⟩, (hl1.push _)⟩ (fun b o e => Heap.get?_push_of_some _ (Heap.get?_push_of_some _ e)) (Heap.get?_push_of_some _ hS) fun s2 hm hres hkp => ?_
          · simp only [List.mem_cons, List.mem_singleton, List.not_mem_nil, or_false, not_or]
            rw [hsz1]
            exact ⟨Nat.ne_of_lt (Nat.lt_succ_self _), Nat.ne_of_gt hlS⟩
          · obtain ⟨h', g2, d', tk', os'⟩ := s2
            have eg : g2 = s.gens := hm.gens
            have ed : d' = s.drawn := hm.drawn
            have eo : os' = s.os := hm.os
            subst eg ed eo
            exact wpAny_pure (wpAny_pure ⟨rfl, h', tk', rfl, hres, hkp⟩)
      · cases r₂ with
        | error e => exact hr₂
        | ok fl₂ =>
          cases fl₂ with
          | ret r =>
            obtain ⟨rfl, h', tk, rfl, hres, hkp⟩ := hr₂
            repeat (any_goals (first | assumption | wp_step))
            exact h _ _ hres hkp
          | _ => exact hr₂.elim
    | _ => exact hr.elim
end
end Ev

set_option Elab.async false
set_option linter.all false
set_option maxRecDepth 100000
set_option maxHeartbeats 4000000
/-! EvJu: set(row), by data. -/
namespace Ev
open PySem PySem.Spec PyProof.Rows L2
mutual
theorem nk_inj : ∀ (n m : Nat) (x y : D), sI n x = true → sI m y = true → nk x = nk y → x = y
  | n, m, .int i, y, _, h, e => by
    cases y with
    | int j => simp only [nk, NestedKey.num.injEq] at e; rw [e]
    | tup ys => simp [nk] at e
    | _ => cases m <;> cases h
  | n, m, .tup xs, y, h, h', e => by
    cases y with
    | int j => simp [nk] at e
    | tup ys =>
      obtain ⟨n1, rfl, h1⟩ := sI_tup h
      obtain ⟨m1, rfl, h2⟩ := sI_tup h'
      simp only [nk, NestedKey.tup.injEq] at e
      rw [nks_inj n1 m1 xs ys h1 h2 e]
    | _ => cases m <;> cases h'
  | n, _, .non, _, h, _, _ => by cases n <;> cases h
  | n, _, .bl _, _, h, _, _ => by cases n <;> cases h
  | n, _, .str _, _, h, _, _ => by cases n <;> cases h
  | n, _, .lst _, _, h, _, _ => by cases n <;> cases h
  | n, _, .dct _ _, _, h, _, _ => by cases n <;> cases h
  | n, _, .set _, _, h, _, _ => by cases n <;> cases h
  | n, _, .ref _, _, h, _, _ => by cases n <;> cases h
  | n, _, .fn _, _, h, _, _ => by cases n <;> cases h
  | n, _, .scr _, _, h, _, _ => by cases n <;> cases h
theorem nks_inj : ∀ (n m : Nat) (xs ys : List D), (∀ x ∈ xs, sI n x = true) → (∀ y ∈ ys, sI m y = true) → nks xs = nks ys → xs = ys
  | _, _, [], [], _, _, _ => rfl
  | _, _, [], _ :: _, _, _, e => by simp [nks] at e
  | _, _, _ :: _, [], _, _, e => by simp [nks] at e
  | n, m, x :: xs, y :: ys, h, h', e => by
    simp only [nks, List.cons.injEq] at e
    rw [nk_inj n m x y (h x (by simp)) (h' y (by simp)) e.1, nks_inj n m xs ys (fun z hz => h z (by simp [hz])) (fun z hz => h' z (by simp [hz])) e.2]
end
section
variable {P : Program} {w : World} {A : Around} {s : Shared}
theorem keep_moved {S : Addr} {wr : List Addr} {G : Array GenState → Array GenState → Prop} {s1 s2 : Shared} (hS : s.heap.get? S = none) (hw : ∀ b ∈ wr, s.heap.get? b = none) (k : ∀ b o, s.heap.get? b = some o → s1.heap.get? b = some o) (hm : Moved (S :: wr) G s1 s2) : ∀ b o, s.heap.get? b = some o → s2.heap.get? b = some o := fun b o e =>
  hm.heap b o (fun z => by
    rcases List.mem_cons.mp z with rfl | z
    · rw [hS] at e; cases e
    · rw [hw b z] at e; cases e) (k b o e)
theorem fill_ints {items : Array Value} {ns : List Int} (hi : IntsAre items.toList ns) (hb : ns.length + 1 < scanBound) : Fills P w A s items (fun h S => ∃ c, c ≤ ns.length ∧ SetR w h S (fun j => decide (j ∈ ns)) c) := by
  intro A' I fp wr G St R S s1 W hu hSf hS hw hst hk hget hR
  have hl : items.size = ns.length := by have := IntsAre.length hi; rw [Array.length_toList] at this; exact this
  refine set_update_ints W S hSf ns hl hb (fun i v hv => ?_) (items.size - 0) 0 s1 rfl (Nat.zero_le _) hst ⟨0, Nat.le_refl _, setR_new_at hget⟩ fun s2 c hm hc hR2 => hR s2 hm ⟨c, by rw [← hl]; exact hc, hR2⟩ (keep_moved hS hw hk hm)
  have hlt : i < ns.length := by rw [← hl]; exact (Array.getElem?_eq_some_iff.mp hv).1
  obtain ⟨t, e⟩ := PyProof.Rows.IntsAre.int_at hi i v (by rw [Array.getElem?_toList]; exact hv)
  refine ⟨ns[i], t, List.getElem?_eq_getElem hlt, ?_⟩
  rw [e, List.getD_eq_getElem?_getD, List.getElem?_eq_getElem hlt]
  rfl
theorem fill_tups {items : Array Value} {ks : List (Addr × List Int)} (hi : items.toList = ks.map fun p => Value.ref p.1) (hk : ∀ p ∈ ks, IsT P w s.heap p.2 p.1) (hfew : ks.length < 64) (hu : A.units + 10 < cLine) :
    Fills P w A s items (fun h S => ∃ L es ep t, SetTR P w h S L es ep t ∧ Got ks ks.length L) := by
  intro A' I fp wr G St R S s1 W hu' hSf hS hw hst hkeep hget hR
  have hl : items.size = ks.length := by have := congrArg List.length hi; simpa using this
  refine set_update_tups W S hSf ks hl hfew (fun i v hv => ?_) s.heap hk hS hw (by show A'.units + 1 < cLine; omega) (items.size - 0) 0 s1 rfl (Nat.zero_le _) hst hkeep ⟨[], #[], 0, _, setTR_fresh hget, Got.zero ks⟩ fun s2 L es ep t hm h1 h2 h3 => hR s2 hm ⟨L, es, ep, t, h1, by rw [← hl]; exact h2⟩ h3
  have q : items.toList[i]? = some v := by rw [Array.getElem?_toList]; exact hv
  rw [hi, List.getElem?_map] at q
  cases hq : ks[i]? with
  | none => rw [hq] at q; cases q
  | some p => rw [hq] at q; exact ⟨p, rfl, (Option.some.inj q).symm⟩
end
/-! ### without doubles, in order -/
theorem dedup_mem {n : Nat} : ∀ {xs : List D}, (∀ x ∈ xs, sI n x = true) → ∀ y, (y ∈ dedup xs ↔ y ∈ xs)
  | [], _, y => Iff.rfl
  | x :: xs, h, y => by
    have ih := dedup_mem (n := n) (xs := xs) fun z hz => h z (by simp [hz])
    show y ∈ x :: (dedup xs).filter (fun y => !eqD x y) ↔ _
    rw [List.mem_cons, List.mem_cons, List.mem_filter, ih y]
    refine ⟨fun z => z.imp id And.left, fun z => ?_⟩
    rcases z with z | z
    · exact .inl z
    · by_cases e : y = x
      · exact .inl e
      · refine .inr ⟨z, ?_⟩
        rw [nk_eq n n x y (h x (by simp)) (h y (by simp [z]))]
        have : ¬ nk x = nk y := fun q => e (nk_inj n n x y (h x (by simp)) (h y (by simp [z])) q).symm
        rw [decide_eq_false this]
        rfl
theorem dedup_nodup {n : Nat} : ∀ {xs : List D}, (∀ x ∈ xs, sI n x = true) → (dedup xs).Nodup
  | [], _ => List.nodup_nil
  | x :: xs, h => by
    have hm := dedup_mem (n := n) (xs := xs) fun z hz => h z (by simp [hz])
    show (x :: (dedup xs).filter fun y => !eqD x y).Nodup
    rw [List.nodup_cons]
    refine ⟨fun z => ?_, (dedup_nodup fun z hz => h z (by simp [hz])).sublist List.filter_sublist⟩
    obtain ⟨_, z2⟩ := List.mem_filter.mp z
    rw [nk_eq n n x x (h x (by simp)) (h x (by simp))] at z2
    simp at z2
/-- in order, each once -/
theorem sort_strict {xs out : List D} (hs : ∀ x ∈ xs, sI 8 x = true) (nd : xs.Nodup) (tot : ∀ a ∈ xs, ∀ b ∈ xs, a ≠ b → ltD a b = some true ∨ ltD b a = some true) (e : sortD xs = some out) : out.Perm xs ∧ out.Pairwise (fun a b => ltD a b = some true) := by
  obtain ⟨h1, h2⟩ := sortN_ok 64 xs out hs e
  have nd2 : out.Nodup := h2.perm.nodup_iff.mpr nd
  have h1 : out.Pairwise (fun a b => ltE b a = false) := h1
  refine ⟨h2.perm, (h1.and nd2).imp_of_mem fun {a b} ha hb ⟨c1, c2⟩ => ?_⟩
  have ha := h2.perm.mem_iff.mp ha
  have hb := h2.perm.mem_iff.mp hb
  rcases tot a ha b hb c2 with z | z
  · exact z
  · rw [ltE_of (hs b hb) (hs a ha) z] at c1
    cases c1
theorem allI_map : ∀ {xs : List D}, xs.all isI = true → ∃ ns : List Int, xs = ns.map .int
  | [], _ => ⟨[], rfl⟩
  | x :: xs, h => by
    rw [List.all_cons, Bool.and_eq_true] at h
    obtain ⟨i, rfl⟩ := isI_ok h.1
    obtain ⟨ns, rfl⟩ := allI_map h.2
    exact ⟨i :: ns, rfl⟩
theorem rowB_ok {d : Nat} {x : D} (h : rowB d x = true) : ∃ p : List Int, x = tI' p ∧ p.length = d ∧ TS.Bd 64 p := by
  cases x with
  | tup ys =>
    obtain ⟨h1, h2⟩ := Bool.and_eq_true_iff.mp h
    have h1 := of_decide_eq_true h1
    have hall : ys.all isI = true := List.all_eq_true.mpr fun y hy => by
      have := List.all_eq_true.mp h2 y hy
      cases y <;> first | rfl | cases this
    obtain ⟨ns, rfl⟩ := allI_map hall
    refine ⟨ns, rfl, by simpa using h1, fun m hm => ?_⟩
    have := List.all_eq_true.mp h2 (.int m) (List.mem_map.mpr ⟨m, hm, rfl⟩)
    simp only [Bool.and_eq_true, decide_eq_true_eq] at this
    exact this
  | _ => cases h
theorem setT_ok {xs : List D} (h : setT xs = true) : ∃ d, 1 ≤ d ∧ ∀ x ∈ xs, rowB d x = true := by
  match xs, h with
  | [], _ => exact ⟨1, Nat.le_refl _, fun _ h => by cases h⟩
  | .tup ys :: r, h =>
    obtain ⟨h1, h2⟩ := Bool.and_eq_true_iff.mp (show (decide (0 < ys.length) && (D.tup ys :: r).all (rowB ys.length)) = true from h)
    exact ⟨ys.length, of_decide_eq_true h1, List.all_eq_true.mp h2⟩
theorem tI_inj {p q : List Int} (h : tI' p = tI' q) : p = q := by
  have : p.map D.int = q.map D.int := by injection h
  clear h
  induction p generalizing q with
  | nil => cases q with
    | nil => rfl
    | cons _ _ => cases this
  | cons a p ih => cases q with
    | nil => cases this
    | cons b q =>
      simp only [List.map_cons, List.cons.injEq, D.int.injEq] at this
      rw [this.1, ih this.2]
theorem row_tot {d : Nat} {a b : D} (ha : rowB d a = true) (hb : rowB d b = true) (ne : a ≠ b) : ltD a b = some true ∨ ltD b a = some true := by
  obtain ⟨p, rfl, p1, p2⟩ := rowB_ok ha
  obtain ⟨q, rfl, q1, q2⟩ := rowB_ok hb
  have ne : p ≠ q := fun e => ne (by rw [e])
  rcases Int.le_total (TS.code 64 p) (TS.code 64 q) with h | h
  · exact .inl (lt_code p q (p1.trans q1.symm) p2 q2 h ne)
  · exact .inr (lt_code q p (q1.trans p1.symm) q2 p2 h fun e => ne e.symm)
/-- the tuples of a row, with their addresses -/
theorem rows_ref {fa : FA} {f : Nat → Addr} {n : Nat} {R : Addr → Prop} {H : Hp} {d : Nat} : ∀ {xs : List D} {ws : List V}, RDs fa f n R H xs ws → (∀ x ∈ xs, rowB d x = true) → ∃ ks : List (Addr × List Int), xs = ks.map (fun p => tI' p.2) ∧ ws = ks.map (fun p => V.ref p.1)
  | [], _, r, _ => by cases r; exact ⟨[], rfl, rfl⟩
  | x :: xs, _, r, h => by
    cases r with
    | cons r1 r2 =>
      obtain ⟨ks, rfl, rfl⟩ := rows_ref r2 fun y hy => h y (by simp [hy])
      obtain ⟨p, rfl, _, _⟩ := rowB_ok (h x (by simp))
      obtain ⟨a, rfl⟩ := rd_tupRef r1
      exact ⟨(a, p) :: ks, rfl, rfl⟩
theorem cr_setB {X : Cx} {fa : FA} (hc : X.calm = true) (hP : X.prog = fa.P) (hw : X.w = fa.w) (hu : X.A.units + 200 < cLine) : CallR X (.type "set") (rB fa .set) := by
  intro pins s σ H xs us Q I rx hh
  obtain ⟨f, R, B, h, ds, z, sm, rr, ee, q⟩ := hh
  obtain ⟨x, rfl, e⟩ := bi_one ee (by decide) (by decide)
  obtain ⟨v, rfl, r⟩ := rds1 rr
  obtain ⟨xs, e1, e⟩ := Option.bind_eq_some_iff.mp (show Option.bind (seqOf h x) _ = some z from e)
  split at e
  · rename_i hcond
    obtain ⟨c1, c2⟩ := Bool.and_eq_true_iff.mp hcond
    have c2 := of_decide_eq_true c2
    obtain ⟨out, e4, rfl⟩ := Option.map_eq_some_iff.mp e
    obtain ⟨a, ws, rfl, t, e3⟩ := seqS_ok (K := X.K) sm r e1
    rw [Vals.ref1 rx]
    have big := I.big
    have hp : H s.heap.objs.size = none := I.hok.fresh (Nat.le_refl _)
    have src : ∃ its : List Value, Vals ws its ∧ (s.heap.IsList a its.toArray ∨ s.heap.IsTuple a its.toArray) := by
      rcases e3 with ⟨e3, _⟩ | ⟨e3, _⟩
      · obtain ⟨its, rv, hl, hz⟩ := I.list e3
        exact ⟨its, rv, .inl hl.isList⟩
      · obtain ⟨its, rv, hl, hz⟩ := I.tuple e3
        exact ⟨its, rv, .inr hl⟩
    obtain ⟨its, rv, hsrc⟩ := src
    rcases Bool.or_eq_true_iff.mp c1 with c1 | c1
    · obtain ⟨ns, rfl⟩ := allI_map c1
      have hws := rds_ints t
      subst hws
      have hint : IntsAre its ns := rv.ints
      have hs8 : ∀ x ∈ ns.map D.int, sI 8 x = true := fun x hx => by obtain ⟨i, _, rfl⟩ := List.mem_map.mp hx; rfl
      have hd := dedup_mem hs8
      obtain ⟨k1, k2⟩ := sort_strict (xs := dedup (ns.map .int)) (out := out) (fun x hx => hs8 x ((hd x).mp hx)) (dedup_nodup hs8) (fun a ha b hb ne => by
        obtain ⟨i, _, rfl⟩ := List.mem_map.mp ((hd a).mp ha)
        obtain ⟨j, _, rfl⟩ := List.mem_map.mp ((hd b).mp hb)
        rcases Int.lt_or_lt_of_ne (show i ≠ j from fun e => ne (by rw [e])) with c | c
        · exact .inl (by show some (decide (i < j)) = _; rw [decide_eq_true c])
        · exact .inr (by show some (decide (j < i)) = _; rw [decide_eq_true c])) e4
      have hoI : out.all isI = true := List.all_eq_true.mpr fun y hy => by
        obtain ⟨i, _, rfl⟩ := List.mem_map.mp ((hd y).mp (k1.mem_iff.mp hy))
        rfl
      obtain ⟨ms, rfl⟩ := allI_map hoI
      have pw : ms.Pairwise (· < ·) := by
        rw [List.pairwise_map] at k2
        exact k2.imp fun {a b} h => by
          have h : some (decide (a < b)) = some true := h
          exact of_decide_eq_true (Option.some.inj h)
      have hmem : ∀ k, k ∈ ms ↔ k ∈ ns := fun k => by
        have h1 : D.int k ∈ ms.map D.int ↔ D.int k ∈ ns.map D.int := k1.mem_iff.trans (hd _)
        simpa using h1
      refine call_set_any (P := X.prog) (w := X.w) (I.ok.hd hc) hsrc (fill_ints (ns := ns) (by simpa using hint) (by simp at c2; unfold scanBound; omega)) fun h' tk ⟨c, hc1, hR⟩ hk => ?_
      have hcl : c = ms.length := by
        obtain ⟨o, es, ep, tt, g1, g2, g3, g4, g5, g6, g7, g8, g9, _⟩ := hR
        have pm : (es.toList.map keyOf).Perm ms := (List.perm_ext_iff_of_nodup g5 (pw.imp fun h => Int.ne_of_lt h)).mpr fun k => by rw [← g6 k, hmem k]; simp
        have := pm.length_eq
        simp at this
        omega
      subst hcl
      have ho : ObjOk X.prog X.w (L2.upd H s.heap.objs.size (SetO X.w s.heap.objs.size (fun j => decide (j ∈ ns)) ms.length)) h' s.heap.objs.size (SetO X.w s.heap.objs.size (fun j => decide (j ∈ ns)) ms.length) := setO_new hR
      refine ⟨.ref _, L2.upd H s.heap.objs.size (SetO X.w s.heap.objs.size (fun j => decide (j ∈ ns)) ms.length), I.laid (t' := tk) hk (Nat.le_refl _) ho, rfl, q _ _ (Ext.upd hp) (sm.upd hp) ?_ trivial⟩
      refine .seti (S := fun j => decide (j ∈ ns)) (by rw [upd_same, hw]) (sm.offNew hp) (fun k => by rw [hmem k]; simp) ⟨pw, by simp at c2; omega⟩
    · obtain ⟨d, hd1, hrow⟩ := setT_ok c1
      obtain ⟨ks, rfl, rfl⟩ := rows_ref t hrow
      have hs8 : ∀ x ∈ ks.map (fun p => tI' p.2), sI 8 x = true := fun x hx => by obtain ⟨i, _, rfl⟩ := List.mem_map.mp hx; exact tI_sI _
      have hd := dedup_mem hs8
      have hsq := rds_mem t
      obtain ⟨k1, k2⟩ := sort_strict (xs := dedup (ks.map fun p => tI' p.2)) (out := out) (fun x hx => hs8 x ((hd x).mp hx)) (dedup_nodup hs8) (fun a ha b hb ne => row_tot (hrow a ((hd a).mp ha)) (hrow b ((hd b).mp hb)) ne) e4
      refine call_set_any (P := X.prog) (w := X.w) (I.ok.hd hc) hsrc (fill_tups (ks := ks) (by simpa using refs_of_vals rv) (fun p hp => I.isT (tI_sq (hsq p hp))) (by simp at c2; omega) (by omega)) fun h' tk ⟨L, es, ep, tt, hR, hG⟩ hk => ?_
      have hsub : ∀ p ∈ L, p ∈ ks := fun p hp => List.mem_of_mem_take (hG.sub p hp)
      have hall : ∀ p ∈ ks, p.2 ∈ L.map (·.2) := fun p hp => hG.all p (by rw [List.take_length]; exact hp)
      refine ⟨.ref _, L2.upd H s.heap.objs.size (SetTO X.prog X.w s.heap.objs.size L), I.laid (t' := tk) hk (Nat.le_refl _) (setTO_new hR.t0), rfl, q _ _ (Ext.upd hp) (sm.upd hp) ?_ trivial⟩
      have tr : RDs fa f h.length R H (L.map fun p => tI' p.2) (L.map fun p => V.ref p.1) := rds_all fun p hp => hsq p (hsub p hp)
      refine .set (L := L) (by rw [upd_same, hP, hw]) (sm.offNew hp) ⟨?_, k2, d, hd1, fun p hp => ?_⟩ (tr.ext (Ext.upd hp))
      · refine k1.trans ((List.perm_ext_iff_of_nodup (dedup_nodup hs8) ?_).mpr fun y => (hd y).trans ?_)
        · have := hR.nd
          rw [show (L.map fun p => tI' p.2) = (L.map (·.2)).map tI' by rw [List.map_map]; rfl]
          exact (nodup_map fun a b e => tI_inj e).mpr this
        · refine ⟨fun hy => ?_, fun hy => ?_⟩
          · obtain ⟨p, hp, rfl⟩ := List.mem_map.mp hy
            obtain ⟨p2, hp2, e2⟩ := List.mem_map.mp (hall p hp)
            exact List.mem_map.mpr ⟨p2, hp2, by rw [e2]⟩
          · obtain ⟨p, hp, rfl⟩ := List.mem_map.mp hy
            exact List.mem_map.mpr ⟨p, hsub p hp, rfl⟩
      · obtain ⟨p2, e2, l2, b2⟩ := rowB_ok (hrow (tI' p.2) (List.mem_map.mpr ⟨p, hsub p hp, rfl⟩))
        have := tI_inj e2
        rw [this]
        exact ⟨l2, b2⟩
  · cases e
end Ev

set_option Elab.async false
set_option linter.all false
set_option maxRecDepth 100000
set_option maxHeartbeats 2000000
/-! EvK: what is walked; targets. -/
namespace Ev
open PySem PySem.Spec PyProof.Rows L2
/-! ### targets -/
def isPair (fa : FA) (f : Nat → Addr) (n : Nat) (R : Addr → Prop) (H : Hp) (P : D → V → Prop) (d : D) (v : V) : Prop := ∃ a x y d1 d2, d = .tup [d1, d2] ∧ v = .ref a ∧ H a = some (.tup [x, y]) ∧ RD fa f n R H d1 x ∧ P d2 y
/-- a thing that a walk gives: by its kind -/
def RY (fa : FA) (f : Nat → Addr) (n : Nat) (R : Addr → Prop) (H : Hp) : Nat → D → V → Prop
  | 0 => RD fa f n R H
  | 1 => isPair fa f n R H (RD fa f n R H)
  | _ + 2 => isPair fa f n R H (isPair fa f n R H (RD fa f n R H))
mutual
def gT (K : PySem.W.Frag) : Tg → TG
  | .one i => gName i
  | .many ts => gTup K ts.length (gTs K ts)
def gTs (K : PySem.W.Frag) : List Tg → TGs
  | [] => gNil
  | t :: ts => gCons (gT K t) (gTs K ts)
end
theorem wipe_same (vs : List Nat) (σ : L2.St) : L2.wipe σ vs = vs.foldr (fun i σ => σ.set i none) σ := by
  induction vs with
  | nil => rfl
  | cons v vs ih => show (L2.wipe σ vs).set v none = _; rw [ih]; rfl
theorem wipe_set {x : Option V} : ∀ {vs : List Nat} {σ : L2.St} {i : Nat}, i ∈ vs → L2.wipe (σ.set i x) vs = L2.wipe σ vs
  | [], _, _, h => by cases h
  | v :: vs, σ, i, h => by
    show (L2.wipe (σ.set i x) vs).set v none = (L2.wipe σ vs).set v none
    by_cases hv : i ∈ vs
    · rw [wipe_set hv]
    · have e : v = i := by
        rcases List.mem_cons.mp h with e | e
        · exact e.symm
        · exact absurd e hv
      subst e
      have g : ∀ ws : List Nat, v ∉ ws → L2.wipe (σ.set v x) ws = (L2.wipe σ ws).set v x := by
        intro ws
        induction ws with
        | nil => intro _; rfl
        | cons w ws ih =>
          intro hn
          simp only [List.mem_cons, not_or] at hn
          show (L2.wipe (σ.set v x) ws).set w none = ((L2.wipe σ ws).set w none).set v x
          rw [ih hn.2]
          exact List.set_comm _ _ (fun e => hn.1 e)
      rw [g vs hv, List.set_set]
section
variable {fa : FA} {f : Nat → Addr} {n : Nat} {R : Addr → Prop} {H : Hp} {K : PySem.W.Frag}
mutual
theorem bind_ok (vs : List Nat) : ∀ (t : Tg) {d : D} {v : V} {ds ds' : Sl} {σ : L2.St} {Q : L2.St → Hp → Prop}, bindT t d ds = some ds' → RD fa f n R H d v → RSl fa f n R H ds σ →
    (∀ σ', RSl fa f n R H ds' σ' → ((∀ i ∈ slotsT t, i ∈ vs) → L2.wipe σ' vs = L2.wipe σ vs) → Q σ' H) → gT K t v σ H Q
  | .one i, d, v, ds, ds', σ, Q, e, r, s, q => by
    have e : (if i < ds.length then some (ds.set i (some d)) else none) = some ds' := e
    split at e
    · cases e
      exact q _ (s.set i r) fun hm => wipe_set (hm i (by simp [slotsT]))
    · cases e
  | .many ts, d, v, ds, ds', σ, Q, e, r, s, q => by
    cases d with
    | tup xs =>
      have e : bindTs ts xs ds = some ds' := e
      obtain ⟨a, us, rfl, e1, t⟩ := rd_tup r
      exact ⟨a, us, rfl, e1.sq, (by rw [← t.length]; exact (binds_len ts e).symm), binds_ok vs ts e t s q⟩
    | _ => cases e
theorem binds_ok (vs : List Nat) : ∀ (ts : List Tg) {xs : List D} {us : List V} {ds ds' : Sl} {σ : L2.St} {Q : L2.St → Hp → Prop}, bindTs ts xs ds = some ds' → RDs fa f n R H xs us → RSl fa f n R H ds σ →
    (∀ σ', RSl fa f n R H ds' σ' → ((∀ i ∈ slotsTs ts, i ∈ vs) → L2.wipe σ' vs = L2.wipe σ vs) → Q σ' H) → gTs K ts us σ H Q
  | [], [], us, ds, ds', σ, Q, e, r, s, q => by
    cases r
    cases e
    exact ⟨rfl, q σ s fun _ => rfl⟩
  | [], _ :: _, _, _, _, _, _, e, _, _, _ => by cases e
  | _ :: _, [], _, _, _, _, _, e, _, _, _ => by cases e
  | t :: ts, x :: xs, us, ds, ds', σ, Q, e, r, s, q => by
    cases r with
    | cons r1 r2 =>
      obtain ⟨ds1, e1, e2⟩ := Option.bind_eq_some_iff.mp (show (bindT t x ds).bind (bindTs ts xs) = some ds' from e)
      refine ⟨_, _, rfl, bind_ok vs t e1 r1 s fun σ1 s1 w1 => binds_ok vs ts e2 r2 s1 fun σ2 s2 w2 => q σ2 s2 fun hm => ?_⟩
      rw [w2 fun i hi => hm i (by simp [slotsTs, hi]), w1 fun i hi => hm i (by simp [slotsTs, hi])]
theorem binds_len : ∀ (ts : List Tg) {xs : List D} {ds ds' : Sl}, bindTs ts xs ds = some ds' → ts.length = xs.length
  | [], [], _, _, _ => rfl
  | [], _ :: _, _, _, e => by cases e
  | _ :: _, [], _, _, e => by cases e
  | t :: ts, x :: xs, ds, ds', e => by
    obtain ⟨ds1, e1, e2⟩ := Option.bind_eq_some_iff.mp (show (bindT t x ds).bind (bindTs ts xs) = some ds' from e)
    simp [binds_len ts e2]
end
/-- pairs that a walk has laid -/
theorem bindP_ok (vs : List Nat) {P : D → V → Prop} {t1 t2 : Tg} {d : D} {v : V} {ds ds' : Sl} {σ : L2.St} {Q : L2.St → Hp → Prop}
    (hP : ∀ {d : D} {v : V} {ds ds' : Sl} {σ : L2.St} {Q : L2.St → Hp → Prop}, bindT t2 d ds = some ds' → P d v → RSl fa f n R H ds σ → (∀ σ', RSl fa f n R H ds' σ' → ((∀ i ∈ slotsT t2, i ∈ vs) → L2.wipe σ' vs = L2.wipe σ vs) → Q σ' H) → gT K t2 v σ H Q)
    (e : bindT (.many [t1, t2]) d ds = some ds') (r : isPair fa f n R H P d v) (s : RSl fa f n R H ds σ)
    (q : ∀ σ', RSl fa f n R H ds' σ' → ((∀ i ∈ slotsT (.many [t1, t2]), i ∈ vs) → L2.wipe σ' vs = L2.wipe σ vs) → Q σ' H) : gT K (.many [t1, t2]) v σ H Q := by
  obtain ⟨a, x, y, d1, d2, rfl, rfl, hH, r1, r2⟩ := r
  obtain ⟨ds1, e1, e2⟩ := Option.bind_eq_some_iff.mp (show (bindT t1 d1 ds).bind (bindTs [t2] [d2]) = some ds' from e)
  obtain ⟨ds2, e3, e4⟩ := Option.bind_eq_some_iff.mp (show (bindT t2 d2 ds1).bind (bindTs [] []) = some ds' from e2)
  cases e4
  refine ⟨a, [x, y], rfl, .of hH, rfl, _, _, rfl, bind_ok vs t1 e1 r1 s fun σ1 s1 w1 => ⟨_, _, rfl, hP e3 r2 s1 fun σ2 s2 w2 => ⟨rfl, q σ2 s2 fun hm => ?_⟩⟩⟩
  rw [w2 fun i hi => hm i (by simp [slotsT, slotsTs, hi]), w1 fun i hi => hm i (by simp [slotsT, slotsTs, hi])]
theorem bindY_ok (vs : List Nat) (p : Nat) (t : Tg) {d : D} {v : V} {ds ds' : Sl} {σ : L2.St} {Q : L2.St → Hp → Prop} (hf : tgFit p t = true) (e : bindT t d ds = some ds') (r : RY fa f n R H p d v) (s : RSl fa f n R H ds σ)
    (q : ∀ σ', RSl fa f n R H ds' σ' → ((∀ i ∈ slotsT t, i ∈ vs) → L2.wipe σ' vs = L2.wipe σ vs) → Q σ' H) : gT K t v σ H Q := by
  match p, t, hf with
  | 0, t, _ => exact bind_ok vs t e r s q
  | 1, .many [t1, t2], _ => exact bindP_ok vs (fun e r s q => bind_ok vs t2 e r s q) e r s q
  | 2, .many [t1, .many [t2, t3]], _ => exact bindP_ok vs (fun e r s q => bindP_ok vs (fun e r s q => bind_ok vs t3 e r s q) e r s q) e r s q
end
/-! ### the target's names -/
def OkT (X : Cx) (own : List (Str × NameKind)) : Prop := ∀ x, isOwn own x = true → Loc X.env.scope x ∧ (X.fn x = true ∨ X.env.scope.names.lookup x = some .local)
theorem slotOf_ok {N : List Str} {x : Str} {i : Nat} (h : slotOf N x = some i) : N[i]? = some x := by
  unfold slotOf at h
  obtain ⟨h1, h2, h3⟩ := List.findIdx?_eq_some_iff_getElem.mp h
  rw [List.getElem?_eq_getElem h1]
  exact congrArg some (eq_of_beq h2)
theorem slotOf_lt {N : List Str} {x : Str} {i : Nat} (h : slotOf N x = some i) : i < N.length := (List.getElem?_eq_some_iff.mp (slotOf_ok h)).1
section
variable {X : Cx}
/-- no star at the top of a target -/
def plainT : Expr → Bool
  | .Starred _ _ => false
  | _ => true
theorem each_cons {e : Expr} {es : List Expr} {env : Env} (h : plainT e = true) : assignEach (e :: es) env = (false, assign e env) :: assignEach es env := by cases e <;> first | rfl | cases h
theorem each_len : ∀ {es : List Expr} {env : Env}, (∀ e ∈ es, plainT e = true) → (assignEach es env).length = es.length ∧ (assignEach es env).findIdx? (·.1) = none
  | [], _, _ => ⟨rfl, rfl⟩
  | e :: es, env, h => by
    obtain ⟨h1, h2⟩ := each_len (env := env) fun x hx => h x (List.mem_cons_of_mem _ hx)
    rw [each_cons (h e (by simp))]
    refine ⟨by simp [h1], ?_⟩
    rw [List.findIdx?_cons]
    simp [h2]
theorem pg_ok (hc : X.calm = true) (hN : X.N.Nodup) {own : List (Str × NameKind)} (ho : OkT X own) : ∀ (n : Nat), (∀ (e : Expr) (t : Tg), tgE X.N own n e = some t → PG X e (gT X.K t) ∧ plainT e = true) ∧ (∀ (es : List Expr) (ts : List Tg), tgEs X.N own n es = some ts → PGs X es (gTs X.K ts) ∧ es.length = ts.length ∧ ∀ e ∈ es, plainT e = true)
  | 0 => ⟨(fun _ _ h => nomatch h), (fun _ _ h => nomatch h)⟩
  | n + 1 => by
    obtain ⟨ih1, ih2⟩ := pg_ok hc hN ho n
    refine ⟨fun e t h => ?_, fun es ts h => ?_⟩
    · cases e with
      | Name x pos =>
        have h : (if isOwn own x = true then (slotOf X.N x).map Tg.one else none) = some t := h
        split at h
        · rename_i hx
          obtain ⟨i, h1, rfl⟩ := Option.map_eq_some_iff.mp h
          obtain ⟨l, q⟩ := ho x hx
          exact ⟨pg_name hN (slotOf_ok h1) l q, rfl⟩
        · cases h
      | Tuple es k pos =>
        obtain ⟨ts, h1, rfl⟩ := Option.map_eq_some_iff.mp (show (tgEs X.N own n es).map Tg.many = some t from h)
        obtain ⟨g, hl, hp⟩ := ih2 es ts h1
        obtain ⟨l1, l2⟩ := each_len (env := X.env) hp
        exact ⟨pg_tup hc g (by rw [l1, hl]) l2, rfl⟩
      | _ => cases h
    · cases es with
      | nil => cases h; exact ⟨pgs_nil, rfl, fun _ h => by cases h⟩
      | cons e es =>
        cases h1 : tgE X.N own n e with
        | none => rw [tgEs, h1] at h; cases h
        | some t =>
          cases h2 : tgEs X.N own n es with
          | none => rw [tgEs, h1, h2] at h; cases h
          | some us =>
            rw [tgEs, h1, h2] at h
            cases h
            obtain ⟨g1, p1⟩ := ih1 e t h1
            obtain ⟨g2, l2, p2⟩ := ih2 es us h2
            refine ⟨pgs_cons g1 g2 (by rw [each_cons p1]; rfl), by simp [l2], fun x hx => ?_⟩
            rcases List.mem_cons.mp hx with rfl | hx
            · exact p1
            · exact p2 x hx
end
end Ev

set_option Elab.async false
set_option linter.all false
set_option maxRecDepth 100000
set_option maxHeartbeats 4000000
/-! EvL: what is walked. -/
namespace Ev
open PySem PySem.Spec PyProof.Rows L2
/-- reserved later: nothing that stood there -/
def Grow (R R' : Addr → Prop) (H : Hp) : Prop := ∀ a, (H a).isSome = true → ¬ R a → ¬ R' a
/-- what may change is reserved -/
def Sub (E R : Addr → Prop) (H : Hp) : Prop := ∀ a, (H a).isSome = true → E a → R a
/-- what a loop leaves: as Ext, but what is reserved may change -/
structure Ext0 (f : Nat → Addr) (n : Nat) (R : Addr → Prop) (H : Hp) (f' : Nat → Addr) (n' : Nat) (H' : Hp) : Prop where
  le : n ≤ n'
  same : ∀ k, k < n → f' k = f k
  new : ∀ k, n ≤ k → k < n' → H (f' k) = none
  keep : ∀ a, (∀ k, k < n → a ≠ f k) → ¬ R a → (H a).isSome = true → H' a = H a
  there : ∀ a, (H a).isSome = true → (H' a).isSome = true
section
variable {fa : FA} {f f' f'' : Nat → Addr} {n n' n'' : Nat} {R R' E : Addr → Prop} {H H' H'' : Hp}
theorem Ext.to0 (e : Ext f n R H f' n' H') : Ext0 f n R' H f' n' H' := ⟨e.le, e.same, e.new, fun a h _ s => e.keep a h s, e.there⟩
theorem Ext0.trans (a : Ext0 f n R H f' n' H') (b : Ext0 f' n' R H' f'' n'' H'') : Ext0 f n R H f'' n'' H'' where
  le := Nat.le_trans a.le b.le
  same := fun k h => (b.same k (Nat.lt_of_lt_of_le h a.le)).trans (a.same k h)
  new := fun k h1 h2 => by
    by_cases hk : k < n'
    · rw [b.same k hk]; exact a.new k h1 hk
    · have e := b.new k (by omega) h2
      cases q : H (f'' k) with
      | none => rfl
      | some o =>
        have := a.there (f'' k) (by rw [q]; rfl)
        rw [e] at this
        cases this
  keep := fun x hx hr hs => by
    rw [b.keep x (fun k hk => ?_) hr (a.there x hs), a.keep x hx hr hs]
    by_cases h : k < n
    · rw [a.same k h]; exact hx k h
    · intro e
      have := a.new k (by omega) hk
      rw [← e] at this
      rw [this] at hs
      cases hs
  there := fun x hx => b.there x (a.there x hx)
theorem Off.mv (e : Ext0 f n E H f' n' H') (hE : Sub E R H) (g : Grow R R' H) {a : Addr} (o : Off f n R a) (hs : (H a).isSome = true) : Off f' n' R' a ∧ H' a = H a := by
  refine ⟨⟨g a hs o.1, fun k hk => ?_⟩, e.keep a o.2 (fun z => o.1 (hE a hs z)) hs⟩
  by_cases h : k < n
  · rw [e.same k h]; exact o.2 k h
  · intro q
    have := e.new k (by omega) hk
    rw [← q] at this
    rw [this] at hs
    cases hs
theorem RD.mv (e : Ext0 f n E H f' n' H') (hE : Sub E R H) (g : Grow R R' H) {d : D} {v : V} (r : RD fa f n R H d v) : RD fa f' n' R' H' d v := r.go (fun _ o h => o.mv e hE g h) fun k h => ⟨Nat.lt_of_lt_of_le h e.le, e.same k h⟩
theorem RDs.mv (e : Ext0 f n E H f' n' H') (hE : Sub E R H) (g : Grow R R' H) {d : List D} {v : List V} (r : RDs fa f n R H d v) : RDs fa f' n' R' H' d v := r.go (fun _ o h => o.mv e hE g h) fun k h => ⟨Nat.lt_of_lt_of_le h e.le, e.same k h⟩
theorem RSl.mv (e : Ext0 f n E H f' n' H') (hE : Sub E R H) (g : Grow R R' H) {d : Sl} {v : L2.St} (r : RSl fa f n R H d v) : RSl fa f' n' R' H' d v :=
  ⟨r.len, fun i d h => by obtain ⟨v, h1, h2⟩ := r.get i d h; exact ⟨v, h1, h2.mv e hE g⟩⟩
theorem Grow.refl : Grow R R H := fun _ _ h => h
theorem Grow.rp {p : Addr} (hp : H p = none) : Grow R (Rp R p) H := fun a hs hn z => z.elim hn fun e => by rw [e, hp] at hs; cases hs
theorem Ext.any {R R' : Addr → Prop} (e : Ext f n R H f' n' H') : Ext f n R' H f' n' H' := ⟨e.le, e.same, e.new, e.keep, e.there⟩
end
/-- J walks xs from now on -/
def Wk (fa : FA) (f : Nat → Addr) (R : Addr → Prop) (B : Nat → Prop) (h : Hh) (H : Hp) (p : Nat) (xs : List D) (J : It) : Prop :=
  ∀ f' E R' h' H', Ext0 f h.length E H f' h'.length H' → Sub E R H → Grow R R' H → Sim fa f' R' B h' H' →
    (∀ i x, xs[i]? = some x → J.go i H' ∧ ∀ v H'', J.yld i H' v H'' → Ext f' h'.length R' H' f' h'.length H'' ∧ Sim fa f' R' B h' H'' ∧ RY fa f' h'.length R' H'' p x v) ∧ ∀ i, xs.length ≤ i → J.stop i H'
/-- what walks a cell: its things, or them with their numbers -/
def Jc (K : PySem.W.Frag) (en : Bool) (a : Addr) : It := if en = true then Ite K a else Itl K a
def pc (en : Bool) : Nat := if en = true then 1 else 0
section
variable {fa : FA} {f : Nat → Addr} {R : Addr → Prop} {B : Nat → Prop} {h : Hh} {H H' : Hp} {K : PySem.W.Frag} {a : Addr} {vs : List V} {i : Nat} {v v' : V} {x : D} {en : Bool}
theorem jc_stop (e : H a = some (.lst vs)) (hl : vs.length ≤ i) : (Jc K en a).stop i H := by
  cases en
  · exact ⟨vs, .of e, hl⟩
  · exact ⟨vs, .of e, hl⟩
theorem jc_go (e : H a = some (.lst vs)) (hv : vs[i]? = some v) : (Jc K en a).go i H := by
  cases en
  · exact ⟨vs, v, .of e, hv⟩
  · exact ⟨vs, v, .of e, hv⟩
theorem jc_yld (s : Sim fa f R B h H) (e : H a = some (.lst vs)) (hv : vs[i]? = some v) (r : RD fa f h.length R H x v) (y : (Jc K en a).yld i H v' H') : Ext f h.length R H f h.length H' ∧ Sim fa f R B h H' ∧ RY fa f h.length R H' (pc en) (pk en i x) v' := by
  cases en
  · obtain ⟨rfl, y⟩ := y
    have e3 := y vs (.of e)
    rw [hv] at e3
    cases e3
    exact ⟨.refl, s, r⟩
  · obtain ⟨T, w, rfl, hT, rfl, q⟩ := y
    have := q vs (.of e)
    rw [hv] at this
    cases this
    exact ⟨Ext.upd hT, s.upd hT, T, _, _, _, x, rfl, rfl, upd_same, .int _, r.ext (Ext.upd hT)⟩
end
def relS (K : PySem.W.Frag) (Γ : Cst) (R : Addr → Prop) (B : Nat → Prop) (p : Nat) : (Nat → Addr) → Hh → Hp → Src → It → Prop := fun f h H s J => match s with
  | .items xs => Wk Γ.fa f R B h H p xs J
  | .cell en n => p = pc en ∧ n < h.length ∧ J = Jc K en (f n)
def tI (K : PySem.W.Frag) (Γ : Cst) (F : Fr) (W : WX) (it : Itr) : TI := fun σ H Q => ∃ R B f h ds, Pnt Γ F R B f h ds σ H ∧ Post Γ.fa f h.length R B H (evI F it ds h) (relS K Γ R B (itKind it)) Q (exW Γ R W σ)
theorem imI {X : Cx} {tg e : Expr} {t t' : TI} (h : PI X tg e t) (k : ∀ σ H Q, t' σ H Q → t σ H Q) : PI X tg e t' := ⟨fun pins s σ H Q I q => h.run pins s σ H Q I (k _ _ _ q)⟩
section
variable {fa : FA} {f : Nat → Addr} {R : Addr → Prop} {B : Nat → Prop} {h : Hh} {H : Hp} {K : PySem.W.Frag}
theorem wk_list {a : Addr} {xs : List D} {vs : List V} (e : H a = some (.lst vs)) (o : Off f h.length R a) (t : RDs fa f h.length R H xs vs) : Wk fa f R B h H 0 xs (Itl K a) := by
  intro f' E R' h' H' x hE g s
  obtain ⟨o', e'⟩ := o.mv x hE g (by rw [e]; rfl)
  have e2 : H' a = some (.lst vs) := e'.trans e
  have t' := t.mv x hE g
  refine ⟨fun i x hx => ?_, fun i hi => ⟨vs, .of e2, by rw [← t'.length]; exact hi⟩⟩
  obtain ⟨v, hv, rv⟩ := t'.get hx
  refine ⟨⟨vs, v, .of e2, hv⟩, fun v' H'' y => ?_⟩
  obtain ⟨rfl, y⟩ := y
  have := y vs (.of e2)
  rw [hv] at this
  cases this
  exact ⟨.refl, s, rv⟩
theorem wk_tup {a : Addr} {xs : List D} {vs : List V} (e : TuAt H a vs) (o : Off f h.length R a) (t : RDs fa f h.length R H xs vs) : Wk fa f R B h H 0 xs (Itt K a) := by
  intro f' E R' h' H' x hE g s
  obtain ⟨o', e'⟩ := o.mv x hE g e.some
  have e2 : TuAt H' a vs := e.to e'
  have t' := t.mv x hE g
  refine ⟨fun i x hx => ?_, fun i hi => ⟨vs, e2.sq, by rw [← t'.length]; exact hi⟩⟩
  obtain ⟨v, hv, rv⟩ := t'.get hx
  refine ⟨⟨vs, v, e2.sq, hv⟩, fun v' H'' y => ?_⟩
  obtain ⟨rfl, y⟩ := y
  have := y vs e2.sq
  rw [hv] at this
  cases this
  exact ⟨.refl, s, rv⟩
theorem upto_get : ∀ {n : Nat} {lo : Int} {i : Nat} {x : D}, (upto lo n)[i]? = some x → i < n ∧ x = .int (lo + i)
  | 0, _, _, _, e => by cases e
  | n + 1, lo, 0, x, e => by
    have e : some (D.int lo) = some x := e
    cases e
    exact ⟨by omega, by simp⟩
  | n + 1, lo, i + 1, x, e => by
    obtain ⟨h1, h2⟩ := upto_get (n := n) (lo := lo + 1) (i := i) (by simpa [upto] using e)
    refine ⟨by omega, ?_⟩
    rw [h2]
    congr 1
    push_cast
    omega
theorem upto_len : ∀ (n : Nat) (lo : Int), (upto lo n).length = n
  | 0, _ => rfl
  | n + 1, lo => by simp [upto, upto_len n]
theorem byStep_get {c : Int} : ∀ {n : Nat} {lo : Int} {i : Nat} {x : D}, (byStep lo c n)[i]? = some x → i < n ∧ x = .int (lo + (i : Nat) * c)
  | 0, _, _, _, e => by cases e
  | n + 1, lo, 0, x, e => by
    have e : some (D.int lo) = some x := e
    cases e
    exact ⟨by omega, by simp⟩
  | n + 1, lo, i + 1, x, e => by
    obtain ⟨h1, h2⟩ := byStep_get (n := n) (lo := lo + c) (i := i) (by simpa [byStep] using e)
    refine ⟨by omega, ?_⟩
    rw [h2]
    congr 1
    push_cast
    rw [Int.add_mul]
    omega
theorem byStep_len (c : Int) : ∀ (n : Nat) (lo : Int), (byStep lo c n).length = n
  | 0, _ => rfl
  | n + 1, lo => by simp [byStep, byStep_len c n]
theorem wk_rng {lo : Int} {n : Nat} : Wk fa f R B h H 0 (upto lo n) (L2.Itr lo n) := by
  intro f' E R' h' H' x hE g s
  refine ⟨fun i x hx => ?_, fun i hi => by rw [upto_len] at hi; exact hi⟩
  obtain ⟨h1, rfl⟩ := upto_get hx
  refine ⟨h1, fun v H'' y => ?_⟩
  obtain ⟨rfl, rfl⟩ := y
  exact ⟨.refl, s, .int _⟩
theorem wk_rngC {lo c : Int} {n : Nat} : Wk fa f R B h H 0 (byStep lo c n) (Itc lo c n) := by
  intro f' E R' h' H' x hE g s
  refine ⟨fun i x hx => ?_, fun i hi => by rw [byStep_len] at hi; exact hi⟩
  obtain ⟨h1, rfl⟩ := byStep_get hx
  refine ⟨h1, fun v H'' y => ?_⟩
  obtain ⟨rfl, rfl⟩ := y
  exact ⟨.refl, s, .int _⟩
theorem enumI_get : ∀ {xs : List D} {k i : Nat} {x : D}, (enumI k xs)[i]? = some x → ∃ y, xs[i]? = some y ∧ x = .tup [.int ((k + i : Nat) : Int), y]
  | [], _, _, _, e => by cases e
  | y :: ys, k, 0, x, e => by
    have e : some (D.tup [.int k, y]) = some x := e
    cases e
    exact ⟨y, rfl, rfl⟩
  | y :: ys, k, i + 1, x, e => by
    obtain ⟨z, h1, h2⟩ := enumI_get (xs := ys) (k := k + 1) (i := i) (by simpa [enumI] using e)
    refine ⟨z, by simpa using h1, ?_⟩
    rw [h2]
    congr 4
    omega
theorem enumI_len : ∀ (xs : List D) (k : Nat), (enumI k xs).length = xs.length
  | [], _ => rfl
  | x :: xs, k => by simp [enumI, enumI_len xs]
theorem zipI_get : ∀ {xs ys : List D} {i : Nat} {x : D}, (zipI xs ys)[i]? = some x → ∃ y z, xs[i]? = some y ∧ ys[i]? = some z ∧ x = .tup [y, z]
  | [], _, _, _, e => by simp [zipI] at e
  | _ :: _, [], _, _, e => by simp [zipI] at e
  | y :: ys, z :: zs, 0, x, e => by
    have e : some (D.tup [y, z]) = some x := e
    cases e
    exact ⟨y, z, rfl, rfl, rfl⟩
  | y :: ys, z :: zs, i + 1, x, e => by
    obtain ⟨u, w, h1, h2, h3⟩ := zipI_get (xs := ys) (ys := zs) (i := i) (by simpa [zipI] using e)
    exact ⟨u, w, by simpa using h1, by simpa using h2, h3⟩
theorem zipI_len : ∀ (xs ys : List D), (zipI xs ys).length = min xs.length ys.length
  | [], _ => by simp [zipI]
  | _ :: _, [] => by simp [zipI]
  | _ :: xs, _ :: ys => by simp [zipI, zipI_len xs ys]
theorem wk_enum {a : Addr} {xs : List D} {vs : List V} (e : H a = some (.lst vs)) (o : Off f h.length R a) (t : RDs fa f h.length R H xs vs) : Wk fa f R B h H 1 (enumI 0 xs) (Ite K a) := by
  intro f' E R' h' H' x hE g s
  obtain ⟨o', e'⟩ := o.mv x hE g (by rw [e]; rfl)
  have e2 : H' a = some (.lst vs) := e'.trans e
  have t' := t.mv x hE g
  refine ⟨fun i x hx => ?_, fun i hi => ⟨vs, .of e2, by rw [enumI_len] at hi; rw [← t'.length]; exact hi⟩⟩
  obtain ⟨y, hy, rfl⟩ := enumI_get hx
  obtain ⟨v, hv, rv⟩ := t'.get hy
  refine ⟨⟨vs, v, .of e2, hv⟩, fun v' H'' yy => ?_⟩
  obtain ⟨T, w, rfl, hT, rfl, q⟩ := yy
  have := q vs (.of e2)
  rw [hv] at this
  cases this
  rw [Nat.zero_add]
  exact ⟨Ext.upd hT, s.upd hT, T, _, v, _, y, rfl, rfl, upd_same, .int _, rv.ext (R := R') (Ext.upd hT)⟩
theorem wk_zip {a b : Addr} {xs ys : List D} {vs ws : List V} (e : H a = some (.lst vs)) (o : Off f h.length R a) (t : RDs fa f h.length R H xs vs) (e3 : H b = some (.lst ws)) (o3 : Off f h.length R b) (t3 : RDs fa f h.length R H ys ws) : Wk fa f R B h H 1 (zipI xs ys) (Itz K a b) := by
  intro f' E R' h' H' x hE g s
  obtain ⟨o', e'⟩ := o.mv x hE g (by rw [e]; rfl)
  obtain ⟨o4, e4⟩ := o3.mv x hE g (by rw [e3]; rfl)
  have e2 : H' a = some (.lst vs) := e'.trans e
  have e5 : H' b = some (.lst ws) := e4.trans e3
  have t' := t.mv x hE g
  have t4 := t3.mv x hE g
  refine ⟨fun i x hx => ?_, fun i hi => ⟨vs, ws, .of e2, .of e5, by rw [zipI_len] at hi; rw [← t'.length, ← t4.length]; omega⟩⟩
  obtain ⟨y, z, hy, hz, rfl⟩ := zipI_get hx
  obtain ⟨v, hv, rv⟩ := t'.get hy
  obtain ⟨u, hu, ru⟩ := t4.get hz
  refine ⟨⟨vs, ws, v, u, .of e2, .of e5, hv, hu⟩, fun v' H'' yy => ?_⟩
  obtain ⟨T, w, w', rfl, hT, rfl, q, q'⟩ := yy
  have h1 := q vs (.of e2)
  have h2 := q' ws (.of e5)
  rw [hv] at h1
  rw [hu] at h2
  cases h1
  cases h2
  exact ⟨Ext.upd hT, s.upd hT, T, v, u, y, z, rfl, rfl, upd_same, rv.ext (R := R') (Ext.upd hT), ru.ext (R := R') (Ext.upd hT)⟩
theorem wk_zipT {a b : Addr} {xs ys : List D} {vs ws : List V} (e : TuAt H a vs) (o : Off f h.length R a) (t : RDs fa f h.length R H xs vs) (e3 : TuAt H b ws) (o3 : Off f h.length R b) (t3 : RDs fa f h.length R H ys ws) : Wk fa f R B h H 1 (zipI xs ys) (RZ.ItzT K a b) := by
  intro f' E R' h' H' x hE g s
  obtain ⟨o', e'⟩ := o.mv x hE g e.some
  obtain ⟨o4, e4⟩ := o3.mv x hE g e3.some
  have e2 : TuAt H' a vs := e.to e'
  have e5 : TuAt H' b ws := e3.to e4
  have t' := t.mv x hE g
  have t4 := t3.mv x hE g
  refine ⟨fun i x hx => ?_, fun i hi => ⟨vs, ws, e2.sq, e5.sq, by rw [zipI_len] at hi; rw [← t'.length, ← t4.length]; omega⟩⟩
  obtain ⟨y, z, hy, hz, rfl⟩ := zipI_get hx
  obtain ⟨v, hv, rv⟩ := t'.get hy
  obtain ⟨u, hu, ru⟩ := t4.get hz
  refine ⟨⟨vs, ws, v, u, e2.sq, e5.sq, hv, hu⟩, fun v' H'' yy => ?_⟩
  obtain ⟨T, w, w', rfl, hT, rfl, q, q'⟩ := yy
  have h1 := q vs e2.sq
  have h2 := q' ws e5.sq
  rw [hv] at h1
  rw [hu] at h2
  cases h1
  cases h2
  exact ⟨Ext.upd hT, s.upd hT, T, v, u, y, z, rfl, rfl, upd_same, rv.ext (R := R') (Ext.upd hT), ru.ext (R := R') (Ext.upd hT)⟩
end
/-- a list or a tuple, walked -/
theorem pi_seq {X : Cx} {tg l : Expr} {tl : TE} (hl : PE X l tl) : PI X tg l (fun σ H R => tl σ H fun x H1 => ∃ a xs, x = .ref a ∧ ((SqL X.K H1 a xs ∧ R (Itl X.K a) H1) ∨ (SqT X.K H1 a xs ∧ R (Itt X.K a) H1))) := by
  refine ⟨fun pins s σ H R I h => ?_⟩
  refine thn (hl.run pins s σ H _ I h) fun v s1 ⟨x, H1, I1, r1, q1⟩ => ?_
  obtain ⟨a, xs, e, q1⟩ := q1
  subst e
  cases r1
  rcases q1 with ⟨hq, q⟩ | ⟨hq, q⟩
  · obtain ⟨its, rv, p, hz⟩ := I1.list hq
    exact wpAny_pyIter_list p.isList (pi_one (tk := s1.toks) I1 _ (turn_list a _) ⟨_, Heap.get?_push_size _ rfl, rfl, rfl⟩ q)
  · obtain ⟨its, rv, p, hz⟩ := I1.tuple hq
    exact wpAny_pyIter_tuple (show s1.heap.IsTuple a its.toArray from p) (pi_one (tk := s1.toks) I1 _ (turn_tuple a _) ⟨_, Heap.get?_push_size _ rfl, rfl, rfl⟩ q)
section
variable {X : Cx} {Γ : Cst} {F : Fr} {W : WX} {a b c : Expr} {a' b' c' : Ex} {pos : Pos} {tg : Expr}
theorem src_lst {fa : FA} {f : Nat → Addr} {R : Addr → Prop} {B : Nat → Prop} {h : Hh} {H : Hp} {n : Nat} {xs : List D} {v : V} (r : RD fa f n R H (.lst xs) v) : ∃ a vs, v = .ref a ∧ H a = some (.lst vs) ∧ Off f n R a ∧ RDs fa f n R H xs vs := by
  cases r with
  | lst e o t => exact ⟨_, _, rfl, e, o, t⟩
theorem src_tup {fa : FA} {f : Nat → Addr} {R : Addr → Prop} {B : Nat → Prop} {h : Hh} {H : Hp} {n : Nat} {xs : List D} {v : V} (r : RD fa f n R H (.tup xs) v) : ∃ a vs, v = .ref a ∧ TuAt H a vs ∧ Off f n R a ∧ RDs fa f n R H xs vs := by
  cases r with
  | tup e o t => exact ⟨_, _, rfl, e, o, t⟩
theorem snd_val (ha : PE X a (tE Γ F W a')) : PI X tg a (tI X.K Γ F W (.val a')) :=
  imI (pi_seq ha) fun σ H Q ⟨R, B, f, h, ds, A, p⟩ => mkE A p fun d v f1 h1 H1 x1 A1 r1 _ p1 => by
    obtain ⟨s, hs, q⟩ := p1.of
    cases d with
    | tup xs =>
      cases hs
      obtain ⟨a, vs, rfl, e, o, t⟩ := src_tup (B := B) (h := h) r1
      exact ⟨a, vs, rfl, .inr ⟨e.sq, q f1 H1 _ .refl A1.sim (wk_tup e o t)⟩⟩
    | lst xs =>
      cases hs
      obtain ⟨a, vs, rfl, e, o, t⟩ := src_lst (B := B) (h := h) r1
      exact ⟨a, vs, rfl, .inl ⟨.of e, q f1 H1 _ .refl A1.sim (wk_list e o t)⟩⟩
    | ref k =>
      cases r1 with
      | ref hk =>
        have e1 : h1[k]? = some h1[k] := List.getElem?_eq_getElem hk
        have c := A1.sim.cell k _ e1
        have hs : (match h1[k]? with | some (.lst _) => some (Src.cell false k) | _ => none) = some s := hs
        rw [e1] at hs
        cases qq : h1[k] with
        | lst ys =>
          rw [qq] at c hs
          obtain ⟨vs, e2, t⟩ := c
          cases hs
          exact ⟨_, vs, rfl, .inl ⟨.of e2, q f1 H1 _ .refl A1.sim ⟨rfl, hk, rfl⟩⟩⟩
        | dct ks vs => rw [qq] at hs; cases hs
    | _ => cases hs
theorem lim_ok {i : Int} (h : lim i = true) : -(2 ^ 62) ≤ i ∧ i < 2 ^ 62 := by
  obtain ⟨h1, h2⟩ := Bool.and_eq_true_iff.mp h
  exact ⟨of_decide_eq_true h1, of_decide_eq_true h2⟩
theorem snd_rng1 {p : Pos} (hg : Gl X "range") (hm : X.mg "range" = none) (ha : PP X Γ F W a a') : PI X tg (.Call (.Name "range" p) [a] [] pos) (tI X.K Γ F W (.rng [a'])) :=
  imI (pi_range1 hg hm (snd_args (.cons ha .nil)) (by rw [nice_star ha.n]; rfl)) fun σ H Q ⟨R, B, f, h, ds, A, p⟩ => mkA' A p fun xs vs f1 h1 H1 ln x A1 r p1 => by
    obtain ⟨s, hs, q⟩ := p1.of
    obtain ⟨ys, hy, rfl⟩ := Option.map_eq_some_iff.mp hs
    match xs, ln with
    | [d], _ =>
      obtain ⟨v, rfl, r1⟩ := rds1 r
      cases d with
      | int j =>
        have hy : (if lim j = true then some (upto 0 j.toNat) else none) = some ys := hy
        split at hy
        · cases hy
          rename_i hl
          obtain ⟨l1, l2⟩ := lim_ok hl
          exact ⟨j, by rw [rd_int r1], l1, l2, q f1 H1 _ .refl A1.sim wk_rng⟩
        · cases hy
      | _ => cases hy
theorem snd_rng2 {p : Pos} (hg : Gl X "range") (hm : X.mg "range" = none) (ha : PP X Γ F W a a') (hb : PP X Γ F W b b') : PI X tg (.Call (.Name "range" p) [a, b] [] pos) (tI X.K Γ F W (.rng [a', b'])) :=
  imI (pi_range2 hg hm (snd_args (.cons ha (.cons hb .nil))) (by rw [nice_star ha.n, nice_star hb.n]; rfl) (by rw [nice_star hb.n]; rfl)) fun σ H Q ⟨R, B, f, h, ds, A, p⟩ => mkA' A p fun xs vs f1 h1 H1 ln x A1 r p1 => by
    obtain ⟨s, hs, q⟩ := p1.of
    obtain ⟨ys, hy, rfl⟩ := Option.map_eq_some_iff.mp hs
    match xs, ln with
    | [d, e], _ =>
      obtain ⟨v, w, rfl, r1, r2⟩ := rds2 r
      cases d with
      | int i =>
        cases e with
        | int j =>
          have hy : (if (lim i && lim j) = true then some (upto i (j - i).toNat) else none) = some ys := hy
          split at hy
          · cases hy
            rename_i hl
            obtain ⟨hl1, hl2⟩ := Bool.and_eq_true_iff.mp hl
            obtain ⟨l1, l2⟩ := lim_ok hl1
            obtain ⟨l3, l4⟩ := lim_ok hl2
            exact ⟨i, j, by rw [rd_int r1, rd_int r2], ⟨l1, l2, l3, l4⟩, q f1 H1 _ .refl A1.sim wk_rng⟩
          · cases hy
        | _ => cases hy
      | _ => cases hy
theorem size_le (a b c : Int) : Builtin.Range.rangeSize a b c ≤ (b - a).toNat + (a - b).toNat := by
  have h1 := rangeSize_toNat_le a b c
  have h2 := PyProof.Rows.rangeSize_toNat a b c
  omega
theorem rgC_ok {i j c : Int} (hi : lim i = true) (hj : lim j = true) (hc : c ≠ 0) (hb : c.natAbs < 2 ^ 30) : RgC i j c (stepN i j c) := by
  obtain ⟨l1, l2⟩ := lim_ok hi
  obtain ⟨l3, l4⟩ := lim_ok hj
  have h1 := size_le i j c
  have h2 := PyProof.Rows.rangeSize_toNat i j c
  refine ⟨hc, hb, ?_, h2⟩
  have f : ∀ x : Int, -2 ^ 63 ≤ x → x < 2 ^ 63 → Builtin.Range.rangeFitsLong x = true := fun x a b => Bool.and_eq_true_iff.mpr ⟨decide_eq_true a, decide_eq_true b⟩
  have g1 : (b : Int) → (2:Int)^62 = 4611686018427387904 := fun _ => by decide
  have g2 : (2:Int)^63 = 9223372036854775808 := by decide
  have g3 : (2:Int)^62 = 4611686018427387904 := by decide
  have g4 : (2:Nat)^30 = 1073741824 := by decide
  unfold Builtin.Range.small
  rw [f i (by omega) (by omega), f j (by omega) (by omega), f c (by omega) (by omega), f _ (by omega) (by omega)]
  show (_ || if c > 0 then _ else _) = true
  by_cases hp : c > 0
  · rw [if_pos hp, f _ (by omega) (by omega), Bool.or_true]
  · rw [if_neg hp, f _ (by omega) (by omega), Bool.or_true]
theorem snd_rng3 {p : Pos} (hg : Gl X "range") (hm : X.mg "range" = none) (ha : PP X Γ F W a a') (hb : PP X Γ F W b b') (hc : PP X Γ F W c c') : PI X tg (.Call (.Name "range" p) [a, b, c] [] pos) (tI X.K Γ F W (.rng [a', b', c'])) :=
  imI (pi_range3 hg hm (snd_args (.cons ha (.cons hb (.cons hc .nil)))) (nice_star ha.n) (by rw [nice_star hb.n, nice_star hc.n]; rfl)) fun σ H Q ⟨R, B, f, h, ds, A, p⟩ => mkA' A p fun xs vs f1 h1 H1 ln x A1 r p1 => by
    obtain ⟨s, hs, q⟩ := p1.of
    obtain ⟨ys, hy, rfl⟩ := Option.map_eq_some_iff.mp hs
    match xs, ln with
    | [d, e, g], _ =>
      cases r with
      | cons r1 rr =>
        obtain ⟨v2, v3, rfl, r2, r3⟩ := rds2 rr
        cases d with
        | int i =>
          cases e with
          | int j =>
            cases g with
            | int k =>
              have hy : (if (lim i && lim j && k != 0 && decide (k.natAbs < 2 ^ 30)) = true then some (byStep i k (stepN i j k)) else none) = some ys := hy
              split at hy
              · cases hy
                rename_i hl
                simp only [Bool.and_eq_true, bne_iff_ne, decide_eq_true_eq] at hl
                obtain ⟨⟨⟨hl1, hl2⟩, hl3⟩, hl4⟩ := hl
                exact ⟨i, j, k, _, by rw [rd_int r1, rd_int r2, rd_int r3], rgC_ok hl1 hl2 hl3 hl4, q f1 H1 _ .refl A1.sim wk_rngC⟩
              · cases hy
            | _ => cases hy
          | _ => cases hy
        | _ => cases hy
theorem still_cases {d : D} {xs : List D} (e : still d = some xs) : d = .tup xs ∨ d = .lst xs := by
  cases d with
  | tup _ => cases e; exact .inl rfl
  | lst _ => cases e; exact .inr rfl
  | _ => cases e
theorem snd_zip {p tpos : Pos} {elts : List Expr} {kk : Nat} (hg : Gl X "zip") (hm : X.mg "zip" = none) (ha : PP X Γ F W a a') (hb : PP X Γ F W b b') : PI X (.Tuple elts kk tpos) (.Call (.Name "zip" p) [a, b] [] pos) (tI X.K Γ F W (.zip a' b')) :=
  imI (RZ.pi_zipA hg hm (snd_args (.cons ha (.cons hb .nil))) (nice_star ha.n) (by rw [nice_star hb.n]; rfl)) fun σ H Q ⟨R, B, f, h, ds, A, p⟩ => by
    have e1 : evI F (.zip a' b') ds h = (evEs F [a', b'] ds h).bind fun vs h => match vs with
        | [x, y] => Res.of (zipS x y) h
        | _ => .fail := by
      show (evE F a' ds h).bind (fun x h => (evE F b' ds h).bind fun y h => Res.of (zipS x y) h) = ((evE F a' ds h).bind fun d h => ((evE F b' ds h).bind fun d h => (Res.ok [] h).bind fun ds h => .ok (d :: ds) h).bind fun ds h => .ok (d :: ds) h).bind _
      cases evE F a' ds h with
      | ok x h1 =>
        dsimp only [Res.bind]
        cases evE F b' ds h1 <;> rfl
      | _ => rfl
    rw [e1] at p
    exact mkA' A p fun xs vs f1 h1 H1 ln x A1 r p1 => by
      match xs, ln with
      | [d, e], _ =>
        obtain ⟨v, w, rfl, r1, r2⟩ := rds2 r
        obtain ⟨s, hs, q⟩ := p1.of
        cases d with
        | tup xs =>
          cases e with
          | tup ys =>
            cases hs
            obtain ⟨a, vs, rfl, e, o, t⟩ := src_tup (B := B) (h := h) r1
            obtain ⟨b, ws, rfl, e', o', t'⟩ := src_tup (B := B) (h := h) r2
            exact ⟨a, b, vs, ws, rfl, .inr ⟨e.sq, e'.sq, q f1 H1 _ .refl A1.sim (wk_zipT e o t e' o' t')⟩⟩
          | _ => cases hs
        | lst xs =>
          cases e with
          | lst ys =>
            cases hs
            obtain ⟨a, vs, rfl, e, o, t⟩ := src_lst (B := B) (h := h) r1
            obtain ⟨b, ws, rfl, e', o', t'⟩ := src_lst (B := B) (h := h) r2
            exact ⟨a, b, vs, ws, rfl, .inl ⟨.of e, .of e', q f1 H1 _ .refl A1.sim (wk_zip e o t e' o' t')⟩⟩
          | _ => cases hs
        | _ => cases hs
end
end Ev

set_option Elab.async false
set_option linter.all false
set_option maxRecDepth 100000
set_option maxHeartbeats 4000000
/-! EvM: enumerate over a list or a tuple. -/
namespace Ev
open PySem PySem.Spec PyProof.Rows L2
theorem meets_enumT (l : Addr) (items : Array Value) :
    Meets (Builtin.«enumerate.__new__» ⟨[.type "enumerate", .ref l], []⟩) (fun _ R s => s.heap.IsTuple l items ∧
      R (.ok (.ret (.ref (s.heap.push { cls := .type "tuple_iterator", data := .fields #[.ref l, .int 0 0] }).objs.size)))
        { s with heap := (s.heap.push { cls := .type "tuple_iterator", data := .fields #[.ref l, .int 0 0] }).push { cls := .type "enumerate", data := .fields #[.none, .bool false, .ref s.heap.objs.size, rawInt 0, .none, .none] } }) :=
  .of_wp fun prog w A R s h => by
    obtain ⟨hp, g, d, tk, os⟩ := s; obtain ⟨hl, h⟩ := h
    have hsub := sub_enumerate
    have q1 : ∀ {A' : Around} {E : Value → Shared → Prop} {Q : Value → Shared → Prop}, Q (.ref hp.objs.size) ⟨hp.push { cls := .type "tuple_iterator", data := .fields #[.ref l, .int 0 0] }, g, d, tk, os⟩ → wpAny (model prog w) A' (pyIter (.ref l)) Q E ⟨hp, g, d, tk, os⟩ :=
      fun q => (begins_tuple l items).iter prog w _ _ ⟨hp, g, d, tk, os⟩ _ hl q
    wp_walk using q1
    refine wpAny_stack_any fun st => wpAny_pure ?_
    split
    · rename_i c _ _ _ _ _
      cases (c == Value.type "enumerate")
      · wp_walk using q1
        exact ⟨_, rfl, h⟩
      · wp_walk using q1
        exact ⟨_, rfl, h⟩
    · wp_walk using q1
      exact ⟨_, rfl, h⟩
section
variable {prog : Program} {w : World} {A : Around} {E : Value → Shared → Prop} {s : Shared}
theorem call_enumT {l : Addr} {items : Array Value} {Q : Value → Shared → Prop} (hL : s.heap.IsTuple l items)
    (h : ∀ h', IsEnum h' (s.heap.objs.size + 1) s.heap.objs.size 0 .none → h'.IsTupleIter s.heap.objs.size l 0 → h'.objs.size = s.heap.objs.size + 2 →
      (∀ b o, s.heap.get? b = some o → h'.get? b = some o) → Q (.ref (s.heap.objs.size + 1)) { s with heap := h' }) :
    wpAny (model prog w) A (call (.type "enumerate") [.ref l]) Q E s := by
  refine callType_new F.called_enumerate (by decide) (F.typeCall_enumerate_1 _) (F.newCall_enumerate_1 _) (fun obj => F.args_object_init_2 obj _) F.entry_enumerate_new
    (meets_enumT l items) ⟨hL, ?_⟩
  have hz : (s.heap.push { cls := .type "tuple_iterator", data := .fields #[.ref l, .int 0 0] }).objs.size = s.heap.objs.size + 1 := Heap.size_push ..
  show _ ∧ _
  rw [hz]
  have he : IsEnum ((s.heap.push { cls := .type "tuple_iterator", data := .fields #[.ref l, .int 0 0] }).push
      { cls := .type "enumerate", data := .fields #[.none, .bool false, .ref s.heap.objs.size, rawInt 0, .none, .none] }) (s.heap.objs.size + 1) s.heap.objs.size 0 .none := by
    have := Heap.get?_push_size (s.heap.push { cls := .type "tuple_iterator", data := .fields #[.ref l, .int 0 0] })
      (o := { cls := .type "enumerate", data := .fields #[.none, .bool false, .ref s.heap.objs.size, rawInt 0, .none, .none] }) rfl
    rw [hz] at this; exact this
  refine ⟨⟨_, he, rfl⟩, h _ he ⟨_, Heap.get?_push_of_some _ (Heap.get?_push_size _ rfl), rfl, rfl⟩ (by rw [Heap.size_push, hz]) fun b o x => Heap.get?_push_of_some _ (Heap.get?_push_of_some _ x)⟩
end
section
variable {prog : Program} {w : World} {A : Around} {E : Value → Shared → Prop} {s : Shared}
theorem enum_endT {e it l : Addr} {i : Nat} {items : Array Value} {old : Value} {Q : Option Value → Shared → Prop} (hh : A.handled = none)
    (he : IsEnum s.heap e it i old) (hit : s.heap.IsTupleIter it l i) (hl : s.heap.IsTuple l items) (hx : items[i]? = none)
    (hQ : ∀ h', Heap.ExtBut it s.heap h' → Q none { s with heap := h' }) : wpAny (model prog w) A (pyNext (.ref e)) Q E s := by
  have hT : s.TypeIs (.ref e) "enumerate" := ⟨_, he, rfl⟩
  unfold pyNext
  refine wpAny_bind (wpAny_attempt (wpAny_callSpecial?_slot (name := Str.ofString "__next__") hT F.slot_enumerate_next
    (wpAny_call_entry F.slot_enumerate_next hT F.entry_enumerate_next ?_ (F.args_enumerate_next_1 _))))
  show wpAny _ _ (field (.ref e) 2 >>= _) _ _ _
  refine wpAny_bind (wpAny_field he rfl (x := .ref it) rfl ?_)
  refine wpAny_bind (PySem.wpAny_nextOf_tuple_end hh hit hl hx fun h' x he' hx' => ?_)
  obtain ⟨o, ho, hc⟩ := hx'
  refine wpAny_bind (wpAny_isInstance (T := "StopIteration") (b := true) ⟨o, ho, hc⟩ isSubtype_stop ?_)
  exact wpAny_pure (hQ _ he')
end
/-- the tuple at a, each item in a new pair -/
def IteT (K : PySem.W.Frag) (a : Addr) : It :=
  ⟨fun i H => ∃ (xs : List V) (x : V), SqT K H a xs ∧ xs[i]? = some x, fun i H v H' => ∃ T x, v = .ref T ∧ H T = none ∧ H' = L2.upd H T (.tup [.int (i : Nat), x]) ∧ ∀ xs, SqT K H a xs → xs[i]? = some x, fun i H => ∃ xs : List V, SqT K H a xs ∧ xs.length ≤ i⟩
theorem turn_enumT {P : Program} {w : World} {K : PySem.W.Frag} {elts : List Expr} {kk : Nat} {tpos : Pos} (a e it : Addr) (hae : a ≠ e) (hai : a ≠ it) :
    Turn P w K (.Tuple elts kk tpos) (IteT K a) [e, it] e (fun i h => (∃ old, IsEnum h e it ((i : Nat) : Int) old) ∧ h.IsTupleIter it a i ∧ e ≠ it) where
  mem := by simp
  obj := fun i h st b hb => by
    obtain ⟨⟨old, he⟩, ⟨o, ho, hc, hd⟩, _⟩ := st
    have e' : b = e ∨ b = it := by simpa using hb
    rcases e' with z | z
    · rw [z]; exact ⟨_, he, fun v q => nomatch q⟩
    · rw [z]; exact ⟨o, ho, fun v q => by rw [hd] at q; cases q⟩
  keep := fun i h h' st k => let ⟨⟨old, he⟩, hi, hne⟩ := st; ⟨⟨old, k e (by simp) _ he⟩, hi.at fun o q => k it (by simp) o q, hne⟩
  item := by
    intro X hP hw hK hc i pins s σ H E I hf st hg
    subst hP hw hK
    obtain ⟨⟨old, he⟩, hit, hne⟩ := st
    obtain ⟨xs, x, hq, hx⟩ := hg
    obtain ⟨its, rv, p, hz⟩ := I.tuple hq
    obtain ⟨u, hu, ru⟩ := rv.get hx
    have hel : e < s.heap.objs.size := Heap.lt_size he
    have hil : it < s.heap.objs.size := by obtain ⟨_, q, _⟩ := hit; exact Heap.lt_size q
    have hlt : i < its.toArray.size := by
      have := (List.getElem?_eq_some_iff.mp hu).1
      simpa using this
    refine wpAny_pyNext_enum_itemD (Draws.tuple (A := X.A.in1) (prog := X.prog) (w := X.w) (I.ok.hd hc) it a hai its.toArray) he ⟨hit, p⟩ hlt hne (by simp only [List.mem_cons, List.not_mem_nil, or_false, not_or]; exact ⟨hne, Ne.symm hae⟩) fun y h' tk hy ho hit' hT hsz hk => ?_
    obtain ⟨hit', _⟩ := hit'
    have ey : y = u := by
      have h1 : its.toArray[i]? = some u := by simpa using hu
      rw [hy] at h1
      exact Option.some.inj h1
    subst ey
    refine ⟨_, rfl, wpAny_letOwnedTupleGo_enum (s := { s with heap := h', toks := tk + 1 }) ho fun h'' he' sb => ?_⟩
    have hT2 : h''.get? s.heap.objs.size = some { cls := .type "tuple", data := .seq #[.int i tk, y] } := (sb.2 _ (Nat.ne_of_gt hel)).trans hT
    have new : ObjOk X.prog X.w (L2.upd H s.heap.objs.size (.tup [.int (i : Nat), x])) h'' s.heap.objs.size (.tup [.int (i : Nat), x]) :=
      ⟨by show 2 ≤ sizeLine; decide, [.int i tk, y], .cons ⟨_, rfl⟩ (.cons ru .nil), ⟨_, hT2, rfl, _, rfl⟩⟩
    have I1 : Inv X pins σ (L2.upd H s.heap.objs.size (.tup [.int (i : Nat), x])) { s with heap := h'', toks := tk + 1 } :=
      I.turnedNew (ch := [e, it]) (fun b ob hb q => (sb.2 b (fun z => hb (by simp [z]))).trans (hk b ob (fun z => hb (by simp [z])) (fun z => hb (by simp [z])) q)) hf (Nat.le_refl _) new
    refine ⟨.ref s.heap.objs.size, _, I1, rfl, ⟨_, x, rfl, I.hok.fresh (Nat.le_refl _), rfl, fun ys hy => by rw [I.tuple_inj hy hq]; exact hx⟩, ⟨⟨y, ?_⟩, hit'.at fun o q => (sb.2 it (Ne.symm hne)).trans q, hne⟩, fun b hb => ?_⟩
    · have e1 : ((i + 1 : Nat) : Int) = (i : Int) + 1 := by omega
      rw [e1]; exact he'
    · have hb' : b < s.heap.objs.size := by
        have e' : b = e ∨ b = it := by simpa using hb
        rcases e' with z | z
        · rw [z]; exact hel
        · rw [z]; exact hil
      rw [upd_ne (Nat.ne_of_lt hb')]
      exact (hf b hb).1
  done := by
    intro X hP hw hK hc i pins s σ H E I hf st hg
    subst hP hw hK
    obtain ⟨⟨old, he⟩, hit, hne⟩ := st
    obtain ⟨xs, hq, hx⟩ := hg
    obtain ⟨its, rv, p, hz⟩ := I.tuple hq
    obtain ⟨f0, f1, f2, f3, f4, f5⟩ := hf it (by simp)
    have hl := rv.length
    have D := Draws.tuple (A := X.A.in1) (prog := X.prog) (w := X.w) (I.ok.hd hc) it a hai its.toArray
    have hge : its.toArray.size ≤ i := by rw [List.size_toArray]; omega
    exact enum_endT (I.ok.hd hc) he hit p (by rw [Array.getElem?_eq_none hge]) fun h' eb => ⟨rfl, I.turned (t' := s.toks) (fun b o hb q => eb b o hb q) f0 f1 f3 f4 f5⟩
  self := fun A i s Q E st h => let ⟨⟨_, he⟩, _⟩ := st; wpAny_pyIter_enum he h

/-- enumerate of a list or of a tuple -/
theorem pi_enumA {X : Cx} {e : Expr} {ta : TA} {p pos tpos : Pos} {elts : List Expr} {kk : Nat} (hg : Gl X "enumerate") (hm : X.mg "enumerate" = none) (ha : PA X [e] ta) (hs : starEach [e] X.env = [(false, eval e X.env)]) :
    PI X (.Tuple elts kk tpos) (.Call (.Name "enumerate" p) [e] [] pos) (fun σ H R => ta σ H fun vs H1 => ∃ a xs, vs = [.ref a] ∧ ((SqL X.K H1 a xs ∧ R (Ite X.K a) H1) ∨ (SqT X.K H1 a xs ∧ R (IteT X.K a) H1))) := by
  refine ⟨fun pins s σ H R I h => ?_⟩
  refine Call_ (ld_blt I hg hm boot_enumerate (PyProof.Rows.callWith_type1 (thn (ha.run pos pins s σ H _ I h) fun us s1 ⟨vs, H1, I1, r1, q1⟩ => ?_) hs rfl))
  obtain ⟨a, xs, ex, q1⟩ := q1
  subst ex
  cases r1 with
  | cons r rr =>
    cases rr
    cases r
    have fresh2 : ∀ b ∈ [s1.heap.objs.size + 1, s1.heap.objs.size], FpOk X pins H1 b := fun b hb => by
      have e' : b = s1.heap.objs.size + 1 ∨ b = s1.heap.objs.size := by simpa using hb
      have hle : s1.heap.objs.size ≤ b := by
        rcases e' with z | z
        · rw [z]; exact Nat.le_add_right _ _
        · rw [z]; exact Nat.le_refl _
      exact I1.fpOk hle (I1.hok.fresh hle)
    rcases q1 with ⟨hq, q⟩ | ⟨hq, q⟩
    · obtain ⟨its, rv, p', hz⟩ := I1.list hq
      refine call_enumerate_list p'.isList fun h' he hit hsz hk => wpAny_pyIter_enum he ?_
      have I2 : Inv X pins σ H1 { s1 with heap := h' } := I1.kept (t' := s1.toks) hk
      exact ⟨s1.heap.objs.size + 1, [s1.heap.objs.size + 1, s1.heap.objs.size], _, _, H1, rfl, I2, turn_enum a (s1.heap.objs.size + 1) s1.heap.objs.size, ⟨⟨.none, he⟩, hit, Nat.succ_ne_self _⟩, fresh2, q⟩
    · obtain ⟨its, rv, p', hz⟩ := I1.tuple hq
      have hlt : a < s1.heap.objs.size := p'.lt
      refine call_enumT (show s1.heap.IsTuple a its.toArray from p') fun h' he hit hsz hk => wpAny_pyIter_enum he ?_
      have I2 : Inv X pins σ H1 { s1 with heap := h' } := I1.kept (t' := s1.toks) hk
      exact ⟨s1.heap.objs.size + 1, [s1.heap.objs.size + 1, s1.heap.objs.size], _, _, H1, rfl, I2, turn_enumT a (s1.heap.objs.size + 1) s1.heap.objs.size (Nat.ne_of_lt (Nat.lt_succ_of_lt hlt)) (Nat.ne_of_lt hlt), ⟨⟨.none, he⟩, hit, Nat.succ_ne_self _⟩, fresh2, q⟩
section
variable {fa : FA} {f : Nat → Addr} {R : Addr → Prop} {B : Nat → Prop} {h : Hh} {H : Hp} {K : PySem.W.Frag}
theorem wk_enumT {a : Addr} {xs : List D} {vs : List V} (e : TuAt H a vs) (o : Off f h.length R a) (t : RDs fa f h.length R H xs vs) : Wk fa f R B h H 1 (enumI 0 xs) (IteT K a) := by
  intro f' E R' h' H' x hE g s
  obtain ⟨o', e'⟩ := o.mv x hE g e.some
  have e2 : TuAt H' a vs := e.to e'
  have t' := t.mv x hE g
  refine ⟨fun i x hx => ?_, fun i hi => ⟨vs, e2.sq, by rw [enumI_len] at hi; rw [← t'.length]; exact hi⟩⟩
  obtain ⟨y, hy, rfl⟩ := enumI_get hx
  obtain ⟨v, hv, rv⟩ := t'.get hy
  refine ⟨⟨vs, v, e2.sq, hv⟩, fun v' H'' yy => ?_⟩
  obtain ⟨T, w, rfl, hT, rfl, q⟩ := yy
  have := q vs e2.sq
  rw [hv] at this
  cases this
  rw [Nat.zero_add]
  exact ⟨Ext.upd hT, s.upd hT, T, _, v, _, y, rfl, rfl, upd_same, .int _, rv.ext (R := R') (Ext.upd hT)⟩
end
section
variable {X : Cx} {Γ : Cst} {F : Fr} {W : WX} {a b c : Expr} {a' b' c' : Ex} {pos : Pos} {tg : Expr}
theorem snd_enum {p tpos : Pos} {elts : List Expr} {kk : Nat} (hg : Gl X "enumerate") (hm : X.mg "enumerate" = none) (ha : PP X Γ F W a a') : PI X (.Tuple elts kk tpos) (.Call (.Name "enumerate" p) [a] [] pos) (tI X.K Γ F W (.enum a')) :=
  imI (pi_enumA hg hm (snd_args (.cons ha .nil)) (by rw [nice_star ha.n]; rfl)) fun σ H Q ⟨R, B, f, h, ds, A, p⟩ => by
    have e1 : evI F (.enum a') ds h = (evEs F [a'] ds h).bind fun vs h => match vs with
        | [x] => Res.of (srcE h x) h
        | _ => .fail := by
      show (evE F a' ds h).bind (fun d h => Res.of (srcE h d) h) = ((evE F a' ds h).bind fun d h => ((Res.ok [] h).bind fun ds h => .ok (d :: ds) h)).bind _
      cases evE F a' ds h <;> rfl
    rw [e1] at p
    exact mkA' A p fun xs vs f1 h1 H1 ln x A1 r p1 => by
      match xs, ln with
      | [d], _ =>
        obtain ⟨v, rfl, r1⟩ := rds1 r
        obtain ⟨s, hs, q⟩ := p1.of
        cases d with
        | ref k =>
          cases r1 with
          | ref hk =>
            have e1 : h1[k]? = some h1[k] := List.getElem?_eq_getElem hk
            have c := A1.sim.cell k _ e1
            have hs : (match h1[k]? with | some (.lst _) => some (Src.cell true k) | _ => none) = some s := hs
            rw [e1] at hs
            cases qq : h1[k] with
            | lst ys =>
              rw [qq] at c hs
              obtain ⟨vs, e2, t⟩ := c
              cases hs
              exact ⟨_, vs, rfl, .inl ⟨.of e2, q f1 H1 _ .refl A1.sim ⟨rfl, hk, rfl⟩⟩⟩
            | dct ks vs => rw [qq] at hs; cases hs
        | tup ys =>
          cases hs
          obtain ⟨a, vs, rfl, e, o, t⟩ := src_tup (B := B) (h := h) r1
          exact ⟨a, vs, rfl, .inr ⟨e.sq, q f1 H1 _ .refl A1.sim (wk_enumT e o t)⟩⟩
        | lst ys =>
          cases hs
          obtain ⟨a, vs, rfl, e, o, t⟩ := src_lst (B := B) (h := h) r1
          exact ⟨a, vs, rfl, .inl ⟨.of e, q f1 H1 _ .refl A1.sim (wk_enum e o t)⟩⟩
        | _ => cases hs
end
end Ev

set_option Elab.async false
set_option linter.all false
set_option maxRecDepth 100000
set_option maxHeartbeats 4000000
/-! EvMz: enumerate(zip(a, b)). -/
namespace Ev
open PySem PySem.Spec PyProof.Rows L2
/-- a zip with whatever it holds of its last pair -/
abbrev ZipM (h : Heap) (z TI TO : Addr) (m : Value) (f : Bool) : Prop :=
  h.get? z = some { cls := .type "zip", dict := none, data := .fields #[m, .bool f, .bool false, .ref TI, .ref TO], slots := #[] }
section
variable {prog : Program} {w : World} {A : Around} {E : Value → Shared → Prop} {s : Shared}
theorem zipm_item {z TI TO i1 i2 l1 l2 : Addr} {k1 k2 : Nat} {xs ys : Array Value} {m : Value} {f : Bool} {x y a b : Value} {Q : Value → Shared → Prop} (D : ZipApart z TI TO i1 i2 l1 l2)
    (pz : ZipM s.heap z TI TO m f) (hfr : ∀ (QQ : Bool → Shared → Prop), QQ true s → wpAny (model prog w) A (Builtin.SmallTypes.ownedTupleIsFree (.ref z)) QQ E s) (pTI : IsPair s.heap TI (.ref i1) (.ref i2)) (pTO : IsPair s.heap TO a b)
    (h1 : s.heap.IsListIter i1 l1 k1) (h2 : s.heap.IsListIter i2 l2 k2) (pl1 : s.heap.IsList l1 xs) (pl2 : s.heap.IsList l2 ys) (px : xs[k1]? = some x) (py : ys[k2]? = some y)
    (hQ : ∀ h', ZipM h' z TI TO (rawInt s.heap.objs.size) false → IsPair h' TO x y → h'.IsListIter i1 l1 (k1 + 1) → h'.IsListIter i2 l2 (k2 + 1) → IsPair h' s.heap.objs.size x y → h'.objs.size = s.heap.objs.size + 1 →
      (∀ c o, c ≠ z → c ≠ TO → c ≠ i1 → c ≠ i2 → s.heap.get? c = some o → h'.get? c = some o) → Q (.ref s.heap.objs.size) { s with heap := h' }) :
    wpAny (model prog w) A (Builtin.«zip.__next__» ⟨[.ref z], []⟩) (fun fin s' => ∃ v, fin = .done (.ret v) ∧ Q v s') E s := by
  show wpAny _ _ (field (.ref z) 2 >>= _) _ _ _; refine wpAny_bind (wpAny_field pz rfl (x := .bool false) rfl ?_)
  show wpAny _ _ (field (.ref z) 3 >>= _) _ _ _; refine wpAny_bind (wpAny_field pz rfl (x := .ref TI) rfl ?_)
  refine wpAny_bind (wpAny_seqItems pTI rfl ?_)
  show wpAny _ _ (Builtin.SmallTypes.ownedTupleIsFree (.ref z) >>= _) _ _ _
  refine wpAny_bind (hfr _ ?_)
  simp only [if_true]
  refine wpAny_bind (wpAny_rule ?_)
  refine wpAny_bind (wpAny_field pz rfl (x := .ref TO) rfl ?_)
  refine wpAny_bind (wpAny_setField_rec pz (by simp) fun ha zz1 sb1 => ?_)
  replace zz1 : ZipM ha z TI TO .ellipsis f := zz1
  refine wpAny_bind ?_
  simp only [List.zipIdx_cons, List.zipIdx_nil, List.forIn_cons, List.forIn_nil]

  refine wpAny_bind (wpAny_bind (wpAny_onRaise ?_))
  show wpAny _ _ (Builtin.SmallTypes.nextOf (.ref i1) >>= _) _ _ _
  refine wpAny_bind (wpAny_nextOf_list_item (h1.extBut sb1.extBut D.i1z) (pl1.extBut sb1.extBut D.l1z) px fun hb ia2 sb2 => wpAny_pure ?_)
  have to2 : IsPair hb TO a b := sb2.extBut _ _ D.TOi1 (sb1.extBut _ _ D.TOz pTO)
  refine wpAny_bind (wpAny_seqItems to2 rfl ?_)
  refine wpAny_bind (wpAny_updateSeq_pair to2 fun hc to3 sb3 => ?_)
  replace to3 : IsPair hc TO x b := to3
  refine wpAny_bind (wpAny_letGo (wpAny_pure ?_))

  refine wpAny_bind (wpAny_bind (wpAny_onRaise ?_))
  show wpAny _ _ (Builtin.SmallTypes.nextOf (.ref i2) >>= _) _ _ _
  refine wpAny_bind (wpAny_nextOf_list_item (((h2.extBut sb1.extBut D.i2z).extBut sb2.extBut D.i12.symm).extBut sb3.extBut D.TOi2.symm)
    (((pl2.extBut sb1.extBut D.l2z).extBut sb2.extBut D.l2i1).extBut sb3.extBut D.l2TO) py fun hd ib4 sb4 => wpAny_pure ?_)
  have to4 : IsPair hd TO x b := sb4.extBut _ _ D.TOi2 to3
  refine wpAny_bind (wpAny_seqItems to4 rfl ?_)
  refine wpAny_bind (wpAny_updateSeq_pair to4 fun he5 to5 sb5 => ?_)
  replace to5 : IsPair he5 TO x y := to5
  refine wpAny_bind (wpAny_letGo (wpAny_pure (wpAny_pure ?_)))

  refine wpAny_bind (wpAny_seqItems to5 rfl ?_)
  refine wpAny_bind (wpAny_newTuple ?_)
  have szz : he5.objs.size = s.heap.objs.size := by rw [sb5.1, sb4.1, sb3.1, sb2.1, sb1.1]
  have zz5 : ZipM he5 z TI TO .ellipsis f := sb5.extBut _ _ D.TOz.symm (sb4.extBut _ _ D.i2z.symm (sb3.extBut _ _ D.TOz.symm (sb2.extBut _ _ D.i1z.symm zz1)))
  have kk5 : ∀ c o, c ≠ z → c ≠ TO → c ≠ i1 → c ≠ i2 → s.heap.get? c = some o → he5.get? c = some o := fun c o c1 c2 c3 c4 e =>
    sb5.extBut _ _ c2 (sb4.extBut _ _ c4 (sb3.extBut _ _ c2 (sb2.extBut _ _ c3 (sb1.extBut _ _ c1 e))))
  have ia5 : he5.IsListIter i1 l1 (k1 + 1) := ((ia2.extBut sb3.extBut D.TOi1.symm).extBut sb4.extBut D.i12).extBut sb5.extBut D.TOi1.symm
  have ib5 : he5.IsListIter i2 l2 (k2 + 1) := ib4.extBut sb5.extBut D.TOi2.symm
  have zlt : z < he5.objs.size := Heap.lt_size zz5
  have tolt : TO < he5.objs.size := Heap.lt_size to5
  have i1lt : i1 < he5.objs.size := by obtain ⟨_, e, _⟩ := ia5; exact Heap.lt_size e
  have i2lt : i2 < he5.objs.size := by obtain ⟨_, e, _⟩ := ib5; exact Heap.lt_size e
  show wpAny _ _ (Builtin.SmallTypes.ownedTupleHandOut (.ref z) (.ref he5.objs.size) >>= _) _ _ _
  refine wpAny_bind ?_
  unfold Builtin.SmallTypes.ownedTupleHandOut
  have zz6 : ZipM (he5.push { cls := .type "tuple", data := .seq #[x, y] }) z TI TO .ellipsis f := Heap.get?_push_of_some _ zz5
  refine wpAny_bind (wpAny_setField_rec zz6 (by simp) fun hg7 zz7 sb7 => ?_)
  replace zz7 : ZipM hg7 z TI TO (rawInt he5.objs.size) f := zz7
  refine wpAny_setField_rec zz7 (by simp) fun hh8 zz8 sb8 => ?_
  replace zz8 : ZipM hh8 z TI TO (rawInt he5.objs.size) false := zz8
  have up : ∀ c o, c ≠ z → he5.get? c = some o → hh8.get? c = some o := fun c o c1 e => sb8.extBut _ _ c1 (sb7.extBut _ _ c1 (Heap.get?_push_of_some _ e))
  have tt8 : IsPair hh8 he5.objs.size x y := sb8.extBut _ _ (Nat.ne_of_gt zlt) (sb7.extBut _ _ (Nat.ne_of_gt zlt) (Heap.get?_push_size _ rfl))
  have z8 : hh8.objs.size = he5.objs.size + 1 := by rw [sb8.1, sb7.1, Heap.size_push]
  rw [szz] at zz8 tt8 z8
  refine wpAny_pure ⟨_, rfl, ?_⟩
  show Q (.ref he5.objs.size) _
  rw [szz]
  exact hQ hh8 zz8 (up _ _ D.TOz to5) (ia5.at fun o e => up _ o D.i1z e) (ib5.at fun o e => up _ o D.i2z e) tt8 z8 fun c o c1 c2 c3 c4 e => up c o c1 (kk5 c o c1 c2 c3 c4 e)

theorem zipm_end {z TI TO i1 i2 l1 l2 : Addr} {k1 k2 : Nat} {xs ys : Array Value} {m : Value} {f : Bool} {a b : Value} {Q : Fin → Shared → Prop} (ph : A.handled = none) (D : ZipApart z TI TO i1 i2 l1 l2)
    (pz : ZipM s.heap z TI TO m f) (hfr : ∀ (QQ : Bool → Shared → Prop), QQ true s → wpAny (model prog w) A (Builtin.SmallTypes.ownedTupleIsFree (.ref z)) QQ E s) (pTI : IsPair s.heap TI (.ref i1) (.ref i2)) (pTO : IsPair s.heap TO a b)
    (h1 : s.heap.IsListIter i1 l1 k1) (h2 : s.heap.IsListIter i2 l2 k2) (pl1 : s.heap.IsList l1 xs) (pl2 : s.heap.IsList l2 ys) (hend : xs[k1]? = none ∨ ys[k2]? = none)
    (hE : ∀ h' e, (∀ c o, c ≠ z → c ≠ TO → c ≠ i1 → c ≠ i2 → s.heap.get? c = some o → h'.get? c = some o) → (∃ o, h'.get? e = some o ∧ o.cls = .type "StopIteration") → E (.ref e) { s with heap := h' }) :
    wpAny (model prog w) A (Builtin.«zip.__next__» ⟨[.ref z], []⟩) Q E s := by
  show wpAny _ _ (field (.ref z) 2 >>= _) _ _ _; refine wpAny_bind (wpAny_field pz rfl (x := .bool false) rfl ?_)
  show wpAny _ _ (field (.ref z) 3 >>= _) _ _ _; refine wpAny_bind (wpAny_field pz rfl (x := .ref TI) rfl ?_)
  refine wpAny_bind (wpAny_seqItems pTI rfl ?_)
  show wpAny _ _ (Builtin.SmallTypes.ownedTupleIsFree (.ref z) >>= _) _ _ _
  refine wpAny_bind (hfr _ ?_)
  simp only [if_true]
  refine wpAny_bind (wpAny_rule ?_)
  refine wpAny_bind (wpAny_field pz rfl (x := .ref TO) rfl ?_)
  refine wpAny_bind (wpAny_setField_rec pz (by simp) fun ha zz1 sb1 => ?_)
  replace zz1 : ZipM ha z TI TO .ellipsis f := zz1
  refine wpAny_bind ?_
  simp only [List.zipIdx_cons, List.zipIdx_nil, List.forIn_cons, List.forIn_nil]
  refine wpAny_bind (wpAny_bind (wpAny_onRaise ?_))
  show wpAny _ _ (Builtin.SmallTypes.nextOf (.ref i1) >>= _) _ _ _
  cases px : xs[k1]? with
  | none =>
    refine wpAny_bind (wpAny_nextOf_list_end ph (h1.extBut sb1.extBut D.i1z) (pl1.extBut sb1.extBut D.l1z) px fun hb e sb2 he => ?_)
    obtain ⟨oe, hoe, hce⟩ := he
    have zz2 : ZipM hb z TI TO .ellipsis f := sb2 _ _ D.i1z.symm zz1
    have hez : e ≠ z := fun x => by subst x; rw [zz2] at hoe; cases hoe; simp at hce
    refine wpAny_setField_rec zz2 (by simp) fun hc _ sb3 => hE hc e (fun c o c1 _ c3 _ x => sb3.extBut _ _ c1 (sb2 _ _ c3 (sb1.extBut _ _ c1 x))) ⟨oe, sb3.extBut _ _ hez hoe, hce⟩
  | some x =>
    have py : ys[k2]? = none := by rcases hend with h | h; rw [px] at h; cases h; exact h
    refine wpAny_bind (wpAny_nextOf_list_item (h1.extBut sb1.extBut D.i1z) (pl1.extBut sb1.extBut D.l1z) px fun hb ia2 sb2 => wpAny_pure ?_)
    have to2 : IsPair hb TO a b := sb2.extBut _ _ D.TOi1 (sb1.extBut _ _ D.TOz pTO)
    refine wpAny_bind (wpAny_seqItems to2 rfl ?_)
    refine wpAny_bind (wpAny_updateSeq_pair to2 fun hc to3 sb3 => ?_)
    refine wpAny_bind (wpAny_letGo (wpAny_pure ?_))
    refine wpAny_bind (wpAny_bind (wpAny_onRaise ?_))
    show wpAny _ _ (Builtin.SmallTypes.nextOf (.ref i2) >>= _) _ _ _
    refine wpAny_bind (wpAny_nextOf_list_end ph (((h2.extBut sb1.extBut D.i2z).extBut sb2.extBut D.i12.symm).extBut sb3.extBut D.TOi2.symm)
      (((pl2.extBut sb1.extBut D.l2z).extBut sb2.extBut D.l2i1).extBut sb3.extBut D.l2TO) py fun hd e sb4 he => ?_)
    obtain ⟨oe, hoe, hce⟩ := he
    have zz4 : ZipM hd z TI TO .ellipsis f := sb4 _ _ D.i2z.symm (sb3.extBut _ _ D.TOz.symm (sb2.extBut _ _ D.i1z.symm zz1))
    have hez : e ≠ z := fun x => by subst x; rw [zz4] at hoe; cases hoe; simp at hce
    refine wpAny_setField_rec zz4 (by simp) fun he5 _ sb5 => hE he5 e (fun c o c1 c2 c3 c4 x => sb5.extBut _ _ c1 (sb4 _ _ c4 (sb3.extBut _ _ c2 (sb2.extBut _ _ c3 (sb1.extBut _ _ c1 x))))) ⟨oe, sb5.extBut _ _ hez hoe, hce⟩

end
end Ev

set_option Elab.async false
set_option linter.all false
set_option maxRecDepth 100000
set_option maxHeartbeats 4000000
/-! EvMy: enumerate(zip(a, b)), its turns. -/
namespace Ev
open PySem PySem.Spec PyProof.Rows L2
def ZOk (m : Value) : Prop := m = .none ∨ ∃ T : Addr, m = rawInt T
section
variable {prog : Program} {w : World} {A : Around} {E : Value → Shared → Prop} {s : Shared}
theorem zipm_cases {z TI TO : Addr} {m : Value} {f : Bool} (hz : ZipM s.heap z TI TO m f) (hm : ZOk m) :
    (∀ (A : Around) (E : Value → Shared → Prop) (QQ : Bool → Shared → Prop), QQ true s → wpAny (model prog w) A (Builtin.SmallTypes.ownedTupleIsFree (.ref z)) QQ E s) ∨ ∃ (T : Addr) (oT : Obj), m = rawInt T ∧ s.heap.get? T = some oT := by
  rcases hm with rfl | ⟨T, rfl⟩
  · left; intro A E QQ q; unfold Builtin.SmallTypes.ownedTupleIsFree
    exact wpAny_bind (wpAny_field hz rfl (x := .none) rfl (wpAny_pure q))
  · cases e : s.heap.get? T with
    | some o => exact .inr ⟨T, o, rfl, e⟩
    | none =>
      left; intro A E QQ q; unfold Builtin.SmallTypes.ownedTupleIsFree
      refine wpAny_bind (wpAny_field hz rfl (x := rawInt T) rfl ?_)
      show wpAny _ _ (loadIfAlive ((T : Int).toNat) >>= _) _ _ _
      rw [Int.toNat_natCast]
      refine wpAny_bind ?_
      have h2 : (fun (a : Option Obj) (s1 : Shared) => wpAny (model prog w) A (if a.isNone = true then pure true else do
          if (← field (.ref z) 1) != .bool true then setField (.ref z) 1 (.bool true)
          return false) QQ E s1) (s.heap.get? T) s := by
        rw [e]
        exact wpAny_pure q
      exact fun _ _ _ => h2
/-- what a zip does, whatever it holds -/
theorem zipm_any {z TI TO i1 i2 l1 l2 : Addr} {k1 k2 : Nat} {xs ys : Array Value} {m : Value} {f : Bool} {x y a b : Value} {Q : Value → Shared → Prop} (D : ZipApart z TI TO i1 i2 l1 l2)
    (hz : ZipM s.heap z TI TO m f) (hm : ZOk m) (hTI : IsPair s.heap TI (.ref i1) (.ref i2)) (hTO : IsPair s.heap TO a b)
    (h1 : s.heap.IsListIter i1 l1 k1) (h2 : s.heap.IsListIter i2 l2 k2) (hl1 : s.heap.IsList l1 xs) (hl2 : s.heap.IsList l2 ys) (hx : xs[k1]? = some x) (hy : ys[k2]? = some y)
    (hQ : ∀ h' m' f' a' b', ZipM h' z TI TO m' f' → ZOk m' → IsPair h' TO a' b' → h'.IsListIter i1 l1 (k1 + 1) → h'.IsListIter i2 l2 (k2 + 1) → IsPair h' s.heap.objs.size x y → h'.objs.size = s.heap.objs.size + 1 →
      (∀ c o, c ≠ z → c ≠ TO → c ≠ i1 → c ≠ i2 → s.heap.get? c = some o → h'.get? c = some o) → Q (.ref s.heap.objs.size) { s with heap := h' }) :
    wpAny (model prog w) A (Builtin.«zip.__next__» ⟨[.ref z], []⟩) (fun fin s' => ∃ v, fin = .done (.ret v) ∧ Q v s') E s := by
  rcases zipm_cases (prog := prog) (w := w) hz hm with hf | ⟨T, oT, rfl, hT⟩
  · exact zipm_item D hz (hf _ _) hTI hTO h1 h2 hl1 hl2 hx hy fun h' a1 a2 a3 a4 a5 a6 a7 => hQ h' _ _ _ _ a1 (.inr ⟨_, rfl⟩) a2 a3 a4 a5 a6 a7
  · exact zip_next_item_held D hz hT hTI h1 h2 hl1 hl2 hx hy fun h' a1 a3 a4 a5 a6 a7 => hQ h' _ _ a b a1 (.inr ⟨_, rfl⟩) (a7 _ _ D.TOz D.TOi1 D.TOi2 hTO) a3 a4 a5 a6 fun c o c1 _ c3 c4 e => a7 c o c1 c3 c4 e
theorem zipm_stop {z TI TO i1 i2 l1 l2 : Addr} {k1 k2 : Nat} {xs ys : Array Value} {m : Value} {f : Bool} {a b : Value} {Q : Fin → Shared → Prop} (hh : A.handled = none) (D : ZipApart z TI TO i1 i2 l1 l2)
    (hz : ZipM s.heap z TI TO m f) (hm : ZOk m) (hTI : IsPair s.heap TI (.ref i1) (.ref i2)) (hTO : IsPair s.heap TO a b)
    (h1 : s.heap.IsListIter i1 l1 k1) (h2 : s.heap.IsListIter i2 l2 k2) (hl1 : s.heap.IsList l1 xs) (hl2 : s.heap.IsList l2 ys) (hend : xs[k1]? = none ∨ ys[k2]? = none)
    (hE : ∀ h' e, (∀ c o, c ≠ z → c ≠ TO → c ≠ i1 → c ≠ i2 → s.heap.get? c = some o → h'.get? c = some o) → (∃ o, h'.get? e = some o ∧ o.cls = .type "StopIteration") → E (.ref e) { s with heap := h' }) :
    wpAny (model prog w) A (Builtin.«zip.__next__» ⟨[.ref z], []⟩) Q E s := by
  rcases zipm_cases (prog := prog) (w := w) hz hm with hf | ⟨T, oT, rfl, hT⟩
  · exact zipm_end hh D hz (hf _ _) hTI hTO h1 h2 hl1 hl2 hend hE
  · exact zip_next_end_held hh D hz hT hTI h1 h2 hl1 hl2 hend fun h' e k => hE h' e fun c o c1 _ c3 c4 => k c o c1 c3 c4
/-- an enumerate's step, whatever it walks -/
theorem enum_any {e it : Addr} {i : Nat} {old : Value} {J : Value → Heap → Prop} {Q : Value → Shared → Prop} (he : IsEnum s.heap e it i old)
    (inner : ∀ (QQ : Value → Shared → Prop), (∀ x g1, IsEnum g1 e it i old → J x g1 → QQ x { s with heap := g1 }) → wpAny (model prog w) A (Builtin.SmallTypes.nextOf (.ref it)) QQ E s)
    (hQ : ∀ x g1 h', J x g1 → IsEnumOut h' e it ((i : Int) + 1) x g1.objs.size → h'.get? g1.objs.size = some { cls := .type "tuple", data := .seq #[.int i s.toks, x] } →
      (∀ b o, b ≠ e → g1.get? b = some o → h'.get? b = some o) → Q (.ref g1.objs.size) { s with heap := h', toks := s.toks + 1 }) :
    wpAny (model prog w) A (Builtin.«enumerate.__next__» ⟨[.ref e], []⟩) (fun fin s' => ∃ v, fin = .done (.ret v) ∧ Q v s') E s := by
  obtain ⟨g0, gg, dd, tk, os⟩ := s
  show wpAny _ _ (field (.ref e) 2 >>= _) _ _ _; refine wpAny_bind (wpAny_field he rfl (x := .ref it) rfl ?_)
  refine wpAny_bind (inner _ fun x g1 e1 jx => ?_)
  show wpAny _ _ (field (.ref e) 3 >>= _) _ _ ⟨g1, gg, dd, tk, os⟩; refine wpAny_bind (wpAny_field e1 rfl (x := rawInt i) rfl ?_)
  show wpAny _ _ (field (.ref e) 4 >>= _) _ _ ⟨g1, gg, dd, tk, os⟩; refine wpAny_bind (wpAny_field e1 rfl (x := .none) rfl ?_)
  show wpAny _ _ (mkInt i >>= _) _ _ ⟨g1, gg, dd, tk, os⟩; refine wpAny_bind (wpAny_mkInt ?_)
  show wpAny _ _ (setField (.ref e) 3 (rawInt ((i : Int) + 1)) >>= _) _ _ ⟨g1, gg, dd, tk + 1, os⟩
  refine wpAny_bind (wpAny_setField_rec e1 (by simp) fun g2 e2 s2 => ?_)
  replace s2 : Heap.SameBut e g1 g2 := s2
  replace e2 : IsEnum g2 e it ((i : Int) + 1) old := e2
  show wpAny _ _ (setField (.ref e) 4 .none >>= _) _ _ ⟨g2, gg, dd, tk + 1, os⟩
  refine wpAny_bind (wpAny_setField_rec e2 (by simp) fun g3 e3 s3 => ?_)
  replace s3 : Heap.SameBut e g2 g3 := s3
  replace e3 : IsEnum g3 e it ((i : Int) + 1) old := e3
  show wpAny _ _ (newTuple [.int i tk, x] >>= _) _ _ ⟨g3, gg, dd, tk + 1, os⟩; refine wpAny_bind (wpAny_newTuple ?_)
  have e4 : IsEnum (g3.push { cls := .type "tuple", data := .seq #[.int i tk, x] }) e it ((i : Int) + 1) old := Heap.get?_push_of_some _ e3
  generalize hg4 : g3.push { cls := .type "tuple", data := .seq #[.int i tk, x] } = g4 at e4
  have sz : g3.objs.size = g1.objs.size := by rw [s3.1, s2.1]
  have le : e < g1.objs.size := Heap.lt_size e1
  have t4 : g4.get? g1.objs.size = some { cls := .type "tuple", data := .seq #[.int i tk, x] } := by rw [← hg4, ← sz]; exact Heap.get?_push_size _ rfl
  have k4 : ∀ b o, b ≠ e → g1.get? b = some o → g4.get? b = some o := fun b o hb q => by rw [← hg4]; exact Heap.get?_push_of_some _ (s3.extBut b o hb (s2.extBut b o hb q))
  show wpAny _ _ (Builtin.SmallTypes.ownedTupleIsFree (.ref e) >>= _) _ _ ⟨g4, gg, dd, tk + 1, os⟩
  rw [sz]
  clear hg4 e3 s3 e2 s2 sz g3 g2
  refine wpAny_bind ?_
  unfold Builtin.SmallTypes.ownedTupleIsFree
  refine wpAny_bind (wpAny_field e4 rfl (x := .none) rfl (wpAny_pure ?_))
  simp only [if_true]
  refine wpAny_bind (wpAny_rule ?_); refine wpAny_bind (wpAny_field e4 rfl (x := old) rfl ?_)
  refine wpAny_bind (wpAny_setField_rec e4 (by simp) fun g5 e5 s5 => ?_)
  replace s5 : Heap.SameBut e g4 g5 := s5
  replace e5 : IsEnum g5 e it ((i : Int) + 1) x := e5
  show wpAny _ _ (Builtin.SmallTypes.ownedTupleHandOut (.ref e) (.ref g1.objs.size) >>= _) _ _ ⟨g5, gg, dd, tk + 1, os⟩
  refine wpAny_bind ?_
  unfold Builtin.SmallTypes.ownedTupleHandOut
  refine wpAny_bind (wpAny_setField_rec e5 (by simp) fun g6 e6 s6 => ?_)
  replace s6 : Heap.SameBut e g5 g6 := s6
  replace e6 : IsEnumOut g6 e it ((i : Int) + 1) x g1.objs.size := e6
  refine wpAny_setField_rec e6 (by simp) fun g7 e7 s7 => ?_
  replace s7 : Heap.SameBut e g6 g7 := s7
  replace e7 : IsEnumOut g7 e it ((i : Int) + 1) x g1.objs.size := e7
  have up : ∀ b o, b ≠ e → g4.get? b = some o → g7.get? b = some o := fun b o hb q => s7.extBut b o hb (s6.extBut b o hb (s5.extBut b o hb q))
  exact wpAny_bind (wpAny_letGo (wpAny_pure ⟨_, rfl, hQ x g1 g7 jx e7 (up _ _ (Nat.ne_of_gt le) t4) fun b o hb q => up b o hb (k4 b o hb q)⟩))
end
end Ev

set_option Elab.async false
set_option linter.all false
set_option maxRecDepth 100000
set_option maxHeartbeats 4000000
/-! EvMx: enumerate(zip(a, b)) as it is walked. -/
namespace Ev
open PySem PySem.Spec PyProof.Rows L2
section
variable {prog : Program} {w : World} {A : Around} {E : Value → Shared → Prop} {s : Shared}
theorem nextOf_zipm {z TI TO i1 i2 l1 l2 : Addr} {k1 k2 : Nat} {xs ys : Array Value} {m : Value} {f : Bool} {x y a b : Value} {Q : Value → Shared → Prop} (D : ZipApart z TI TO i1 i2 l1 l2)
    (hz : ZipM s.heap z TI TO m f) (hm : ZOk m) (hTI : IsPair s.heap TI (.ref i1) (.ref i2)) (hTO : IsPair s.heap TO a b)
    (h1 : s.heap.IsListIter i1 l1 k1) (h2 : s.heap.IsListIter i2 l2 k2) (hl1 : s.heap.IsList l1 xs) (hl2 : s.heap.IsList l2 ys) (hx : xs[k1]? = some x) (hy : ys[k2]? = some y)
    (hQ : ∀ h' m' f' a' b', ZipM h' z TI TO m' f' → ZOk m' → IsPair h' TO a' b' → h'.IsListIter i1 l1 (k1 + 1) → h'.IsListIter i2 l2 (k2 + 1) → IsPair h' s.heap.objs.size x y → h'.objs.size = s.heap.objs.size + 1 →
      (∀ c o, c ≠ z → c ≠ TO → c ≠ i1 → c ≠ i2 → s.heap.get? c = some o → h'.get? c = some o) → Q (.ref s.heap.objs.size) { s with heap := h' }) :
    wpAny (model prog w) A (Builtin.SmallTypes.nextOf (.ref z)) Q E s := by
  have hTy : s.TypeIs (.ref z) "zip" := ⟨_, hz, rfl⟩
  unfold Builtin.SmallTypes.nextOf
  refine wpAny_bind (wpAny_callSpecial?_slot (name := Str.ofString "__next__") hTy F.slot_zip_next (wpAny_call_entry F.slot_zip_next hTy F.entry_zip_next
    (zipm_any D hz hm hTI hTO h1 h2 hl1 hl2 hx hy fun h' m' f' a' b' z1 z2 z3 z4 z5 z6 z7 z8 => wpAny_pure (hQ h' m' f' a' b' z1 z2 z3 z4 z5 z6 z7 z8)) (F.args_zip_next_1 _)))
theorem nextOf_zipm_end {z TI TO i1 i2 l1 l2 : Addr} {k1 k2 : Nat} {xs ys : Array Value} {m : Value} {f : Bool} {a b : Value} {Q : Value → Shared → Prop} (hh : A.handled = none) (D : ZipApart z TI TO i1 i2 l1 l2)
    (hz : ZipM s.heap z TI TO m f) (hm : ZOk m) (hTI : IsPair s.heap TI (.ref i1) (.ref i2)) (hTO : IsPair s.heap TO a b)
    (h1 : s.heap.IsListIter i1 l1 k1) (h2 : s.heap.IsListIter i2 l2 k2) (hl1 : s.heap.IsList l1 xs) (hl2 : s.heap.IsList l2 ys) (hend : xs[k1]? = none ∨ ys[k2]? = none)
    (hE : ∀ h' e, (∀ c o, c ≠ z → c ≠ TO → c ≠ i1 → c ≠ i2 → s.heap.get? c = some o → h'.get? c = some o) → (∃ o, h'.get? e = some o ∧ o.cls = .type "StopIteration") → E (.ref e) { s with heap := h' }) :
    wpAny (model prog w) A (Builtin.SmallTypes.nextOf (.ref z)) Q E s := by
  have hTy : s.TypeIs (.ref z) "zip" := ⟨_, hz, rfl⟩
  unfold Builtin.SmallTypes.nextOf
  exact wpAny_bind (wpAny_callSpecial?_slot (name := Str.ofString "__next__") hTy F.slot_zip_next (wpAny_call_entry F.slot_zip_next hTy F.entry_zip_next (zipm_stop hh D hz hm hTI hTO h1 h2 hl1 hl2 hend hE) (F.args_zip_next_1 _)))
end
/-- the lists at a and b, their items in new pairs, numbered -/
def Itez (K : PySem.W.Frag) (a b : Addr) : It :=
  ⟨fun i H => ∃ (xs ys : List V) (x y : V), SqL K H a xs ∧ SqL K H b ys ∧ xs[i]? = some x ∧ ys[i]? = some y,
    fun i H v H' => ∃ T T2 x y, v = .ref T2 ∧ H T = none ∧ H T2 = none ∧ T ≠ T2 ∧ H' = L2.upd (L2.upd H T (.tup [x, y])) T2 (.tup [.int (i : Nat), .ref T]) ∧ (∀ xs, SqL K H a xs → xs[i]? = some x) ∧ ∀ ys, SqL K H b ys → ys[i]? = some y,
    fun i H => ∃ xs ys : List V, SqL K H a xs ∧ SqL K H b ys ∧ (xs.length ≤ i ∨ ys.length ≤ i)⟩
def ezS (e z TI TO i1 i2 a b : Addr) (i : Nat) (h : Heap) : Prop := (∃ old, IsEnum h e z ((i : Nat) : Int) old) ∧ (∃ m f, ZipM h z TI TO m f ∧ ZOk m) ∧ IsPair h TI (.ref i1) (.ref i2) ∧ (∃ x y, IsPair h TO x y) ∧ h.IsListIter i1 a i ∧ h.IsListIter i2 b i
theorem turn_enzip {P : Program} {w : World} {K : PySem.W.Frag} {elts : List Expr} {kk : Nat} {tpos : Pos} {a b e z TI TO i1 i2 : Addr} (D : ZipApart z TI TO i1 i2 a b) (ez : e ≠ z) (eTI : e ≠ TI) (eTO : e ≠ TO) (ei1 : e ≠ i1) (ei2 : e ≠ i2) :
    Turn P w K (.Tuple elts kk tpos) (Itez K a b) [e, z, TI, TO, i1, i2] e (ezS e z TI TO i1 i2 a b) where
  mem := by simp
  obj := fun i h st c hc => by
    obtain ⟨⟨old, he⟩, ⟨m, f, hz, _⟩, hTI, ⟨x, y, hTO⟩, ⟨o1, e1, _, d1⟩, ⟨o2, e2, _, d2⟩⟩ := st
    have e' : c = e ∨ c = z ∨ c = TI ∨ c = TO ∨ c = i1 ∨ c = i2 := by simpa using hc
    rcases e' with q | q | q | q | q | q
    · rw [q]; exact ⟨_, he, fun v q => nomatch q⟩
    · rw [q]; exact ⟨_, hz, fun v q => nomatch q⟩
    · rw [q]; exact ⟨_, hTI, fun v q => nomatch q⟩
    · rw [q]; exact ⟨_, hTO, fun v q => nomatch q⟩
    · rw [q]; exact ⟨o1, e1, fun v q => by rw [d1] at q; cases q⟩
    · rw [q]; exact ⟨o2, e2, fun v q => by rw [d2] at q; cases q⟩
  keep := fun i h h' st k => by
    obtain ⟨⟨old, he⟩, ⟨m, f, hz, hm⟩, hTI, ⟨x, y, hTO⟩, h1, h2⟩ := st
    exact ⟨⟨old, k e (by simp) _ he⟩, ⟨m, f, k z (by simp) _ hz, hm⟩, k TI (by simp) _ hTI, ⟨x, y, k TO (by simp) _ hTO⟩, h1.at fun o q => k i1 (by simp) o q, h2.at fun o q => k i2 (by simp) o q⟩
  item := by
    intro X hP hw hK hc i pins s σ H E I hf st hg
    subst hP hw hK
    obtain ⟨⟨old, he⟩, ⟨m, f, hz, hm⟩, hTI, ⟨x0, y0, hTO⟩, h1, h2⟩ := st
    obtain ⟨xs, ys, x, y, hqx, hqy, hx, hy⟩ := hg
    obtain ⟨its, rv, p, _⟩ := I.list hqx
    obtain ⟨its2, rv2, p2, _⟩ := I.list hqy
    obtain ⟨u, hu, ru⟩ := rv.get hx
    obtain ⟨u2, hu2, ru2⟩ := rv2.get hy
    have lts : ∀ c ∈ [e, z, TI, TO, i1, i2], c < s.heap.objs.size := fun c hcm => by
      have e' : c = e ∨ c = z ∨ c = TI ∨ c = TO ∨ c = i1 ∨ c = i2 := by simpa using hcm
      rcases e' with q | q | q | q | q | q
      · rw [q]; exact Heap.lt_size he
      · rw [q]; exact Heap.lt_size hz
      · rw [q]; exact Heap.lt_size hTI
      · rw [q]; exact Heap.lt_size hTO
      · rw [q]; obtain ⟨_, e1, _⟩ := h1; exact Heap.lt_size e1
      · rw [q]; obtain ⟨_, e2, _⟩ := h2; exact Heap.lt_size e2
    have hTy : s.TypeIs (.ref e) "enumerate" := ⟨_, he, rfl⟩
    unfold pyNext
    refine wpAny_bind (wpAny_attempt (wpAny_callSpecial?_slot (name := Str.ofString "__next__") hTy F.slot_enumerate_next (wpAny_call_entry F.slot_enumerate_next hTy F.entry_enumerate_next
      (enum_any (J := fun v g1 => v = .ref s.heap.objs.size ∧ (∃ m f, ZipM g1 z TI TO m f ∧ ZOk m) ∧ (∃ a' b', IsPair g1 TO a' b') ∧ g1.IsListIter i1 a (i + 1) ∧ g1.IsListIter i2 b (i + 1) ∧ IsPair g1 s.heap.objs.size u u2 ∧ g1.objs.size = s.heap.objs.size + 1 ∧
          ∀ c o, c ≠ z → c ≠ TO → c ≠ i1 → c ≠ i2 → s.heap.get? c = some o → g1.get? c = some o) he
        (fun QQ hq => nextOf_zipm D hz hm hTI hTO h1 h2 p.isList p2.isList (x := u) (y := u2) (by simpa using hu) (by simpa using hu2) fun g1 m' f' a' b' z1 z2 z3 z4 z5 z6 z7 z8 =>
          hq _ g1 (z8 _ _ ez eTO ei1 ei2 he) ⟨rfl, ⟨m', f', z1, z2⟩, ⟨a', b', z3⟩, z4, z5, z6, z7, z8⟩) fun v g1 h' jx eo hT k => wpAny_pure ?_) (F.args_enumerate_next_1 _))))
    obtain ⟨rfl, ⟨m', f', z1, z2⟩, ⟨a', b', z3⟩, z4, z5, z6, z7, z8⟩ := jx
    refine ⟨_, rfl, wpAny_letOwnedTupleGo_enum (s := { s with heap := h', toks := s.toks + 1 }) eo fun h'' he'' sb => ?_⟩
    have k2 : ∀ c o, c ≠ e → g1.get? c = some o → h''.get? c = some o := fun c o hce q => (sb.2 c hce).trans (k c o hce q)
    have el := lts e (by simp)
    have hT2 : h''.get? g1.objs.size = some { cls := .type "tuple", data := .seq #[.int i s.toks, .ref s.heap.objs.size] } := (sb.2 _ (by rw [z7]; exact Nat.ne_of_gt (Nat.lt_succ_of_lt el))).trans hT
    have new1 : ObjOk X.prog X.w (L2.upd H s.heap.objs.size (.tup [x, y])) g1 s.heap.objs.size (.tup [x, y]) :=
      ⟨by show 2 ≤ sizeLine; decide, [u, u2], .cons ru (.cons ru2 .nil), ⟨_, z6, rfl, _, rfl⟩⟩
    have I1 : Inv X pins σ (L2.upd H s.heap.objs.size (.tup [x, y])) { s with heap := g1 } :=
      I.turnedNew (t' := s.toks) (ch := [e, z, TI, TO, i1, i2]) (fun c o hb q => z8 c o (fun q' => hb (by simp [q'])) (fun q' => hb (by simp [q'])) (fun q' => hb (by simp [q'])) (fun q' => hb (by simp [q'])) q) hf (Nat.le_refl _) new1
    have new2 : ObjOk X.prog X.w (L2.upd (L2.upd H s.heap.objs.size (.tup [x, y])) g1.objs.size (.tup [.int (i : Nat), .ref s.heap.objs.size])) h'' g1.objs.size (.tup [.int (i : Nat), .ref s.heap.objs.size]) :=
      ⟨by show 2 ≤ sizeLine; decide, [.int i s.toks, .ref s.heap.objs.size], .cons ⟨_, rfl⟩ (.cons rfl .nil), ⟨_, hT2, rfl, _, rfl⟩⟩
    have fe : ∀ c ∈ [e], FpOk X pins (L2.upd H s.heap.objs.size (.tup [x, y])) c := fun c hcm => by
      obtain rfl : c = e := by simpa using hcm
      obtain ⟨f0, f1⟩ := hf c (by simp)
      exact ⟨by rw [upd_ne (Nat.ne_of_lt el)]; exact f0, f1⟩
    have I2 : Inv X pins σ (L2.upd (L2.upd H s.heap.objs.size (.tup [x, y])) g1.objs.size (.tup [.int (i : Nat), .ref s.heap.objs.size])) { s with heap := h'', toks := s.toks + 1 } :=
      I1.turnedNew (s := { s with heap := g1 }) (t' := s.toks + 1) (ch := [e]) (fun c o hb q => k2 c o (fun q' => hb (by simp [q'])) q) fe (Nat.le_refl _) new2
    have n1 : H s.heap.objs.size = none := I.hok.fresh (Nat.le_refl _)
    have n2 : H g1.objs.size = none := I.hok.fresh (by rw [z7]; exact Nat.le_succ _)
    refine ⟨.ref g1.objs.size, _, I2, rfl, ⟨_, _, x, y, rfl, n1, n2, by rw [z7]; exact Nat.ne_of_lt (Nat.lt_succ_self _), rfl, fun l hl => by rw [I.list_inj hl hqx]; exact hx, fun l hl => by rw [I.list_inj hl hqy]; exact hy⟩,
      ⟨⟨.ref s.heap.objs.size, ?_⟩, ⟨m', f', k2 _ _ (Ne.symm ez) z1, z2⟩, k2 _ _ (Ne.symm eTI) (z8 _ _ D.TIz D.TITO D.TIi1 D.TIi2 hTI), ⟨a', b', k2 _ _ (Ne.symm eTO) z3⟩, z4.at fun o q => k2 _ _ (Ne.symm ei1) q, z5.at fun o q => k2 _ _ (Ne.symm ei2) q⟩, fun c hcm => ?_⟩
    · have e1 : ((i + 1 : Nat) : Int) = (i : Int) + 1 := by omega
      rw [e1]; exact he''
    · have := lts c hcm
      rw [upd_ne (by rw [z7]; exact Nat.ne_of_lt (Nat.lt_succ_of_lt this)), upd_ne (Nat.ne_of_lt this)]
      exact (hf c hcm).1
  done := by
    intro X hP hw hK hc i pins s σ H E I hf st hg
    subst hP hw hK
    obtain ⟨⟨old, he⟩, ⟨m, f, hz, hm⟩, hTI, ⟨x0, y0, hTO⟩, h1, h2⟩ := st
    obtain ⟨xs, ys, hqx, hqy, hend⟩ := hg
    obtain ⟨its, rv, p, _⟩ := I.list hqx
    obtain ⟨its2, rv2, p2, _⟩ := I.list hqy
    have l1 := rv.length
    have l2 := rv2.length
    have hn : its.toArray[i]? = none ∨ its2.toArray[i]? = none := by
      rcases hend with q | q
      · exact .inl (by simp; omega)
      · exact .inr (by simp; omega)
    have hTy : s.TypeIs (.ref e) "enumerate" := ⟨_, he, rfl⟩
    unfold pyNext
    refine wpAny_bind (wpAny_attempt (wpAny_callSpecial?_slot (name := Str.ofString "__next__") hTy F.slot_enumerate_next (wpAny_call_entry F.slot_enumerate_next hTy F.entry_enumerate_next ?_ (F.args_enumerate_next_1 _))))
    show wpAny _ _ (field (.ref e) 2 >>= _) _ _ _
    refine wpAny_bind (wpAny_field he rfl (x := .ref z) rfl ?_)
    refine wpAny_bind (nextOf_zipm_end (I.ok.hd hc) D hz hm hTI hTO h1 h2 p.isList p2.isList hn fun h' q hk hq => ?_)
    obtain ⟨o, ho, hcl⟩ := hq
    refine wpAny_bind (wpAny_isInstance (T := "StopIteration") (b := true) ⟨o, ho, hcl⟩ isSubtype_stop ?_)
    exact wpAny_pure ⟨rfl, I.turnedL (t' := s.toks) (ch := [e, z, TI, TO, i1, i2]) (fun c o hb q => hk c o (fun q' => hb (by simp [q'])) (fun q' => hb (by simp [q'])) (fun q' => hb (by simp [q'])) (fun q' => hb (by simp [q'])) q) hf⟩
  self := fun A i s Q E st h => let ⟨⟨_, he⟩, _⟩ := st; wpAny_pyIter_enum he h
end Ev

set_option Elab.async false
set_option linter.all false
set_option maxRecDepth 100000
set_option maxHeartbeats 4000000
/-! EvMw: enumerate(zip(a, b)) over lists. -/
namespace Ev
open PySem PySem.Spec PyProof.Rows L2
theorem meets_enumZ (z TI TO : Addr) (f0 : Value) :
    Meets (Builtin.«enumerate.__new__» ⟨[.type "enumerate", .ref z], []⟩) (fun _ R s => IsZip s.heap z TI TO f0 ∧
      R (.ok (.ret (.ref s.heap.objs.size))) { s with heap := s.heap.push { cls := .type "enumerate", data := .fields #[.none, .bool false, .ref z, rawInt 0, .none, .none] } }) :=
  .of_wp fun prog w A R s h => by
    obtain ⟨hp, g, d, tk, os⟩ := s; obtain ⟨hl, h⟩ := h
    have hsub := sub_enumerate
    have q1 : ∀ {A' : Around} {E : Value → Shared → Prop} {Q : Value → Shared → Prop}, Q (.ref z) ⟨hp, g, d, tk, os⟩ → wpAny (model prog w) A' (pyIter (.ref z)) Q E ⟨hp, g, d, tk, os⟩ :=
      fun q => wpAny_pyIter_zip hl q
    wp_walk using q1
    refine wpAny_stack_any fun st => wpAny_pure ?_
    split
    · rename_i c _ _ _ _ _
      cases (c == Value.type "enumerate")
      · wp_walk using q1
        exact ⟨_, rfl, h⟩
      · wp_walk using q1
        exact ⟨_, rfl, h⟩
    · wp_walk using q1
      exact ⟨_, rfl, h⟩
section
variable {prog : Program} {w : World} {A : Around} {E : Value → Shared → Prop} {s : Shared}
theorem call_enumZ {z TI TO : Addr} {f0 : Value} {Q : Value → Shared → Prop} (hz : IsZip s.heap z TI TO f0)
    (h : ∀ h', IsEnum h' s.heap.objs.size z 0 .none → h'.objs.size = s.heap.objs.size + 1 → (∀ b o, s.heap.get? b = some o → h'.get? b = some o) → Q (.ref s.heap.objs.size) { s with heap := h' }) :
    wpAny (model prog w) A (call (.type "enumerate") [.ref z]) Q E s := by
  refine callType_new F.called_enumerate (by decide) (F.typeCall_enumerate_1 _) (F.newCall_enumerate_1 _) (fun obj => F.args_object_init_2 obj _) F.entry_enumerate_new (meets_enumZ z TI TO f0) ⟨hz, ?_⟩
  show _ ∧ _
  have he : IsEnum (s.heap.push { cls := .type "enumerate", data := .fields #[.none, .bool false, .ref z, rawInt 0, .none, .none] }) s.heap.objs.size z 0 .none := Heap.get?_push_size _ rfl
  exact ⟨⟨_, he, rfl⟩, h _ he (by rw [Heap.size_push]) fun b o x => Heap.get?_push_of_some _ x⟩
end
/-- enumerate of a zip of two lists -/
theorem pi_enzip {X : Cx} {e e2 : Expr} {ta : TA} {p p2 pos pos2 tpos : Pos} {elts : List Expr} {kk : Nat} (hg : Gl X "enumerate") (hm : X.mg "enumerate" = none) (hgz : Gl X "zip") (hmz : X.mg "zip" = none) (ha : PA X [e, e2] ta)
    (hs : starEach [e, e2] X.env = (false, eval e X.env) :: starEach [e2] X.env) (hpl : (backTo pos2 (starEach [e2] X.env)).any (·.1) = false) :
    PI X (.Tuple elts kk tpos) (.Call (.Name "enumerate" p) [.Call (.Name "zip" p2) [e, e2] [] pos2] [] pos) (fun σ H R => ta σ H fun vs H1 => ∃ a b xs ys, vs = [.ref a, .ref b] ∧ SqL X.K H1 a xs ∧ SqL X.K H1 b ys ∧ R (Itez X.K a b) H1) := by
  refine ⟨fun pins s σ H R I h => ?_⟩
  refine Call_ (ld_blt I hg hm boot_enumerate (PyProof.Rows.callWith_type1 (Calls.spliced_cons ?_) rfl rfl))
  refine Call_ (ld_blt I hgz hmz PyProof.Rows.boot_zip (PyProof.Rows.callWith_type1 (thn (ha.run pos2 pins s σ H _ I h) fun us s1 ⟨vs, H1, I1, r1, q1⟩ => ?_) hs hpl))
  obtain ⟨a, b, xs, ys, ex, hqx, hqy, q⟩ := q1
  subst ex
  cases r1 with
  | cons r rr =>
    cases rr with
    | cons r' rr =>
      cases rr
      cases r
      cases r'
      obtain ⟨its, rv, p1, _⟩ := I1.list hqx
      obtain ⟨its2, rv2, p2', _⟩ := I1.list hqy
      have la : a < s1.heap.objs.size := p1.lt
      have lb : b < s1.heap.objs.size := p2'.lt
      refine call_zip_2 p1.isList p2'.isList fun h' hz hTI hTO h1 h2 hsz hk => Calls.spliced_nil ?_
      refine call_enumZ (s := { s1 with heap := h' }) hz fun h'' he hsz2 hk2 => wpAny_pyIter_enum he ?_
      have he : IsEnum h'' h'.objs.size (s1.heap.objs.size + 4) 0 .none := he
      have hk2 : ∀ b o, h'.get? b = some o → h''.get? b = some o := hk2
      rw [hsz] at he
      have I2 : Inv X pins σ H1 { s1 with heap := h'' } := I1.kept (t' := s1.toks) fun b o q => hk2 b o (hk b o q)
      refine ⟨h'.objs.size, [s1.heap.objs.size + 5, s1.heap.objs.size + 4, s1.heap.objs.size + 2, s1.heap.objs.size + 3, s1.heap.objs.size, s1.heap.objs.size + 1], ezS (s1.heap.objs.size + 5) (s1.heap.objs.size + 4) (s1.heap.objs.size + 2) (s1.heap.objs.size + 3) s1.heap.objs.size (s1.heap.objs.size + 1) a b, Itez X.K a b, H1, rfl, I2, ?_, ?_, fun c hcm => ?_, q⟩
      · rw [hsz]
        exact turn_enzip (PySem.W.ktu_apart s1.heap.objs.size a b la lb) (by intro z; simp at z) (by intro z; simp at z) (by intro z; simp at z) (by intro z; simp at z) (by intro z; simp at z)
      · exact ⟨⟨_, he⟩, ⟨_, _, hk2 _ _ hz, .inl rfl⟩, hk2 _ _ hTI, ⟨_, _, hk2 _ _ hTO⟩, h1.at fun o q => hk2 _ _ q, h2.at fun o q => hk2 _ _ q⟩
      · have hle : s1.heap.objs.size ≤ c := by
          have e' : c = s1.heap.objs.size + 5 ∨ c = s1.heap.objs.size + 4 ∨ c = s1.heap.objs.size + 2 ∨ c = s1.heap.objs.size + 3 ∨ c = s1.heap.objs.size ∨ c = s1.heap.objs.size + 1 := by simpa using hcm
          rcases e' with z | z | z | z | z | z <;> rw [z] <;> first | exact Nat.le_add_right _ _ | exact Nat.le_refl _
        exact I1.fpOk hle (I1.hok.fresh hle)
section
variable {fa : FA} {f : Nat → Addr} {R : Addr → Prop} {B : Nat → Prop} {h : Hh} {H : Hp} {K : PySem.W.Frag}
theorem wk_enzip {a b : Addr} {xs ys : List D} {vs ws : List V} (e : H a = some (.lst vs)) (o : Off f h.length R a) (t : RDs fa f h.length R H xs vs) (e3 : H b = some (.lst ws)) (o3 : Off f h.length R b) (t3 : RDs fa f h.length R H ys ws) : Wk fa f R B h H 2 (enumI 0 (zipI xs ys)) (Itez K a b) := by
  intro f' E R' h' H' x hE g s
  obtain ⟨o', e'⟩ := o.mv x hE g (by rw [e]; rfl)
  obtain ⟨o4, e4⟩ := o3.mv x hE g (by rw [e3]; rfl)
  have e2 : H' a = some (.lst vs) := e'.trans e
  have e5 : H' b = some (.lst ws) := e4.trans e3
  have t' := t.mv x hE g
  have t4 := t3.mv x hE g
  refine ⟨fun i x hx => ?_, fun i hi => ⟨vs, ws, .of e2, .of e5, by rw [enumI_len, zipI_len] at hi; rw [← t'.length, ← t4.length]; omega⟩⟩
  obtain ⟨yz, hyz, rfl⟩ := enumI_get hx
  obtain ⟨y, z, hy, hz, rfl⟩ := zipI_get hyz
  obtain ⟨v, hv, rv⟩ := t'.get hy
  obtain ⟨u, hu, ru⟩ := t4.get hz
  refine ⟨⟨vs, ws, v, u, .of e2, .of e5, hv, hu⟩, fun v' H'' yy => ?_⟩
  obtain ⟨T, T2, w, w', rfl, hT, hT2, ne, rfl, q, q'⟩ := yy
  have h1 := q vs (.of e2)
  have h2 := q' ws (.of e5)
  rw [hv] at h1
  rw [hu] at h2
  cases h1
  cases h2
  have hT3 : L2.upd H' T (.tup [v, u]) T2 = none := by rw [upd_ne (Ne.symm ne)]; exact hT2
  have E1 : Ext f' h'.length R' H' f' h'.length (L2.upd H' T (.tup [v, u])) := Ext.upd hT
  have E2 : Ext f' h'.length R' (L2.upd H' T (.tup [v, u])) f' h'.length (L2.upd (L2.upd H' T (.tup [v, u])) T2 (.tup [.int (i : Nat), .ref T])) := Ext.upd hT3
  rw [Nat.zero_add]
  exact ⟨E1.trans E2, (s.upd hT).upd hT3, T2, _, _, _, .tup [y, z], rfl, rfl, upd_same, .int _, T, v, u, y, z, rfl, rfl, by rw [upd_ne ne]; exact upd_same, (rv.ext (R := R') E1).ext (R := R') E2, (ru.ext (R := R') E1).ext (R := R') E2⟩
end
section
variable {X : Cx} {Γ : Cst} {F : Fr} {W : WX} {a b : Expr} {a' b' : Ex} {pos pos2 : Pos}
theorem snd_enzip {p p2 tpos : Pos} {elts : List Expr} {kk : Nat} (hg : Gl X "enumerate") (hm : X.mg "enumerate" = none) (hgz : Gl X "zip") (hmz : X.mg "zip" = none) (ha : PP X Γ F W a a') (hb : PP X Γ F W b b') : PI X (.Tuple elts kk tpos) (.Call (.Name "enumerate" p) [.Call (.Name "zip" p2) [a, b] [] pos2] [] pos) (tI X.K Γ F W (.enzip a' b')) :=
  imI (pi_enzip hg hm hgz hmz (snd_args (.cons ha (.cons hb .nil))) (nice_star ha.n) (by rw [nice_star hb.n]; rfl)) fun σ H Q ⟨R, B, f, h, ds, A, p⟩ => by
    have e1 : evI F (.enzip a' b') ds h = (evEs F [a', b'] ds h).bind fun vs h => match vs with
        | [x, y] => Res.of (zipE x y) h
        | _ => .fail := by
      show (evE F a' ds h).bind (fun x h => (evE F b' ds h).bind fun y h => Res.of (zipE x y) h) = ((evE F a' ds h).bind fun d h => ((evE F b' ds h).bind fun d h => (Res.ok [] h).bind fun ds h => .ok (d :: ds) h).bind fun ds h => .ok (d :: ds) h).bind _
      cases evE F a' ds h with
      | ok x h1 =>
        dsimp only [Res.bind]
        cases evE F b' ds h1 <;> rfl
      | _ => rfl
    rw [e1] at p
    exact mkA' A p fun xs vs f1 h1 H1 ln x A1 r p1 => by
      match xs, ln with
      | [d, e], _ =>
        obtain ⟨v, w, rfl, r1, r2⟩ := rds2 r
        obtain ⟨s, hs, q⟩ := p1.of
        cases d with
        | lst xs =>
          cases e with
          | lst ys =>
            cases hs
            obtain ⟨a, vs, rfl, e, o, t⟩ := src_lst (B := B) (h := h) r1
            obtain ⟨b, ws, rfl, e', o', t'⟩ := src_lst (B := B) (h := h) r2
            exact ⟨a, b, vs, ws, rfl, .of e, .of e', q f1 H1 _ .refl A1.sim (wk_enzip e o t e' o' t')⟩
          | _ => cases hs
        | _ => cases hs
end
end Ev

set_option Elab.async false
set_option linter.all false
set_option maxRecDepth 100000
set_option maxHeartbeats 4000000
/-! EvN: list comprehensions. -/
namespace Ev
open PySem PySem.Spec PyProof.Rows L2
section
variable {fa : FA} {f : Nat → Addr} {n : Nat} {R : Addr → Prop} {B : Nat → Prop} {h : Hh} {H : Hp} {p : Addr} {o : HO}
/-- a reserved object is written -/
theorem RD.res (hp : R p) {d : D} {v : V} (r : RD fa f n R H d v) : RD fa f n R (L2.upd H p o) d v := r.go (fun a q _ => ⟨q, upd_ne fun e => q.1 (e ▸ hp)⟩) fun k h => ⟨h, rfl⟩
theorem RDs.res (hp : R p) {d : List D} {v : List V} (r : RDs fa f n R H d v) : RDs fa f n R (L2.upd H p o) d v := r.go (fun a q _ => ⟨q, upd_ne fun e => q.1 (e ▸ hp)⟩) fun k h => ⟨h, rfl⟩
theorem Sim.resUpd (s : Sim fa f R B h H) (hp : R p) : Sim fa f R B h (L2.upd H p o) where
  cell := fun k c e => by
    have x := s.cell k c e
    have ne : f k ≠ p := fun q => s.off k (List.getElem?_eq_some_iff.mp e).1 (q ▸ hp)
    cases c with
    | lst xs => obtain ⟨vs, e1, r⟩ := x; exact ⟨vs, (upd_ne ne).trans e1, r.res hp⟩
    | dct _ _ => obtain ⟨k, us, ws, e1, r, r'⟩ := x; exact ⟨k, us, ws, (upd_ne ne).trans e1, r.res hp, r'.res hp⟩
  inj := s.inj
  off := s.off
  res := fun a r => by
    by_cases e : a = p
    · rw [e, upd_same]; rfl
    · rw [upd_ne e]; exact s.res a r
  own := s.own
theorem wipe_get {vs : List Nat} : ∀ {ds : Sl} {i : Nat} {d : D}, (Ev.wipe vs ds)[i]? = some (some d) → ds[i]? = some (some d) ∧ i ∉ vs := by
  induction vs with
  | nil => intro ds i d h; exact ⟨h, by simp⟩
  | cons v vs ih =>
    intro ds i d h
    have h : ((Ev.wipe vs ds).set v none)[i]? = some (some d) := h
    by_cases hi : v = i
    · subst hi
      by_cases hv : v < (Ev.wipe vs ds).length
      · rw [List.getElem?_set_self hv] at h; cases h
      · rw [List.getElem?_eq_none (by simpa using hv)] at h; cases h
    · rw [List.getElem?_set_ne hi] at h
      obtain ⟨h1, h2⟩ := ih h
      exact ⟨h1, by simp only [List.mem_cons, not_or]; exact ⟨fun e => hi e.symm, h2⟩⟩
theorem wipe_len {vs : List Nat} {ds : Sl} : (Ev.wipe vs ds).length = ds.length := by
  induction vs with
  | nil => rfl
  | cons v vs ih => show ((Ev.wipe vs ds).set v none).length = _; rw [List.length_set, ih]
theorem wipe_at {vs : List Nat} : ∀ {σ : L2.St} {i : Nat} {x : Option V}, σ[i]? = some x → i ∉ vs → (L2.wipe σ vs)[i]? = some x := by
  induction vs with
  | nil => intro σ i x h _; exact h
  | cons v vs ih =>
    intro σ i x h hi
    simp only [List.mem_cons, not_or] at hi
    show ((L2.wipe σ vs).set v none)[i]? = some x
    rw [List.getElem?_set_ne (fun e => hi.1 e.symm)]
    exact ih h hi.2
theorem wipe_idem (vs : List Nat) (σ : L2.St) : L2.wipe (L2.wipe σ vs) vs = L2.wipe σ vs := by
  have g : ∀ (ws : List Nat) (σ : L2.St), (∀ i ∈ ws, i ∈ vs) → L2.wipe (L2.wipe σ ws) vs = L2.wipe σ vs := by
    intro ws
    induction ws with
    | nil => intro σ _; rfl
    | cons w ws ih =>
      intro σ h
      show L2.wipe ((L2.wipe σ ws).set w none) vs = _
      rw [wipe_set (h w (by simp))]
      exact ih σ fun i hi => h i (List.mem_cons_of_mem _ hi)
  exact g vs σ fun _ h => h
theorem RSl.wipe {vs : List Nat} {ds : Sl} {σ : L2.St} (r : RSl fa f n R H ds σ) : RSl fa f n R H (Ev.wipe vs ds) (L2.wipe σ vs) := by
  refine ⟨by rw [wipe_len, L2.wipe_length, r.len], fun i d h => ?_⟩
  obtain ⟨h1, h2⟩ := wipe_get h
  obtain ⟨v, h3, h4⟩ := r.get i d h1
  exact ⟨v, wipe_at h3 h2, h4⟩
end
theorem ok_bind {α β : Type} {r : Res α} {k : α → Hh → Res β} {b : β} {h : Hh} (e : r.bind k = .ok b h) : ∃ a h1, r = .ok a h1 ∧ k a h1 = .ok b h := by
  cases r with
  | ok a h1 => exact ⟨a, h1, rfl, e⟩
  | _ => cases e
theorem ok_quiet {α : Type} {r : Res α} {a : α} {h : Hh} (e : r.quiet = .ok a h) : r = .ok a h := by
  cases r <;> first | exact e | cases e
theorem ok_of {α : Type} {o : Option α} {a : α} {h h1 : Hh} (e : Res.of o h = .ok a h1) : o = some a ∧ h1 = h := by
  cases o with
  | none => cases e
  | some b => cases e; exact ⟨rfl, rfl⟩
/-- a loop's state: base, the new list, what is in it -/
structure LS (fa : FA) (f0 : Nat → Addr) (n0 : Nat) (R0 : Addr → Prop) (H0 : Hp) (R' : Addr → Prop) (B : Nat → Prop) (Dl : Addr) (acc : List D) (f' : Nat → Addr) (h' : Hh) (H : Hp) : Prop where
  ext : Ext0 f0 n0 (· = Dl) H0 f' h'.length H
  sim : Sim fa f' R' B h' H
  lst : ∃ us, H Dl = some (.lst us) ∧ RDs fa f' h'.length R' H acc us
section
variable {fa : FA} {f0 : Nat → Addr} {h0 : Hh} {R0 : Addr → Prop} {H0 : Hp} {R' : Addr → Prop} {B : Nat → Prop} {Dl : Addr}
theorem LS.go {acc : List D} {f' f2 : Nat → Addr} {h' h2 : Hh} {H H2 : Hp} (hD : R' Dl) (l : LS fa f0 h0.length R0 H0 R' B Dl acc f' h' H) (x : Ext f' h'.length R' H f2 h2.length H2) (s : Sim fa f2 R' B h2 H2) : LS fa f0 h0.length R0 H0 R' B Dl acc f2 h2 H2 := by
  obtain ⟨us, e, t⟩ := l.lst
  exact ⟨l.ext.trans x.to0, s, us, (x.keep Dl (fun k hk z => l.sim.off k hk (z ▸ hD)) (by rw [e]; rfl)).trans e, t.ext x⟩
def runS (T : D → Hh → Res (List D)) : Src → Hh → Res (List D)
  | .items xs, h => compL T xs h
  | .cell en n, h => compC T en n 100000 0 h
/-- the walk of a clause -/
theorem loopW {K : PySem.W.Frag} {Γ : Cst} (hΓ : Γ.fa = fa) {p : Nat} {src : Src} {J : It} {T : D → Hh → Res (List D)} {acc0 accE : List D} {hE : Hh} {fS : Nat → Addr} {hS : Hh} {HS : Hp} {Fin : Hp → Prop} {Body : V → Hp → (Hp → Prop) → Prop}
    (wk : relS K Γ R0 B p f0 h0 H0 src J) (hSub : Sub (· = Dl) R0 H0) (g : Grow R0 R' H0) (hD : R' Dl) (res : runS T src hS = .ok accE hE) (start : LS fa f0 h0.length R0 H0 R' B Dl acc0 fS hS HS)
    (body : ∀ x acc f' h' ys h'' v H'', T x h' = .ok ys h'' → LS fa f0 h0.length R0 H0 R' B Dl acc f' h' H'' → RY fa f' h'.length R' H'' p x v → acc.length + ys.length ≤ acc0.length + accE.length → Body v H'' fun H' => ∃ f'', LS fa f0 h0.length R0 H0 R' B Dl (acc ++ ys) f'' h'' H')
    (fin : ∀ f' H', LS fa f0 h0.length R0 H0 R' B Dl (acc0 ++ accE) f' hE H' → Fin H') :
    ∃ W : Nat → Nat → Hp → Prop, (∃ m, W 0 m HS) ∧ ∀ i m H, W i m H → (J.stop i H ∧ Fin H) ∨ (J.go i H ∧ ∃ Nx : Hp → Prop, (∀ H', Nx H' → ∃ m', m' < m ∧ W (i + 1) m' H') ∧ ∀ v H', J.yld i H v H' → Body v H' Nx) := by
  subst hΓ
  cases src with
  | items xs =>
    have wk : Wk Γ.fa f0 R0 B h0 H0 p xs J := wk
    have res : compL T xs hS = .ok accE hE := res
    refine ⟨fun i m H => m = xs.length - i ∧ i ≤ xs.length ∧ ∃ acc f' h' zs, LS Γ.fa f0 h0.length R0 H0 R' B Dl (acc0 ++ acc) f' h' H ∧ compL T (xs.drop i) h' = .ok zs hE ∧ accE = acc ++ zs,
      ⟨xs.length, by simp, Nat.zero_le _, [], fS, hS, accE, by simpa using start, by simpa using res, rfl⟩, ?_⟩
    rintro i m H ⟨rfl, hi, acc, f', h', zs, l, rs, ea⟩
    obtain ⟨w1, w2⟩ := wk f' (· = Dl) R' h' H l.ext hSub g l.sim
    by_cases hlt : i < xs.length
    · obtain ⟨go, yl⟩ := w1 i xs[i] (List.getElem?_eq_getElem hlt)
      rw [List.drop_eq_getElem_cons hlt] at rs
      obtain ⟨ys, h2, t1, rs⟩ := ok_bind (show (T xs[i] h').bind (fun ys h => (compL T (xs.drop (i + 1)) h).bind fun zs h => .ok (ys ++ zs) h) = .ok zs hE from rs)
      obtain ⟨ws, h3, t2, rs⟩ := ok_bind rs
      cases rs
      refine .inr ⟨go, fun H' => ∃ f'', LS Γ.fa f0 h0.length R0 H0 R' B Dl (acc0 ++ acc ++ ys) f'' h2 H', fun H' ⟨f'', l'⟩ => ⟨xs.length - (i + 1), by omega, rfl, hlt, acc ++ ys, f'', h2, ws, by rw [← List.append_assoc]; exact l', t2, by rw [ea, List.append_assoc]⟩, fun v H' y => ?_⟩
      obtain ⟨x, s, r⟩ := yl v H' y
      exact body xs[i] (acc0 ++ acc) f' h' ys h2 v H' t1 (l.go hD x s) r (by rw [ea]; simp only [List.length_append]; omega)
    · have e : i = xs.length := by omega
      subst e
      rw [List.drop_length] at rs
      cases rs
      refine .inl ⟨w2 _ (Nat.le_refl _), fin f' H ?_⟩
      rw [ea, List.append_nil]
      exact l
  | cell en n =>
    obtain ⟨rfl, hn, rfl⟩ : p = pc en ∧ n < h0.length ∧ J = Jc K en (f0 n) := wk
    have res : compC T en n 100000 0 hS = .ok accE hE := res
    refine ⟨fun i m H => m + i = 100000 ∧ ∃ acc f' h' zs, LS Γ.fa f0 h0.length R0 H0 R' B Dl (acc0 ++ acc) f' h' H ∧ compC T en n m i h' = .ok zs hE ∧ accE = acc ++ zs,
      ⟨100000, by simp, [], fS, hS, accE, by simpa using start, by simpa using res, rfl⟩, ?_⟩
    rintro i m H ⟨hm, acc, f', h', zs, l, rs, ea⟩
    have hn' : n < h'.length := Nat.lt_of_lt_of_le hn l.ext.le
    have e1 : h'[n]? = some h'[n] := List.getElem?_eq_getElem hn'
    have c := l.sim.cell n _ e1
    rw [l.ext.same n hn] at c
    cases qq : h'[n] with
    | dct ks vs =>
      rw [qq] at e1
      cases m with
      | zero =>
        have rs : (match h'[n]? with | some (.lst xs) => if i = xs.length then Res.ok [] h' else .fail | _ => .fail) = .ok zs hE := rs
        rw [e1] at rs
        cases rs
      | succ m =>
        have rs : (match h'[n]? with
          | some (.lst xs) => match xs[i]? with
            | some x => (T (pk en i x) h').bind fun ys h => (compC T en n m (i + 1) h).bind fun zs h => .ok (ys ++ zs) h
            | none => Res.ok [] h'
          | _ => .fail) = .ok zs hE := rs
        rw [e1] at rs
        cases rs
    | lst xs =>
      rw [qq] at c e1
      obtain ⟨vs, e2, t⟩ := c
      have done : ∀ {zs}, zs = [] → h' = hE → accE = acc ++ zs → xs.length ≤ i → (Jc K en (f0 n)).stop i H ∧ Fin H := fun {zs} ez eh ea hl => by
        subst ez eh
        refine ⟨jc_stop e2 (by rw [← t.length]; exact hl), fin f' H ?_⟩
        rw [ea, List.append_nil]
        exact l
      cases m with
      | zero =>
        have rs : (match h'[n]? with | some (.lst xs) => if i = xs.length then Res.ok [] h' else .fail | _ => .fail) = .ok zs hE := rs
        rw [e1] at rs
        dsimp only at rs
        split at rs
        · cases rs
          exact .inl (done rfl rfl ea (by omega))
        · cases rs
      | succ m =>
        have rs : (match h'[n]? with
          | some (.lst xs) => match xs[i]? with
            | some x => (T (pk en i x) h').bind fun ys h => (compC T en n m (i + 1) h).bind fun zs h => .ok (ys ++ zs) h
            | none => Res.ok [] h'
          | _ => .fail) = .ok zs hE := rs
        rw [e1] at rs
        dsimp only at rs
        cases hx : xs[i]? with
        | none =>
          rw [hx] at rs
          cases rs
          exact .inl (done rfl rfl ea (List.getElem?_eq_none_iff.mp hx))
        | some x =>
          rw [hx] at rs
          obtain ⟨ys, h2, t1, rs⟩ := ok_bind rs
          obtain ⟨ws, h3, t2, rs⟩ := ok_bind rs
          cases rs
          obtain ⟨v, hv, rv⟩ := t.get hx
          refine .inr ⟨jc_go e2 hv, fun H' => ∃ f'', LS Γ.fa f0 h0.length R0 H0 R' B Dl (acc0 ++ acc ++ ys) f'' h2 H', fun H' ⟨f'', l'⟩ => ⟨m, by omega, by omega, acc ++ ys, f'', h2, ws, by rw [← List.append_assoc]; exact l', t2, by rw [ea, List.append_assoc]⟩, fun v' H' y => ?_⟩
          obtain ⟨x4, s4, r4⟩ := jc_yld l.sim e2 hv rv y
          exact body (pk en i x) (acc0 ++ acc) f' h' ys h2 v' _ t1 (l.go hD x4 s4) r4 (by rw [ea]; simp only [List.length_append]; omega)
end
def tTs (Γ : Cst) (F : Fr) (W : WX) (ifs : List Ex) : TT := fun σ H Q => ∃ R B f h ds, Pnt Γ F R B f h ds σ H ∧ Post Γ.fa f h.length R B H (evTests F ifs ds h) (fun _ _ _ a b => a = b) Q (exW Γ R W σ)
theorem imTs {X : Cx} {e : List Expr} {t t' : TT} (h : PTs X e t) (k : ∀ σ H Q, t' σ H Q → t σ H Q) : PTs X e t' := ⟨fun pins s σ H Q I q => h.run pins s σ H Q I (k _ _ _ q)⟩
theorem snd_tests {X : Cx} {Γ : Cst} {F : Fr} {W : WX} {es : List Expr} {es' : List Ex} (h : All2 (PP X Γ F W) es es') (hl : es'.length ≤ 1) : PTs X es (tTs Γ F W es') := by
  cases h with
  | nil => exact imTs pts_nil fun σ H Q ⟨R, B, f, h, ds, A, p⟩ => p f H true .refl A.sim rfl
  | cons hp r =>
    cases r with
    | nil =>
      rename_i e e'
      refine imTs (pts_one hp.t) fun σ H Q ⟨R, B, f, h, ds, A, p⟩ => ?_
      have e1 : evTests F [e'] ds h = (evE F e' ds h).bind fun d h => (Res.of (truD h d) h).bind fun b h => .ok b h := by
        show (evE F e' ds h).bind _ = _
        cases evE F e' ds h with
        | ok d h1 =>
          dsimp only [Res.bind]
          cases hk : truD h1 d with
          | none => rfl
          | some k => cases k <;> rfl
        | _ => rfl
      rw [e1] at p
      exact mkT A p (fun _ _ => rfl) fun c f1 h1 H1 x A1 p1 => p1 f1 H1 c .refl A1.sim rfl
    | cons _ _ => simp at hl
def WF : WX := fun _ _ _ _ => False
theorem takes_WF {X : Cx} : Takes X WF := fun _ _ ⟨_, _, _, _, _, _, _, _, _, _, _, _, _, _, _, _, w⟩ => w.elim
section
variable {Γ : Cst} {f0 : Nat → Addr} {h0 : Hh} {R0 : Addr → Prop} {H0 : Hp} {R' : Addr → Prop} {B : Nat → Prop} {Dl : Addr} {F : Fr} {W : WX} {K : PySem.W.Frag}
theorem LS.push {acc : List D} {f4 : Nat → Addr} {h4 : Hh} {H4 : Hp} {us : List V} {d : D} {y : V} (hD : R' Dl) (l : LS Γ.fa f0 h0.length R0 H0 R' B Dl acc f4 h4 H4) (e : H4 Dl = some (.lst us)) (r : RD Γ.fa f4 h4.length R' H4 d y) :
    LS Γ.fa f0 h0.length R0 H0 R' B Dl (acc ++ [d]) f4 h4 (L2.upd H4 Dl (.lst (us ++ [y]))) := by
  obtain ⟨us', e', t⟩ := l.lst
  rw [e] at e'
  cases e'
  refine ⟨⟨l.ext.le, l.ext.same, l.ext.new, fun a h1 h2 h3 => ?_, fun a h => ?_⟩, l.sim.resUpd hD, us ++ [y], upd_same, (t.append (.cons r .nil)).res hD⟩
  · rw [upd_ne h2]; exact l.ext.keep a h1 h2 h3
  · by_cases q : a = Dl
    · rw [q, upd_same]; rfl
    · rw [upd_ne q]; exact l.ext.there a h
theorem elt_ok {elt : Ex} {s2 : Sl} {σ2 : L2.St} {acc ys : List D} {f3 : Nat → Addr} {h3 h'' : Hh} {H3 : Hp} (hD : R' Dl) (bb : ∀ b, B b → b ≤ F.base) (bl : F.base ≤ h0.length)
    (e : ((evE F elt s2 h3).bind fun d h => .ok [d] h) = .ok ys h'') (l : LS Γ.fa f0 h0.length R0 H0 R' B Dl acc f3 h3 H3) (s : RSl Γ.fa f3 h3.length R' H3 s2 σ2) (hb : acc.length + ys.length ≤ 100000) :
    tE Γ F W elt σ2 H3 fun y H4 => ∃ us, H4 Dl = some (.lst us) ∧ us.length < sizeLine ∧ ∃ f'', LS Γ.fa f0 h0.length R0 H0 R' B Dl (acc ++ ys) f'' h'' (L2.upd H4 Dl (.lst (us ++ [y]))) := by
  obtain ⟨d, h4, e1, e2⟩ := ok_bind e
  cases e2
  refine ⟨R', B, f3, h3, s2, ⟨l.sim, bb, Nat.le_trans bl l.ext.le, s⟩, ?_⟩
  rw [e1]
  intro f4 H4 y x4 s4 r4
  have l4 := l.go hD x4 s4
  obtain ⟨us, eD, t⟩ := l4.lst
  refine ⟨us, eD, ?_, f4, l4.push hD eD r4.1⟩
  rw [← t.length]
  have := line_ge
  simp only [List.length_cons, List.length_nil] at hb
  omega
theorem turn_ok {tg : Tg} {ifs : List Ex} {vs : List Nat} {p : Nat} {Kc : Sl → Hh → Res (List D)} {ds : Sl} {σ : L2.St} {x : D} {v : V} {acc ys : List D} {f' : Nat → Addr} {h' h'' : Hh} {H' : Hp} {inner : L2.St → Hp → (Hp → Prop) → Prop}
    (hE : Sub (· = Dl) R0 H0) (g : Grow R0 R' H0) (hD : R' Dl) (bb : ∀ b, B b → b ≤ F.base) (bl : F.base ≤ h0.length) (base : RSl Γ.fa f0 h0.length R0 H0 ds σ) (hf : tgFit p tg = true) (hsl : ∀ i ∈ slotsT tg, i ∈ vs)
    (hT : Res.quiet ((Res.of (bindT tg x (Ev.wipe vs ds)) h').bind fun s h => (evTests F ifs s h).bind fun b h => if b then Kc s h else .ok [] h) = .ok ys h'') (l : LS Γ.fa f0 h0.length R0 H0 R' B Dl acc f' h' H') (r : RY Γ.fa f' h'.length R' H' p x v)
    (inner_ok : ∀ s2 σ2 f3 h3 H3, Kc s2 h3 = .ok ys h'' → LS Γ.fa f0 h0.length R0 H0 R' B Dl acc f3 h3 H3 → RSl Γ.fa f3 h3.length R' H3 s2 σ2 → inner σ2 H3 fun H' => ∃ f'', LS Γ.fa f0 h0.length R0 H0 R' B Dl (acc ++ ys) f'' h'' H') :
    gT K tg v (L2.wipe σ vs) H' fun σ2 H2 => L2.wipe σ2 vs = L2.wipe σ vs ∧ tTs Γ F W ifs σ2 H2 fun b H3 =>
      if b = true then inner σ2 H3 fun H' => ∃ f'', LS Γ.fa f0 h0.length R0 H0 R' B Dl (acc ++ ys) f'' h'' H' else ∃ f'', LS Γ.fa f0 h0.length R0 H0 R' B Dl (acc ++ ys) f'' h'' H3 := by
  obtain ⟨s2, h2, e0, e2⟩ := ok_bind (ok_quiet hT)
  obtain ⟨e1, rfl⟩ := ok_of e0
  obtain ⟨b, h3, e3, e4⟩ := ok_bind e2
  refine bindY_ok vs p tg hf e1 r (base.mv l.ext hE g).wipe fun σ2 q2 w2 => ⟨?_, R', B, f', h2, s2, ⟨l.sim, bb, Nat.le_trans bl l.ext.le, q2⟩, ?_⟩
  · rw [w2 hsl]
    exact wipe_idem vs σ
  · rw [e3]
    intro f3 H3 b' x3 s3 eb
    subst eb
    cases b with
    | true => exact inner_ok s2 σ2 f3 h3 H3 e4 (l.go hD x3 s3) (q2.ext x3)
    | false =>
      cases e4
      refine ⟨f3, ?_⟩
      rw [List.append_nil]
      exact l.go hD x3 s3
end

/-! ### no exception out of a comprehension -/
def NoX {α : Type} (r : Res α) : Prop := ∀ c p h, r ≠ .exc c p h
theorem noX_quiet {α : Type} (r : Res α) : NoX r.quiet := by intro c p h e; cases r <;> cases e
theorem noX_bind {α β : Type} {r : Res α} {k : α → Hh → Res β} (h : NoX r) (hk : ∀ a h, NoX (k a h)) : NoX (r.bind k) := by
  intro c p h' e
  cases r with
  | ok a h1 => exact hk a h1 c p h' e
  | exc c2 p2 h2 => exact h c2 p2 h2 rfl
  | fail => cases e
theorem noX_ok {α : Type} {a : α} {h : Hh} : NoX (.ok a h) := fun _ _ _ e => nomatch e
theorem noX_fail {α : Type} : NoX (.fail : Res α) := fun _ _ _ e => nomatch e
theorem noX_compL {T : D → Hh → Res (List D)} (hT : ∀ x h, NoX (T x h)) : ∀ xs h, NoX (compL T xs h)
  | [], _ => noX_ok
  | x :: xs, h => noX_bind (hT x h) fun ys h => noX_bind (noX_compL hT xs h) fun _ _ => noX_ok
theorem noX_compC {T : D → Hh → Res (List D)} (hT : ∀ x h, NoX (T x h)) (en : Bool) (n : Nat) : ∀ m i h, NoX (compC T en n m i h)
  | 0, i, h => by
    unfold compC
    split
    · split
      · exact noX_ok
      · exact noX_fail
    · exact noX_fail
  | m + 1, i, h => by
    unfold compC
    split
    · split
      · exact noX_bind (hT _ h) fun ys h => noX_bind (noX_compC hT en n m _ h) fun _ _ => noX_ok
      · exact noX_ok
    · exact noX_fail
theorem noX_runS {T : D → Hh → Res (List D)} (hT : ∀ x h, NoX (T x h)) (s : Src) (h : Hh) : NoX (runS T s h) := by
  cases s with
  | items xs => exact noX_compL hT xs h
  | cell en n => exact noX_compC hT en n _ _ h
/-- a clause's turn -/
def turnF (F : Fr) (vs : List Nat) (tg : Tg) (ifs : List Ex) (Kc : Sl → Hh → Res (List D)) (ds : Sl) : D → Hh → Res (List D) := fun x h => Res.quiet ((Res.of (bindT tg x (Ev.wipe vs ds)) h).bind fun s h => (evTests F ifs s h).bind fun b h => if b then Kc s h else .ok [] h)
theorem evG_cons {F : Fr} {k : Sl → Hh → Res (List D)} {vs : List Nat} {tg : Tg} {it : Itr} {ifs : List Ex} {gs : List Gn} {ds : Sl} {h : Hh} :
    evG F k vs (.mk tg it ifs :: gs) ds h = (evI F it ds h).bind fun s h => runS (turnF F vs tg ifs (evG F k (gs.flatMap slotsG) gs) ds) s h := by
  rw [evG]
  congr 1
  funext s h
  cases s <;> rfl
section
variable {X : Cx} {Γ : Cst} {F : Fr} {W : WX} {elt tg iter tg1 iter1 : Expr} {ifs ifs1 : List Expr} {scope : Scope} {own : List (Str × Nat)} {pos : Pos} {elt' : Ex} {tg' tg1' : Tg} {it' it1' : Itr} {ifs' ifs1' : List Ex}
theorem lc_run (hf : tgFit (itKind it') tg' = true) (hsl : ∀ i ∈ slotsT tg', i ∈ own.map (·.2)) {σ : L2.St} {H : Hp} {Q : VK} (q : tE Γ F W (.comp (own.map (·.2)) elt' [.mk tg' it' ifs']) σ H Q) :
    tLc (tI X.K Γ F W it') (gT X.K tg') (tTs Γ F WF ifs') (tE Γ F WF elt') (own.map (·.2)) σ H Q := by
  obtain ⟨R, B, f, h, ds, A, p⟩ := q
  have e1 : evE F (.comp (own.map (·.2)) elt' [.mk tg' it' ifs']) ds h = (evI F it' ds h).bind fun s h => (runS (turnF F (own.map (·.2)) tg' ifs' (evG F (fun σ h => (evE F elt' σ h).bind fun d h => .ok [d] h) [] []) ds) s h).bind fun zs h => if zs.length ≤ 100000 then .ok (.lst zs) h else .fail := by
    show (evG F _ _ _ ds h).bind _ = _
    rw [evG_cons]
    cases evI F it' ds h <;> rfl
  rw [e1] at p
  refine ⟨R, B, f, h, ds, A, p.bind fun s h1 f1 H1 J _ x sm rel p1 => fun Dl hDl => ?_⟩
  have A1 := A.go x sm
  generalize eT : turnF F (own.map (·.2)) tg' ifs' (evG F (fun σ h => (evE F elt' σ h).bind fun d h => .ok [d] h) [] []) ds = T at p1
  have nx : NoX (runS T s h1) := noX_runS (fun x h => by rw [← eT]; exact noX_quiet _) s h1
  cases rs : runS T s h1 with
  | exc c pl h2 => exact absurd rs (nx c pl h2)
  | fail => rw [rs] at p1; exact p1.elim
  | ok accE hF =>
    rw [rs] at p1
    have hlen : accE.length ≤ 100000 := by
      apply Classical.byContradiction
      intro hn
      have p1 : Post Γ.fa f1 h1.length R B H1 (if accE.length ≤ 100000 then Res.ok (D.lst accE) hF else .fail) _ Q _ := p1
      rw [if_neg hn] at p1
      exact p1
    have p1 : Post Γ.fa f1 h1.length R B H1 (if accE.length ≤ 100000 then Res.ok (D.lst accE) hF else .fail) _ Q _ := p1
    rw [if_pos hlen] at p1
    have hD : Rp R Dl Dl := .inr rfl
    have hE : Sub (· = Dl) R H1 := fun a hs e => by rw [e, hDl] at hs; cases hs
    refine loopW (fa := Γ.fa) rfl (K := X.K) (f0 := f1) (h0 := h1) (R0 := R) (H0 := H1) (R' := Rp R Dl) (B := B) (Dl := Dl) (acc0 := []) (T := T) (Fin := fun H => Q (.ref Dl) H) (p := itKind it') (src := s)
      (Body := fun v H' Nx => gT X.K tg' v (L2.wipe σ (own.map (·.2))) H' fun σ2 H2 => L2.wipe σ2 (own.map (·.2)) = L2.wipe σ (own.map (·.2)) ∧ tTs Γ F WF ifs' σ2 H2 fun b H3 =>
        if b = true then tE Γ F WF elt' σ2 H3 fun y H4 => ∃ acc, H4 Dl = some (.lst acc) ∧ acc.length < sizeLine ∧ Nx (L2.upd H4 Dl (.lst (acc ++ [y]))) else Nx H3)
      rel hE (.rp hDl) hD rs ⟨(Ext.upd (R := R) hDl).to0, A1.sim.rp hDl, [], upd_same, .nil⟩ (fun x acc f' h' ys h'' v H'' hT l r hb => ?_) fun f' H' l => ?_
    · rw [← eT] at hT
      exact turn_ok (inner := fun σ2 H3 Nx => tE Γ F WF elt' σ2 H3 fun y H4 => ∃ acc, H4 Dl = some (.lst acc) ∧ acc.length < sizeLine ∧ Nx (L2.upd H4 Dl (.lst (acc ++ [y])))) hE (.rp hDl) hD A1.bb A1.bl A1.sl hf hsl hT l r
        fun s2 σ2 f3 h3 H3 e l s => elt_ok hD A1.bb A1.bl e l s (by simp only [List.length_nil] at hb; omega)
    · obtain ⟨us, eD, t⟩ := l.lst
      have l : LS Γ.fa f1 h1.length R H1 (Rp R Dl) B Dl accE f' _ H' := l
      have ex : Ext f1 h1.length R H1 f' _ H' := ⟨l.ext.le, l.ext.same, l.ext.new, fun a h1 h2 => l.ext.keep a h1 (fun e => by rw [e, hDl] at h2; cases h2) h2, l.ext.there⟩
      have t : RDs Γ.fa f' _ (Rp R Dl) H' accE us := t
      refine p1 f' H' _ ex l.sim.unrp ⟨.lst eD ⟨fun z => ?_, fun k hk e => l.sim.off k hk (.inr e.symm)⟩ t.unrp, fun _ => ⟨Dl, us, rfl, ?_, eD, t, l.sim⟩⟩
      · have := A1.sim.res Dl z; rw [hDl] at this; cases this
      · cases q : H Dl with
        | none => rfl
        | some o => have := x.there Dl (by rw [q]; rfl); rw [hDl] at this; cases this
theorem LS.base {fa : FA} {f0 f1 : Nat → Addr} {n0 n1 : Nat} {R0 R1 R' : Addr → Prop} {H0 H1 : Hp} {B : Nat → Prop} {Dl : Addr} {acc : List D} {f' : Nat → Addr} {h' : Hh} {H : Hp} (e : Ext0 f0 n0 (· = Dl) H0 f1 n1 H1) (l : LS fa f1 n1 R1 H1 R' B Dl acc f' h' H) : LS fa f0 n0 R0 H0 R' B Dl acc f' h' H :=
  ⟨e.trans l.ext, l.sim, l.lst⟩
theorem lc_run2 (hf : tgFit (itKind it') tg' = true) (hsl : ∀ i ∈ slotsT tg', i ∈ own.map (·.2)) (hf1 : tgFit (itKind it1') tg1' = true) {σ : L2.St} {H : Hp} {Q : VK} (q : tE Γ F W (.comp (own.map (·.2)) elt' [.mk tg' it' ifs', .mk tg1' it1' ifs1']) σ H Q) :
    tLc2 (tI X.K Γ F W it') (gT X.K tg') (tTs Γ F WF ifs') (tI X.K Γ F WF it1') (gT X.K tg1') (tTs Γ F WF ifs1') (tE Γ F WF elt') (own.map (·.2)) ([Gn.mk tg1' it1' ifs1'].flatMap slotsG) σ H Q := by
  obtain ⟨R, B, f, h, ds, A, p⟩ := q
  have e1 : evE F (.comp (own.map (·.2)) elt' [.mk tg' it' ifs', .mk tg1' it1' ifs1']) ds h = (evI F it' ds h).bind fun s h => (runS (turnF F (own.map (·.2)) tg' ifs' (evG F (fun σ h => (evE F elt' σ h).bind fun d h => .ok [d] h) ([Gn.mk tg1' it1' ifs1'].flatMap slotsG) [.mk tg1' it1' ifs1']) ds) s h).bind fun zs h => if zs.length ≤ 100000 then .ok (.lst zs) h else .fail := by
    show (evG F _ _ _ ds h).bind _ = _
    rw [evG_cons]
    cases evI F it' ds h <;> rfl
  rw [e1] at p
  refine ⟨R, B, f, h, ds, A, p.bind fun s h1 f1 H1 J _ x sm rel p1 => fun Dl hDl => ?_⟩
  have A1 := A.go x sm
  generalize eT : turnF F (own.map (·.2)) tg' ifs' (evG F (fun σ h => (evE F elt' σ h).bind fun d h => .ok [d] h) ([Gn.mk tg1' it1' ifs1'].flatMap slotsG) [.mk tg1' it1' ifs1']) ds = T at p1
  have nx : NoX (runS T s h1) := noX_runS (fun x h => by rw [← eT]; exact noX_quiet _) s h1
  cases rs : runS T s h1 with
  | exc c pl h2 => exact absurd rs (nx c pl h2)
  | fail => rw [rs] at p1; exact p1.elim
  | ok accE hF =>
    rw [rs] at p1
    have hlen : accE.length ≤ 100000 := by
      apply Classical.byContradiction
      intro hn
      have p1 : Post Γ.fa f1 h1.length R B H1 (if accE.length ≤ 100000 then Res.ok (D.lst accE) hF else .fail) _ Q _ := p1
      rw [if_neg hn] at p1
      exact p1
    have p1 : Post Γ.fa f1 h1.length R B H1 (if accE.length ≤ 100000 then Res.ok (D.lst accE) hF else .fail) _ Q _ := p1
    rw [if_pos hlen] at p1
    have hD : Rp R Dl Dl := .inr rfl
    have hE : Sub (· = Dl) R H1 := fun a hs e => by rw [e, hDl] at hs; cases hs
    generalize hvs1 : [Gn.mk tg1' it1' ifs1'].flatMap slotsG = vs1 at eT
    have hsl1 : ∀ i ∈ slotsT tg1', i ∈ vs1 := fun i hi => by rw [← hvs1]; simp [slotsG, hi]
    refine loopW (fa := Γ.fa) rfl (K := X.K) (f0 := f1) (h0 := h1) (R0 := R) (H0 := H1) (R' := Rp R Dl) (B := B) (Dl := Dl) (acc0 := []) (T := T) (Fin := fun H => Q (.ref Dl) H) (p := itKind it') (src := s)
      (Body := fun v H' Nx => gT X.K tg' v (L2.wipe σ (own.map (·.2))) H' fun σ2 H2 => L2.wipe σ2 (own.map (·.2)) = L2.wipe σ (own.map (·.2)) ∧ tTs Γ F WF ifs' σ2 H2 fun b H3 =>
        if b = true then tI X.K Γ F WF it1' σ2 H3 fun J1 H4 => ∃ W1 : Nat → Nat → Hp → Prop, (∃ m, W1 0 m H4) ∧ ∀ j k H, W1 j k H →
          (J1.stop j H ∧ Nx H) ∨ (J1.go j H ∧ ∃ Nx1 : Hp → Prop, (∀ H', Nx1 H' → ∃ k', k' < k ∧ W1 (j + 1) k' H') ∧ ∀ x H', J1.yld j H x H' → gT X.K tg1' x (L2.wipe σ2 vs1) H' fun σ3 H5 => L2.wipe σ3 vs1 = L2.wipe σ2 vs1 ∧ tTs Γ F WF ifs1' σ3 H5 fun b H6 =>
            if b = true then tE Γ F WF elt' σ3 H6 fun y H7 => ∃ acc, H7 Dl = some (.lst acc) ∧ acc.length < sizeLine ∧ Nx1 (L2.upd H7 Dl (.lst (acc ++ [y]))) else Nx1 H6)
        else Nx H3)
      rel hE (.rp hDl) hD rs ⟨(Ext.upd (R := R) hDl).to0, A1.sim.rp hDl, [], upd_same, .nil⟩ (fun x acc f' h' ys h'' v H'' hT l r hb => ?_) fun f' H' l => ?_
    · rw [← eT] at hT
      refine turn_ok (inner := fun σ2 H3 Nx => tI X.K Γ F WF it1' σ2 H3 fun J1 H4 => ∃ W1 : Nat → Nat → Hp → Prop, (∃ m, W1 0 m H4) ∧ ∀ j k H, W1 j k H →
          (J1.stop j H ∧ Nx H) ∨ (J1.go j H ∧ ∃ Nx1 : Hp → Prop, (∀ H', Nx1 H' → ∃ k', k' < k ∧ W1 (j + 1) k' H') ∧ ∀ x H', J1.yld j H x H' → gT X.K tg1' x (L2.wipe σ2 vs1) H' fun σ3 H5 => L2.wipe σ3 vs1 = L2.wipe σ2 vs1 ∧ tTs Γ F WF ifs1' σ3 H5 fun b H6 =>
            if b = true then tE Γ F WF elt' σ3 H6 fun y H7 => ∃ acc, H7 Dl = some (.lst acc) ∧ acc.length < sizeLine ∧ Nx1 (L2.upd H7 Dl (.lst (acc ++ [y]))) else Nx1 H6))
        hE (.rp hDl) hD A1.bb A1.bl A1.sl hf hsl hT l r fun s2 σ2 f3 h3 H3 e l3 sl3 => ?_
      rw [evG_cons] at e
      obtain ⟨s4, h4, e4, e5⟩ := ok_bind e
      have bl3 : F.base ≤ h3.length := Nat.le_trans A1.bl l3.ext.le
      refine ⟨Rp R Dl, B, f3, h3, s2, ⟨l3.sim, A1.bb, bl3, sl3⟩, ?_⟩
      rw [e4]
      intro f4 H4 J1 x4 sm4 rel4
      have l4 := l3.go hD x4 sm4
      have sl4 : RSl Γ.fa f4 h4.length (Rp R Dl) H4 s2 σ2 := sl3.ext x4
      have bl4 : F.base ≤ h4.length := Nat.le_trans bl3 x4.le
      have hE4 : Sub (· = Dl) (Rp R Dl) H4 := fun a _ e => .inr e
      refine loopW (fa := Γ.fa) rfl (K := X.K) (f0 := f4) (h0 := h4) (R0 := Rp R Dl) (H0 := H4) (R' := Rp R Dl) (B := B) (Dl := Dl) (acc0 := acc) (Fin := fun H' => ∃ f'', LS Γ.fa f1 h1.length R H1 (Rp R Dl) B Dl (acc ++ ys) f'' h'' H') (p := itKind it1') (src := s4)
        (Body := fun v H' Nx1 => gT X.K tg1' v (L2.wipe σ2 vs1) H' fun σ3 H5 => L2.wipe σ3 vs1 = L2.wipe σ2 vs1 ∧ tTs Γ F WF ifs1' σ3 H5 fun b H6 =>
            if b = true then tE Γ F WF elt' σ3 H6 fun y H7 => ∃ acc, H7 Dl = some (.lst acc) ∧ acc.length < sizeLine ∧ Nx1 (L2.upd H7 Dl (.lst (acc ++ [y]))) else Nx1 H6)
        rel4 hE4 .refl hD e5 ⟨Ext.refl.to0 (R := R), sm4, l4.lst⟩ (fun x1 acc1 f5 h5 ys1 h6 v1 H5 hT1 l5 r5 hb1 => ?_) fun f' H' l' => ⟨f', .base l4.ext l'⟩
      exact turn_ok (inner := fun σ3 H6 Nx1 => tE Γ F WF elt' σ3 H6 fun y H7 => ∃ acc, H7 Dl = some (.lst acc) ∧ acc.length < sizeLine ∧ Nx1 (L2.upd H7 Dl (.lst (acc ++ [y])))) hE4 .refl hD A1.bb bl4 sl4 hf1 hsl1 hT1 l5 r5
        fun s2 σ2 f3 h3 H3 e l s => elt_ok hD A1.bb bl4 e l s (by simp only [List.length_nil] at hb; omega)
    · obtain ⟨us, eD, t⟩ := l.lst
      have l : LS Γ.fa f1 h1.length R H1 (Rp R Dl) B Dl accE f' _ H' := l
      have ex : Ext f1 h1.length R H1 f' _ H' := ⟨l.ext.le, l.ext.same, l.ext.new, fun a h1 h2 => l.ext.keep a h1 (fun e => by rw [e, hDl] at h2; cases h2) h2, l.ext.there⟩
      have t : RDs Γ.fa f' _ (Rp R Dl) H' accE us := t
      refine p1 f' H' _ ex l.sim.unrp ⟨.lst eD ⟨fun z => ?_, fun k hk e => l.sim.off k hk (.inr e.symm)⟩ t.unrp, fun _ => ⟨Dl, us, rfl, ?_, eD, t, l.sim⟩⟩
      · have := A1.sim.res Dl z; rw [hDl] at this; cases this
      · cases q : H Dl with
        | none => rfl
        | some o => have := x.there Dl (by rw [q]; rfl); rw [hDl] at this; cases this
end
end Ev

set_option Elab.async false
set_option linter.all false
set_option maxRecDepth 100000
set_option maxHeartbeats 4000000
/-! EvO: cells, methods. -/
namespace Ev
open PySem PySem.Spec PyProof.Rows L2
section
variable {fa : FA} {f : Nat → Addr} {n : Nat} {R : Addr → Prop} {B : Nat → Prop} {h : Hh} {H : Hp} {p : Addr} {o : HO}
mutual
theorem under_lt : ∀ (m b : Nat) (d : D), under 0 m d = true → rLt b d
  | _, _, .non, _ => trivial
  | _, _, .bl _, _ => trivial
  | _, _, .int _, _ => trivial
  | _, _, .str _, _ => trivial
  | _, _, .fn _, _ => trivial
  | m, _, .ref _, h => by cases m <;> simp [under] at h
  | 0, _, .tup _, h => by cases h
  | 0, _, .lst _, h => by cases h
  | 0, _, .set _, h => by cases h
  | 0, _, .dct _ _, h => by cases h
  | m + 1, b, .tup xs, h => under_lts m b xs (List.all_eq_true.mp h)
  | m + 1, b, .lst xs, h => under_lts m b xs (List.all_eq_true.mp h)
  | m + 1, b, .set xs, h => under_lts m b xs (List.all_eq_true.mp h)
  | m + 1, b, .dct ks vs, h => by
    obtain ⟨h1, h2⟩ := Bool.and_eq_true_iff.mp (show (ks.all (under 0 m) && vs.all (under 0 m)) = true from h)
    exact ⟨under_lts m b ks (List.all_eq_true.mp h1), under_lts m b vs (List.all_eq_true.mp h2)⟩
  | m, _, .scr _, h => by cases m <;> cases h
theorem under_lts : ∀ (m b : Nat) (ds : List D), (∀ x ∈ ds, under 0 m x = true) → rLts b ds
  | _, _, [], _ => trivial
  | m, b, d :: ds, h => ⟨under_lt m b d (h d (by simp)), under_lts m b ds fun x hx => h x (List.mem_cons_of_mem _ hx)⟩
end
theorem rLts_get {b : Nat} : ∀ {xs : List D} {i : Nat} {d : D}, rLts b xs → xs[i]? = some d → rLt b d
  | [], _, _, _, e => by cases e
  | x :: xs, 0, d, h, e => by
    have e : some x = some d := e
    cases e
    exact h.1
  | x :: xs, i + 1, d, h, e => rLts_get (xs := xs) (i := i) h.2 (by simpa using e)
theorem rLts_of {b : Nat} : ∀ {xs : List D}, (∀ x ∈ xs, rLt b x) → rLts b xs
  | [], _ => trivial
  | x :: xs, h => ⟨h x (by simp), rLts_of fun y hy => h y (List.mem_cons_of_mem _ hy)⟩
theorem rLts_mem {b : Nat} : ∀ {xs : List D} {x : D}, rLts b xs → x ∈ xs → rLt b x
  | y :: ys, x, h, hx => by
    rcases List.mem_cons.mp hx with rfl | hx
    · exact h.1
    · exact rLts_mem h.2 hx
theorem RD.cellUpd {k : Nat} (hk : k < h.length) (hn : n = h.length) {d : D} {v : V} (r : RD fa f n R H d v) : RD fa f n R (L2.upd H (f k) o) d v :=
  r.go (fun a q _ => ⟨q, upd_ne (q.2 k (hn ▸ hk))⟩) fun k h => ⟨h, rfl⟩
theorem RDs.cellUpd {k : Nat} (hk : k < h.length) (hn : n = h.length) {d : List D} {v : List V} (r : RDs fa f n R H d v) : RDs fa f n R (L2.upd H (f k) o) d v :=
  r.go (fun a q _ => ⟨q, upd_ne (q.2 k (hn ▸ hk))⟩) fun k h => ⟨h, rfl⟩
theorem CellOk.cellUpd {k : Nat} (hk : k < h.length) {a : Addr} (ne : a ≠ f k) {c : Cell} (x : CellOk fa f h.length R H a c) : CellOk fa f h.length R (L2.upd H (f k) o) a c := by
  cases c with
  | lst ys => obtain ⟨ws, e1, t⟩ := x; exact ⟨ws, (upd_ne ne).trans e1, t.cellUpd hk rfl⟩
  | dct _ _ => obtain ⟨k1, us, ws, e1, t, t'⟩ := x; exact ⟨k1, us, ws, (upd_ne ne).trans e1, t.cellUpd hk rfl, t'.cellUpd hk rfl⟩
/-- a cell is written -/
theorem Sim.storeG (s : Sim fa f R B h H) {k : Nat} (hk : k < h.length) {c0 : Cell} (r : CellOk fa f h.length R (L2.upd H (f k) o) (f k) c0) (ho : ∀ b, B b → k < b → cellLt b c0) : Sim fa f R B (h.set k c0) (L2.upd H (f k) o) where
  cell := fun j c e => by
    rw [List.length_set]
    by_cases hj : j = k
    · subst hj
      rw [List.getElem?_set_self hk] at e
      cases e
      exact r
    · rw [List.getElem?_set_ne (Ne.symm hj)] at e
      have x := s.cell j c e
      have hjl := (List.getElem?_eq_some_iff.mp e).1
      exact x.cellUpd hk fun q => hj (s.inj j k hjl hk q)
  inj := fun i j hi hj e => s.inj i j (by simpa using hi) (by simpa using hj) e
  off := fun j hj => s.off j (by simpa using hj)
  res := fun a q => by
    rw [upd_ne fun e => s.off k hk (by rw [← e]; exact q)]
    exact s.res a q
  own := fun b hb j c hj e => by
    by_cases q : j = k
    · subst q
      rw [List.getElem?_set_self hk] at e
      cases e
      exact ho b hb hj
    · rw [List.getElem?_set_ne (Ne.symm q)] at e
      exact s.own b hb j c hj e
/-- a list's cell is written -/
theorem Sim.store (s : Sim fa f R B h H) {k : Nat} (hk : k < h.length) {xs : List D} {vs : List V} (r : RDs fa f h.length R H xs vs) (ho : ∀ b, B b → k < b → rLts b xs) : Sim fa f R B (h.set k (.lst xs)) (L2.upd H (f k) (.lst vs)) :=
  s.storeG hk (c0 := .lst xs) ⟨vs, upd_same, r.cellUpd hk rfl⟩ ho
/-- a dict's -/
theorem Sim.storeD (s : Sim fa f R B h H) {k : Nat} (hk : k < h.length) {ks vs : List D} {us ws : List V} (kd : ks.all keyD = true) (r : RDs fa f h.length R H ks us) (r' : RDs fa f h.length R H vs ws) (ho : ∀ b, B b → k < b → rLts b ks ∧ rLts b vs) : Sim fa f R B (h.set k (.dct ks vs)) (L2.upd H (f k) (DictO (f k) ks us ws)) :=
  s.storeG hk (c0 := .dct ks vs) ⟨kd, us, ws, upd_same, r.cellUpd hk rfl, r'.cellUpd hk rfl⟩ ho
theorem Sim.storeExt (s : Sim fa f R B h H) {k : Nat} (hk : k < h.length) {c : Cell} {o : HO} : Ext f h.length R H f (h.set k c).length (L2.upd H (f k) o) where
  le := by simp
  same := fun _ _ => rfl
  new := fun j h1 h2 => by simp at h2; omega
  keep := fun a ha _ => upd_ne (ha k hk)
  there := fun a ha => by
    by_cases e : a = f k
    · rw [e, upd_same]; rfl
    · rw [upd_ne e]; exact ha
/-- a cell's list -/
theorem Sim.get (s : Sim fa f R B h H) {k : Nat} {xs : List D} (e : h[k]? = some (.lst xs)) : ∃ vs, H (f k) = some (.lst vs) ∧ RDs fa f h.length R H xs vs := s.cell k _ e
theorem stOk_own {b k : Nat} {v : D} (hs : stOk b k v = true) (bb : ∀ b', B b' → b' ≤ b) : ∀ b', B b' → k < b' → rLt b' v := fun b' hb hk => by
  unfold stOk at hs
  rcases Bool.or_eq_true_iff.mp hs with q | q
  · have := of_decide_eq_true q
    have := bb b' hb
    omega
  · exact under_lt 30 b' v q
end
section
variable {X : Cx} {Γ : Cst} {F : Fr} {W : WX} {a b c : Expr} {a' b' c' : Ex} {pos : Pos}
/-- a new list or dict becomes a cell: what the caller is left with -/
theorem cell_new {R : Addr → Prop} {B : Nat → Prop} {f f1 : Nat → Addr} {h h1 : Hh} {ds : Sl} {σ : L2.St} {H H1 : Hp} {Q : VK} {q : Addr} {c0 : Cell} (A : Pnt Γ F R B f h ds σ H)
    (p : ∀ f' H' b, Ext f h.length R H f' (h1 ++ [c0]).length H' → Sim Γ.fa f' R B (h1 ++ [c0]) H' → relE Γ R B H (.cell a') f' (h1 ++ [c0]) H' (.ref h1.length) b → Q b H')
    (x : Ext f h.length R H f1 h1.length H1) (s : Sim Γ.fa f1 R B h1 H1) (hp : H q = none) (s2 : Sim Γ.fa f1 (Rp R q) B h1 H1)
    (ck : ∀ f', (∀ {ds : List D} {us : List V}, RDs Γ.fa f1 h1.length (Rp R q) H1 ds us → RDs Γ.fa f' (h1.length + 1) R H1 ds us) → CellOk Γ.fa f' (h1.length + 1) R H1 q c0) : Q (.ref q) H1 := by
  have hl : (h1 ++ [c0]).length = h1.length + 1 := by simp
  let f' : Nat → Addr := fun k => if k = h1.length then q else f1 k
  have e0 : f' h1.length = q := if_pos rfl
  have e1 : ∀ k, k < h1.length → f' k = f1 k := fun k hk => if_neg (Nat.ne_of_lt hk)
  have mvO : ∀ a, Off f1 h1.length (Rp R q) a → Off f' (h1.length + 1) R a := fun a o => ⟨fun z => o.1 (.inl z), fun k hk => by
    by_cases e : k = h1.length
    · rw [e, e0]; exact fun z => o.1 (.inr z)
    · rw [e1 k (by omega)]; exact o.2 k (by omega)⟩
  have mvR : ∀ {ds : List D} {us : List V}, RDs Γ.fa f1 h1.length (Rp R q) H1 ds us → RDs Γ.fa f' (h1.length + 1) R H1 ds us := fun r => r.go (fun a o _ => ⟨mvO a o, rfl⟩) fun k hk => ⟨by omega, e1 k hk⟩
  have hle := x.le
  refine p f' H1 (.ref q) ⟨by rw [hl]; omega, fun k hk => (e1 k (by omega)).trans (x.same k hk), fun k h1' h2' => ?_, x.keep, x.there⟩ ⟨fun k c e => ?_, fun i j hi hj e => ?_, fun k hk => ?_, s.res, fun b hb k c hk e => ?_⟩ ⟨?_, fun z => by cases z⟩
  · rw [hl] at h2'
    by_cases e : k = h1.length
    · rw [e, e0]; exact hp
    · rw [e1 k (by omega)]; exact x.new k h1' (by omega)
  · rw [hl]
    by_cases hk : k < h1.length
    · rw [List.getElem?_append_left hk] at e
      have y := s2.cell k c e
      rw [e1 k hk]
      cases c with
      | lst ys => obtain ⟨ws, e2, r⟩ := y; exact ⟨ws, e2, mvR r⟩
      | dct _ _ => obtain ⟨k1, us, ws, e2, r, r'⟩ := y; exact ⟨k1, us, ws, e2, mvR r, mvR r'⟩
    · have ek : k = h1.length := by
        have := (List.getElem?_eq_some_iff.mp e).1
        rw [hl] at this
        omega
      subst ek
      rw [List.getElem?_append_right (Nat.le_refl _), Nat.sub_self] at e
      cases e
      rw [e0]
      exact ck f' mvR
  · rw [hl] at hi hj
    by_cases ei : i = h1.length
    · by_cases ej : j = h1.length
      · rw [ei, ej]
      · rw [ei, e0, e1 j (by omega)] at e
        exact absurd (.inr e.symm) (s2.off j (by omega))
    · by_cases ej : j = h1.length
      · rw [ej, e0, e1 i (by omega)] at e
        exact absurd (.inr e) (s2.off i (by omega))
      · rw [e1 i (by omega), e1 j (by omega)] at e
        exact s2.inj i j (by omega) (by omega) e
  · rw [hl] at hk
    by_cases ek : k = h1.length
    · rw [ek, e0]
      intro z
      have := A.sim.res q z
      rw [hp] at this
      cases this
    · rw [e1 k (by omega)]
      exact fun z => s2.off k (by omega) (.inl z)
  · have hb1 := A.bb b hb
    have hb2 := A.bl
    rw [List.getElem?_append_left (by omega)] at e
    exact s2.own b hb k c hk e
  · rw [hl]
    have := RD.ref (fa := Γ.fa) (f := f') (R := R) (H := H1) (k := h1.length) (n := h1.length + 1) (by omega)
    rw [e0] at this
    exact this
theorem cell_run (hf : fresh a' = true) {σ : L2.St} {H : Hp} {Q : VK} (q : tE Γ F W (.cell a') σ H Q) : tE Γ F W a' σ H Q := by
    obtain ⟨R, B, f, h, ds, A, p⟩ := q
    refine ⟨R, B, f, h, ds, A, ?_⟩
    have p : Post Γ.fa f h.length R B H ((evE F a' ds h).bind fun d h => match d with
      | .lst xs => .ok (.ref h.length) (h ++ [.lst xs])
      | .dct ks vs => .ok (.ref h.length) (h ++ [.dct ks vs])
      | _ => .fail) (relE Γ R B H (.cell a')) Q (exW Γ R W σ) := p
    cases hr : evE F a' ds h with
    | exc c pl h1 => rw [hr] at p; exact p
    | fail => rw [hr] at p; exact p
    | ok d h1 =>
      rw [hr] at p
      intro f1 H1 v x s rel
      cases d with
      | lst xs =>
        obtain ⟨q, vs, rfl, hp, hH, t, s2⟩ := rel.2 hf
        exact cell_new (c0 := .lst xs) A p x s hp s2 fun f' mv => ⟨vs, hH, mv t⟩
      | dct ks vs =>
        obtain ⟨q, us, ws, rfl, hp, hH, kd, t, t', s2⟩ := rel.2 hf
        exact cell_new (c0 := .dct ks vs) A p x s hp s2 fun f' mv => ⟨kd, us, ws, hH, mv t, mv t'⟩
      | _ => exact p.elim
theorem snd_cell (ha : PE X a (tE Γ F W a')) (hf : fresh a' = true) : PE X a (tE Γ F W (.cell a')) := imE ha fun σ H Q q => cell_run hf q
end
end Ev

set_option Elab.async false
set_option linter.all false
set_option maxRecDepth 100000
set_option maxHeartbeats 4000000
/-! EvP: methods. -/
namespace Ev
open PySem PySem.Spec PyProof.Rows L2
/-- a list (false), or a tuple that is known (true) -/
def tyM (K : PySem.W.Frag) (side : Bool) (x : V) (H : Hp) : Prop := match side with
  | false => ∃ p xs, x = .ref p ∧ SqL K H p xs
  | true => ∃ p xs, x = .ref p ∧ TuAt H p xs
/-- a method by values, over lists and over tuples -/
structure MR (X : Cx) (name : Str) (ok : Prop) (r : Bool → V → List V → Hp → VK → Prop) : Prop where
  list : ∃ id, Slot "list" name id ∧ typeOf (.builtin id) = pure (.type "method_descriptor") ∧ MtR X id (r false)
  tup : ok → ∃ id, Slot "tuple" name id ∧ typeOf (.builtin id) = pure (.type "method_descriptor") ∧ MtR X id (r true)
section
variable {X : Cx} {name : Str} {r : Bool → V → List V → Hp → VK → Prop} {o : Expr} {es : List Expr} {to : TE} {t : TA} {apos cpos : Pos} {ok : Prop}
theorem on_side (hm : MR X name ok r) {pins : List (Addr × Obj)} {σ : L2.St} {H1 : Hp} {s1 : Shared} {x : V} {v : Value} {side : Bool} {Q : VK} {trees : List (Bool × Sem Value)} (I1 : Inv X pins σ H1 s1) (r1 : RelV x v) (ty : tyM X.K side x H1) (smt : side = true → ok)
    (call : ∀ id, MtR X id (r side) → wpAny (model X.prog X.w) X.A (callWith cpos (.builtin id) [v] trees []) (EP X pins σ Q) X.xe s1) : MethodOn X.prog X.w X.A name cpos v trees (EP X pins σ Q) X.xe s1 := by
  cases side with
  | false =>
    obtain ⟨p, xs, rfl, hq⟩ := ty
    obtain ⟨id, slot, hty, m⟩ := hm.list
    cases r1
    obtain ⟨its, _, pl, _⟩ := I1.list hq
    refine ⟨"list", id, PySem.F.plainAttrs_list, slot, hty, pl.isList.typeIs, fun a e => ?_, call id m⟩
    cases e
    obtain ⟨o, n, e, c, hd, _⟩ := pl
    exact ⟨o, e, hd⟩
  | true =>
    obtain ⟨p, xs, rfl, ob, hq, hc, hd⟩ := ty
    obtain ⟨id, slot, hty, m⟩ := hm.tup (smt rfl)
    cases r1
    obtain ⟨e, _⟩ := (I1.hok p _ hq : ObjOk X.prog X.w H1 s1.heap p (.frz ob (.tup xs)))
    refine ⟨"tuple", id, PySem.F.plainAttrs_tuple, slot, hty, ⟨ob, e, hc⟩, fun a e2 => ?_, call id m⟩
    cases e2
    exact ⟨ob, e, hd⟩
theorem pe_bmD0 (hm : MR X name ok r) (ho : PE X o to) (hbase : attributeBase o name X.env (eval o X.env) = eval o X.env) (hline : (apos.endLine == cpos.line) = true) :
    PE X (.Call (.Attribute o name apos) [] [] cpos) (fun σ H Q => to σ H fun x H1 => ∃ side, tyM X.K side x H1 ∧ (side = true → ok) ∧ r side x [] H1 Q) := by
  refine ⟨fun pins s σ H Q I h => ?_⟩
  refine wpAny_Call_method0_late hbase hline (thn (ho.run pins s σ H _ I h) fun v s1 ⟨x, H1, I1, r1, side, ty, smt, q1⟩ => on_side hm I1 r1 ty smt fun id m => ?_)
  exact Calls.callWith_builtin rfl (PySem.evalArgs_none (m pins s1 σ H1 x [] v [] Q I1 r1 .nil q1))
theorem pe_bmD {e : Expr} (hm : MR X name ok r) (ho : PE X o to) (ha : PA X (e :: es) t) (hbase : attributeBase o name X.env (eval o X.env) = eval o X.env) (hn : ∀ x ∈ e :: es, nice x = true) (hlen : (e :: es).length < 20) (hline : (apos.endLine == cpos.line) = true) :
    PE X (.Call (.Attribute o name apos) (e :: es) [] cpos) (fun σ H Q => to σ H fun x H1 => ∃ side, tyM X.K side x H1 ∧ (side = true → ok) ∧ t σ H1 fun xs H2 => r side x xs H2 Q) := by
  refine ⟨fun pins s σ H Q I h => ?_⟩
  have hst : ∀ es : List Expr, (∀ e ∈ es, nice e = true) → (starEach es X.env).all (fun x => !x.1) = true := fun es hn => by
    induction es with
    | nil => rfl
    | cons e es ih =>
      rw [nice_star (hn e (by simp)), List.all_cons, ih fun x hx => hn x (List.mem_cons_of_mem _ hx)]
      rfl
  have hst2 : (backTo cpos (starEach (e :: es) X.env)).all (fun x => !x.1) = true := by
    unfold backTo
    rw [List.all_map]
    exact hst _ hn
  have hfew : ((backTo cpos (starEach (e :: es) X.env)).all (fun x => !x.1) && (backToKw cpos (keywordEach [] X.env)).all (fun x => x.1.isSome)
      && decide ((e :: es).length + ([] : List Keyword).length + (if ([] : List Keyword).isEmpty then 0 else 1) < 30)) = true := by
    rw [hst2]
    have : decide ((e :: es).length + ([] : List Keyword).length + (if ([] : List Keyword).isEmpty then 0 else 1) < 30) = true := decide_eq_true (by simp at hlen ⊢; omega)
    rw [this]
    rfl
  refine wpAny_Call_method_late hbase hfew hline rfl (thn (ho.run pins s σ H _ I h) fun v s1 ⟨x, H1, I1, r1, side, ty, smt, q1⟩ => on_side hm I1 r1 ty smt fun id m => ?_)
  have hA := ha.run cpos pins s1 σ H1 _ I1 q1
  have fin := thn hA fun us s2 ⟨vs, H2, I2, r2, q2⟩ => m pins s2 σ H2 x vs v us Q I2 r1 r2 q2
  refine Calls.callWith_builtin (any_plain hn) ?_
  rw [nice_star (hn e (by simp))] at fin ⊢
  exact Calls.evalArgs_plain fin
end
/-- what a method is asked -/
def rM (fa : FA) (bs : Nat) (m : Mt) : Bool → V → List V → Hp → VK → Prop := fun side x vs H Q => ∃ (f : Nat → Addr) (R : Addr → Prop) (B : Nat → Prop) (h : Hh) (d : D) (ds : List D) (z : D) (h2 : Hh), Sim fa f R B h H ∧ (∀ b, B b → b ≤ bs) ∧ RD fa f h.length R H d x ∧ RDs fa f h.length R H ds vs ∧ mth bs m h d ds = some (z, h2) ∧
  (side = true ↔ ∃ ys, d = .tup ys) ∧ ∀ H' v, Ext f h.length R H f h2.length H' → Sim fa f R B h2 H' → RD fa f h2.length R H' z v → Q v H'
section
variable {X : Cx} {fa : FA} {bs : Nat}
theorem ref_get {f : Nat → Addr} {R : Addr → Prop} {H : Hp} {n k : Nat} {v : V} (r : RD fa f n R H (.ref k) v) : v = .ref (f k) ∧ k < n := by
  cases r with
  | ref h => exact ⟨rfl, h⟩
theorem inv_append {b : Nat} {h h2 : Hh} {d : D} {ds : List D} {z : D} (e : mAppend b h d ds = some (z, h2)) : ∃ n v xs, d = .ref n ∧ ds = [v] ∧ h[n]? = some (.lst xs) ∧ stOk b n v = true ∧ xs.length < 100000 ∧ z = .non ∧ h2 = h.set n (.lst (xs ++ [v])) := by
  unfold mAppend at e
  split at e
  · split at e
    · split at e
      · rename_i hc
        cases e
        obtain ⟨h1, h2⟩ := Bool.and_eq_true_iff.mp hc
        exact ⟨_, _, _, rfl, rfl, ‹_›, h1, of_decide_eq_true h2, rfl, rfl⟩
      · cases e
    · cases e
  · cases e
theorem inv_extend {b : Nat} {h h2 : Hh} {d : D} {ds : List D} {z : D} (e : mExtend b h d ds = some (z, h2)) : ∃ n v xs ys, d = .ref n ∧ ds = [v] ∧ h[n]? = some (.lst xs) ∧ seqL h v = some ys ∧ stOk b n (.lst ys) = true ∧ xs.length + ys.length < 100000 ∧ z = .non ∧ h2 = h.set n (.lst (xs ++ ys)) := by
  unfold mExtend at e
  split at e
  · split at e
    · split at e
      · rename_i hc
        cases e
        obtain ⟨h1, h2⟩ := Bool.and_eq_true_iff.mp hc
        exact ⟨_, _, _, _, rfl, rfl, ‹_›, ‹_›, h1, of_decide_eq_true h2, rfl, rfl⟩
      · cases e
    · cases e
  · cases e
theorem inv_pop {h h2 : Hh} {d : D} {ds : List D} {z : D} (e : mPop h d ds = some (z, h2)) : ∃ n xs, d = .ref n ∧ h[n]? = some (.lst xs) ∧ ((ds = [] ∧ xs[xs.length - 1]? = some z ∧ h2 = h.set n (.lst xs.dropLast)) ∨ ∃ i k, ds = [.int i] ∧ Ev.ixN xs.length i = some k ∧ xs[k]? = some z ∧ h2 = h.set n (.lst (xs.eraseIdx k))) := by
  unfold mPop at e
  split at e
  · split at e
    · obtain ⟨y, h1, h2⟩ := Option.map_eq_some_iff.mp e
      cases h2
      exact ⟨_, _, rfl, ‹_›, .inl ⟨rfl, h1, rfl⟩⟩
    · cases e
  · split at e
    · obtain ⟨k, h0, e⟩ := Option.bind_eq_some_iff.mp e
      obtain ⟨y, h1, h2⟩ := Option.map_eq_some_iff.mp e
      cases h2
      exact ⟨_, _, rfl, ‹_›, .inr ⟨_, k, rfl, h0, h1, rfl⟩⟩
    · cases e
  · cases e
theorem inv_remove {h h2 : Hh} {d : D} {ds : List D} {z : D} (e : mRemove h d ds = some (z, h2)) : ∃ n k xs ns, d = .ref n ∧ ds = [.int k] ∧ h[n]? = some (.lst xs) ∧ allI xs = some ns ∧ ns.contains k = true ∧ z = .non ∧ h2 = h.set n (.lst (xs.eraseIdx (ns.idxOf k))) := by
  unfold mRemove at e
  split at e
  · split at e
    · obtain ⟨ns, h0, e⟩ := Option.bind_eq_some_iff.mp e
      split at e
      · cases e
        exact ⟨_, _, _, ns, rfl, rfl, ‹_›, h0, ‹_›, rfl, rfl⟩
      · cases e
    · cases e
  · cases e
theorem inv_index {h h2 : Hh} {d : D} {ds : List D} {z : D} (e : mIndex h d ds = some (z, h2)) : ∃ k xs ns, ds = [.int k] ∧ seqOf h d = some xs ∧ allI xs = some ns ∧ ns.contains k = true ∧ z = .int (ns.idxOf k) ∧ h2 = h := by
  unfold mIndex at e
  split at e
  · obtain ⟨xs, h1, e⟩ := Option.bind_eq_some_iff.mp e
    obtain ⟨ns, h0, e⟩ := Option.bind_eq_some_iff.mp e
    split at e
    · cases e
      exact ⟨_, xs, ns, rfl, h1, h0, ‹_›, rfl, rfl⟩
    · cases e
  · cases e
theorem inv_count {h h2 : Hh} {d : D} {ds : List D} {z : D} (e : mCount h d ds = some (z, h2)) : ∃ k xs ns, ds = [.int k] ∧ seqL h d = some xs ∧ allI xs = some ns ∧ z = .int (ns.count k) ∧ h2 = h := by
  unfold mCount at e
  split at e
  · obtain ⟨xs, h1, e⟩ := Option.bind_eq_some_iff.mp e
    obtain ⟨ns, h0, e⟩ := Option.map_eq_some_iff.mp e
    cases e
    exact ⟨_, xs, ns, rfl, h1, h0, rfl, rfl⟩
  · cases e
theorem stOk_lst {b k : Nat} {ys : List D} {B : Nat → Prop} (hs : stOk b k (.lst ys) = true) (bb : ∀ b', B b' → b' ≤ b) : ∀ b', B b' → k < b' → rLts b' ys := fun b' hb hk => stOk_own hs bb b' hb hk
theorem m_append : MR X "append" (Mt.append = .index) (rM fa bs .append) where
  tup := fun e => nomatch e
  list := by
    refine ⟨"list.append", PySem.F.slot_list_append, PySem.F.type_list_append, ?_⟩
    intro pins s σ H x xs v us Q I rx rxs hh
    obtain ⟨f, R, B, h, d, ds, z, h2, sm, bb, r, rs, e, hs, q⟩ := hh
    obtain ⟨k, d1, ys, rfl, rfl, hy, hst, hl, rfl, rfl⟩ := inv_append e
    obtain ⟨rfl, hk⟩ := ref_get r
    obtain ⟨v1, rfl, r1⟩ := rds1 rs
    obtain ⟨ws, e2, t⟩ := sm.get hy
    refine mt_append pins s σ H _ _ v us Q I rx rxs ⟨f k, ws, v1, rfl, rfl, e2, ?_, q _ _ (sm.storeExt hk) (sm.store hk (t.append (.cons r1 .nil)) fun b hb hkb => ?_) .non⟩
    · rw [← t.length]; exact Nat.lt_of_lt_of_le hl line_ge
    · have o := sm.own b hb k _ hkb hy
      exact rLts_of fun y hy => by
        rcases List.mem_append.mp hy with hy | hy
        · exact rLts_mem o hy
        · rw [List.mem_singleton.mp hy]
          exact stOk_own hst bb b hb hkb
theorem m_extend : MR X "extend" (Mt.extend = .index) (rM fa bs .extend) where
  tup := fun e => nomatch e
  list := by
    refine ⟨"list.extend", PySem.F.slot_list_extend, PySem.F.type_list_extend, ?_⟩
    intro pins s σ H x xs v us Q I rx rxs hh
    obtain ⟨f, R, B, h, d, ds, z, h2, sm, bb, r, rs, e, hs, q⟩ := hh
    obtain ⟨k, d1, ys, zs, rfl, rfl, hy, hz, hst, hl, rfl, rfl⟩ := inv_extend e
    obtain ⟨rfl, hk⟩ := ref_get r
    obtain ⟨v1, rfl, r1⟩ := rds1 rs
    obtain ⟨ws, e2, t⟩ := sm.get hy
    have hz' : seqOf h d1 = some zs ∧ ∀ ys, d1 ≠ .tup ys := by
      cases d1 with
      | tup _ => cases hz
      | _ => exact ⟨hz, fun _ z => nomatch z⟩
    obtain ⟨b', us', rfl, t', e3⟩ := isLst_of sm r1 hz'.1 hz'.2
    refine mt_extend pins s σ H _ _ v us Q I rx rxs ⟨f k, b', ws, us', rfl, rfl, e2, e3, ?_, q _ _ (sm.storeExt hk) (sm.store hk (t.append t') fun b hb hkb => ?_) .non⟩
    · rw [← t.length, ← t'.length]; exact Nat.le_trans (Nat.le_of_lt hl) line_ge
    · have o := sm.own b hb k _ hkb hy
      exact rLts_of fun y hy => by
        rcases List.mem_append.mp hy with hy | hy
        · exact rLts_mem o hy
        · exact rLts_mem (stOk_lst hst bb b hb hkb) hy
theorem m_pop : MR X "pop" (Mt.pop = .index) (rM fa bs .pop) where
  tup := fun e => nomatch e
  list := by
    refine ⟨"list.pop", PySem.F.slot_list_pop, PySem.F.type_list_pop, ?_⟩
    intro pins s σ H x xs v us Q I rx rxs hh
    obtain ⟨f, R, B, h, d, ds, z, h2, sm, bb, r, rs, e, hs, q⟩ := hh
    obtain ⟨k, ys, rfl, hy, e⟩ := inv_pop e
    obtain ⟨rfl, hk⟩ := ref_get r
    obtain ⟨ws, e2, t⟩ := sm.get hy
    rcases e with ⟨rfl, hz, rfl⟩ | ⟨i, j, rfl, hi, hz, rfl⟩
    · cases rs
      obtain ⟨w, hw, rw⟩ := t.get hz
      refine mt_pop pins s σ H _ _ v us Q I rx rxs ⟨f k, ws, w, rfl, rfl, e2, by rw [← t.length]; exact hw, q _ _ (sm.storeExt hk) (sm.store hk t.dropLast fun b hb hkb => ?_) ?_⟩
      · have o := sm.own b hb k _ hkb hy
        exact rLts_of fun y hy => rLts_mem o ((List.dropLast_sublist _).subset hy)
      · rw [List.length_set]
        exact rw.cellUpd hk rfl
    · obtain ⟨w, hw, rw⟩ := t.get hz
      obtain ⟨v1, rfl, r1⟩ := rds1 rs
      rw [rd_int r1] at rxs
      have hi2 : L2.ixN ws.length i = some j := by rw [← t.length]; exact hi
      obtain ⟨h1, h2, h3, h4⟩ := ixN_seq hi2
      obtain ⟨_, _, _, hsl⟩ := I.list (SqL.of (K := X.K) e2)
      have := sizeLine_eq
      refine mt_popAt pins s σ H _ _ v us Q I rx rxs ⟨f k, ws, i, j, w, rfl, rfl, e2, by omega, by omega, h1, hw, q _ _ (sm.storeExt hk) (sm.store hk (t.eraseIdx j) fun b hb hkb => ?_) ?_⟩
      · have o := sm.own b hb k _ hkb hy
        exact rLts_of fun y hy => rLts_mem o (List.mem_of_mem_eraseIdx hy)
      · rw [List.length_set]
        exact rw.cellUpd hk rfl
theorem idxOf_first {ns : List Int} {k : Int} (h : ns.contains k = true) : ns[ns.idxOf k]? = some k ∧ ∀ m : Nat, m < ns.idxOf k → ns[m]? ≠ some k := by
  have hm : k ∈ ns := by simpa using h
  have hl : ns.idxOf k < ns.length := List.idxOf_lt_length_of_mem hm
  refine ⟨?_, fun m hm' e => ?_⟩
  · rw [List.getElem?_eq_getElem hl]
    exact congrArg some (List.getElem_idxOf hl)
  · obtain ⟨h1, h2⟩ := List.getElem?_eq_some_iff.mp e
    have := List.not_of_lt_findIdx (p := (· == k)) (xs := ns) (i := m) hm'
    simp [h2] at this
theorem m_remove : MR X "remove" (Mt.remove = .index) (rM fa bs .remove) where
  tup := fun e => nomatch e
  list := by
    refine ⟨"list.remove", PySem.F.slot_list_remove, PySem.F.type_list_remove, ?_⟩
    intro pins s σ H x xs v us Q I rx rxs hh
    obtain ⟨f, R, B, h, d, ds, z, h2, sm, bb, r, rs, e, hs, q⟩ := hh
    obtain ⟨n, k, ys, ns, rfl, rfl, hy, ha, hc, rfl, rfl⟩ := inv_remove e
    obtain ⟨rfl, hk⟩ := ref_get r
    obtain ⟨v1, rfl, r1⟩ := rds1 rs
    rw [rd_int r1] at rxs
    obtain ⟨ws, e2, t⟩ := sm.get hy
    have ew := allI_ok t ha
    rw [ew] at e2 t
    obtain ⟨g1, g2⟩ := idxOf_first hc
    refine mt_remove pins s σ H _ _ v us Q I rx rxs ⟨f n, ns, k, ns.idxOf k, rfl, rfl, e2, g1, g2, ?_⟩
    have t2 := t.eraseIdx (ns.idxOf k)
    rw [erase_mapI] at t2
    refine q _ _ (sm.storeExt hk) (sm.store hk t2 fun b hb hkb => ?_) .non
    have o := sm.own b hb n _ hkb hy
    exact rLts_of fun y hy => rLts_mem o (List.mem_of_mem_eraseIdx hy)
theorem m_index : MR X "index" (Mt.index = .index) (rM fa bs .index) where
  tup := fun _ => by
    refine ⟨"tuple.index", PySem.F.slot_tuple_index, PySem.F.type_tuple_index, ?_⟩
    intro pins s σ H x xs v us Q I rx rxs hh
    obtain ⟨f, R, B, h, d, ds, z, h2, sm, bb, r, rs, e, hs, q⟩ := hh
    obtain ⟨k, ys, ns, rfl, hy, ha, hc, rfl, rfl⟩ := inv_index e
    obtain ⟨zs, rfl⟩ := hs.mp rfl
    cases hy
    obtain ⟨v1, rfl, r1⟩ := rds1 rs
    rw [rd_int r1] at rxs
    obtain ⟨a, ws, rfl, e1, t⟩ := rd_tup r
    rw [allI_ok t ha] at e1
    cases rx
    obtain ⟨u, rfl, t, rfl⟩ := rxs.one
    obtain ⟨its, rv, p, hz⟩ := I.tuple e1.sq
    have hm : k ∈ ns := by simpa using hc
    exact SeqAt.tuple_index_ints (show s.heap.IsTuple a its.toArray from p) rv.ints hm ⟨.int (ns.idxOf k : Nat), H, I.tok _, ⟨_, rfl⟩, q H _ .refl sm (.int _)⟩
  list := by
    refine ⟨"list.index", PySem.F.slot_list_index, PySem.F.type_list_index, ?_⟩
    intro pins s σ H x xs v us Q I rx rxs hh
    obtain ⟨f, R, B, h, d, ds, z, h2, sm, bb, r, rs, e, hs, q⟩ := hh
    obtain ⟨k, ys, ns, rfl, hy, ha, hc, rfl, rfl⟩ := inv_index e
    obtain ⟨v1, rfl, r1⟩ := rds1 rs
    rw [rd_int r1] at rxs
    obtain ⟨a, ws, rfl, t, e1⟩ := isLst_of sm r hy fun zs e => by subst e; cases (hs.mpr ⟨_, rfl⟩)
    rw [allI_ok t ha] at e1
    cases rx
    obtain ⟨u, rfl, t, rfl⟩ := rxs.one
    obtain ⟨its, rv, p, hz⟩ := I.list (.of e1)
    have hm : k ∈ ns := by simpa using hc
    exact SeqAt.list_index_ints p.isList rv.ints (by rw [List.length_map] at hz; exact hz) hm ⟨.int (ns.idxOf k : Nat), H, I.tok _, ⟨_, rfl⟩, q H _ .refl sm (.int _)⟩
theorem m_count : MR X "count" (Mt.count = .index) (rM fa bs .count) where
  tup := fun e => nomatch e
  list := by
    refine ⟨"list.count", PySem.F.slot_list_count, PySem.F.type_list_count, ?_⟩
    intro pins s σ H x xs v us Q I rx rxs hh
    obtain ⟨f, R, B, h, d, ds, z, h2, sm, bb, r, rs, e, hs, q⟩ := hh
    obtain ⟨k, ys, ns, rfl, hy, ha, rfl, rfl⟩ := inv_count e
    obtain ⟨v1, rfl, r1⟩ := rds1 rs
    rw [rd_int r1] at rxs
    obtain ⟨a, ws, rfl, t, e1⟩ := seqL_ok (K := X.K) sm r hy
    rw [allI_ok t ha] at e1
    exact mt_lcount pins s σ H _ _ v us Q I rx rxs ⟨a, ns, k, rfl, rfl, e1, q H _ .refl sm (.int _)⟩
end
theorem m_all {X : Cx} {fa : FA} {bs : Nat} (m : Mt) (hm : m ≠ .get) : MR X (mtName m) (m = .index) (rM fa bs m) := by
  cases m with
  | append => exact m_append
  | extend => exact m_extend
  | pop => exact m_pop
  | remove => exact m_remove
  | index => exact m_index
  | count => exact m_count
  | get => exact absurd rfl hm
section
variable {X : Cx} {Γ : Cst} {F : Fr} {W : WX} {o : Expr} {o' : Ex} {es : List Expr} {es' : List Ex} {apos cpos : Pos}
theorem meth_run (m : Mt) {σ : L2.St} {H : Hp} {Q : VK} (q : tE Γ F W (.meth m o' es') σ H Q) : tE Γ F W o' σ H fun x H1 => ∃ side, tyM X.K side x H1 ∧ (side = true → m = .index) ∧ tA Γ F W es' σ H1 fun xs H2 => rM Γ.fa F.base m side x xs H2 Q := by
  obtain ⟨R, B, f, h, ds, A, p⟩ := q
  exact mkE A p fun d v f1 h1 H1 x1 A1 r1 _ p1 => by
    have p1 : Post Γ.fa f1 h1.length R B H1 (if recvOk m h1 d = true then (evEs F es' ds h1).bind fun ds h => match mth F.base m h d ds with
      | some (d, h) => .ok d h
      | none => .fail else .fail) (relE Γ R B H (.meth m o' es')) Q (exW Γ R W σ) := p1
    by_cases hr : recvOk m h1 d = true
    · rw [if_pos hr] at p1
      have key : ∀ side, (side = true ↔ ∃ ys, d = .tup ys) → tA Γ F W es' σ H1 fun xs H2 => rM Γ.fa F.base m side v xs H2 Q := fun side hs =>
        mkA A1 p1 fun xs vs f2 h2 H2 x2 A2 r2 p2 => by
          cases hz : mth F.base m h2 d xs with
          | none => rw [hz] at p2; exact p2.elim
          | some q =>
            obtain ⟨z, h3⟩ := q
            rw [hz] at p2
            exact ⟨f2, R, B, h2, d, xs, z, h3, A2.sim, A2.bb, r1.ext x2, r2, hz, hs, fun H' v' x s r => p2 f2 H' v' x s ⟨r, fun z => by cases z⟩⟩
      cases d with
      | tup ys =>
        obtain ⟨a, vs, rfl, e, t⟩ := rd_tup r1
        exact ⟨true, ⟨a, vs, rfl, e⟩, fun _ => eq_of_beq hr, key true ⟨fun _ => ⟨ys, rfl⟩, fun _ => rfl⟩⟩
      | lst ys =>
        obtain ⟨a, vs, rfl, e, t⟩ := rd_lst r1
        exact ⟨false, ⟨a, vs, rfl, .of e⟩, (fun z => nomatch z), key false ⟨fun z => (nomatch z), fun ⟨_, z⟩ => nomatch z⟩⟩
      | ref k =>
        obtain ⟨rfl, hk⟩ := ref_get r1
        have e1 : h1[k]? = some h1[k] := List.getElem?_eq_getElem hk
        have c := A1.sim.cell k _ e1
        cases qq : h1[k] with
        | lst ys =>
          rw [qq] at c
          obtain ⟨vs, e2, t⟩ := c
          exact ⟨false, ⟨_, vs, rfl, .of e2⟩, (fun z => nomatch z), key false ⟨fun z => (nomatch z), fun ⟨_, z⟩ => nomatch z⟩⟩
        | dct ks vs =>
          have hr : (match h1[k]? with | some (.lst _) => true | _ => false) = true := hr
          rw [e1, qq] at hr
          cases hr
      | _ => cases hr
    · rw [if_neg hr] at p1; exact p1.elim
theorem snd_meth (m : Mt) (hm : m ≠ .get) (ho : PP X Γ F W o o') (ha : All2 (PP X Γ F W) es es') (hbase : attributeBase o (mtName m) X.env (eval o X.env) = eval o X.env) (hlen : es.length < 20) (hline : (apos.endLine == cpos.line) = true) :
    PE X (.Call (.Attribute o (mtName m) apos) es [] cpos) (tE Γ F W (.meth m o' es')) := by
  cases es with
  | nil =>
    cases ha
    refine imE (pe_bmD0 (m_all (X := X) (fa := Γ.fa) (bs := F.base) m hm) ho.e hbase hline) fun σ H Q q => ?_
    obtain ⟨R, B, f, h, ds, A, p⟩ := meth_run (X := X) m q
    refine ⟨R, B, f, h, ds, A, ?_⟩
    cases hr : evE F o' ds h with
    | ok d h1 =>
      rw [hr] at p
      intro f1 H1 v x s rel
      obtain ⟨side, ty, ok, q⟩ := p f1 H1 v x s rel
      obtain ⟨R', B', f', h', ds', A', p'⟩ := q
      exact ⟨side, ty, ok, p' f' H1 [] .refl A'.sim .nil⟩
    | exc c pl h1 => rw [hr] at p; exact p
    | fail => rw [hr] at p; exact p
  | cons e es => exact imE (pe_bmD (m_all (X := X) (fa := Γ.fa) (bs := F.base) m hm) ho.e (snd_args ha) hbase ha.nice hlen hline) fun σ H Q q => meth_run m q
end
end Ev

set_option Elab.async false
set_option linter.all false
set_option maxRecDepth 100000
set_option maxHeartbeats 4000000
/-! EvQ: isinstance, ranges as rows, built-ins called. -/
namespace Ev
open PySem PySem.Spec PyProof.Rows L2
/-- a thing's own type -/
def dTy : D → Option String
  | .non => some "NoneType"
  | .bl _ => some "bool"
  | .int _ => some "int"
  | .str _ => some "str"
  | .lst _ => some "list"
  | .tup _ => some "tuple"
  | _ => none
theorem kit_all (a : String) (t : Ty) : (a = "NoneType" → kitB a (tyStr t) = some false) ∧ (a = "bool" → kitB a (tyStr t) = some (t == .int || t == .bool)) ∧ (a = "int" → kitB a (tyStr t) = some (t == .int)) ∧ (a = "str" → kitB a (tyStr t) = some (t == .str)) ∧
    (a = "list" → kitB a (tyStr t) = some (t == .list)) ∧ (a = "tuple" → kitB a (tyStr t) = some (t == .tuple)) := by
  refine ⟨?_, ?_, ?_, ?_, ?_, ?_⟩ <;> rintro rfl <;> cases t <;> decide +kernel
theorem tyD_kit {h : Hh} {d : D} {t : Ty} {b : Bool} (e : tyD h d t = some b) : ∃ a, dTy (top h d) = some a ∧ kitB a (tyStr t) = some b := by
  unfold tyD at e
  cases q : top h d with
  | non => rw [q] at e; refine ⟨_, rfl, ?_⟩; rw [(kit_all _ t).1 rfl]; cases t <;> exact e
  | bl c => rw [q] at e; refine ⟨_, rfl, ?_⟩; rw [(kit_all _ t).2.1 rfl]; cases t <;> exact e
  | int c => rw [q] at e; refine ⟨_, rfl, ?_⟩; rw [(kit_all _ t).2.2.1 rfl]; cases t <;> exact e
  | str c => rw [q] at e; refine ⟨_, rfl, ?_⟩; rw [(kit_all _ t).2.2.2.1 rfl]; cases t <;> exact e
  | lst c => rw [q] at e; refine ⟨_, rfl, ?_⟩; rw [(kit_all _ t).2.2.2.2.1 rfl]; cases t <;> exact e
  | tup c => rw [q] at e; refine ⟨_, rfl, ?_⟩; rw [(kit_all _ t).2.2.2.2.2 rfl]; cases t <;> exact e
  | dct _ _ => rw [q] at e; cases t <;> cases e
  | set _ => rw [q] at e; cases t <;> cases e
  | ref _ => rw [q] at e; cases t <;> cases e
  | fn _ => rw [q] at e; cases t <;> cases e
  | scr _ => rw [q] at e; cases t <;> cases e
theorem boot_ty (t : Ty) : bootBuiltins (tyNm t) = some (.type (tyStr t)) := by cases t <;> decide +kernel
theorem nm_ty (t : Ty) : tyNm t ≠ "__name__" ∧ (tyNm t == ("__debug__" : Str)) = false := by cases t <;> decide +kernel
section
variable {fa : FA} {f : Nat → Addr} {R : Addr → Prop} {B : Nat → Prop} {h : Hh} {H : Hp} {K : PySem.W.Frag}
theorem tyX_ok (s : Sim fa f R B h H) {d : D} {v : V} (r : RD fa f h.length R H d v) {a : String} (e : dTy (top h d) = some a) : TyX K H v (.type a) := by
  have t := top_ok s r
  cases q : top h d with
  | non => rw [q] at e t; cases e; have := rd_non (show RD fa f h.length R H .non v from t); subst this; exact .base .non
  | bl c => rw [q] at e t; cases e; have := rd_bl (show RD fa f h.length R H (.bl c) v from t); subst this; exact .base (.bl c)
  | int c => rw [q] at e t; cases e; have := rd_int (show RD fa f h.length R H (.int c) v from t); subst this; exact .base (.int c)
  | str c => rw [q] at e t; cases e; have := rd_str (show RD fa f h.length R H (.str c) v from t); subst this; exact .base (.str c)
  | lst c => rw [q] at e t; cases e; obtain ⟨a, vs, rfl, e1, _⟩ := t; exact .base (.lst e1)
  | tup c => rw [q] at e t; cases e; obtain ⟨a, vs, rfl, ⟨o, e1, _⟩, _⟩ := t; exact .fTuple e1
  | _ => rw [q] at e; cases e
end
section
variable {X : Cx} {Γ : Cst} {F : Fr} {W : WX} {a : Expr} {a' : Ex} {pos : Pos}
theorem snd_isi1 {p p2 : Pos} (hg : Gl X "isinstance") (hm : X.mg "isinstance" = none) (hv : bootBuiltins "isinstance" = some (.builtin "isinstance")) (t : Ty) (hgt : Gl X (tyNm t)) (hmt : X.mg (tyNm t) = none) (ha : PP X Γ F W a a') :
    PE X (.Call (.Name "isinstance" p) [a, .Name (tyNm t) p2] [] pos) (tE Γ F W (.isin a' [t])) := by
  have pn : PE X (.Name (tyNm t) p2) (tC (.ty (tyStr t))) := pe_bltn (u := .type (tyStr t)) hgt hmt (boot_ty t) rfl (nm_ty t).1 (nm_ty t).2
  refine imE (pe_callB call_isi hg hm hv (pa_cons ha.e (pa_cons pn pa_nil) (nice_star ha.n)) (he := nice_star ha.n)) fun σ H Q ⟨R, B, f, h, ds, A, p⟩ => mkE A p fun d v f1 h1 H1 x1 A1 r1 _ p1 => ?_
  obtain ⟨z, hz, q⟩ := p1.of
  obtain ⟨bs, hb, rfl⟩ := Option.map_eq_some_iff.mp hz
  cases hd : tyD h1 d t with
  | none => simp [List.mapM_cons, hd] at hb
  | some b =>
    simp [List.mapM_cons, hd] at hb
    subst hb
    obtain ⟨ty, h2, h3⟩ := tyD_kit hd
    refine ⟨v, .ty (tyStr t), .type ty, .type (tyStr t), b, rfl, .ty _, tyX_ok A1.sim r1 h2, kit_ty h3, ?_⟩
    have := q f1 H1 (.bl b) .refl A1.sim ⟨by simpa using RD.bl (fa := Γ.fa) (f := f1) (n := h1.length) (R := R) (H := H1) b, fun z => by cases z⟩
    exact this
theorem pa_types {p2 : List Pos} (X : Cx) : ∀ {es : List Expr} {ts : List Ty} {sc : List (Str × NameKind)}, tyNames sc es = some ts → (∀ x, isGl sc x = true → Gl X x) → (∀ t, X.mg (tyNm t) = none) → (∀ x t, tyOf x = some t → x = tyNm t) → PA X es (fun _ H Q => Q (ts.map fun t => V.ty (tyStr t)) H)
  | [], ts, sc, h, _, _, _ => by cases h; exact pa_nil
  | e :: es, ts, sc, h, hg, hm, ht => by
    cases e with
    | Name x p =>
      have h : (if isGl sc x = true then (match tyOf x, tyNames sc es with
        | some t, some r => some (t :: r)
        | _, _ => none) else none) = some ts := h
      split at h
      · rename_i hx
        split at h
        · cases h
          rename_i t r h1 h2
          have := ht x t h1
          subst this
          exact imA (pa_cons (pe_bltn (v := .ty (tyStr t)) (u := .type (tyStr t)) (hg _ hx) (hm t) (boot_ty t) rfl (nm_ty t).1 (nm_ty t).2) (pa_types (p2 := p2) X h2 hg hm ht)) fun σ H Q q => q
        · cases h
      · cases h
    | _ => cases h
theorem kitAny_ok {K : PySem.W.Frag} {h : Hh} {d : D} {ty : String} (hty : dTy (top h d) = some ty) : ∀ {ts : List Ty} {bs : List Bool}, ts.mapM (tyD h d) = some bs → PySem.W.kitAny K (.type ty) (ts.map fun t => Value.type (tyStr t)) = some (bs.any id)
  | [], bs, e => by cases e; exact kitAny_nil
  | t :: ts, bs, e => by
    rw [List.mapM_cons] at e
    cases h1 : tyD h d t with
    | none => rw [h1] at e; cases e
    | some b =>
      cases h2 : ts.mapM (tyD h d) with
      | none => rw [h1, h2] at e; cases e
      | some cs =>
        rw [h1, h2] at e
        cases e
        obtain ⟨a, e1, e2⟩ := tyD_kit h1
        rw [hty] at e1
        cases e1
        refine kitAny_cons (kit_ty e2) (fun hb => ?_) fun hb => ?_
        · subst hb
          have := kitAny_ok (K := K) hty h2
          simpa using this
        · subst hb; rfl
theorem clsv_all : ∀ ts : List Ty, Paired ClsV (ts.map fun t => V.ty (tyStr t)) (ts.map fun t => Value.type (tyStr t))
  | [] => .nil
  | t :: ts => .cons (.ty _) (clsv_all ts)
theorem snd_isiT {p p2 : Pos} {k : Nat} {es : List Expr} {ts : List Ty} {sc : List (Str × NameKind)} (hg : Gl X "isinstance") (hm : X.mg "isinstance" = none) (hv : bootBuiltins "isinstance" = some (.builtin "isinstance")) (hn : tyNames sc es = some ts) (hl : ts.length ≤ 1000) (hne : ts ≠ [])
    (hgt : ∀ x, isGl sc x = true → Gl X x) (hmt : ∀ t, X.mg (tyNm t) = none) (ht : ∀ x t, tyOf x = some t → x = tyNm t) (ha : PP X Γ F W a a') :
    PE X (.Call (.Name "isinstance" p) [a, .Tuple es k p2] [] pos) (tE Γ F W (.isin a' ts)) := by
  refine imE (pe_callB call_isiT hg hm hv (pa_cons ha.e (pa_cons (pe_tup (pa_types (p2 := []) X hn hgt hmt ht)) pa_nil) (nice_star ha.n)) (he := nice_star ha.n)) fun σ H Q ⟨R, B, f, h, ds, A, p⟩ => mkE A p fun d v f1 h1 H1 x1 A1 r1 _ p1 => ?_
  refine ⟨by rw [List.length_map]; exact Nat.le_trans hl (Nat.le_trans (by decide) line_ge), fun pp hp => ?_⟩
  obtain ⟨z, hz, q⟩ := p1.of
  obtain ⟨bs, hb, rfl⟩ := Option.map_eq_some_iff.mp hz
  have hty : ∃ ty, dTy (top h1 d) = some ty := by
    cases ts with
    | nil => exact absurd rfl hne
    | cons t ts =>
      rw [List.mapM_cons] at hb
      cases h1 : tyD h1 d t with
      | none => rw [h1] at hb; cases hb
      | some b => obtain ⟨a, e, _⟩ := tyD_kit h1; exact ⟨a, e⟩
  obtain ⟨ty, hty⟩ := hty
  have sm2 : Sim Γ.fa f1 R B h1 (L2.upd H1 pp (.tup (ts.map fun t => V.ty (tyStr t)))) := A1.sim.upd hp
  exact ⟨v, pp, _, .type ty, _, bs.any id, rfl, upd_same, clsv_all ts, tyX_ok sm2 (r1.ext (R := R) (Ext.upd hp)) hty, kitAny_ok hty hb, q f1 _ _ (Ext.upd hp) sm2 ⟨.bl _, fun z => by cases z⟩⟩
end
/-! ### range objects -/
def RgArgs (vs : List V) (a b c : Int) : Prop := (vs = [.int b] ∧ a = 0 ∧ c = 1) ∨ (vs = [.int a, .int b] ∧ c = 1) ∨ (vs = [.int a, .int b, .int c] ∧ c ≠ 0 ∧ c.natAbs < 1073741824)
section
variable {X : Cx} {e : Expr} {es : List Expr} {t : TA} {p pos : Pos}
theorem rg_obj (hg : Gl X "range") (hm : X.mg "range" = none) (ha : PA X (e :: es) t) (hn : ∀ x ∈ e :: es, nice x = true) {pins : List (Addr × Obj)} {s : Shared} {σ : L2.St} {H : Hp} {Q : Int → Int → Int → Hp → Prop} (I : Inv X pins σ H s)
    (h : t σ H fun vs H1 => ∃ a b c, RgArgs vs a b c ∧ Q a b c H1) : wpAny (model X.prog X.w) X.A (eval (.Call (.Name "range" p) (e :: es) [] pos) X.env) (fun x s' => ∃ r a b c t u v H', x = .ref r ∧ IsRange s'.heap r a b c t u v ∧ Inv X pins σ H' s' ∧ Q a b c H') X.xe s := by
  refine Call_ (ld_blt I hg hm boot_range (PyProof.Rows.callWith_type1 (thn (ha.run pos pins s σ H _ I h) fun us s1 ⟨vs, H1, I1, r1, q1⟩ => ?_) (nice_star (hn e (by simp))) (any_plain fun x hx => hn x (List.mem_cons_of_mem _ hx))))
  obtain ⟨a, b, c, ar, q⟩ := q1
  rcases ar with ⟨rfl, rfl, rfl⟩ | ⟨rfl, rfl⟩ | ⟨rfl, h1, h2⟩
  · obtain ⟨u, rfl, t, rfl⟩ := r1.one
    exact call_range_1 ⟨_, 0, b, 1, _, _, _, H1, rfl, IsRange.new _ _ _ _ _ _ _, I1.kept fun b u e => Heap.get?_push_of_some _ e, q⟩
  · obtain ⟨u, w, rfl, ⟨t, rfl⟩, ⟨t', rfl⟩⟩ := r1.two
    exact call_range_2 ⟨_, a, b, 1, _, _, _, H1, rfl, IsRange.new _ _ _ _ _ _ _, I1.kept fun b u e => Heap.get?_push_of_some _ e, q⟩
  · cases r1 with
    | cons r rr =>
      obtain ⟨u, w, rfl, ⟨t', rfl⟩, ⟨t'', rfl⟩⟩ := Vals.two rr
      obtain ⟨t, rfl⟩ := r
      exact call_range_3 h1 ⟨_, a, b, c, _, _, _, H1, rfl, IsRange.new _ _ _ _ _ _ _, I1.kept (t' := s1.toks) fun b u e => Heap.get?_push_of_some _ e, q⟩ (.inl (PyProof.noPylong_small h2))
def rgC (a c : Int) (n : Nat) : List V := (List.range n).map fun i => V.int (a + (i : Nat) * c)
theorem vals_rgC {a c : Int} {n : Nat} {acc : Array Value} (h : ItemsOf (fun i v => ∃ t, v = .int (a + i * c) t) acc n) : Vals (rgC a c n) acc.toList := by
  have e : acc.toList.length = n := by rw [Array.length_toList]; exact h.1
  unfold rgC
  rw [← e]
  refine vals_of_get acc.toList _ fun j u hj => ?_
  obtain ⟨t, rfl⟩ := h.2 j u (by rw [← hj, Array.getElem?_toList])
  exact ⟨t, rfl⟩
/-- bounds of a range that becomes a row -/
def RgSm (a b c : Int) (n : Nat) : Prop := Builtin.Range.small a b c = true ∧ Builtin.Range.rangeSize a b c = n ∧ n ≤ 100000
theorem pe_lrgC {q pos2 : Pos} (hc : X.calm = true) (hg : Gl X "list") (hm : X.mg "list" = none) (hg2 : Gl X "range") (hm2 : X.mg "range" = none) (ha : PA X (e :: es) t) (hn : ∀ x ∈ e :: es, nice x = true) :
    PE X (.Call (.Name "list" q) [.Call (.Name "range" p) (e :: es) [] pos] [] pos2) (fun σ H Q => t σ H fun vs H1 => ∃ a b c, RgArgs vs a b c ∧ ∃ n, RgSm a b c n ∧ ∀ q, H1 q = none → Q (.ref q) (L2.upd H1 q (.lst (rgC a c n)))) := by
  refine ⟨fun pins s σ H Q I h => ?_⟩
  refine Call_ (ld_blt I hg hm (by decide +kernel : bootBuiltins "list" = some (.type "list")) (PyProof.Rows.callWith_type1 (args_cons (thn (rg_obj hg2 hm2 ha hn I h) fun x s1 ⟨r, a, b, c, t, u, v, H1, ex, hr, I1, n, ok, q⟩ => args_nil ?_) rfl) rfl))
  subst ex
  obtain ⟨b1, b2, b3⟩ := ok
  refine call_list_range (n := n) (I1.ok.hd hc) hr b1 b2 (by omega) fun h' tk acc c' hk e' hi => ?_
  refine ⟨.ref s1.heap.objs.size, L2.upd H1 s1.heap.objs.size (.lst (rgC a c n)), I1.laid hk (Nat.le_refl _) (show ObjOk X.prog X.w _ _ _ (.lst (rgC a c n)) from ⟨?_, acc.toList, c', vals_rgC hi, ?_⟩), rfl, q _ (I1.hok.fresh (Nat.le_refl _))⟩
  · unfold rgC; rw [List.length_map, List.length_range, sizeLine_eq]; omega
  · rw [Array.toArray_toList]; exact e'
theorem pe_trgC {q pos2 : Pos} (hc : X.calm = true) (hg : Gl X "tuple") (hm : X.mg "tuple" = none) (hg2 : Gl X "range") (hm2 : X.mg "range" = none) (ha : PA X (e :: es) t) (hn : ∀ x ∈ e :: es, nice x = true) :
    PE X (.Call (.Name "tuple" q) [.Call (.Name "range" p) (e :: es) [] pos] [] pos2) (fun σ H Q => t σ H fun vs H1 => ∃ a b c, RgArgs vs a b c ∧ ∃ n, RgSm a b c n ∧ NewT H1 Q (rgC a c n)) := by
  refine ⟨fun pins s σ H Q I h => ?_⟩
  refine Call_ (ld_blt I hg hm (by decide +kernel : bootBuiltins "tuple" = some (.type "tuple")) (PyProof.Rows.callWith_type1 (args_cons (thn (rg_obj hg2 hm2 ha hn I h) fun x s1 ⟨r, a, b, c, t, u, v, H1, ex, hr, I1, n, ok, q⟩ => args_nil ?_) rfl) rfl))
  subst ex
  obtain ⟨b1, b2, b3⟩ := ok
  refine call_tuple_range (n := n) (I1.ok.hd hc) hr b1 b2 (by omega) fun h' tk acc hk hi => ?_
  have I2 : Inv X pins σ H1 { s1 with heap := h', toks := tk } := I1.kept hk
  have := newT_ok (us := acc.toList) I2 (by unfold rgC; rw [List.length_map, List.length_range, sizeLine_eq]; omega) (vals_rgC hi) q
  unfold tObj at this
  rw [Array.toArray_toList] at this
  exact this
end
section
variable {fa : FA} {f : Nat → Addr} {R : Addr → Prop} {B : Nat → Prop} {h : Hh} {H : Hp} {n : Nat}
theorem upto_step : ∀ (n : Nat) (lo : Int), upto lo n = byStep lo 1 n
  | 0, _ => rfl
  | n + 1, lo => by simp [upto, byStep, upto_step n]
theorem rg_rds (c : Int) : ∀ (m : Nat) (lo : Int), RDs fa f n R H (byStep lo c m) (rgC lo c m)
  | 0, _ => .nil
  | m + 1, lo => by
    have e : rgC lo c (m + 1) = V.int lo :: rgC (lo + c) c m := by
      unfold rgC
      rw [List.range_succ_eq_map, List.map_cons, List.map_map]
      congr 1
      · congr 1; simp
      · refine List.map_congr_left fun i _ => ?_
        show V.int _ = V.int _
        congr 1
        push_cast
        rw [Int.add_mul]
        omega
    rw [e]
    exact .cons (.int lo) (rg_rds c m (lo + c))
theorem rng_cases {ds : List D} {xs : List D} (e : rngOf ds = some xs) (hl : xs.length ≤ 100000) {vs : List V} (r : RDs fa f n R H ds vs) : ∃ a b c m, RgArgs vs a b c ∧ RgSm a b c m ∧ xs = byStep a c m := by
  unfold rngOf at e
  split at e
  · split at e
    · cases e
      rename_i j hj
      obtain ⟨v, rfl, r9⟩ := rds1 r
      obtain ⟨l1, l2⟩ := lim_ok hj
      rw [upto_len] at hl
      exact ⟨0, j, 1, j.toNat, .inl ⟨by rw [rd_int r9], rfl, rfl⟩, ⟨small_one (by omega) (by omega) l1 l2, by rw [rangeSize_one]; split <;> omega, hl⟩, upto_step _ _⟩
    · cases e
  · split at e
    · cases e
      rename_i i j hj
      obtain ⟨h1, h2⟩ := Bool.and_eq_true_iff.mp hj
      obtain ⟨v, w, rfl, r1, r2⟩ := rds2 r
      obtain ⟨l1, l2⟩ := lim_ok h1
      obtain ⟨l3, l4⟩ := lim_ok h2
      rw [upto_len] at hl
      exact ⟨i, j, 1, (j - i).toNat, .inr (.inl ⟨by rw [rd_int r1, rd_int r2], rfl⟩), ⟨small_one l1 l2 l3 l4, by rw [rangeSize_one]; split <;> omega, hl⟩, upto_step _ _⟩
    · cases e
  · split at e
    · cases e
      rename_i i j c hj
      simp only [Bool.and_eq_true, bne_iff_ne, decide_eq_true_eq] at hj
      obtain ⟨⟨⟨h1, h2⟩, h3⟩, h4⟩ := hj
      cases r with
      | cons r1 rr =>
        obtain ⟨v2, v3, rfl, r2, r3⟩ := rds2 rr
        obtain ⟨g1, g2, g3, g4⟩ := rgC_ok h1 h2 h3 h4
        rw [byStep_len] at hl
        exact ⟨i, j, c, stepN i j c, .inr (.inr ⟨by rw [rd_int r1, rd_int r2, rd_int r3], h3, h4⟩), ⟨g3, g4, hl⟩, rfl⟩
    · cases e
  · cases e
end
section
variable {X : Cx} {Γ : Cst} {F : Fr} {W : WX} {es : List Expr} {es' : List Ex} {p pos pos2 q : Pos} {e : Expr}
theorem snd_lrng (hc : X.calm = true) (hg : Gl X "list") (hm : X.mg "list" = none) (hg2 : Gl X "range") (hm2 : X.mg "range" = none) (ha : All2 (PP X Γ F W) (e :: es) es') : PE X (.Call (.Name "list" q) [.Call (.Name "range" p) (e :: es) [] pos] [] pos2) (tE Γ F W (.lrng es')) :=
  imE (pe_lrgC hc hg hm hg2 hm2 (snd_args ha) ha.nice) fun σ H Q ⟨R, B, f, h, ds, A, p⟩ => mkA' A p fun xs vs f1 h1 H1 ln x A1 r p1 => by
    obtain ⟨z, hz, q⟩ := p1.of
    obtain ⟨ys, hy, hz⟩ := Option.bind_eq_some_iff.mp hz
    split at hz
    · rename_i hl
      cases hz
      obtain ⟨a, b, c, m, h1, h2, rfl⟩ := rng_cases hy hl r
      exact ⟨a, b, c, h1, m, h2, fun pp hp => q f1 _ _ (Ext.upd hp) (A1.sim.upd hp) ⟨RD.newLst A1.sim hp (rg_rds c m a), fun _ => (Fre.new A1.sim hp (rg_rds c m a)).back x.there⟩⟩
    · cases hz
theorem snd_trng (hc : X.calm = true) (hg : Gl X "tuple") (hm : X.mg "tuple" = none) (hg2 : Gl X "range") (hm2 : X.mg "range" = none) (ha : All2 (PP X Γ F W) (e :: es) es') : PE X (.Call (.Name "tuple" q) [.Call (.Name "range" p) (e :: es) [] pos] [] pos2) (tE Γ F W (.trng es')) :=
  imE (pe_trgC hc hg hm hg2 hm2 (snd_args ha) ha.nice) fun σ H Q ⟨R, B, f, h, ds, A, p⟩ => mkA' A p fun xs vs f1 h1 H1 ln x A1 r p1 => by
    obtain ⟨z, hz, q⟩ := p1.of
    obtain ⟨ys, hy, hz⟩ := Option.bind_eq_some_iff.mp hz
    split at hz
    · rename_i hl
      cases hz
      obtain ⟨a, b, c, m, h1, h2, rfl⟩ := rng_cases hy hl r
      exact ⟨a, b, c, h1, m, h2, fun pp ob hp ho => q f1 _ _ (Ext.upd hp) (A1.sim.upd hp) ⟨RD.newTup A1.sim hp ho (rg_rds c m a), fun z => by cases z⟩⟩
    · cases hz
end
end Ev

set_option Elab.async false
set_option linter.all false
set_option maxRecDepth 100000
set_option maxHeartbeats 4000000
/-! EvJv: displays of dicts, chains of three, called values. -/
namespace Ev
open PySem PySem.Spec PyProof.Rows L2
section
variable {X : Cx} {pos : Pos}
theorem dict_dset1 {pins : List (Addr × Obj)} {σ : L2.St} {H : Hp} {s : Shared} {fa : FA} {f : Nat → Addr} {n : Nat} {R : Addr → Prop} {a : Addr} {d : D} {x v : V} {u v' : Value} {E : Value → Shared → Prop} {A : Around} {Q : Unit → Shared → Prop} (hu : A.units + 20 < cLine) (I : Inv X pins σ H s) (e : H a = some (DictO a [] [] [])) (r : RD fa f n R H d x) (hk : keyD d = true) (rx : RelV x u) (hz : RelV v v')
    (h : ∀ s', Inv X pins σ (L2.upd H a (DictO a [d] [x] [v])) s' → Q () s') : wpAny (model X.prog X.w) A (dictSet a u v') Q E s := by
  have dd := dictO_get I e
  have mu : Mut (H a) := by rw [e]; exact trivial
  have hsys := dd.1
  have hl1 : ([d] : List D).length ≤ sizeLine := Nat.le_trans (by decide : (1 : Nat) ≤ 100000) line_ge
  rcases keyD_cases hk with ⟨i, rfl⟩ | ⟨xs, rfl⟩
  · obtain ⟨kvs, e1, e2, e3, e4, e5, e6⟩ := dd.dictOf (P := X.prog) (w := X.w) KI.nil
    cases r
    obtain ⟨tk, rfl⟩ := rx
    cases kvs with
    | cons _ _ => cases e1
    | nil =>
      refine wpAny_dictSet_pairs (hsz := e5) (intKind_is X.prog X.w i tk) e3 fun h' d' hs => ?_
      have he : ∃ q, h'.get? a = some q := by obtain ⟨o, _, _, ho, _⟩ := d'; exact ⟨o, ho⟩
      exact h _ (d_write I mu hs he (dictO_new (DictAt.ofI (P := X.prog) (w := X.w) (kvs := [(i, v')]) hsys hl1 (KI.cons .nil) (.cons hz .nil) d')))
  · obtain ⟨ys, y, e3, e4, e5⟩ := dd.dictOfH (P := X.prog) (w := X.w) .nil
    obtain ⟨b, rfl⟩ := rd_tupRef r
    cases rx
    cases y
    have hn := nis_of I _ _ _ 8 r hk rfl
    refine wpAny_dictSet_heap (hsz := e5) (knd := nestedKind X.prog X.w) (k := nk (.tup xs)) (by show A.units + 8 < cLine; omega) ⟨hn, nk_depth 8 _ hk⟩ e3 fun h' d' hs => ?_
    have he : ∃ q, h'.get? a = some q := by obtain ⟨o, _, _, ho, _⟩ := d'; exact ⟨o, ho⟩
    exact h _ (d_write I mu hs he (dictO_new (DictAt.ofH (P := X.prog) (w := X.w) hsys hl1 (Xr.cons (Bool.and_eq_true_iff.mpr ⟨rfl, hk⟩) hn hz .nil) d')))
theorem dictO_empty {P : Program} {w : World} {H : Hp} (h : Heap) (hb : sysModules < h.objs.size) : ObjOk P w H (h.push { cls := .type "dict", data := .dict #[] }) h.objs.size (DictO h.objs.size [] [] []) :=
  dictO_new ⟨beq_eq_false_iff_ne.mpr (Ne.symm (Nat.ne_of_lt hb)), Nat.zero_le _, List.nodup_nil, _, #[], 0, Heap.get?_push_size _ rfl, ⟨rfl, rfl, rfl⟩, rfl, .nil⟩
/-- {k: v} -/
def tDisp1 (fa : FA) (tk tv : TE) : TE := fun σ H Q => ∀ p, H p = none → tk σ (L2.upd H p (DictO p [] [] [])) fun x H1 => tv σ H1 fun y H2 => ∃ (f : Nat → Addr) (n : Nat) (R : Addr → Prop) (d : D), RD fa f n R H2 d x ∧ keyD d = true ∧ H2 p = some (DictO p [] [] []) ∧ Q (.ref p) (L2.upd H2 p (DictO p [d] [x] [y]))
theorem pe_disp1 {k v : Expr} {tk tv : TE} {fa : FA} (hu : X.A.units + 20 < cLine) (hk : PE X k tk) (hv : PE X v tv) : PE X (.Dict [some k] [v] pos) (tDisp1 fa tk tv) := by
  refine ⟨fun pins s σ H Q I h => ?_⟩
  have hn := I.hok.fresh (Nat.le_refl s.heap.objs.size)
  have I1 := I.laid (a := s.heap.objs.size) (o := DictO s.heap.objs.size [] [] []) (h' := s.heap.push { cls := .type "dict", data := .dict #[] }) (t' := s.toks) (fun _ _ q => Heap.get?_push_of_some _ q) (Nat.le_refl _) (dictO_empty s.heap I.big)
  refine wpAny_Dict_any rfl rfl (by simp) (by simp) (thn ((pps_cons (pos := pos) hk hv pps_nil).run pins _ σ _ (fun ps H2 => match ps with
    | [(x, y)] => ∃ (f : Nat → Addr) (n : Nat) (R : Addr → Prop) (d : D), RD fa f n R H2 d x ∧ keyD d = true ∧ H2 s.heap.objs.size = some (DictO s.heap.objs.size [] [] []) ∧ Q (.ref s.heap.objs.size) (L2.upd H2 s.heap.objs.size (DictO s.heap.objs.size [d] [x] [y]))
    | _ => False) I1 (h _ hn)) fun ws s2 ⟨ps, H2, I2, rel, q⟩ => ?_)
  match ps, q with
  | [], q => exact q.elim
  | _ :: _ :: _, q => exact q.elim
  | [(x, y)], q =>
  obtain ⟨f, n, R, d, r, hkd, e, q⟩ := q
  cases rel with
  | cons h1 rel =>
    cases rel
    obtain ⟨r1, r2⟩ := h1
    unfold storeAll
    rw [List.forIn_cons]
    refine wpAny_bind (wpAny_bind (dict_dset1 hu I2 e r hkd r1 r2 fun s' I' => wpAny_pure ?_))
    show wpAny _ _ (forIn ([] : List (Value × Value)) PUnit.unit _) _ _ _
    rw [List.forIn_nil]
    exact wpAny_pure ⟨.ref s.heap.objs.size, _, I', rfl, q⟩
/-- {} -/
theorem pe_disp0 : PE X (.Dict [] [] pos) (fun _ H Q => ∀ p, H p = none → Q (.ref p) (L2.upd H p (DictO p [] [] []))) := ⟨fun pins s σ H Q I h =>
  wpAny_Dict_empty ⟨.ref s.heap.objs.size, _, I.laid (a := s.heap.objs.size) (o := DictO s.heap.objs.size [] [] []) (t' := s.toks) (fun _ _ q => Heap.get?_push_of_some _ q) (Nat.le_refl _) (dictO_empty s.heap I.big), rfl, h _ (I.hok.fresh (Nat.le_refl _))⟩⟩
end
theorem Post.toRp {α β : Type} {fa : FA} {f : Nat → Addr} {n : Nat} {R : Addr → Prop} {B : Nat → Prop} {H : Hp} {r : Res α} {rel : (Nat → Addr) → Hh → Hp → α → β → Prop} {Q : β → Hp → Prop} {W : Str → List D → (Nat → Addr) → Hh → Hp → Prop} {p0 : Addr} (p : Post fa f n R B H r rel Q W) : Post fa f n (Rp R p0) B H r rel Q W := by
  cases r with
  | ok a h' => exact fun f' H' b e s r => p f' H' b e.any s.unrp r
  | exc c pl h' => exact fun f' H' e s => p f' H' e.any s.unrp
  | fail => exact p
section
variable {X : Cx} {Γ : Cst} {F : Fr} {W : WX} {k v a b c d : Expr} {k' v' a' b' c' d' : Ex} {pos : Pos}
theorem RSl.rp {fa : FA} {f : Nat → Addr} {n : Nat} {R : Addr → Prop} {H : Hp} {p : Addr} {o : HO} (hp : H p = none) {ds : Sl} {σ : L2.St} (r : RSl fa f n R H ds σ) : RSl fa f n (Rp R p) (L2.upd H p o) ds σ :=
  ⟨r.len, fun i d h => by obtain ⟨v, h1, h2⟩ := r.get i d h; exact ⟨v, h1, h2.rp hp⟩⟩
theorem snd_disp0 : PE X (.Dict [] [] pos) (tE Γ F W (.dct [])) :=
  imE pe_disp0 fun σ H Q ⟨R, B, f, h, ds, A, p⟩ pp hp => by
    have p : Post Γ.fa f h.length R B H (Res.ok (.dct [] []) h) (relE Γ R B H (.dct [])) Q (exW Γ R W σ) := p
    exact p f _ _ (Ext.upd hp) (A.sim.upd hp) ⟨RD.newD A.sim hp rfl .nil .nil, fun _ => Fre.newD A.sim hp rfl .nil .nil⟩
theorem snd_disp1 (hu : X.A.units + 20 < cLine) (hk : PE X k (tE Γ F W k')) (hv : PE X v (tE Γ F W v')) : PE X (.Dict [some k] [v] pos) (tE Γ F W (.dct [k', v'])) :=
  imE (pe_disp1 (fa := Γ.fa) hu hk hv) fun σ H Q ⟨R, B, f, h, ds, A, p⟩ pp hp => by
    have A' : Pnt Γ F (Rp R pp) B f h ds σ (L2.upd H pp (DictO pp [] [] [])) := ⟨A.sim.rp hp, A.bb, A.bl, A.sl.rp hp⟩
    have e1 : evE F (.dct [k', v']) ds h = (evE F k' ds h).bind fun x h => (evE F v' ds h).bind fun y h => Res.of ((flatD [x, y]).map fun p => .dct (mkDct p.1 p.2 [] []).1 (mkDct p.1 p.2 [] []).2) h := by
      show ((evE F k' ds h).bind _).bind _ = _
      cases evE F k' ds h with
      | ok x h1 =>
        dsimp only [Res.bind]
        show (((evE F v' ds h1).bind _).bind _).bind _ = _
        cases evE F v' ds h1 <;> rfl
      | _ => rfl
    rw [e1] at p
    have offp : ∀ {f0 : Nat → Addr} {h0 : Hh} {H0 : Hp}, Sim Γ.fa f0 (Rp R pp) B h0 H0 → Off f0 h0.length R pp := fun s => ⟨(fun z => by have := A.sim.res pp z; rw [hp] at this; cases this), fun j hj e => s.off j hj (.inr e.symm)⟩
    have up : Ext f h.length R H f h.length (L2.upd H pp (DictO pp [] [] [])) := Ext.upd hp
    cases hk' : evE F k' ds h with
    | fail => rw [hk'] at p; exact p.elim
    | exc c pl h1 => rw [hk'] at p; exact ⟨Rp R pp, B, f, h, ds, A', by rw [hk']; exact fun f1 H1 x1 s1 => p f1 H1 (up.trans x1.any) s1.unrp⟩
    | ok d h1 =>
      rw [hk'] at p
      have p : Post Γ.fa f h.length R B H ((evE F v' ds h1).bind fun y h => Res.of ((flatD [d, y]).map fun p => .dct (mkDct p.1 p.2 [] []).1 (mkDct p.1 p.2 [] []).2) h) (relE Γ R B H (.dct [k', v'])) Q (exW Γ R W σ) := p
      refine ⟨Rp R pp, B, f, h, ds, A', ?_⟩
      rw [hk']
      intro f1 H1 x x1 s1 r1
      have A1 : Pnt Γ F (Rp R pp) B f1 h1 ds σ H1 := A'.go x1 s1
      cases hv' : evE F v' ds h1 with
      | fail => rw [hv'] at p; exact p.elim
      | exc c pl h2 => rw [hv'] at p; exact ⟨Rp R pp, B, f1, h1, ds, A1, by rw [hv']; exact fun f2 H2 x2 s2 => p f2 H2 (up.trans (x1.trans x2).any) s2.unrp⟩
      | ok e h2 =>
        rw [hv'] at p
        refine ⟨Rp R pp, B, f1, h1, ds, A1, ?_⟩
        rw [hv']
        intro f2 H2 y x2 s2 r2
        have hs : (Rp R pp) pp := .inr rfl
        obtain ⟨z, hz, q⟩ := p.of
        obtain ⟨⟨ks, vs⟩, hfl, rfl⟩ := Option.map_eq_some_iff.mp hz
        have hfl : (if kdOk [] d = true then some ([d], [e]) else none) = some (ks, vs) := hfl
        split at hfl
        · rename_i hkd
          cases hfl
          have r1' := r1.1.ext x2
          have k1 : H1 pp = some (DictO pp [] [] []) := (x1.keep pp (offp A'.sim).2 (by rw [upd_same]; rfl)).trans upd_same
          have k2 : H2 pp = some (DictO pp [] [] []) := (x2.keep pp (offp s1).2 (by rw [k1]; rfl)).trans k1
          have s3 : Sim Γ.fa f2 (Rp R pp) B h2 (L2.upd H2 pp (DictO pp [d] [x] [y])) := s2.resUpd hs
          have t1 : RDs Γ.fa f2 h2.length (Rp R pp) (L2.upd H2 pp (DictO pp [d] [x] [y])) [d] [x] := .cons (r1'.res hs) .nil
          have t2 : RDs Γ.fa f2 h2.length (Rp R pp) (L2.upd H2 pp (DictO pp [d] [x] [y])) [e] [y] := .cons (r2.1.res hs) .nil
          have kd : ([d] : List D).all keyD = true := by rw [List.all_cons, kd_keyD hkd]; rfl
          have x12 := x1.trans x2
          have ne : ∀ {a : Addr}, (H a).isSome = true → a ≠ pp := fun {a} hs e => by rw [e, hp] at hs; cases hs
          refine ⟨f2, h2.length, Rp R pp, d, r1', kd_keyD hkd, k2, q f2 _ _ ⟨x12.le, x12.same, fun j h3 h4 => ?_, fun a ha hsome => ?_, fun a ha => ?_⟩ s3.unrp ⟨.dct upd_same (offp s3) kd t1.unrp t2.unrp, fun _ => ⟨pp, [x], [y], rfl, hp, upd_same, kd, t1, t2, s3⟩⟩⟩
          · have := x12.new j h3 h4
            by_cases e : f2 j = pp
            · rw [e, upd_same] at this; cases this
            · rw [upd_ne e] at this; exact this
          · rw [upd_ne (ne hsome), x12.keep a ha (by rw [upd_ne (ne hsome)]; exact hsome), upd_ne (ne hsome)]
          · rw [upd_ne (ne ha)]
            exact x12.there a (by rw [upd_ne (ne ha)]; exact ha)
        · cases hfl
/-! ### chains of three comparisons -/
def tChain3 (r r' r'' : R2) (ta tb tc td : TE) : TE := fun σ H Q => ta σ H fun x H1 => tb σ H1 fun y H2 => r x y H2 fun z H3 => ∃ k, z = .bl k ∧ (if k = true then tc σ H3 fun w H4 => r' y w H4 fun z2 H5 => ∃ k2, z2 = .bl k2 ∧ (if k2 = true then td σ H5 fun u H6 => r'' w u H6 Q else Q (.bl false) H5) else Q (.bl false) H3)
theorem pe_chain3 {o1 o2 o3 : CmpOp} {r r' r'' : R2} {ta tb tc td : TE} (h1 : OpR X (compareOp o1) r) (h2 : OpR X (compareOp o2) r') (h3 : OpR X (compareOp o3) r'') (ha : PE X a ta) (hb : PE X b tb) (hc : PE X c tc) (hd : PE X d td)
    (hm : lastMarks [o1, o2, o3] [b, c, d] = false) : PE X (.Compare a [o1, o2, o3] [b, c, d] pos) (tChain3 r r' r'' ta tb tc td) := by
  refine ⟨fun pins s σ H Q I h => Compare_chain (thn (ha.run pins s σ H _ I h) fun v s1 ⟨x, H1, I1, r1, q1⟩ => chain_link (thn (hb.run pins s1 σ H1 _ I1 q1) fun u s2 ⟨y, H2, I2, r2, q2⟩ => thn (h1 pins s2 σ H2 x y v u _ I2 r1 r2 q2) fun e0 s3 ⟨z, H3, I3, r3, k, ez, q3⟩ => ?_)) hm⟩
  subst ez
  cases r3
  refine wpAny_truthy_bool ?_
  cases k with
  | false => exact ite_ff ⟨.bl false, H3, I3, rfl, q3⟩
  | true =>
    refine ite_tt (chain_link (thn (hc.run pins s3 σ H3 _ I3 q3) fun w' s4 ⟨z', H4, I4, r4, q4⟩ => thn (h2 pins s4 σ H4 y z' u w' _ I4 r2 r4 q4) fun e1 s5 ⟨z2, H5, I5, r5, k2, ez2, q5⟩ => ?_))
    subst ez2
    cases r5
    refine wpAny_truthy_bool ?_
    cases k2 with
    | false => exact ite_ff ⟨.bl false, H5, I5, rfl, q5⟩
    | true => exact ite_tt (chain_last (thn (hd.run pins s5 σ H5 _ I5 q5) fun w2 s6 ⟨z3, H6, I6, r6, q6⟩ => h3 pins s6 σ H6 z' z3 w' w2 Q I6 r4 r6 q6))
theorem pt_chain3 {o1 o2 o3 : CmpOp} {r r' r'' : R2} {ta tb tc td : TE} (h1 : OpR X (compareOp o1) r) (h2 : OpR X (compareOp o2) r') (h3 : OpR X (compareOp o3) r'') (ha : PE X a ta) (hb : PE X b tb) (hc : PE X c tc) (hd : PE X d td)
    (hm : lastMarks [o1, o2, o3] [b, c, d] = false) : PT X (.Compare a [o1, o2, o3] [b, c, d] pos) (tTest (tChain3 r r' r'' ta tb tc td)) := by
  refine ⟨fun pins s σ H Q I h => isTrue_chain (thn (ha.run pins s σ H _ I h) fun v s1 ⟨x, H1, I1, r1, q1⟩ => test_link (thn (hb.run pins s1 σ H1 _ I1 q1) fun u s2 ⟨y, H2, I2, r2, q2⟩ => thn (h1 pins s2 σ H2 x y v u _ I2 r1 r2 q2) fun e0 s3 ⟨z, H3, I3, r3, k, ez, q3⟩ => ?_)) hm⟩
  subst ez
  cases r3
  refine wpAny_truthy_bool ?_
  cases k with
  | false =>
    obtain ⟨k', e', q'⟩ := q3
    cases e'
    exact ite_ff ⟨H3, I3, q'⟩
  | true =>
    refine ite_tt (test_link (thn (hc.run pins s3 σ H3 _ I3 q3) fun w' s4 ⟨z', H4, I4, r4, q4⟩ => thn (h2 pins s4 σ H4 y z' u w' _ I4 r2 r4 q4) fun e1 s5 ⟨z2, H5, I5, r5, k2, ez2, q5⟩ => ?_))
    subst ez2
    cases r5
    refine wpAny_truthy_bool ?_
    cases k2 with
    | false =>
      obtain ⟨k', e', q'⟩ := q5
      cases e'
      exact ite_ff ⟨H5, I5, q'⟩
    | true =>
      refine ite_tt (test_last (thn (hd.run pins s5 σ H5 _ I5 q5) fun w2 s6 ⟨z3, H6, I6, r6, q6⟩ => thn (h3 pins s6 σ H6 z' z3 w' w2 _ I6 r4 r6 q6) fun e2 s7 ⟨z4, H7, I7, r7, k3, ez3, q7⟩ => ?_))
      subst ez3
      cases r7
      exact wpAny_truthy_bool ⟨H7, I7, q7⟩
theorem chain3_run {co co' co'' : CmpOp} {o o' o'' : Op} (e1 : cmpOf co = some o) (e2 : cmpOf co' = some o') (e3 : cmpOf co'' = some o'') {Q : VK} {σ : L2.St} {H : Hp}
    {R : Addr → Prop} {B : Nat → Prop} {f : Nat → Addr} {h : Hh} {ds : Sl} (A : Pnt Γ F R B f h ds σ H) {rel2 : (Nat → Addr) → Hh → Hp → D → V → Prop} (hrel : ∀ f h H k, rel2 f h H (.bl k) (.bl k)) (p : Post Γ.fa f h.length R B H (evE F (.chain3 o o' o'' a' b' c' d') ds h) rel2 Q (exW Γ R W σ)) :
    tChain3 (rOp Γ.fa o) (rOp Γ.fa o') (rOp Γ.fa o'') (tE Γ F W a') (tE Γ F W b') (tE Γ F W c') (tE Γ F W d') σ H Q :=
  mkE A p fun d v f1 h1 H1 x1 A1 r1 _ p1 => mkE A1 p1 fun e w f2 h2 H2 x2 A2 r2 _ p2 => by
    cases hz : op2 o h2 d e with
    | none => rw [hz] at p2; exact p2.elim
    | some z =>
      obtain ⟨k, rfl⟩ := cmp_bl e1 hz
      rw [hz] at p2
      refine ⟨f2, R, B, h2, d, e, _, A2.sim, r1.ext x2, r2, hz, fun H' v' x s r fr => ⟨k, rd_bl r, ?_⟩⟩
      have A3 := A2.go x s
      cases k with
      | false => exact p2 f2 H' _ x s (hrel _ _ _ _)
      | true =>
        refine mkE A3 (Post.mono x p2) fun g w3 f4 h4 H4 x4 A4 r4 _ p4 => ?_
        cases hz2 : op2 o' h4 e g with
        | none => rw [hz2] at p4; exact p4.elim
        | some z2 =>
          obtain ⟨k2, rfl⟩ := cmp_bl e2 hz2
          rw [hz2] at p4
          refine ⟨f4, R, B, h4, e, g, _, A4.sim, (r2.ext x).ext x4, r4, hz2, fun H5 v5 x5 s5 r5 fr5 => ⟨k2, rd_bl r5, ?_⟩⟩
          have A5 := A4.go x5 s5
          cases k2 with
          | false => exact p4 f4 H5 _ x5 s5 (hrel _ _ _ _)
          | true =>
            refine mkE A5 (Post.mono x5 p4) fun g6 w6 f6 h6 H6 x6 A6 r6 _ p6 => ?_
            obtain ⟨z3, hz3, q⟩ := p6.of
            obtain ⟨k3, rfl⟩ := cmp_bl e3 hz3
            exact ⟨f6, R, B, h6, g, g6, _, A6.sim, (r4.ext x5).ext x6, r6, hz3, fun H7 v7 x7 s7 r7 fr7 => by
              have := rd_bl r7
              subst this
              exact q f6 H7 _ x7 s7 (hrel _ _ _ _)⟩
theorem snd_chain3 {co co' co'' : CmpOp} {o o' o'' : Op} (e1 : cmpOf co = some o) (e2 : cmpOf co' = some o') (e3 : cmpOf co'' = some o'') (hu : X.A.units + 200 < cLine) (ha : PE X a (tE Γ F W a')) (hb : PE X b (tE Γ F W b')) (hc : PE X c (tE Γ F W c')) (hd : PE X d (tE Γ F W d')) (n : nice d = true) :
    PE X (.Compare a [co, co', co''] [b, c, d] pos) (tE Γ F W (.chain3 o o' o'' a' b' c' d')) :=
  imE (pe_chain3 (snd_cmp (fa := Γ.fa) e1 hu) (snd_cmp (fa := Γ.fa) e2 hu) (snd_cmp (fa := Γ.fa) e3 hu) ha hb hc hd (by show behindInMarks co'' d = false; exact nice_mark n)) fun σ H Q ⟨R, B, f, h, ds, A, p⟩ =>
    chain3_run e1 e2 e3 A (fun _ _ _ _ => ⟨.bl _, fun z => by cases z⟩) p
theorem snd_chain3T {co co' co'' : CmpOp} {o o' o'' : Op} (e1 : cmpOf co = some o) (e2 : cmpOf co' = some o') (e3 : cmpOf co'' = some o'') (hu : X.A.units + 200 < cLine) (ha : PE X a (tE Γ F W a')) (hb : PE X b (tE Γ F W b')) (hc : PE X c (tE Γ F W c')) (hd : PE X d (tE Γ F W d')) (n : nice d = true) :
    PT X (.Compare a [co, co', co''] [b, c, d] pos) (tT Γ F W (.chain3 o o' o'' a' b' c' d')) :=
  imT (pt_chain3 (snd_cmp (fa := Γ.fa) e1 hu) (snd_cmp (fa := Γ.fa) e2 hu) (snd_cmp (fa := Γ.fa) e3 hu) ha hb hc hd (by show behindInMarks co'' d = false; exact nice_mark n)) fun σ H Q ⟨R, B, f, h, ds, A, p⟩ => by
    have p : Post Γ.fa f h.length R B H ((evE F (.chain3 o o' o'' a' b' c' d') ds h).bind fun d h => Res.of (truD h d) h) _ Q _ := p
    refine chain3_run e1 e2 e3 A (rel2 := fun _ _ _ d v => ∃ k, d = .bl k ∧ v = .bl k) (fun _ _ _ k => ⟨k, rfl, rfl⟩) ?_
    revert p
    cases evE F (.chain3 o o' o'' a' b' c' d') ds h with
    | ok d h1 =>
      intro p f' H' b x s q
      obtain ⟨k, rfl, rfl⟩ := q
      exact ⟨k, rfl, p f' H' k x s rfl⟩
    | exc _ _ _ => exact fun p => p
    | fail => exact fun p => p
end
end Ev

set_option Elab.async false
set_option linter.all false
set_option maxRecDepth 100000
set_option maxHeartbeats 8000000
/-! EvR: the compile step is sound, expressions. -/
namespace Ev
open PySem PySem.Spec PyProof.Rows L2
def bltNames : List Str := ["isinstance", "range", "enumerate", "zip", "len", "abs", "int", "bool", "tuple", "list", "sum", "max", "min", "any", "all", "sorted", "set", "dict", "str"]
theorem biOf_ok {x : Str} {b : Bi} (h : biOf x = some b) : x = biName b := by
  have h1 := List.find?_some h
  exact (eq_of_beq h1).symm
theorem tyOf_ok (x : Str) (t : Ty) (h : tyOf x = some t) : x = tyNm t := by
  have h1 := List.find?_some (p := fun t => tyNm t == x) h
  exact (eq_of_beq h1).symm
theorem mtOf_ok {x : Str} {m : Mt} (h : mtOf x = some m) : x = mtName m ∧ m ≠ .get := by
  have h1 := List.find?_some h
  have h2 := List.mem_of_find?_eq_some h
  refine ⟨(eq_of_beq h1).symm, fun e => ?_⟩
  subst e; exact absurd h2 (by decide)
theorem biName_in (b : Bi) : biName b ∈ bltNames := by cases b <;> decide
theorem tyNm_in (t : Ty) : tyNm t ∈ bltNames := by cases t <;> decide
/-- what a place of the code must offer -/
structure Good (X : Cx) (Γ : Cst) (F : Fr) (C : Cc) (W : WX) (k : Nat) : Prop where
  N : X.N = C.N
  nd : X.N.Nodup
  calm : X.calm = true
  room : Room k X.A
  kind : X.env.scope.kind = .function
  tk : Takes X W
  pw : X.prog = Γ.fa.P ∧ X.w = Γ.fa.w
  fns : ∀ x n, C.M.fns.lookup x = some n → ∃ a, Γ.fa n = some a ∧ X.mg x = some (.ref a)
  fok : ∀ n a, Γ.fa n = some a → ∃ fd ps np, FnOk X.prog X.w X.K X.mg X.base (L2.CX X.prog X.w) k a fd ps (spF Γ F.call n np) ∧ Binds X.K fd ps [] ∧ PySem.W.keepIn X.K (.ref a) = true ∧ ∀ ds h, ds.length ≠ np → F.call n ds h = .fail
  gis : ∀ x i, C.M.gints.lookup x = some i → ∃ t, X.mg x = some (.int i t)
  blt : ∀ x, x ∈ bltNames → X.mg x = none
theorem Good.un {X : Cx} {Γ : Cst} {F : Fr} {C : Cc} {W : WX} {k : Nat} (G : Good X Γ F C W k) : X.A.units + 200 < cLine := by have := G.room.un; omega
theorem okName_ok {x : Str} (h : okName x = true) : (x == ("__debug__" : Str)) = false ∧ (x == ("__classdict__" : Str)) = false ∧ x ≠ "__name__" := by
  unfold okName at h
  simp only [Bool.and_eq_true, Bool.not_eq_true'] at h
  exact ⟨h.1.1, h.1.2, fun e => by rw [e] at h; exact absurd h.2 (by decide)⟩
theorem isVar_ok {X : Cx} {sc : List (Str × NameKind)} (hs : X.env.scope.names = sc) {x : Str} (h : isVar sc x = true) : okName x = true ∧ Vis X.env.scope x := by
  unfold isVar at h
  obtain ⟨h1, h2⟩ := Bool.and_eq_true_iff.mp h
  refine ⟨h1, ?_⟩
  unfold Vis
  rw [hs]
  split at h2 <;> first | (exact .inl ‹_›) | (exact .inr (.inl ‹_›)) | (exact .inr (.inr ‹_›)) | cases h2
theorem isGl_ok {X : Cx} {sc : List (Str × NameKind)} (hs : X.env.scope.names = sc) {x : Str} (h : isGl sc x = true) : okName x = true ∧ Gl X x := by
  unfold isGl at h
  obtain ⟨h1, h2⟩ := Bool.and_eq_true_iff.mp h
  refine ⟨h1, ?_⟩
  show X.env.scope.names.lookup x = some .globalImplicit
  rw [hs]
  split at h2
  · rename_i hq; exact hq
  · cases h2
/-- an expression and its tree, at every depth of cells -/
structure OkE (X : Cx) (Γ : Cst) (F : Fr) (W : WX) (a : Expr) (a' : Ex) : Prop where
  e : ∀ d, PE X a (tE Γ F W (cellE d a'))
  t : PT X a (tT Γ F W a')
  n : nice a = true
theorem OkE.pp {X : Cx} {Γ : Cst} {F : Fr} {W : WX} {a : Expr} {a' : Ex} (h : OkE X Γ F W a a') : PP X Γ F W a a' := ⟨h.e 0, h.t, h.n⟩
theorem All2.imp {α β : Type} {P Q : α → β → Prop} {as : List α} {bs : List β} (h : All2 P as bs) (f : ∀ a b, P a b → Q a b) : All2 Q as bs := by
  induction h with
  | nil => exact .nil
  | cons hp _ ih => exact .cons (f _ _ hp) ih
section
variable {X : Cx} {Γ : Cst} {F : Fr} {W : WX} {a : Expr} {a' : Ex}
/-- what makes no new list -/
theorem okE_nf (he : PE X a (tE Γ F W a')) (hf : fresh a' = false) (ht : PT X a (tT Γ F W a')) (hn : nice a = true) : OkE X Γ F W a a' :=
  ⟨fun d => by cases d with | zero => exact he | succ d => unfold cellE; rw [if_neg (by rw [hf]; decide)]; exact he, ht, hn⟩
/-- what makes a new list, not by parts -/
theorem okE_f (he : PE X a (tE Γ F W a')) (hi : ∀ g, innE g a' = a') (ht : PT X a (tT Γ F W a')) (hn : nice a = true) : OkE X Γ F W a a' :=
  ⟨fun d => by
    cases d with
    | zero => exact he
    | succ d =>
      unfold cellE
      split
      · rename_i hf
        rw [hi]
        exact snd_cell he hf
      · exact he, ht, hn⟩
theorem okE_v (he : PE X a (tE Γ F W a')) (hi : ∀ g, innE g a' = a') (hv : byVal a = true) (hn : nice a = true) : OkE X Γ F W a a' := okE_f he hi (snd_truth he hv) hn
theorem never (h : ∀ ds h, evE F a' ds h = .fail) : PE X a (tE Γ F W a') := ⟨fun _ _ _ _ _ _ ⟨R, B, f, h0, ds, A, p⟩ => by rw [h] at p; exact p.elim⟩
end
section
variable {X : Cx} {Γ : Cst} {F : Fr} {W : WX} {es : List Expr} {es' : List Ex} {p pos : Pos} {e : Expr}
theorem snd_biX {f : Value} (b : Bi) (hc : CallR X f (rB Γ.fa b)) {σ : L2.St} {H : Hp} {Q : VK} (q : tE Γ F W (.bi b es') σ H Q) (hb : b ≠ .list ∧ b ≠ .sorted ∨ True) : tA Γ F W es' σ H fun vs H1 => rB Γ.fa b vs H1 Q := by
  obtain ⟨R, B, f, h, ds, A, p⟩ := q
  exact mkA' A p fun xs vs f1 h1 H1 ln x A1 r p1 => by
    obtain ⟨z, hz, q⟩ := p1.of
    exact ⟨f1, R, B, h1, xs, z, A1.sim, r, hz, fun H' v x' s r fr => q f1 H' v x' s ⟨r, fun _ => fr.back x.there⟩⟩
theorem snd_biB {id : String} {x : Str} (b : Bi) (hc : CallR X (.builtin id) (rB Γ.fa b)) (hg : Gl X x) (hm : X.mg x = none) (hv : bootBuiltins x = some (.builtin id)) (hn : x ≠ "__name__") (hd : (x == ("__debug__" : Str)) = false) (ha : All2 (PP X Γ F W) (e :: es) es') :
    PE X (.Call (.Name x p) (e :: es) [] pos) (tE Γ F W (.bi b es')) :=
  imE (pe_callB hc hg hm hv (snd_args ha) hn hd (nice_star (ha.nice e (by simp))) (any_plain fun z hz => ha.nice z (by simp [hz]))) fun σ H Q q => snd_biX b hc q (.inr trivial)
theorem snd_biT {T : String} {x : Str} (b : Bi) (hc : CallR X (.type T) (rB Γ.fa b)) (hg : Gl X x) (hm : X.mg x = none) (hv : bootBuiltins x = some (.type T)) (hn : x ≠ "__name__") (hd : (x == ("__debug__" : Str)) = false) (ha : All2 (PP X Γ F W) (e :: es) es') :
    PE X (.Call (.Name x p) (e :: es) [] pos) (tE Γ F W (.bi b es')) :=
  imE (pe_callTy hc hg hm hv (snd_args ha) hn hd (nice_star (ha.nice e (by simp))) (any_plain fun z hz => ha.nice z (by simp [hz]))) fun σ H Q q => snd_biX b hc q (.inr trivial)
end
/-- all built-ins -/
theorem snd_bi {X : Cx} {Γ : Cst} {F : Fr} {C : Cc} {W : WX} {k : Nat} (G : Good X Γ F C W k) (hsort : CallR X (.builtin "sorted") (rB Γ.fa .sorted)) {es : List Expr} {es' : List Ex} {p pos : Pos} (b : Bi) (hg : Gl X (biName b)) (ha : All2 (PP X Γ F W) es es') :
    PE X (.Call (.Name (biName b) p) es [] pos) (tE Γ F W (.bi b es')) := by
  cases ha with
  | nil => exact never fun ds h => by show Res.of (biN b h []) h = .fail; rfl
  | cons hp r =>
    have ha := All2.cons hp r
    have hm := G.blt _ (biName_in b)
    cases b with
    | len => exact snd_biB .len cr_len hg hm (by decide +kernel) (by decide) (by decide) ha
    | abs => exact snd_biB .abs cr_abs hg hm (by decide +kernel) (by decide) (by decide) ha
    | int => exact snd_biT .int cr_int hg hm (by decide +kernel) (by decide) (by decide) ha
    | bool => exact snd_biT .bool cr_bool hg hm (by decide +kernel) (by decide) (by decide) ha
    | tuple => exact snd_biT .tuple cr_tuple hg hm (by decide +kernel) (by decide) (by decide) ha
    | list => exact snd_biT .list cr_list hg hm (by decide +kernel) (by decide) (by decide) ha
    | sum => exact snd_biB .sum (cr_sumB G.calm) hg hm (by decide +kernel) (by decide) (by decide) ha
    | max => exact snd_biB .max (cr_maxB G.calm) hg hm (by decide +kernel) (by decide) (by decide) ha
    | min => exact snd_biB .min (cr_minB G.calm) hg hm (by decide +kernel) (by decide) (by decide) ha
    | any => exact snd_biB .any (cr_anyB G.calm) hg hm (by decide +kernel) (by decide) (by decide) ha
    | all => exact snd_biB .all (cr_allB G.calm) hg hm (by decide +kernel) (by decide) (by decide) ha
    | sorted => exact snd_biB .sorted hsort hg hm (by decide +kernel) (by decide) (by decide) ha
    | set => exact snd_biT .set (cr_setB G.calm G.pw.1 G.pw.2 G.un) hg hm (by decide +kernel) (by decide) (by decide) ha
    | dict => exact snd_biT .dict (cr_dictB G.calm G.un) hg hm (by decide +kernel) (by decide) (by decide) ha

/-! ### the block of a comprehension -/
theorem blk_ok {N : List Str} {sc scope : Scope} {own : List (Str × Nat)} (h : blkB N sc.names scope own = true) : BlkOk N sc scope own := by
  unfold blkB at h
  simp only [Bool.and_eq_true, List.all_eq_true, beq_iff_eq] at h
  obtain ⟨⟨⟨h1, h2⟩, h3⟩, h4⟩ := h
  refine ⟨h1, h2, h3, fun y hy e => ?_, fun y hy e => ?_⟩
  · have q := h4 y hy
    simp only [e] at q
    split at q <;> first | exact .inl (by assumption) | exact .inr (by assumption) | cases q
  · have q := h4 y hy
    rcases e with e | e
    all_goals
      simp only [e, Bool.or_eq_true, Bool.not_eq_true', List.contains_eq_mem, decide_eq_true_eq, decide_eq_false_iff_not] at q
      exact q
theorem blk_names {X : Cx} (hk : X.env.scope.kind = .function) {sc : List (Str × NameKind)} (hs : X.env.scope.names = sc) (scope : Scope) (cl : List (Str × Addr)) (C : Addr) : (compEnvC scope cl C X.env).scope.names = relNames scope.names sc := by
  subst hs
  show List.map _ scope.names = List.map _ scope.names
  refine List.map_congr_left fun p _ => ?_
  obtain ⟨n, k⟩ := p
  have e : (X.env.scope.kind == ScopeKind.function) = true := by rw [hk]; rfl
  show (if (k == NameKind.free && X.env.scope.kind == ScopeKind.function && X.env.kindOf n == some .cell) = true then (n, NameKind.cell) else (n, k)) = _
  rw [e, Bool.and_true]
  rfl
theorem Good.blk {X : Cx} {Γ : Cst} {F : Fr} {C : Cc} {W : WX} {k : Nat} (G : Good X Γ F C W k) {scope : Scope} (hk : scope.kind = .function) (s : Shared) (H : Hp) (Ca : Addr) (cl : List (Str × Addr)) (fp : List Addr) : Good (X.blk s H scope (compEnvC scope cl Ca X.env) fp) Γ F C WF k :=
  ⟨G.N, G.nd, G.calm, G.room, hk, takes_WF, G.pw, G.fns, G.fok, G.gis, G.blt⟩
theorem lookup_own {own sc : List (Str × NameKind)} {x : Str} {k : NameKind} (hk : k ≠ .free) (h : own.lookup x = some k) : (relNames own sc).lookup x = some k := by
  induction own with
  | nil => cases h
  | cons p r ih =>
    obtain ⟨n, j⟩ := p
    show List.lookup x ((if (j == NameKind.free && sc.lookup n == some .cell) = true then (n, NameKind.cell) else (n, j)) :: relNames r sc) = some k
    cases hx : x == n with
    | true =>
      simp only [List.lookup_cons, hx] at h
      cases h
      have : (k == NameKind.free) = false := by cases k <;> first | rfl | exact absurd rfl hk
      rw [this, Bool.false_and, if_neg (by decide)]
      simp [List.lookup_cons, hx]
    | false =>
      simp only [List.lookup_cons, hx] at h
      split <;> (simp only [List.lookup_cons, hx]; exact ih h)
theorem okT_blk {X : Cx} {scope : Scope} {sc : List (Str × NameKind)} (hk : X.env.scope.kind = .function) (hs : X.env.scope.names = sc) (s : Shared) (H : Hp) (Ca : Addr) (cl : List (Str × Addr)) (fp : List Addr) : OkT (X.blk s H scope (compEnvC scope cl Ca X.env) fp) scope.names := by
  intro x hx
  have e := blk_names hk hs scope cl Ca
  unfold isOwn at hx
  split at hx
  · rename_i hq
    have : (compEnvC scope cl Ca X.env).scope.names.lookup x = some .local := by rw [e]; exact lookup_own (by decide) hq
    exact ⟨.inl this, .inr this⟩
  · rename_i hq
    have : (compEnvC scope cl Ca X.env).scope.names.lookup x = some .cell := by rw [e]; exact lookup_own (by decide) hq
    refine ⟨.inr this, .inl ?_⟩
    show (scope.names.lookup x == some .cell) = true
    rw [hq]; rfl
  · cases hx

def SortOk (Γ : Cst) : Prop := ∀ X : Cx, X.calm = true → X.prog = Γ.fa.P ∧ X.w = Γ.fa.w → X.A.units + 200 < cLine → CallR X (.builtin "sorted") (rB Γ.fa .sorted)
/-- the claim, by fuel -/
def Claim (Γ : Cst) (F : Fr) (C : Cc) (n : Nat) : Prop := ∀ (X : Cx) (W : WX) (k : Nat), Good X Γ F C W k → SortOk Γ → ∀ sc, X.env.scope.names = sc →
  (∀ e e', cE C n sc e = some e' → OkE X Γ F W e e') ∧ (∀ es es', cEs C n sc es = some es' → All2 (OkE X Γ F W) es es') ∧ (∀ o o', cO C n sc o = some o' → PO X o (tO Γ F W o')) ∧
  (∀ it it', cI C n sc it = some it' → (∀ env x, foldedSetIterable it env x = pure x) ∧ ∀ own m tg tg', tgE C.N own m tg = some tg' → tgFit (itKind it') tg' = true → PI X tg it (tI X.K Γ F W it'))
theorem tg_tuple {N : List Str} {own : List (Str × NameKind)} {m : Nat} {tg : Expr} {tg' : Tg} (h : tgE N own m tg = some tg') (hf : tgFit 1 tg' = true) : ∃ es k pos, tg = .Tuple es k pos := by
  cases m with
  | zero => cases h
  | succ m =>
    cases tg with
    | Tuple es k pos => exact ⟨es, k, pos, rfl⟩
    | Name x pos =>
      have h : (if isOwn own x = true then (slotOf N x).map Tg.one else none) = some tg' := h
      split at h
      · obtain ⟨i, _, rfl⟩ := Option.map_eq_some_iff.mp h
        cases hf
      · cases h
    | _ => cases h
theorem rng_nil {X : Cx} {Γ : Cst} {F : Fr} {W : WX} {tg e : Expr} : PI X tg e (tI X.K Γ F W (.rng [])) := ⟨fun _ _ _ _ _ _ ⟨R, B, f, h, ds, A, p⟩ => p.elim⟩
theorem gl_of {X : Cx} {sc : List (Str × NameKind)} (hs : X.env.scope.names = sc) : ∀ x, isGl sc x = true → Gl X x := fun _ h => (isGl_ok hs h).2
section
variable {X : Cx} {Γ : Cst} {F : Fr} {C : Cc} {W : WX} {k n : Nat} {sc : List (Str × NameKind)}
theorem step_name (G : Good X Γ F C W k) (hs : X.env.scope.names = sc) {x : Str} {pos : Pos} {e' : Ex} (h : cE C (n + 1) sc (.Name x pos) = some e') : OkE X Γ F W (.Name x pos) e' := by
  have h : (if isVar sc x = true then (slotOf C.N x).map Ex.var else if isGl sc x = true then (match C.M.gints.lookup x with
        | some i => some (.gint x i)
        | none => (C.M.fns.lookup x).map .gfn) else none) = some e' := h
  split at h
  · rename_i hv
    obtain ⟨i, h1, rfl⟩ := Option.map_eq_some_iff.mp h
    obtain ⟨h2, h3⟩ := isVar_ok hs hv
    obtain ⟨h4, h5, _⟩ := okName_ok h2
    exact okE_v (snd_var (by rw [G.N]; exact slotOf_ok h1) h3 h4 h5) (fun _ => rfl) rfl rfl
  · split at h
    · rename_i hg
      split at h
      · rename_i i hi
        cases h
        obtain ⟨h2, h3⟩ := isGl_ok hs hg
        obtain ⟨h4, h5, _⟩ := okName_ok h2
        obtain ⟨t, ht⟩ := G.gis x i hi
        exact okE_v (snd_C (d := .int i) (pe_glob (v := .int i) h3 ht ⟨t, rfl⟩ h4) (fun _ _ => rfl) rfl fun _ _ _ _ => .int i) (fun _ => rfl) rfl rfl
      · obtain ⟨kk, hk, rfl⟩ := Option.map_eq_some_iff.mp h
        obtain ⟨h2, h3⟩ := isGl_ok hs hg
        obtain ⟨h4, h5, _⟩ := okName_ok h2
        obtain ⟨a, ha, hm⟩ := G.fns x kk hk
        exact okE_v (snd_C (d := .fn kk) (pe_glob (v := .ref a) h3 hm rfl h4) (fun _ _ => rfl) rfl fun _ _ _ _ => .fn ha) (fun _ => rfl) rfl rfl
    · cases h
theorem step_const {c : Const} {j : Nat} {pos : Pos} {e' : Ex} (h : cE C (n + 1) sc (.Constant c j pos) = some e') : OkE X Γ F W (.Constant c j pos) e' := by
  cases c with
  | none => cases h; exact okE_v (snd_C (d := .non) pe_non (fun _ _ => rfl) rfl fun _ _ _ _ => .non) (fun _ => rfl) rfl rfl
  | bool b => cases h; exact okE_v (snd_C (d := .bl b) pe_bl (fun _ _ => rfl) rfl fun _ _ _ _ => .bl b) (fun _ => rfl) rfl rfl
  | int i => cases h; exact okE_v (snd_C (d := .int i) pe_int (fun _ _ => rfl) rfl fun _ _ _ _ => .int i) (fun _ => rfl) rfl rfl
  | str x => cases h; exact okE_v (snd_C (d := .str x) pe_str (fun _ _ => rfl) rfl fun _ _ _ _ => .str x) (fun _ => rfl) rfl rfl
  | _ => cases h
theorem step_tup (ih : ∀ es es', cEs C n sc es = some es' → All2 (OkE X Γ F W) es es') {es : List Expr} {j : Nat} {pos : Pos} {e' : Ex} (h : cE C (n + 1) sc (.Tuple es j pos) = some e') : OkE X Γ F W (.Tuple es j pos) e' := by
  have h : (if es.length ≤ 1000 then (cEs C n sc es).map Ex.tup else none) = some e' := h
  split at h
  · obtain ⟨es', h1, rfl⟩ := Option.map_eq_some_iff.mp h
    exact okE_v (snd_tup ((ih es es' h1).imp fun _ _ z => z.pp) ‹_›) (fun _ => rfl) rfl rfl
  · cases h
theorem all2_map {α β γ : Type} {P : α → β → Prop} {Q : α → γ → Prop} {f : β → γ} {as : List α} {bs : List β} (h : All2 P as bs) (g : ∀ a b, P a b → Q a (f b)) : All2 Q as (bs.map f) := by
  induction h with
  | nil => exact .nil
  | cons hp _ ih => exact .cons (g _ _ hp) ih
/-- a tree as an argument -/
structure PN (X : Cx) (Γ : Cst) (F : Fr) (W : WX) (a : Expr) (a' : Ex) : Prop where
  e : PE X a (tE Γ F W a')
  n : nice a = true
theorem snd_argsN {es : List Expr} {es' : List Ex} (h : All2 (PN X Γ F W) es es') : PA X es (tA Γ F W es') := by
  induction h with
  | nil => exact imA pa_nil fun σ H Q ⟨R, B, f, h, ds, A, p⟩ => p f H [] .refl A.sim .nil
  | cons hp _ ih =>
    exact imA (pa_cons hp.e ih (nice_star hp.n)) fun σ H Q ⟨R, B, f, h, ds, A, p⟩ => mkE A p fun d v f1 h1 H1 x1 A1 r1 _ p1 => mkA A1 p1 fun ds' vs f2 h2 H2 x2 A2 r2 p2 =>
      p2 f2 H2 _ .refl A2.sim (.cons (r1.ext x2) r2)
theorem snd_lstN {es : List Expr} {es' : List Ex} {pos : Pos} (ha : All2 (PN X Γ F W) es es') (hl : es.length ≤ 1000) : PE X (.List es pos) (tE Γ F W (.lst es')) :=
  imE (pe_lst (snd_argsN ha)) fun σ H Q ⟨R, B, f, h, ds, A, p⟩ => mkA' A p fun xs vs f1 h1 H1 ln x A1 r p1 => by
    refine ⟨?_, fun pp hp => p1 f1 _ _ (Ext.upd hp) (A1.sim.upd hp) ⟨RD.newLst A1.sim hp r, fun _ => (Fre.new A1.sim hp r).back x.there⟩⟩
    rw [← RDs.length r, ln, ← ha.length]
    exact Nat.le_trans hl (Nat.le_trans (by decide) line_ge)
theorem step_lst (ih : ∀ es es', cEs C n sc es = some es' → All2 (OkE X Γ F W) es es') {es : List Expr} {pos : Pos} {e' : Ex} (h : cE C (n + 1) sc (.List es pos) = some e') : OkE X Γ F W (.List es pos) e' := by
  have h : (if es.length ≤ 1000 then (cEs C n sc es).map Ex.lst else none) = some e' := h
  split at h
  · rename_i hl
    obtain ⟨es', h1, rfl⟩ := Option.map_eq_some_iff.mp h
    have a := ih es es' h1
    have e0 := snd_lst (pos := pos) (a.imp fun _ _ z => z.pp) hl
    refine ⟨fun d => ?_, snd_truth e0 rfl, rfl⟩
    cases d with
    | zero => exact e0
    | succ d => exact snd_cell (snd_lstN (all2_map a fun _ _ z => ⟨z.e d, z.n⟩) hl) rfl
  · cases h
theorem step_bin (ih : ∀ e e', cE C n sc e = some e' → OkE X Γ F W e e') {a b : Expr} {o : Operator} {pos : Pos} {e' : Ex} (h : cE C (n + 1) sc (.BinOp a o b pos) = some e') : OkE X Γ F W (.BinOp a o b pos) e' := by
  have h : (match opOf o, cE C n sc a, cE C n sc b with
      | some o, some a, some b => some (Ex.op o a b)
      | _, _, _ => none) = some e' := h
  split at h
  · cases h
    rename_i o1 a1 b1 h1 h2 h3
    exact okE_v (snd_op h1 ((ih _ _ h2).e 0) ((ih _ _ h3).e 0)) (fun _ => rfl) rfl rfl
  · cases h
theorem step_un (ih : ∀ e e', cE C n sc e = some e' → OkE X Γ F W e e') {a : Expr} {o : UnaryOp} {pos : Pos} {e' : Ex} (h : cE C (n + 1) sc (.UnaryOp o a pos) = some e') : OkE X Γ F W (.UnaryOp o a pos) e' := by
  cases o with
  | USub =>
    obtain ⟨a', h1, rfl⟩ := Option.map_eq_some_iff.mp (show (cE C n sc a).map Ex.neg = some e' from h)
    exact okE_v (snd_neg ((ih _ _ h1).e 0)) (fun _ => rfl) rfl rfl
  | Not =>
    obtain ⟨a', h1, rfl⟩ := Option.map_eq_some_iff.mp (show (cE C n sc a).map Ex.not = some e' from h)
    exact okE_nf (snd_not ((ih _ _ h1).e 0)) rfl (snd_notT (ih _ _ h1).t) rfl
  | _ => cases h
theorem fresh_bool (o : BoolOp) : ∀ (a : Ex) (es : List Ex) (g : Ex → Ex), innE g (boolE o a es) = boolE o a es ∨ es = []
  | a, [], _ => .inr rfl
  | a, e :: es, g => .inl (by cases o <;> rfl)
theorem step_bool (ih : ∀ es es', cEs C n sc es = some es' → All2 (OkE X Γ F W) es es') {es : List Expr} {o : BoolOp} {pos : Pos} {e' : Ex} (h : cE C (n + 1) sc (.BoolOp o es pos) = some e') : OkE X Γ F W (.BoolOp o es pos) e' := by
  have h : (match cEs C n sc es with
      | some (e :: es) => some (boolE o e es)
      | _ => none) = some e' := h
  split at h
  · rename_i e1 es1 h1
    cases h
    have a := ih _ _ h1
    cases a with
    | cons hp r =>
      rename_i e0 es0
      have pe := bool_pe (pos := pos) o hp.pp (r.imp fun _ _ z => z.pp)
      have pt : PT X (.BoolOp o (e0 :: es0) pos) _ := (bool_pw (pos := pos) o hp.pp (r.imp fun _ _ z => z.pp)).pt
      cases r with
      | nil =>
        refine ⟨fun d => ?_, pt, rfl⟩
        exact pe_one (hp.e d)
      | cons hq r' =>
        refine okE_f pe (fun g => ?_) pt rfl
        cases o <;> rfl
  · cases h
theorem step_cmp (G : Good X Γ F C W k) (ih : ∀ e e', cE C n sc e = some e' → OkE X Γ F W e e') {a : Expr} {os : List CmpOp} {bs : List Expr} {pos : Pos} {e' : Ex} (h : cE C (n + 1) sc (.Compare a os bs pos) = some e') : OkE X Γ F W (.Compare a os bs pos) e' := by
  match os, bs, h with
  | [o], [b], h =>
    have h : (match cmpOf o, cE C n sc a, cE C n sc b with
      | some o, some a, some b => some (Ex.op o a b)
      | _, _, _ => none) = some e' := h
    split at h
    · cases h
      rename_i o1 a1 b1 h1 h2 h3 _
      have ia := ih _ _ h2
      have ib := ih _ _ h3
      exact okE_f (snd_cmpE h1 G.un (ia.e 0) (ib.e 0) ib.n) (fun _ => rfl) (snd_cmpT h1 G.un (ia.e 0) (ib.e 0) ib.n) rfl
    · cases h
  | [o, o'], [b, c], h =>
    have h : (match cmpOf o, cmpOf o', cE C n sc a, cE C n sc b, cE C n sc c with
      | some o, some o', some a, some b, some c => some (Ex.chain o o' a b c)
      | _, _, _, _, _ => none) = some e' := h
    split at h
    · cases h
      rename_i o1 o2 a1 b1 c1 h1 h2 h3 h4 h5 _
      have ia := ih _ _ h3
      have ib := ih _ _ h4
      have ic := ih _ _ h5
      exact okE_nf (snd_chain h1 h2 G.un (ia.e 0) (ib.e 0) (ic.e 0) ic.n) rfl (snd_chainT h1 h2 G.un (ia.e 0) (ib.e 0) (ic.e 0) ic.n) rfl
    · cases h
  | [o, o', o''], [b, c, d], h =>
    have h : (match cmpOf o, cmpOf o', cmpOf o'', cE C n sc a, cE C n sc b, cE C n sc c, cE C n sc d with
      | some o, some o', some o'', some a, some b, some c, some d => some (Ex.chain3 o o' o'' a b c d)
      | _, _, _, _, _, _, _ => none) = some e' := h
    split at h
    · cases h
      rename_i o1 o2 o3 a1 b1 c1 d1 h1 h2 h3 h4 h5 h6 h7 _
      have ia := ih _ _ h4
      have ib := ih _ _ h5
      have ic := ih _ _ h6
      have id := ih _ _ h7
      exact okE_nf (snd_chain3 h1 h2 h3 G.un (ia.e 0) (ib.e 0) (ic.e 0) (id.e 0) id.n) rfl (snd_chain3T h1 h2 h3 G.un (ia.e 0) (ib.e 0) (ic.e 0) (id.e 0) id.n) rfl
    · cases h
  | [], _, h => cases h
  | [_], [], h => cases h
  | [_], _ :: _ :: _, h => cases h
  | [_, _], [], h => cases h
  | [_, _], [_], h => cases h
  | [_, _], _ :: _ :: _ :: _, h => cases h
  | [_, _, _], [], h => cases h
  | [_, _, _], [_], h => cases h
  | [_, _, _], [_, _], h => cases h
  | [_, _, _], _ :: _ :: _ :: _ :: _, h => cases h
  | _ :: _ :: _ :: _ :: _, _, h => cases h
theorem step_ite (ih : ∀ e e', cE C n sc e = some e' → OkE X Γ F W e e') {a b c : Expr} {pos : Pos} {e' : Ex} (h : cE C (n + 1) sc (.IfExp c a b pos) = some e') : OkE X Γ F W (.IfExp c a b pos) e' := by
  have h : (match cE C n sc c, cE C n sc a, cE C n sc b with
      | some c, some a, some b => some (Ex.ite c a b)
      | _, _, _ => none) = some e' := h
  split at h
  · cases h
    rename_i c1 a1 b1 h1 h2 h3
    exact okE_f (snd_ite (ih _ _ h1).t ((ih _ _ h2).e 0) ((ih _ _ h3).e 0)) (fun _ => rfl) (snd_iteT (ih _ _ h1).t (ih _ _ h2).t (ih _ _ h3).t) rfl
  · cases h
end
end Ev

set_option Elab.async false
set_option linter.all false
set_option maxRecDepth 100000
set_option maxHeartbeats 8000000
/-! EvS: the compile step is sound, expressions (the rest). -/
namespace Ev
open PySem PySem.Spec PyProof.Rows L2
section
variable {X : Cx} {Γ : Cst} {F : Fr} {C : Cc} {W : WX} {k n : Nat} {sc : List (Str × NameKind)}
theorem zipArgs_ok {e a b : Expr} (h : zipArgs sc e = some (a, b)) : ∃ p pos, e = .Call (.Name "zip" p) [a, b] [] pos ∧ isGl sc "zip" = true := by
  unfold zipArgs at h
  split at h
  · split at h
    · rename_i hc
      obtain ⟨h1, h2⟩ := Bool.and_eq_true_iff.mp hc
      cases h
      have := eq_of_beq h2
      subst this
      exact ⟨_, _, rfl, h1⟩
    · cases h
  · cases h
theorem tg_tuple2 {N : List Str} {own : List (Str × NameKind)} {m : Nat} {tg : Expr} {tg' : Tg} (h : tgE N own m tg = some tg') (hf : tgFit 2 tg' = true) : ∃ es k pos, tg = .Tuple es k pos := by
  refine tg_tuple h ?_
  cases tg' with
  | one i => cases hf
  | many ts => match ts, hf with
    | [_, .many [_, _]], _ => rfl
theorem isRev_ok {st : Expr} (h : isRev st = true) : ∃ j p3 p4, st = .UnaryOp .USub (.Constant (.int 1) j p3) p4 := by
  unfold isRev at h
  split at h
  · exact ⟨_, _, _, rfl⟩
  · cases h
theorem sk_rev {b : Expr} (h : skOf b = .rev) : ∃ j p3 p4 p2, b = .Slice none none (some (.UnaryOp .USub (.Constant (.int 1) j p3) p4)) p2 := by
  unfold skOf at h
  split at h
  · split at h
    · obtain ⟨j, p3, p4, rfl⟩ := isRev_ok ‹_›
      exact ⟨j, p3, p4, _, rfl⟩
    · cases h
  · cases h
  · cases h
  · cases h
theorem sk_sl {b : Expr} {lo hi : Option Expr} (h : skOf b = .sl lo hi) : ∃ p2, b = .Slice lo hi none p2 := by
  unfold skOf at h
  split at h
  · split at h <;> cases h
  · cases h; exact ⟨_, rfl⟩
  · cases h
  · cases h
theorem step_sub (G : Good X Γ F C W k) (ih : ∀ e e', cE C n sc e = some e' → OkE X Γ F W e e') (ih3 : ∀ o o', cO C n sc o = some o' → PO X o (tO Γ F W o')) {a b : Expr} {pos : Pos} {e' : Ex} (h : cE C (n + 1) sc (.Subscript a b pos) = some e') : OkE X Γ F W (.Subscript a b pos) e' := by
  have h : (match skOf b with
      | .rev => (cE C n sc a).map .rev
      | .sl lo hi => (match cE C n sc a, cO C n sc lo, cO C n sc hi with
        | some a, some lo, some hi => some (.slice a lo hi)
        | _, _, _ => none)
      | .no => none
      | .plain => (match cE C n sc a, cE C n sc b with
        | some a, some b => some (Ex.idx a b)
        | _, _ => none)) = some e' := h
  cases hk : skOf b with
  | rev =>
    rw [hk] at h
    obtain ⟨a', h1, rfl⟩ := Option.map_eq_some_iff.mp h
    obtain ⟨j, p3, p4, p2, rfl⟩ := sk_rev hk
    exact okE_v (snd_rev ((ih _ _ h1).e 0)) (fun _ => rfl) rfl rfl
  | sl lo hi =>
    rw [hk] at h
    obtain ⟨p2, rfl⟩ := sk_sl hk
    dsimp only at h
    split at h
    · cases h
      rename_i a1 lo1 hi1 h1 h2 h3
      exact okE_v (snd_slice ((ih _ _ h1).e 0) (ih3 _ _ h2) (ih3 _ _ h3)) (fun _ => rfl) rfl rfl
    · cases h
  | no => rw [hk] at h; cases h
  | plain =>
    rw [hk] at h
    dsimp only at h
    split at h
    · cases h
      rename_i a1 b1 h1 h2
      exact okE_v (snd_ix (by have := G.un; omega) ((ih _ _ h1).e 0) ((ih _ _ h2).e 0) (ih _ _ h2).n) (fun _ => rfl) rfl rfl
    · cases h
theorem cE_call {x : Str} {p pos : Pos} {es : List Expr} : cE C (n + 1) sc (.Call (.Name x p) es [] pos) = (if isGl sc x then (
        match C.M.fns.lookup x with
        | some k => (cEs C n sc es).map (.call k)
        | none => if x == ("isinstance" : Str) then (match es with
            | [e, t] => (match cE C n sc e, isiTys sc t with
              | some e, some ts => some (.isin e ts)
              | _, _ => none)
            | _ => none)
          else match biOf x with
            | none => none
            | some b => (match rgArg sc es with
              | some as => if b == .list then (cEs C n sc as).map .lrng else if b == .tuple then (cEs C n sc as).map .trng else (cEs C n sc es).map (.bi b)
              | none => (cEs C n sc es).map (.bi b))) else none) := rfl
theorem rgArg_ok {es as : List Expr} (h : rgArg sc es = some as) : ∃ p pos, es = [.Call (.Name "range" p) as [] pos] ∧ isGl sc "range" = true := by
  unfold rgArg at h
  split at h
  · split at h
    · cases h
      rename_i hq
      obtain ⟨h1, h2⟩ := Bool.and_eq_true_iff.mp hq
      have := eq_of_beq h1
      subst this
      exact ⟨_, _, rfl, h2⟩
    · cases h
  · cases h
theorem names_len : ∀ {es : List Expr} {ts : List Ty}, tyNames sc es = some ts → ts.length = es.length
  | [], ts, h => by cases h; rfl
  | e :: es, ts, h => by
    cases e with
    | Name x p =>
      have h : (if isGl sc x = true then (match tyOf x, tyNames sc es with
        | some t, some r => some (t :: r)
        | _, _ => none) else none) = some ts := h
      split at h
      · split at h
        · cases h
          rename_i h2
          simp [names_len h2]
        · cases h
      · cases h
    | _ => cases h
theorem step_isi (G : Good X Γ F C W k) (hs : X.env.scope.names = sc) {p pos : Pos} {a t : Expr} {a' : Ex} {ts : List Ty} (hg : Gl X "isinstance") (h : isiTys sc t = some ts) (ha : PP X Γ F W a a') : PE X (.Call (.Name "isinstance" p) [a, t] [] pos) (tE Γ F W (.isin a' ts)) := by
  have hm := G.blt "isinstance" (by decide)
  cases t with
  | Name x p2 =>
    have h : (if isGl sc x = true then (tyOf x).map fun t => [t] else none) = some ts := h
    split at h
    · rename_i hgt
      obtain ⟨t, h1, rfl⟩ := Option.map_eq_some_iff.mp h
      have := tyOf_ok _ _ h1
      subst this
      exact snd_isi1 hg hm (by decide +kernel) t (isGl_ok hs hgt).2 (G.blt _ (tyNm_in t)) ha
    · cases h
  | Tuple es k2 p2 =>
    have h : (if (decide (0 < es.length) && decide (es.length ≤ 1000)) = true then tyNames sc es else none) = some ts := h
    split at h
    · rename_i hl
      simp only [Bool.and_eq_true, decide_eq_true_eq] at hl
      have ln := names_len h
      exact snd_isiT hg hm (by decide +kernel) h (by omega) (fun e => by rw [e] at ln; simp at ln; omega) (gl_of hs) (fun t => G.blt _ (tyNm_in t)) tyOf_ok ha
    · cases h
  | _ => cases h
theorem step_call (G : Good X Γ F C W k) (hsort : SortOk Γ) (hs : X.env.scope.names = sc) (ih : ∀ e e', cE C n sc e = some e' → OkE X Γ F W e e') (ih2 : ∀ es es', cEs C n sc es = some es' → All2 (OkE X Γ F W) es es')
    {x : Str} {p pos : Pos} {es : List Expr} {e' : Ex} (h : cE C (n + 1) sc (.Call (.Name x p) es [] pos) = some e') : OkE X Γ F W (.Call (.Name x p) es [] pos) e' := by
  rw [cE_call] at h
  split at h
  · rename_i hgl
    obtain ⟨hok, hg⟩ := isGl_ok hs hgl
    obtain ⟨hd, _, hnn⟩ := okName_ok hok
    have biCase : ∀ b, biOf x = some b → (cEs C n sc es).map (Ex.bi b) = some e' → OkE X Γ F W (.Call (.Name x p) es [] pos) e' := fun b hb h => by
      obtain ⟨es', h1, rfl⟩ := Option.map_eq_some_iff.mp h
      obtain rfl := biOf_ok hb
      exact okE_v (snd_bi G (hsort X G.calm G.pw G.un) b hg ((ih2 _ _ h1).imp fun _ _ z => z.pp)) (fun _ => rfl) rfl rfl
    split at h
    · rename_i kk hk
      obtain ⟨es', h1, rfl⟩ := Option.map_eq_some_iff.mp h
      obtain ⟨a, ha, hm⟩ := G.fns x kk hk
      obtain ⟨fd, ps, np, fo, hb, hkeep, har⟩ := G.fok kk a ha
      exact okE_v (snd_call G.tk har fo G.room hg hm hkeep hb hd ((ih2 _ _ h1).imp fun _ _ z => z.pp)) (fun _ => rfl) rfl rfl
    · split at h
      · rename_i hx
        have ex := eq_of_beq hx
        subst ex
        match es, h with
        | [a, t], h =>
          dsimp only at h
          split at h
          · cases h
            rename_i a' ts h1 h2
            exact okE_v (step_isi G hs hg h2 (ih _ _ h1).pp) (fun _ => rfl) rfl rfl
          · cases h
        | [], h => cases h
        | [_], h => cases h
        | _ :: _ :: _ :: _, h => cases h
      · split at h
        · cases h
        · rename_i b hb
          split at h
          · rename_i as hr
            obtain ⟨p2, pos2, rfl, hr2⟩ := rgArg_ok hr
            have hg2 := (isGl_ok hs hr2).2
            have hm2 := G.blt "range" (by decide)
            split at h
            · rename_i hq
              have e1 : b = .list := eq_of_beq hq
              subst e1
              obtain rfl := biOf_ok hb
              obtain ⟨es', h1, rfl⟩ := Option.map_eq_some_iff.mp h
              have a := (ih2 _ _ h1).imp fun _ _ z => OkE.pp z
              cases a with
              | nil => exact okE_v (never fun ds h => rfl) (fun _ => rfl) rfl rfl
              | cons hp r => exact okE_v (snd_lrng G.calm hg (G.blt "list" (by decide)) hg2 hm2 (.cons hp r)) (fun _ => rfl) rfl rfl
            · split at h
              · rename_i hq
                have e1 : b = .tuple := eq_of_beq hq
                subst e1
                obtain rfl := biOf_ok hb
                obtain ⟨es', h1, rfl⟩ := Option.map_eq_some_iff.mp h
                have a := (ih2 _ _ h1).imp fun _ _ z => OkE.pp z
                cases a with
                | nil => exact okE_v (never fun ds h => rfl) (fun _ => rfl) rfl rfl
                | cons hp r => exact okE_v (snd_trng G.calm hg (G.blt "tuple" (by decide)) hg2 hm2 (.cons hp r)) (fun _ => rfl) rfl rfl
              · exact biCase b hb h
          · exact biCase b hb h
  · cases h
theorem step_dict (G : Good X Γ F C W k) (ih : ∀ e e', cE C n sc e = some e' → OkE X Γ F W e e') {ks : List (Option Expr)} {vs : List Expr} {pos : Pos} {e' : Ex} (h : cE C (n + 1) sc (.Dict ks vs pos) = some e') : OkE X Γ F W (.Dict ks vs pos) e' := by
  match ks, vs, h with
  | [], [], h => cases h; exact okE_v snd_disp0 (fun _ => rfl) rfl rfl
  | [some k1], [v1], h =>
    have h : (match cE C n sc k1, cE C n sc v1 with
      | some k, some v => some (Ex.dct [k, v])
      | _, _ => none) = some e' := h
    split at h
    · cases h
      rename_i k2 v2 h1 h2 _
      exact okE_v (snd_disp1 (by have := G.un; omega) ((ih _ _ h1).e 0) ((ih _ _ h2).e 0)) (fun _ => rfl) rfl rfl
    · cases h
  | [], _ :: _, h => cases h
  | none :: _, _, h => cases h
  | [some _], [], h => cases h
  | [some _], _ :: _ :: _, h => cases h
  | some _ :: _ :: _, _, h => cases h
/-- a call's promise, from what the arguments run to -/
theorem call_run {σ : L2.St} {H : Hp} {Q : VK} {R : Addr → Prop} {B : Nat → Prop} {f : Nat → Addr} {h : Hh} {ds : Sl} {fnn np : Nat} {es' : List Ex} {e0 : Ex} (he0 : fresh e0 = false) (hnp : ∀ ds h, ds.length ≠ np → F.call fnn ds h = .fail) (A : Pnt Γ F R B f h ds σ H) (p : Post Γ.fa f h.length R B H ((evEs F es' ds h).bind fun ds h => F.call fnn ds h) (relE Γ R B H e0) Q (exW Γ R W σ)) :
    tCallS (spF Γ F.call fnn np) (WE W) (tA Γ F W es') σ H Q := mkA' A p fun xs vs f1 h1 H1 ln x A1 r p1 => by
  have hl : xs.length = np := by
    apply Classical.byContradiction
    intro hl
    have p1 : Post Γ.fa f1 h1.length R B H1 (F.call fnn xs h1) _ Q _ := p1
    rw [hnp xs h1 hl] at p1
    exact p1
  refine ⟨by rw [← r.length, hl], R, B, f1, h1, xs, A1.sim, fun b hb => Nat.le_trans (A1.bb b hb) A1.bl, r, ?_⟩
  exact Post.bindR p1 fun f' h' H' a b _ _ q => ⟨q, fun z => by rw [he0] at z; cases z⟩
theorem snd_callE (G : Good X Γ F C W k) {a i : Expr} {p pos : Pos} {f' : Ex} {e : Expr} {es : List Expr} {es' : List Ex} (hf : PE X (.Subscript a i p) (tE Γ F W f')) (ha : All2 (PP X Γ F W) (e :: es) es') : PE X (.Call (.Subscript a i p) (e :: es) [] pos) (tE Γ F W (.callE f' es')) := by
  refine ⟨fun pins s σ H Q I ⟨R, B, f, h, ds, A, p0⟩ => Call_ (thn (hf.run pins s σ H (fun v H1 => ∃ fnn ad, v = .ref ad ∧ Γ.fa fnn = some ad ∧ ∃ R B f h ds, Pnt Γ F R B f h ds σ H1 ∧ Post Γ.fa f h.length R B H1 ((evEs F es' ds h).bind fun ds h => F.call fnn ds h) (relE Γ R B H1 .non) Q (exW Γ R W σ)) I (mkE A p0 fun d v f1 h1 H1 x1 A1 r1 _ p1 => ?_)) fun u s1 ⟨v, H1, I1, r1, fnn, ad, ev, hfa, R, B, f, h, ds, A, p1⟩ => ?_) (by rfl)⟩
  · cases d with
    | fn fnn =>
      cases r1 with
      | fn hfa =>
        have p1 : Post Γ.fa f1 h1.length R B H1 ((evEs F es' ds h1).bind fun ds h => F.call fnn ds h) (relE Γ R B H (.callE f' es')) Q (exW Γ R W σ) := p1
        exact ⟨fnn, _, rfl, hfa, R, B, f1, h1, ds, A1, Post.bindR p1 fun f' h' H' a b _ _ q => ⟨q.1, fun z => by cases z⟩⟩
    | _ => exact p1.elim
  · subst ev
    cases r1
    obtain ⟨fd, ps, np, Fo, hb, hk, har⟩ := G.fok fnn ad hfa
    have q1 := call_run (e0 := .non) rfl har A p1
    refine PySem.W.callWith_K (h₀ := X.base) I.ok.mod.kin hk (thn ((snd_args ha).run pos pins s1 σ _ _ I1 q1) fun us s2 ⟨vs, H2, I2, r, q⟩ => ⟨I2.kIn, ?_⟩) (nice_star (ha.nice e (by simp))) (any_plain fun z hz => ha.nice z (by simp [hz]))
    exact run_fnS Fo G.room hb (passAt G.tk σ) I2 r q
theorem step_callE (G : Good X Γ F C W k) (ih : ∀ e e', cE C n sc e = some e' → OkE X Γ F W e e') (ih2 : ∀ es es', cEs C n sc es = some es' → All2 (OkE X Γ F W) es es')
    {a i : Expr} {p pos : Pos} {es : List Expr} {e' : Ex} (h : cE C (n + 1) sc (.Call (.Subscript a i p) es [] pos) = some e') : OkE X Γ F W (.Call (.Subscript a i p) es [] pos) e' := by
  have h : (if 0 < es.length then (match cE C n sc (.Subscript a i p), cEs C n sc es with
      | some f, some es => some (Ex.callE f es)
      | _, _ => none) else none) = some e' := h
  split at h
  · rename_i hl
    split at h
    · cases h
      rename_i f1 es1 h1 h2
      cases es with
      | nil => simp at hl
      | cons e es => exact okE_v (snd_callE G ((ih _ _ h1).e 0) ((ih2 _ _ h2).imp fun _ _ z => z.pp)) (fun _ => rfl) rfl rfl
    · cases h
  · cases h
theorem cE_meth {o : Expr} {m : Str} {ap cp : Pos} {es : List Expr} : cE C (n + 1) sc (.Call (.Attribute o m ap) es [] cp) = (if ap.endLine == cp.line && es.length < 20 && isName o then (match mtOf m, cE C n sc o, cEs C n sc es with
      | some m, some o, some es => some (.meth m o es)
      | _, _, _ => none) else none) := rfl
theorem base_ok {o : Expr} {m : Str} {env : Env} (h : isName o = true) : attributeBase o m env (eval o env) = eval o env := by cases o <;> first | rfl | cases h
theorem step_meth (ih : ∀ e e', cE C n sc e = some e' → OkE X Γ F W e e') (ih2 : ∀ es es', cEs C n sc es = some es' → All2 (OkE X Γ F W) es es')
    {o : Expr} {m : Str} {ap cp : Pos} {es : List Expr} {e' : Ex} (h : cE C (n + 1) sc (.Call (.Attribute o m ap) es [] cp) = some e') : OkE X Γ F W (.Call (.Attribute o m ap) es [] cp) e' := by
  rw [cE_meth] at h
  split at h
  · rename_i hc
    simp only [Bool.and_eq_true, decide_eq_true_eq] at hc
    split at h
    · cases h
      rename_i m1 o1 es1 h1 h2 h3
      obtain ⟨rfl, hm⟩ := mtOf_ok h1
      exact okE_v (snd_meth m1 hm (ih _ _ h2).pp ((ih2 _ _ h3).imp fun _ _ z => z.pp) (base_ok hc.2) hc.1.2 hc.1.1) (fun _ => rfl) rfl rfl
    · cases h
  · cases h
theorem cGs_cons {own sc0 : List (Str × NameKind)} {g : Comprehension} {gs : List Comprehension} {gs' : List Gn} (h : cGs C n own sc sc0 (g :: gs) = some gs') : ∃ m tg' it' ifs' gs'', n = m + 1 ∧ tgE C.N own m g.target = some tg' ∧ cI C m sc0 g.iter = some it' ∧ cEs C m sc g.ifs = some ifs' ∧ cGs C m own sc sc gs = some gs'' ∧
    g.is_async = 0 ∧ ifs'.length ≤ 1 ∧ tgFit (itKind it') tg' = true ∧ gs' = .mk tg' it' ifs' :: gs'' := by
  cases n with
  | zero => cases h
  | succ m =>
    obtain ⟨tg, it, ifs, a⟩ := g
    have h : (match tgE C.N own m tg, cI C m sc0 it, cEs C m sc ifs, cGs C m own sc sc gs with
    | some tg, some it, some ifs, some gs => if a == 0 && ifs.length ≤ 1 && tgFit (itKind it) tg then some (Gn.mk tg it ifs :: gs) else none
    | _, _, _, _ => none) = some gs' := h
    split at h
    · split at h
      · cases h
        rename_i h1 h2 h3 h4 hc
        simp only [Bool.and_eq_true, decide_eq_true_eq, beq_iff_eq] at hc
        exact ⟨m, _, _, _, _, rfl, h1, h2, h3, h4, hc.1.1, hc.1.2, hc.2, rfl⟩
      · cases h
    · cases h
theorem cI_fold {it : Expr} {it' : Itr} (h : cI C n sc it = some it') : ∀ env x, foldedSetIterable it env x = pure x := by
  intro env x
  cases it with
  | Set es j p =>
    cases n with
    | zero => cases h
    | succ n =>
      obtain ⟨e', h1, _⟩ := Option.map_eq_some_iff.mp (show (cE C n sc (.Set es j p)).map Itr.val = some it' from h)
      cases n <;> cases h1
  | _ => rfl
theorem cGs_nil {own sc0 : List (Str × NameKind)} {gs' : List Gn} (h : cGs C n own sc sc0 [] = some gs') : gs' = [] := by
  cases n with
  | zero => cases h
  | succ m => cases h; rfl
theorem cE_lc {elt : Expr} {gs : List Comprehension} {scope : Scope} {pos : Pos} : cE C (n + 1) sc (.ListComp elt gs scope pos) = (if blkB C.N sc scope (ownOf C.N scope.names) then (match cE C n (relNames scope.names sc) elt, cGs C n scope.names (relNames scope.names sc) sc gs with
      | some e, some gs => if (gs.length == 1 || gs.length == 2) && gs.all fun g => (slotsG g).all ((ownOf C.N scope.names).map (·.2)).contains then some (.comp ((ownOf C.N scope.names).map (·.2)) e gs) else none
      | _, _ => none) else none) := rfl
/-- a comprehension's reading, as a value and where a name is stored with it -/
structure LcOk (X : Cx) (Γ : Cst) (F : Fr) (W : WX) (a : Expr) (a' : Ex) : Prop where
  all : ∀ d, ∃ t : TE, (∀ σ H Q, tE Γ F W (cellE d a') σ H Q → t σ H Q) ∧ PE X a t ∧ ∀ (i : Nat) (y : Str) (py spos : Pos), swapsWith a (some (.Name y py)) spos.line X.env = pure true → X.N[i]? = some y → X.env.scope.names.lookup y = some .local → PS X (.Assign [.Name y py] a spos) (tAsg t (gName i))
  byv : byVal a = true
  nice : nice a = true
theorem LcOk.ok {a : Expr} {a' : Ex} (h : LcOk X Γ F W a a') : OkE X Γ F W a a' :=
  have e : ∀ d, PE X a (tE Γ F W (cellE d a')) := fun d => by obtain ⟨t, h1, h2, _⟩ := h.all d; exact imE h2 h1
  ⟨e, snd_truth (e 0) h.byv, h.nice⟩
theorem lc_ok (G : Good X Γ F C W k) (hsort : SortOk Γ) (hs : X.env.scope.names = sc) (ih : ∀ m, m ≤ n → Claim Γ F C m) {elt : Expr} {gs : List Comprehension} {scope : Scope} {pos : Pos} {e' : Ex} (h : cE C (n + 1) sc (.ListComp elt gs scope pos) = some e') : LcOk X Γ F W (.ListComp elt gs scope pos) e' := by
  rw [cE_lc] at h
  split at h
  · rename_i hb
    split at h
    · rename_i e1 gs1 he hg
      split at h
      · rename_i hc
        cases h
        generalize hown : ownOf C.N scope.names = own at hb hc
        have hsc := hs
        subst hsc
        have ok : BlkOk X.N X.env.scope scope own := by rw [G.N]; exact blk_ok hb
        have hk := ok.kind
        simp only [Bool.and_eq_true, Bool.or_eq_true, beq_iff_eq, List.all_eq_true] at hc
        obtain ⟨hlen, hsl⟩ := hc
        have hsl : ∀ g ∈ gs1, ∀ i ∈ slotsG g, i ∈ own.map (·.2) := fun g hg i hi => by
          have := hsl g hg i hi
          simpa using this
        have blk : ∀ m, m ≤ n → ∀ (s : Shared) (H : Hp) (Ca : Addr) (cl : List (Str × Addr)) (fp : List Addr), _ := fun m hm s H Ca cl fp => ih m hm (X.blk s H scope (compEnvC scope cl Ca X.env) fp) WF k (G.blk hk s H Ca cl fp) hsort (relNames scope.names X.env.scope.names) (blk_names G.kind rfl scope cl Ca)
        have gT' : ∀ m tg tg', tgE C.N scope.names m tg = some tg' → ∀ (s : Shared) (H : Hp) (Ca : Addr) (cl : List (Str × Addr)) (fp : List Addr), PG (X.blk s H scope (compEnvC scope cl Ca X.env) fp) tg (gT X.K tg') := fun m tg tg' ht s H Ca cl fp => by
          have o := okT_blk (X := X) (scope := scope) G.kind rfl s H Ca cl fp
          have := (pg_ok (X := X.blk s H scope (compEnvC scope cl Ca X.env) fp) G.calm G.nd o m).1 tg tg' (by show tgE X.N _ _ _ = _; rw [G.N]; exact ht)
          exact this.1
        have main : ∀ d, ∃ t : TE, (∀ σ H Q, tE Γ F W (.comp (own.map (·.2)) (cellE d e1) gs1) σ H Q → t σ H Q) ∧ PE X (.ListComp elt gs scope pos) t ∧ ∀ (i : Nat) (y : Str) (py spos : Pos), swapsWith (.ListComp elt gs scope pos) (some (.Name y py)) spos.line X.env = pure true → X.N[i]? = some y → X.env.scope.names.lookup y = some .local → PS X (.Assign [.Name y py] (.ListComp elt gs scope pos) spos) (tAsg t (gName i)) := fun d => by
          have eltOk : ∀ (s : Shared) (H : Hp) (Ca : Addr) (cl : List (Str × Addr)) (fp : List Addr), PE (X.blk s H scope (compEnvC scope cl Ca X.env) fp) elt (tE Γ F WF (cellE d e1)) := fun s H Ca cl fp => ((blk n (Nat.le_refl _) s H Ca cl fp).1 elt e1 he).e d
          cases gs with
          | nil =>
            have := cGs_nil hg
            subst this
            simp at hlen
          | cons g gs =>
            obtain ⟨m, tg', it', ifs', gs2, rfl, ht, hi, hf, hr, ha, hl, hft, rfl⟩ := cGs_cons hg
            obtain ⟨tg, it, ifs, a⟩ := g
            have ha : a = 0 := ha
            subst ha
            obtain ⟨i1, i2⟩ := (ih m (by omega) X W k G hsort _ rfl).2.2.2 it it' hi
            have hm : m ≤ m + 1 := by omega
            have tests : ∀ (s : Shared) (H : Hp) (Ca : Addr) (cl : List (Str × Addr)) (fp : List Addr), PTs (X.blk s H scope (compEnvC scope cl Ca X.env) fp) ifs (tTs Γ F WF ifs') := fun s H Ca cl fp => snd_tests (((blk m hm s H Ca cl fp).2.1 ifs ifs' hf).imp fun _ _ z => z.pp) hl
            have sl0 : ∀ i ∈ slotsT tg', i ∈ own.map (·.2) := fun i hi => hsl (.mk tg' it' ifs') (by simp) i hi
            cases gs with
            | nil =>
              have := cGs_nil hr
              subst this
              exact ⟨_, fun σ H Q q => lc_run hft sl0 q, pe_lc G.calm G.nd (i2 _ _ _ _ ht hft) ok (gT' m tg tg' ht) tests eltOk (i1 X.env), fun i y py spos sw hy hl => ps_setLc G.calm G.nd hy hl sw (i2 _ _ _ _ ht hft) ok (gT' m tg tg' ht) tests eltOk (i1 X.env)⟩
            | cons g gs =>
              obtain ⟨m2, tg1', it1', ifs1', gs3, rfl, ht1, hi1, hf1, hr1, ha1, hl1, hft1, rfl⟩ := cGs_cons hr
              obtain ⟨tg1, it1, ifs1, a1⟩ := g
              have ha1 : a1 = 0 := ha1
              subst ha1
              cases gs with
              | cons g gs =>
                obtain ⟨_, _, _, _, _, _, _, _, _, _, _, _, _, rfl⟩ := cGs_cons hr1
                simp at hlen
              | nil =>
                have := cGs_nil hr1
                subst this
                have hm2 : m2 ≤ m2 + 1 + 1 := by omega
                have tests1 : ∀ (s : Shared) (H : Hp) (Ca : Addr) (cl : List (Str × Addr)) (fp : List Addr), PTs (X.blk s H scope (compEnvC scope cl Ca X.env) fp) ifs1 (tTs Γ F WF ifs1') := fun s H Ca cl fp => snd_tests (((blk m2 hm2 s H Ca cl fp).2.1 ifs1 ifs1' hf1).imp fun _ _ z => z.pp) hl1
                have it1Ok : ∀ (s : Shared) (H : Hp) (Ca : Addr) (cl : List (Str × Addr)) (fp : List Addr), PI (X.blk s H scope (compEnvC scope cl Ca X.env) fp) tg1 it1 (tI X.K Γ F WF it1') := fun s H Ca cl fp => ((blk m2 hm2 s H Ca cl fp).2.2.2 it1 it1' hi1).2 _ _ _ _ ht1 hft1
                have fold1 := cI_fold hi1
                have hv : ∀ i ∈ [Gn.mk tg1' it1' ifs1'].flatMap slotsG, i ∈ own.map (·.2) := fun i hi => hsl (.mk tg1' it1' ifs1') (by simp) i (by simpa using hi)
                exact ⟨_, fun σ H Q q => lc_run2 hft sl0 hft1 q, pe_lc2 G.calm G.nd (i2 _ _ _ _ ht hft) ok hv (gT' (m2 + 1) tg tg' ht) tests it1Ok (gT' m2 tg1 tg1' ht1) tests1 eltOk (i1 X.env) fold1, fun i y py spos sw hy hl => ps_setLc2 G.calm G.nd hy hl sw (i2 _ _ _ _ ht hft) ok hv (gT' (m2 + 1) tg tg' ht) tests it1Ok (gT' m2 tg1 tg1' ht1) tests1 eltOk (i1 X.env) fold1⟩
        refine ⟨fun d => ?_, rfl, rfl⟩
        cases d with
        | zero => exact main 0
        | succ d =>
          obtain ⟨t, h1, h2⟩ := main d
          exact ⟨t, fun σ H Q q => h1 σ H Q (cell_run rfl q), h2⟩
      · cases h
    · cases h
  · cases h
theorem step_it (G : Good X Γ F C W k) (hs : X.env.scope.names = sc) (ih : ∀ e e', cE C n sc e = some e' → OkE X Γ F W e e') (ih2 : ∀ es es', cEs C n sc es = some es' → All2 (OkE X Γ F W) es es')
    {it : Expr} {it' : Itr} (h : cI C (n + 1) sc it = some it') {own : List (Str × NameKind)} {m : Nat} {tg : Expr} {tg' : Tg} (ht : tgE C.N own m tg = some tg') (hf : tgFit (itKind it') tg' = true) : PI X tg it (tI X.K Γ F W it') := by
  have valCase : (cE C n sc it).map Itr.val = some it' → PI X tg it (tI X.K Γ F W it') := fun h => by
    obtain ⟨e', h1, rfl⟩ := Option.map_eq_some_iff.mp h
    exact snd_val ((ih _ _ h1).e 0)
  cases it with
  | Call fn es kw pos =>
    cases fn with
    | Name x p =>
      cases kw with
      | cons _ _ => exact valCase h
      | nil =>
        have e1 : cI C (n + 1) sc (.Call (.Name x p) es [] pos) = (if isGl sc x && x == ("range" : Str) then (if es.length ≤ 3 then (cEs C n sc es).map .rng else none)
          else if isGl sc x && x == ("enumerate" : Str) then (match es with
            | [a0] => (match zipArgs sc a0 with
              | some (a, b) => (match cE C n sc a, cE C n sc b with
                | some a, some b => some (.enzip a b)
                | _, _ => none)
              | none => (cE C n sc a0).map .enum)
            | _ => none)
          else if isGl sc x && x == ("zip" : Str) then (match es with
            | [a, b] => match cE C n sc a, cE C n sc b with
              | some a, some b => some (.zip a b)
              | _, _ => none
            | _ => none)
          else (cE C n sc (.Call (.Name x p) es [] pos)).map .val) := rfl
        rw [e1] at h
        clear e1
        split at h
        · rename_i hc
          obtain ⟨hg, hx⟩ := Bool.and_eq_true_iff.mp hc
          have := eq_of_beq hx
          subst this
          have hg := (isGl_ok hs hg).2
          have hm := G.blt "range" (by decide)
          split at h
          · rename_i hl
            obtain ⟨es', h1, rfl⟩ := Option.map_eq_some_iff.mp h
            have a := (ih2 _ _ h1).imp fun _ _ z => OkE.pp z
            cases a with
            | nil => exact rng_nil
            | cons p1 r =>
              cases r with
              | nil => exact snd_rng1 hg hm p1
              | cons p2 r =>
                cases r with
                | nil => exact snd_rng2 hg hm p1 p2
                | cons p3 r =>
                  cases r with
                  | nil => exact snd_rng3 hg hm p1 p2 p3
                  | cons _ _ => simp at hl
          · cases h
        · split at h
          · rename_i hc
            obtain ⟨hg, hx⟩ := Bool.and_eq_true_iff.mp hc
            have := eq_of_beq hx
            subst this
            have hg := (isGl_ok hs hg).2
            have hm := G.blt "enumerate" (by decide)
            match es, h with
            | [a], h =>
              dsimp only at h
              split at h
              · rename_i a1 b1 hz
                obtain ⟨py, pz, rfl, hgz⟩ := zipArgs_ok hz
                have hgz := (isGl_ok hs hgz).2
                have hmz := G.blt "zip" (by decide)
                split at h
                · cases h
                  rename_i a' b' h1 h2
                  obtain ⟨tes, tk, tp, rfl⟩ := tg_tuple2 ht hf
                  exact snd_enzip hg hm hgz hmz (ih _ _ h1).pp (ih _ _ h2).pp
                · cases h
              · obtain ⟨e', h1, rfl⟩ := Option.map_eq_some_iff.mp h
                obtain ⟨tes, tk, tp, rfl⟩ := tg_tuple ht hf
                exact snd_enum hg hm (ih _ _ h1).pp
            | [], h => cases h
            | _ :: _ :: _, h => cases h
          · split at h
            · rename_i hc
              obtain ⟨hg, hx⟩ := Bool.and_eq_true_iff.mp hc
              have := eq_of_beq hx
              subst this
              have hg := (isGl_ok hs hg).2
              have hm := G.blt "zip" (by decide)
              match es, h with
              | [a, b], h =>
                dsimp only at h
                split at h
                · cases h
                  rename_i a' b' h1 h2
                  obtain ⟨tes, tk, tp, rfl⟩ := tg_tuple ht hf
                  exact snd_zip hg hm (ih _ _ h1).pp (ih _ _ h2).pp
                · cases h
              | [], h => cases h
              | [_], h => cases h
              | _ :: _ :: _ :: _, h => cases h
            · exact valCase h
    | _ => exact valCase h
  | _ => exact valCase h
end
theorem claim (Γ : Cst) (F : Fr) (C : Cc) (n : Nat) : Claim Γ F C n := by
  induction n using Nat.strongRecOn with
  | _ n ih =>
    cases n with
    | zero =>
      intro X W k G hsort sc hs
      refine ⟨fun _ _ h => ?_, fun _ _ h => ?_, fun _ _ h => ?_, fun _ _ h => ?_⟩ <;> cases h
    | succ n =>
      intro X W k G hsort sc hs
      obtain ⟨i1, i2, i3, i4⟩ := ih n (by omega) X W k G hsort sc hs
      refine ⟨fun e e' h => ?_, fun es es' h => ?_, fun o o' h => ?_, fun it it' h => ⟨cI_fold h, fun own m tg tg' ht hf => step_it G hs i1 i2 h ht hf⟩⟩
      · cases e with
        | Name x pos => exact step_name G hs h
        | Constant c j pos => exact step_const h
        | Tuple es j pos => exact step_tup i2 h
        | List es pos => exact step_lst i2 h
        | BinOp a o b pos => exact step_bin i1 h
        | UnaryOp o a pos => exact step_un i1 h
        | BoolOp o es pos => exact step_bool i2 h
        | Compare a os bs pos => exact step_cmp G i1 h
        | IfExp c a b pos => exact step_ite i1 h
        | Subscript a b pos => exact step_sub G i1 i3 h
        | Dict ks vs pos => exact step_dict G i1 h
        | ListComp elt gs scope pos => exact (lc_ok G hsort hs (fun m hm => ih m (by omega)) h).ok
        | Call f es kw pos =>
          cases kw with
          | cons _ _ => cases f <;> cases h
          | nil =>
            cases f with
            | Name x p => exact step_call G hsort hs i1 i2 h
            | Attribute o m ap => exact step_meth i1 i2 h
            | Subscript a i p => exact step_callE G i1 i2 h
            | _ => cases h
        | _ => cases h
      · cases es with
        | nil => cases h; exact .nil
        | cons e es =>
          have h : (match cE C n sc e, cEs C n sc es with
            | some e, some es => some (e :: es)
            | _, _ => none) = some es' := h
          split at h
          · cases h
            rename_i e1 es1 h1 h2
            exact .cons (i1 _ _ h1) (i2 _ _ h2)
          · cases h
      · cases o with
        | none => cases h; exact snd_none
        | some e =>
          obtain ⟨e', h1, rfl⟩ := Option.map_eq_some_iff.mp (show (cE C n sc e).map some = some o' from h)
          exact snd_some ((i1 _ _ h1).e 0)
end Ev

set_option Elab.async false
set_option linter.all false
set_option maxRecDepth 100000
set_option maxHeartbeats 8000000
/-! EvU: statements. -/
namespace Ev
open PySem PySem.Spec PyProof.Rows L2
/-- what an end asks -/
def FlowOk (Γ : Cst) (R : Addr → Prop) (D : Ends) (fl : Ev.Flow) (f : Nat → Addr) (h : Hh) (σ : L2.St) (H : Hp) : Prop := match fl with
  | .next => D.nx σ H
  | .brk => D.bk σ H
  | .cnt => D.ct σ H
  | .ret d => ∀ v, RD Γ.fa f h.length R H d v → D.rt v H
def PostS (Γ : Cst) (f : Nat → Addr) (n : Nat) (R : Addr → Prop) (B : Nat → Prop) (H : Hp) (len : Nat) (r : Res (Ev.Flow × Sl)) (D : Ends) (W : WX) : Prop := match r with
  | .ok q h' => ∀ f' H' σ', Ext f n R H f' h'.length H' → Sim Γ.fa f' R B h' H' → RSl Γ.fa f' h'.length R H' q.2 σ' → FlowOk Γ R D q.1 f' h' σ' H'
  | .exc c pl h' => ∀ f' H' σ', Ext f n R H f' h'.length H' → Sim Γ.fa f' R B h' H' → σ'.length = len → ∀ cls d, ER Γ c pl cls d f' R h' H' → W cls d σ' H'
  | .fail => False
/-- the store of a target -/
def PostA (Γ : Cst) (f : Nat → Addr) (n : Nat) (R : Addr → Prop) (B : Nat → Prop) (H : Hp) (len : Nat) (r : Res Sl) (Q : L2.St → Hp → Prop) (W : WX) : Prop := match r with
  | .ok ds' h' => ∀ f' H' σ', Ext f n R H f' h'.length H' → Sim Γ.fa f' R B h' H' → RSl Γ.fa f' h'.length R H' ds' σ' → Q σ' H'
  | .exc c pl h' => ∀ f' H' σ', Ext f n R H f' h'.length H' → Sim Γ.fa f' R B h' H' → σ'.length = len → ∀ cls d, ER Γ c pl cls d f' R h' H' → W cls d σ' H'
  | .fail => False
section
variable {Γ : Cst} {f f' : Nat → Addr} {n n' : Nat} {R : Addr → Prop} {B : Nat → Prop} {H H' : Hp} {len : Nat} {D D' : Ends} {W : WX} {Q : L2.St → Hp → Prop}
theorem PostS.mono {r : Res (Ev.Flow × Sl)} (e : Ext f n R H f' n' H') (p : PostS Γ f n R B H len r D W) : PostS Γ f' n' R B H' len r D W := by
  cases r with
  | ok q h' => exact fun f'' H'' σ' e' s r => p f'' H'' σ' (e.trans e') s r
  | exc c pl h' => exact fun f'' H'' σ' e' s l => p f'' H'' σ' (e.trans e') s l
  | fail => exact p
theorem PostA.mono {r : Res Sl} (e : Ext f n R H f' n' H') (p : PostA Γ f n R B H len r Q W) : PostA Γ f' n' R B H' len r Q W := by
  cases r with
  | ok q h' => exact fun f'' H'' σ' e' s r => p f'' H'' σ' (e.trans e') s r
  | exc c pl h' => exact fun f'' H'' σ' e' s l => p f'' H'' σ' (e.trans e') s l
  | fail => exact p
/-- an expression first -/
theorem PostS.bindE {α β : Type} {r : Res α} {k : α → Hh → Res (Ev.Flow × Sl)} {rel : (Nat → Addr) → Hh → Hp → α → β → Prop} {Q : β → Hp → Prop} {σ : L2.St} (hl : σ.length = len) (p : PostS Γ f n R B H len (r.bind k) D W)
    (hs : ∀ a h1 f1 H1 b, r = .ok a h1 → Ext f n R H f1 h1.length H1 → Sim Γ.fa f1 R B h1 H1 → rel f1 h1 H1 a b → PostS Γ f1 h1.length R B H1 len (k a h1) D W → Q b H1) : Post Γ.fa f n R B H r rel Q (exW Γ R W σ) := by
  cases r with
  | ok a h1 => exact fun f1 H1 b e s q => hs a h1 f1 H1 b rfl e s q (PostS.mono e p)
  | exc c pl h' => exact fun f' H' e s cls d er => p f' H' σ e s hl cls d er
  | fail => exact p
theorem PostA.bindE {α β : Type} {r : Res α} {k : α → Hh → Res Sl} {rel : (Nat → Addr) → Hh → Hp → α → β → Prop} {Q2 : β → Hp → Prop} {σ : L2.St} (hl : σ.length = len) (p : PostA Γ f n R B H len (r.bind k) Q W)
    (hs : ∀ a h1 f1 H1 b, r = .ok a h1 → Ext f n R H f1 h1.length H1 → Sim Γ.fa f1 R B h1 H1 → rel f1 h1 H1 a b → PostA Γ f1 h1.length R B H1 len (k a h1) Q W → Q2 b H1) : Post Γ.fa f n R B H r rel Q2 (exW Γ R W σ) := by
  cases r with
  | ok a h1 => exact fun f1 H1 b e s q => hs a h1 f1 H1 b rfl e s q (PostA.mono e p)
  | exc c pl h' => exact fun f' H' e s cls d er => p f' H' σ e s hl cls d er
  | fail => exact p
end
def tS (Γ : Cst) (F : Fr) (W : WX) (s : Sm) : TS := fun D σ H => ∃ R B f h ds, Pnt Γ F R B f h ds σ H ∧ PostS Γ f h.length R B H σ.length (evS F s ds h) D W
def tBl (Γ : Cst) (F : Fr) (W : WX) (b : List Sm) : TS := fun D σ H => ∃ R B f h ds, Pnt Γ F R B f h ds σ H ∧ PostS Γ f h.length R B H σ.length (evB F b ds h) D W
def gA (Γ : Cst) (F : Fr) (W : WX) (t : At) : TG := fun v σ H Q => ∃ R B f h ds d, Pnt Γ F R B f h ds σ H ∧ RD Γ.fa f h.length R H d v ∧ PostA Γ f h.length R B H σ.length (asgE F t d ds h) Q W
def gAs (Γ : Cst) (F : Fr) (W : WX) (ts : List At) : TGs := fun vs σ H Q => ∃ R B f h ds xs, Pnt Γ F R B f h ds σ H ∧ RDs Γ.fa f h.length R H xs vs ∧ PostA Γ f h.length R B H σ.length (asgEs F ts xs ds h) Q W
theorem imS {X : Cx} {s : Stmt} {t t' : TS} (h : PS X s t) (k : ∀ D σ H, t' D σ H → t D σ H) : PS X s t' := ⟨fun pins s σ H D I q => h.run pins s σ H D I (k _ _ _ q)⟩
theorem imB {X : Cx} {s : List Stmt} {t t' : TS} (h : PSs X s t) (k : ∀ D σ H, t' D σ H → t D σ H) : PSs X s t' := ⟨fun pins s σ H D I q => h.run pins s σ H D I (k _ _ _ q)⟩
theorem imG {X : Cx} {e : Expr} {t t' : TG} (h : PG X e t) (k : ∀ v σ H Q, t' v σ H Q → t v σ H Q) : PG X e t' := ⟨fun pins s σ H v u Q I r q => h.run pins s σ H v u Q I r (k _ _ _ _ q)⟩
theorem imGs {X : Cx} {e : List Expr} {t t' : TGs} (h : PGs X e t) (k : ∀ v σ H Q, t' v σ H Q → t v σ H Q) : PGs X e t' := ⟨fun pins s σ H v u Q I r q => h.run pins s σ H v u Q I r (k _ _ _ _ q)⟩
section
variable {X : Cx} {Γ : Cst} {F : Fr} {W : WX} {R : Addr → Prop} {B : Nat → Prop} {f : Nat → Addr} {h : Hh} {ds : Sl} {σ : L2.St} {H : Hp} {len : Nat}
/-- an expression first, in a statement -/
theorem mkS {e : Ex} {k : D → Hh → Res (Ev.Flow × Sl)} {Dn : Ends} {Q : VK} (A : Pnt Γ F R B f h ds σ H) (p : PostS Γ f h.length R B H σ.length ((evE F e ds h).bind k) Dn W)
    (hs : ∀ d v f1 h1 H1, Ext f h.length R H f1 h1.length H1 → Pnt Γ F R B f1 h1 ds σ H1 → RD Γ.fa f1 h1.length R H1 d v → (fresh e = true → Fre Γ.fa f1 R B h1 H H1 d v) → PostS Γ f1 h1.length R B H1 σ.length (k d h1) Dn W → Q v H1) :
    tE Γ F W e σ H Q := ⟨R, B, f, h, ds, A, p.bindE rfl fun a h1 f1 H1 b _ x s r q => hs a b f1 h1 H1 x (A.go x s) r.1 r.2 q⟩
theorem mkSA {es : List Ex} {k : List D → Hh → Res (Ev.Flow × Sl)} {Dn : Ends} {Q : List V → Hp → Prop} (A : Pnt Γ F R B f h ds σ H) (p : PostS Γ f h.length R B H σ.length ((evEs F es ds h).bind k) Dn W)
    (hs : ∀ d v f1 h1 H1, d.length = es.length → Ext f h.length R H f1 h1.length H1 → Pnt Γ F R B f1 h1 ds σ H1 → RDs Γ.fa f1 h1.length R H1 d v → PostS Γ f1 h1.length R B H1 σ.length (k d h1) Dn W → Q v H1) :
    tA Γ F W es σ H Q := ⟨R, B, f, h, ds, A, p.bindE rfl fun a h1 f1 H1 b e x s r q => hs a b f1 h1 H1 (evEs_len e) x (A.go x s) r q⟩
theorem mkG {e : Ex} {k : D → Hh → Res Sl} {Q2 : L2.St → Hp → Prop} {Q : VK} (A : Pnt Γ F R B f h ds σ H) (p : PostA Γ f h.length R B H σ.length ((evE F e ds h).bind k) Q2 W)
    (hs : ∀ d v f1 h1 H1, Ext f h.length R H f1 h1.length H1 → Pnt Γ F R B f1 h1 ds σ H1 → RD Γ.fa f1 h1.length R H1 d v → PostA Γ f1 h1.length R B H1 σ.length (k d h1) Q2 W → Q v H1) :
    tE Γ F W e σ H Q := ⟨R, B, f, h, ds, A, p.bindE rfl fun a h1 f1 H1 b _ x s r q => hs a b f1 h1 H1 x (A.go x s) r.1 q⟩
/-- a test first -/
theorem mkST {e : Ex} {k : D → Hh → Res (Ev.Flow × Sl)} {k2 : Bool → Hh → Res (Ev.Flow × Sl)} {Dn : Ends} {Q : Bool → Hp → Prop} (A : Pnt Γ F R B f h ds σ H) (p : PostS Γ f h.length R B H σ.length ((evE F e ds h).bind k) Dn W)
    (hk : ∀ d h, k d h = (Res.of (truD h d) h).bind k2)
    (hs : ∀ c f1 h1 H1, Ext f h.length R H f1 h1.length H1 → Pnt Γ F R B f1 h1 ds σ H1 → PostS Γ f1 h1.length R B H1 σ.length (k2 c h1) Dn W → Q c H1) :
    tT Γ F W e σ H Q := by
  have e1 : (evE F e ds h).bind k = ((evE F e ds h).bind fun d h => Res.of (truD h d) h).bind k2 := by
    cases evE F e ds h with
    | ok a h1 => exact hk a h1
    | exc _ _ _ => rfl
    | fail => rfl
  rw [e1] at p
  exact ⟨R, B, f, h, ds, A, p.bindE rfl fun a h1 f1 H1 b _ x s r q => by cases r; exact hs a f1 h1 H1 x (A.go x s) q⟩
/-! ### stores -/
mutual
theorem asg_len {F : Fr} : ∀ {t : At} {d : D} {ds ds1 : Sl} {h h1 : Hh}, asgE F t d ds h = .ok ds1 h1 → ds1.length = ds.length
  | .name i, d, ds, ds1, h, h1, e => by
    have e : (if i < ds.length then Res.ok (ds.set i (some d)) h else .fail) = .ok ds1 h1 := e
    split at e
    · cases e; simp
    · cases e
  | .sub o i, d, ds, ds1, h, h1, e => by
    obtain ⟨x, h2, e1, e⟩ := ok_bind (show (evE F o ds h).bind _ = .ok ds1 h1 from e)
    obtain ⟨y, h3, e2, e⟩ := ok_bind e
    split at e
    · cases e; rfl
    · cases e
  | .whole o, d, ds, ds1, h, h1, e => by
    obtain ⟨x, h2, e1, e⟩ := ok_bind (show (evE F o ds h).bind _ = .ok ds1 h1 from e)
    split at e
    · split at e
      · split at e
        · cases e; rfl
        · cases e
      · cases e
    · cases e
  | .tup ts, d, ds, ds1, h, h1, e => by
    cases d with
    | tup xs =>
      have e : (if ts.length = xs.length then asgEs F ts xs ds h else .fail) = .ok ds1 h1 := e
      split at e
      · exact asgs_len (ts := ts) (xs := xs) e
      · cases e
    | _ => cases e
theorem asgs_len {F : Fr} : ∀ {ts : List At} {xs : List D} {ds ds1 : Sl} {h h1 : Hh}, asgEs F ts xs ds h = .ok ds1 h1 → ds1.length = ds.length
  | [], [], _, _, _, _, e => by cases e; rfl
  | [], _ :: _, _, _, _, _, e => by cases e
  | _ :: _, [], _, _, _, _, e => by cases e
  | t :: ts, x :: xs, ds, ds1, h, h1, e => by
    obtain ⟨ds2, h2, e1, e2⟩ := ok_bind (show (asgE F t x ds h).bind (fun s h => asgEs F ts xs s h) = .ok ds1 h1 from e)
    rw [asgs_len e2, asg_len e1]
end
theorem asg_name {i : Nat} {x : Str} {pos : Pos} {own : List (Str × NameKind)} (hN : X.N.Nodup) (ho : OkT X own) (hx : isOwn own x = true) (hi : X.N[i]? = some x) : PG X (.Name x pos) (gA Γ F W (.name i)) :=
  imG (pg_name hN hi (ho x hx).1 (ho x hx).2) fun v σ H Q ⟨R, B, f, h, ds, d, A, r, p⟩ => by
    have p : PostA Γ f h.length R B H σ.length (if i < ds.length then .ok (ds.set i (some d)) h else .fail) Q W := p
    split at p
    · exact p f H _ .refl A.sim (A.sl.set i r)
    · exact p.elim
theorem sub_eq {o i : Expr} {pos : Pos} {env : Env} (hn : nice i = true) (v : Value) : assign (.Subscript o i pos) env v = (do
      let ov ← holding [v] (eval o env)
      let iv ← holding [v, ov] (eval i env)
      standAt pos
      holding [v, ov, iv] (setItem ov iv v)
      release [v, ov, iv] []) := by cases i <;> first | rfl | cases hn
theorem rLts_put {b : Nat} {ks vs : List D} {k v : D} (h1 : rLts b ks) (h2 : rLts b vs) (hk : rLt b k) (hv : rLt b v) : rLts b (putD ks vs k v).1 ∧ rLts b (putD ks vs k v).2 := by
  unfold putD
  cases idxD k ks with
  | some i =>
    refine ⟨h1, rLts_of fun y hy => ?_⟩
    rcases List.mem_or_eq_of_mem_set hy with hy | rfl
    · exact rLts_mem h2 hy
    · exact hv
  | none =>
    refine ⟨rLts_of fun y hy => ?_, rLts_of fun y hy => ?_⟩
    · rcases List.mem_append.mp hy with hy | hy
      · exact rLts_mem h1 hy
      · simp at hy; subst hy; exact hk
    · rcases List.mem_append.mp hy with hy | hy
      · exact rLts_mem h2 hy
      · simp at hy; subst hy; exact hv
/-- a store by values: a list's place, a dict's key -/
def rSetA (fa : FA) : TSet := fun o i v H Q => rSetL o i v H Q ∨ rSetDc fa o i v H Q
/-- what is stored, where -/
theorem set_run {R : Addr → Prop} {B : Nat → Prop} {f2 : Nat → Addr} {h2 h3 : Hh} {ds : Sl} {σ : L2.St} {H2 : Hp} {x z d : D} {y w v : V} {Q : Hp → Prop} (A2 : Pnt Γ F R B f2 h2 ds σ H2) (r4 : RD Γ.fa f2 h2.length R H2 x y) (r2 : RD Γ.fa f2 h2.length R H2 z w) (r3 : RD Γ.fa f2 h2.length R H2 d v) (hz : setOp F.base h2 x z d = some h3)
    (q : ∀ H', Ext f2 h2.length R H2 f2 h3.length H' → Sim Γ.fa f2 R B h3 H' → Q H') : rSetA Γ.fa y w v H2 Q := by
  unfold setOp at hz
  split at hz
  · rename_i k
    split at hz
    · rename_i hst
      obtain ⟨rfl, hk⟩ := ref_get r4
      cases hy : h2[k]? with
      | none => rw [hy] at hz; cases hz
      | some c0 =>
        rw [hy] at hz
        cases c0 with
        | lst ys =>
          cases z with
          | int j =>
            obtain ⟨m, hm, rfl⟩ := Option.map_eq_some_iff.mp hz
            obtain ⟨ws, e2, t⟩ := A2.sim.get hy
            refine .inl ⟨f2 k, ws, j, m, rfl, rd_int r2, e2, by rw [← t.length]; exact hm, ?_⟩
            have sm := A2.sim.store hk (t.set m r3) fun b hb hkb => by
              have o := A2.sim.own b hb k _ hkb hy
              exact rLts_of fun y hy => by
                rcases List.mem_or_eq_of_mem_set hy with hy | hy
                · exact rLts_mem o hy
                · rw [hy]; exact stOk_own hst A2.bb b hb hkb
            exact q _ (A2.sim.storeExt hk) sm
          | _ => cases hz
        | dct ks vs =>
          have hz : (if (kdOk ks z && decide (ks.length < 100000) && under 0 30 z) = true then some (h2.set k (.dct (putD ks vs z d).1 (putD ks vs z d).2)) else none) = some h3 := hz
          split at hz
          · rename_i hcnd
            cases hz
            simp only [Bool.and_eq_true, decide_eq_true_eq] at hcnd
            obtain ⟨⟨c1, c2⟩, c3⟩ := hcnd
            obtain ⟨kd, us, ws, e2, t, t'⟩ := A2.sim.cell _ _ hy
            refine .inr ⟨f2 k, f2, h2.length, R, ks, vs, us, ws, z, d, rfl, e2, kd, t, t', r2, c1, c2, ?_⟩
            obtain ⟨p1, p2⟩ := rds_put t t' r2 r3
            have sm := A2.sim.storeD hk (keys_put (vs := vs) kd c1 d) p1 p2 fun b hb hkb => by
              have o := A2.sim.own b hb k _ hkb hy
              exact rLts_put o.1 o.2 (under_lt 30 b z c3) (stOk_own hst A2.bb b hb hkb)
            exact q _ (A2.sim.storeExt hk) sm
          · cases hz
    · cases hz
  · cases hz
theorem asg_sub {o i : Expr} {o' i' : Ex} {pos : Pos} (hu : X.A.units + 20 < cLine) (ho : PE X o (tE Γ F W o')) (hi : PE X i (tE Γ F W i')) (hn : nice i = true) : PG X (.Subscript o i pos) (gA Γ F W (.sub o' i')) :=
  imG (pg_sub ho hi (Ev.PSet.or set_list (set_dict (fa := Γ.fa) hu)) (sub_eq hn)) fun v σ H Q ⟨R, B, f, h, ds, d, A, r, p⟩ => mkG A p fun x y f1 h1 H1 x1 A1 r1 p1 => mkG A1 p1 fun z w f2 h2 H2 x2 A2 r2 p2 => by
    have r3 := (r.ext x1).ext x2
    have r4 := r1.ext x2
    cases hz : setOp F.base h2 x z d with
    | none => rw [hz] at p2; exact p2.elim
    | some h3 =>
      rw [hz] at p2
      exact set_run A2 r4 r2 r3 hz fun H' e s => p2 f2 _ σ e s (A2.sl.ext e)
theorem asgs_cons {e : Expr} {es : List Expr} {t : At} {ts : List At} (h1 : PG X e (gA Γ F W t)) (h2 : PGs X es (gAs Γ F W ts)) (hp : plainT e = true) : PGs X (e :: es) (gAs Γ F W (t :: ts)) :=
  imGs (pgs_cons h1 h2 (by rw [each_cons hp]; rfl)) fun vs σ H Q ⟨R, B, f, h, ds, xs, A, r, p⟩ => by
    match xs, vs, r, p with
    | [], _, _, p => exact p.elim
    | d :: xs, v :: vs, .cons r1 rr, p =>
      refine ⟨_, _, rfl, R, B, f, h, ds, d, A, r1, ?_⟩
      have p : PostA Γ f h.length R B H σ.length ((asgE F t d ds h).bind fun s h => asgEs F ts xs s h) Q W := p
      cases hq : asgE F t d ds h with
      | ok ds1 h1 =>
        rw [hq] at p
        intro f1 H1 σ1 x1 s1 sl1
        have hl : σ1.length = σ.length := by
          have e1 := asg_len hq
          rw [← sl1.len, e1, A.sl.len]
        exact ⟨R, B, f1, h1, ds1, xs, ⟨s1, A.bb, Nat.le_trans A.bl x1.le, sl1⟩, rr.ext x1, by rw [hl]; exact PostA.mono x1 p⟩
      | exc c pl h1 => rw [hq] at p; exact p
      | fail => rw [hq] at p; exact p
theorem asgs_nil : PGs X [] (gAs Γ F W []) :=
  imGs pgs_nil fun vs σ H Q ⟨R, B, f, h, ds, xs, A, r, p⟩ => by
    match xs, vs, r, p with
    | [], [], .nil, p => exact ⟨rfl, p f H σ .refl A.sim A.sl⟩
    | _ :: _, _, _, p => exact p.elim
theorem asg_tup {es : List Expr} {k : Nat} {pos : Pos} {ts : List At} (hc : X.calm = true) (h : PGs X es (gAs Γ F W ts)) (hl : es.length = ts.length) (hp : ∀ e ∈ es, plainT e = true) : PG X (.Tuple es k pos) (gA Γ F W (.tup ts)) :=
  imG (pg_tup (n := es.length) hc h (each_len hp).1 (each_len hp).2) fun v σ H Q ⟨R, B, f, h, ds, d, A, r, p⟩ => by
    cases d with
    | tup xs =>
      have p : PostA Γ f h.length R B H σ.length (if ts.length = xs.length then asgEs F ts xs ds h else .fail) Q W := p
      split at p
      · rename_i hx
        obtain ⟨a, vs, rfl, e, t⟩ := rd_tup r
        exact ⟨a, vs, rfl, e.sq, by rw [← t.length, ← hx, hl], R, B, f, h, ds, xs, A, t, p⟩
      · exact p.elim
    | _ => exact p.elim
theorem cAt_ok {C : Cc} {k : Nat} (G : Good X Γ F C W k) (hsort : SortOk Γ) {sc : List (Str × NameKind)} (hs : X.env.scope.names = sc) (ho : OkT X sc) : ∀ n, (∀ t t', cAt C sc n t = some t' → PG X t (gA Γ F W t') ∧ plainT t = true) ∧ (∀ ts ts', cAts C sc n ts = some ts' → PGs X ts (gAs Γ F W ts') ∧ ts.length = ts'.length ∧ ∀ e ∈ ts, plainT e = true)
  | 0 => ⟨(fun _ _ h => nomatch h), (fun _ _ h => nomatch h)⟩
  | n + 1 => by
    obtain ⟨i1, i2⟩ := cAt_ok G hsort hs ho n
    obtain ⟨c1, _, _, _⟩ := claim Γ F C n X W k G hsort sc hs
    refine ⟨fun t t' h => ?_, fun ts ts' h => ?_⟩
    · cases t with
      | Name x pos =>
        have h : (if isOwn sc x = true then (slotOf C.N x).map At.name else none) = some t' := h
        split at h
        · rename_i hx
          obtain ⟨i, h1, rfl⟩ := Option.map_eq_some_iff.mp h
          exact ⟨asg_name G.nd ho hx (by rw [G.N]; exact slotOf_ok h1), rfl⟩
        · cases h
      | Subscript o i pos =>
        have h : (match skOf i with
          | .plain => (match cE C n sc o, cE C n sc i with
            | some o, some i => some (At.sub o i)
            | _, _ => none)
          | _ => none) = some t' := h
        split at h
        · split at h
          · cases h
            rename_i o' i' h1 h2
            exact ⟨asg_sub (by have := G.un; omega) ((c1 _ _ h1).e 0) ((c1 _ _ h2).e 0) (c1 _ _ h2).n, rfl⟩
          · cases h
        · cases h
      | Tuple es j pos =>
        obtain ⟨ts, h1, rfl⟩ := Option.map_eq_some_iff.mp (show (cAts C sc n es).map At.tup = some t' from h)
        obtain ⟨g, l, p⟩ := i2 es ts h1
        exact ⟨asg_tup G.calm g l p, rfl⟩
      | _ => cases h
    · cases ts with
      | nil => cases h; exact ⟨asgs_nil, rfl, fun _ h => by cases h⟩
      | cons t ts =>
        have h : (match cAt C sc n t, cAts C sc n ts with
          | some t, some ts => some (t :: ts)
          | _, _ => none) = some ts' := h
        split at h
        · cases h
          rename_i t1 ts1 h1 h2
          obtain ⟨g1, p1⟩ := i1 _ _ h1
          obtain ⟨g2, l2, p2⟩ := i2 _ _ h2
          refine ⟨asgs_cons g1 g2 p1, by simp [l2], fun x hx => ?_⟩
          rcases List.mem_cons.mp hx with rfl | hx
          · exact p1
          · exact p2 x hx
        · cases h
end
end Ev

set_option Elab.async false
set_option linter.all false
set_option maxRecDepth 100000
set_option maxHeartbeats 8000000
/-! EvV: statements, rules. -/
namespace Ev
open PySem PySem.Spec PyProof.Rows L2
mutual
theorem bindT_len : ∀ {t : Tg} {d : D} {ds ds1 : Sl}, bindT t d ds = some ds1 → ds1.length = ds.length
  | .one i, d, ds, ds1, e => by
    have e : (if i < ds.length then some (ds.set i (some d)) else none) = some ds1 := e
    split at e
    · cases e; simp
    · cases e
  | .many ts, d, ds, ds1, e => by
    cases d with
    | tup xs => exact bindTs_len (ts := ts) (xs := xs) e
    | _ => cases e
theorem bindTs_len : ∀ {ts : List Tg} {xs : List D} {ds ds1 : Sl}, bindTs ts xs ds = some ds1 → ds1.length = ds.length
  | [], [], _, _, e => by cases e; rfl
  | [], _ :: _, _, _, e => by cases e
  | _ :: _, [], _, _, e => by cases e
  | t :: ts, x :: xs, ds, ds1, e => by
    obtain ⟨ds2, e1, e2⟩ := Option.bind_eq_some_iff.mp (show (bindT t x ds).bind (bindTs ts xs) = some ds1 from e)
    rw [bindTs_len e2, bindT_len e1]
end
theorem forL_len {T : D → Sl → Hh → Res (Ev.Flow × Sl)} (hT : ∀ x ds h q h1, T x ds h = .ok q h1 → q.2.length = ds.length) : ∀ (xs : List D) {ds : Sl} {h h1 : Hh} {q : Ev.Flow × Sl}, forL T xs ds h = .ok q h1 → q.2.length = ds.length
  | [], _, _, _, _, e => by cases e; rfl
  | x :: xs, ds, h, h1, q, e => by
    obtain ⟨r, h2, e1, e2⟩ := ok_bind (show (T x ds h).bind _ = .ok q h1 from e)
    have l := hT _ _ _ _ _ e1
    split at e2
    · rw [forL_len hT xs e2, l]
    · rw [forL_len hT xs e2, l]
    · cases e2; exact l
    · cases e2; exact l
theorem forC_len {T : D → Sl → Hh → Res (Ev.Flow × Sl)} (hT : ∀ x ds h q h1, T x ds h = .ok q h1 → q.2.length = ds.length) (en : Bool) (n : Nat) : ∀ (m i : Nat) {ds : Sl} {h h1 : Hh} {q : Ev.Flow × Sl}, forC T en n m i ds h = .ok q h1 → q.2.length = ds.length
  | 0, i, ds, h, h1, q, e => by
    unfold forC at e
    split at e
    · split at e
      · cases e; rfl
      · cases e
    · cases e
  | m + 1, i, ds, h, h1, q, e => by
    unfold forC at e
    split at e
    · split at e
      · cases e; rfl
      · obtain ⟨r, h2, e1, e2⟩ := ok_bind e
        have l := hT _ _ _ _ _ e1
        split at e2
        · rw [forC_len hT en n m _ e2, l]
        · rw [forC_len hT en n m _ e2, l]
        · cases e2; exact l
        · cases e2; exact l
    · cases e
theorem whilL_len {c : Sl → Hh → Res Bool} {T : Sl → Hh → Res (Ev.Flow × Sl)} (hT : ∀ ds h q h1, T ds h = .ok q h1 → q.2.length = ds.length) : ∀ (m : Nat) {ds : Sl} {h h1 : Hh} {q : Ev.Flow × Sl}, whilL c T m ds h = .ok q h1 → q.2.length = ds.length
  | 0, _, _, _, _, e => by cases e
  | m + 1, ds, h, h1, q, e => by
    obtain ⟨b, h2, e1, e2⟩ := ok_bind (show (c ds h).bind _ = .ok q h1 from e)
    split at e2
    · obtain ⟨r, h3, e3, e4⟩ := ok_bind e2
      have l := hT _ _ _ _ e3
      split at e4
      · rw [whilL_len hT m e4, l]
      · rw [whilL_len hT m e4, l]
      · cases e4; exact l
      · cases e4; exact l
    · cases e2; rfl
theorem hdl_len {isa : Str → Str → Bool} {val : Str → Bool} {c : Str} {pl : List D} {ds : Sl} {h h1 : Hh} {q : Ev.Flow × Sl} : ∀ {hs : List Hd}, hdl isa val c pl ds h hs = .ok q h1 → q.2.length = ds.length
  | [], e => by cases e
  | x :: r, e => by
    unfold hdl at e
    split at e
    · split at e
      · cases e
      · split at e
        · split at e
          · cases e; simp
          · cases e
        · cases e
    · exact hdl_len e
mutual
theorem evS_len {F : Fr} : ∀ (s : Sm) {ds : Sl} {h h1 : Hh} {q : Ev.Flow × Sl}, evS F s ds h = .ok q h1 → q.2.length = ds.length
  | .asg t e, ds, h, h1, q, e0 => by
    obtain ⟨d, h2, _, e2⟩ := ok_bind (show (evE F e ds h).bind _ = .ok q h1 from e0)
    obtain ⟨s, h3, e3, e4⟩ := ok_bind e2
    cases e4
    exact asg_len e3
  | .par ts es, ds, h, h1, q, e0 => by
    obtain ⟨d, h2, _, e2⟩ := ok_bind (show (evEs F es ds h).bind _ = .ok q h1 from e0)
    obtain ⟨s, h3, e3, e4⟩ := ok_bind e2
    cases e4
    exact asgs_len e3
  | .aug i o e, ds, h, h1, q, e0 => by
    obtain ⟨x, h2, _, e2⟩ := ok_bind (show (Res.of (ds[i]?.join) h).bind _ = .ok q h1 from e0)
    obtain ⟨y, h3, e3, e4⟩ := ok_bind e2
    obtain ⟨z, h4, e5, e6⟩ := ok_bind e4
    cases e6
    simp
  | .expr e, ds, h, h1, q, e0 => by
    obtain ⟨d, h2, _, e2⟩ := ok_bind (show (evE F e ds h).bind _ = .ok q h1 from e0)
    cases e2; rfl
  | .ret e, ds, h, h1, q, e0 => by
    obtain ⟨d, h2, _, e2⟩ := ok_bind (show (evE F e ds h).bind _ = .ok q h1 from e0)
    cases e2; rfl
  | .retN, _, _, _, _, e0 => by cases e0; rfl
  | .ife c a b, ds, h, h1, q, e0 => by
    obtain ⟨d, h2, _, e2⟩ := ok_bind (show (evE F c ds h).bind _ = .ok q h1 from e0)
    split at e2
    · exact evB_len a e2
    · exact evB_len b e2
    · cases e2
  | .forr tg it b, ds, h, h1, q, e0 => by
    obtain ⟨s, h2, _, e2⟩ := ok_bind (show (evI F it ds h).bind _ = .ok q h1 from e0)
    have hT : ∀ x (ds : Sl) h q h1, ((Res.of (bindT tg x ds) h).bind fun σ h => evB F b σ h) = .ok q h1 → q.2.length = ds.length := fun x ds h q h1 e => by
      obtain ⟨s, h3, e3, e4⟩ := ok_bind e
      rw [evB_len b e4, bindT_len (ok_of e3).1]
    split at e2
    · exact forL_len hT _ e2
    · exact forC_len hT _ _ _ _ e2
  | .whil c b, ds, h, h1, q, e0 => whilL_len (fun ds h q h1 e => evB_len b e) _ e0
  | .brk, _, _, _, _, e0 => by cases e0; rfl
  | .cnt, _, _, _, _, e0 => by cases e0; rfl
  | .pass, _, _, _, _, e0 => by cases e0; rfl
  | .rais c es, ds, h, h1, q, e0 => by
    obtain ⟨d, h2, _, e2⟩ := ok_bind (show (evEs F es ds h).bind _ = .ok q h1 from e0)
    cases e2
  | .trys b hs, ds, h, h1, q, e0 => by
    have e0 : (match evB F b ds h with
      | .ok r h => Res.ok r h
      | .exc c pl h => hdl (fun a b => a == b) (fun _ => true) c pl (List.replicate ds.length none) h hs
      | .fail => .fail) = .ok q h1 := e0
    split at e0
    · cases e0
      rename_i he
      exact evB_len b he
    · rw [hdl_len e0]; simp
    · cases e0
  | .bad, _, _, _, _, e0 => by cases e0
  | .augs o i op e, ds, h, h1, q, e0 => by
    obtain ⟨x, h2, _, e2⟩ := ok_bind (show (evE F o ds h).bind _ = .ok q h1 from e0)
    obtain ⟨k, h3, _, e2⟩ := ok_bind e2
    obtain ⟨v, h4, _, e2⟩ := ok_bind e2
    obtain ⟨y, h5, _, e2⟩ := ok_bind e2
    obtain ⟨z, h6, _, e2⟩ := ok_bind e2
    split at e2
    · cases e2; rfl
    · cases e2
  | .del o i, ds, h, h1, q, e0 => by
    obtain ⟨d, h2, _, e2⟩ := ok_bind (show (evE F o ds h).bind _ = .ok q h1 from e0)
    obtain ⟨s, h3, e3, e4⟩ := ok_bind e2
    split at e4
    · cases e4; rfl
    · cases e4
theorem evB_len {F : Fr} : ∀ (b : List Sm) {ds : Sl} {h h1 : Hh} {q : Ev.Flow × Sl}, evB F b ds h = .ok q h1 → q.2.length = ds.length
  | [], _, _, _, _, e => by cases e; rfl
  | s :: r, ds, h, h1, q, e0 => by
    obtain ⟨p, h2, e1, e2⟩ := ok_bind (show (evS F s ds h).bind _ = .ok q h1 from e0)
    have l := evS_len s e1
    split at e2
    · rw [evB_len r e2, l]
    · cases e2; exact l
end
end Ev

set_option Elab.async false
set_option linter.all false
set_option maxRecDepth 100000
set_option maxHeartbeats 8000000
/-! EvW: statements are sound. -/
namespace Ev
open PySem PySem.Spec PyProof.Rows L2
section
variable {X : Cx} {Γ : Cst} {F : Fr} {W : WX} {pos : Pos}
theorem PostS.fin {f : Nat → Addr} {n : Nat} {R : Addr → Prop} {B : Nat → Prop} {H : Hp} {len : Nat} {D : Ends} {q : Ev.Flow × Sl} {h' : Hh} (p : PostS Γ f n R B H len (.ok q h') D W) {f' : Nat → Addr} {H' : Hp} {σ' : L2.St} (e : Ext f n R H f' h'.length H') (s : Sim Γ.fa f' R B h' H') (r : RSl Γ.fa f' h'.length R H' q.2 σ') : FlowOk Γ R D q.1 f' h' σ' H' := p f' H' σ' e s r
theorem st_pass : PS X (.Pass pos) (tS Γ F W .pass) := imS ps_pass fun D σ H ⟨R, B, f, h, ds, A, p⟩ => p f H σ .refl A.sim A.sl
theorem st_brk : PS X (.Break pos) (tS Γ F W .brk) := imS ps_break fun D σ H ⟨R, B, f, h, ds, A, p⟩ => p f H σ .refl A.sim A.sl
theorem st_cnt : PS X (.Continue pos) (tS Γ F W .cnt) := imS ps_continue fun D σ H ⟨R, B, f, h, ds, A, p⟩ => p f H σ .refl A.sim A.sl
theorem st_retN : PS X (.Return none pos) (tS Γ F W .retN) := imS ps_retN fun D σ H ⟨R, B, f, h, ds, A, p⟩ => p f H σ .refl A.sim A.sl .non .non
theorem st_ret {a : Expr} {a' : Ex} (ha : PE X a (tE Γ F W a')) : PS X (.Return (some a) pos) (tS Γ F W (.ret a')) :=
  imS (ps_ret ha) fun D σ H ⟨R, B, f, h, ds, A, p⟩ => mkS A p fun d v f1 h1 H1 x1 A1 r1 _ p1 => p1 f1 H1 σ .refl A1.sim A1.sl v r1
theorem st_expr {a : Expr} {a' : Ex} (ha : PE X a (tE Γ F W a')) (hs : swapsWith a none pos.line X.env = pure false) : PS X (.Expr a pos) (tS Γ F W (.expr a')) :=
  imS (ps_expr ha hs) fun D σ H ⟨R, B, f, h, ds, A, p⟩ => mkS A p fun d v f1 h1 H1 x1 A1 r1 _ p1 => p1 f1 H1 σ .refl A1.sim A1.sl
theorem st_ife {c : Expr} {c' : Ex} {a b : List Stmt} {a' b' : List Sm} (hc : PT X c (tT Γ F W c')) (ha : PSs X a (tBl Γ F W a')) (hb : PSs X b (tBl Γ F W b')) : PS X (.If c a b pos) (tS Γ F W (.ife c' a' b')) :=
  imS (ps_if hc ha hb) fun D σ H ⟨R, B, f, h, ds, A, p⟩ => mkST (k2 := fun k h => if k = true then evB F a' ds h else evB F b' ds h) A p (fun d h => by cases truD h d with | none => rfl | some k => cases k <;> rfl) fun k f1 h1 H1 x1 A1 p1 => by
    cases k with
    | true => exact ⟨R, B, f1, h1, ds, A1, p1⟩
    | false => exact ⟨R, B, f1, h1, ds, A1, p1⟩
theorem st_nil : PSs X [] (tBl Γ F W []) := imB pss_nil fun D σ H ⟨R, B, f, h, ds, A, p⟩ => p f H σ .refl A.sim A.sl
theorem st_cons {s : Stmt} {s' : Sm} {b : List Stmt} {b' : List Sm} (h1 : PS X s (tS Γ F W s')) (h2 : PSs X b (tBl Γ F W b')) : PSs X (s :: b) (tBl Γ F W (s' :: b')) :=
  imB (pss_cons h1 h2) fun D σ H ⟨R, B, f, h, ds, A, p⟩ => by
    refine ⟨R, B, f, h, ds, A, ?_⟩
    have p : PostS Γ f h.length R B H σ.length ((evS F s' ds h).bind fun q h => match q.1 with
      | .next => evB F b' q.2 h
      | _ => .ok q h) D W := p
    cases hq : evS F s' ds h with
    | fail => rw [hq] at p; exact p
    | exc c pl h1 => rw [hq] at p; exact p
    | ok q h1 =>
      rw [hq] at p
      intro f1 H1 σ1 x1 s1 sl1
      obtain ⟨fl, ds1⟩ := q
      have hl : σ1.length = σ.length := by
        have e1 : ds1.length = ds.length := evS_len s' hq
        rw [← sl1.len, e1, A.sl.len]
      cases fl with
      | next => exact ⟨R, B, f1, h1, ds1, ⟨s1, A.bb, Nat.le_trans A.bl x1.le, sl1⟩, by rw [hl]; exact PostS.mono x1 p⟩
      | brk => exact p f1 H1 σ1 x1 s1 sl1
      | cnt => exact p f1 H1 σ1 x1 s1 sl1
      | ret d => exact p f1 H1 σ1 x1 s1 sl1
theorem PostS.asg {f : Nat → Addr} {n : Nat} {R : Addr → Prop} {B : Nat → Prop} {H : Hp} {len : Nat} {D : Ends} {r : Res Sl} (p : PostS Γ f n R B H len (r.bind fun s h => .ok (.next, s) h) D W) : PostA Γ f n R B H len r D.nx W := by
  cases r with
  | ok s h => exact p
  | exc c pl h => exact p
  | fail => exact p
theorem st_asg {t e : Expr} {t' : At} {e' : Ex} (he : PE X e (tE Γ F W e')) (hg : PG X t (gA Γ F W t')) (hs : swapsWithSole [t] e pos.line X.env = pure false) (hw : swappedStores [t] e X.env = pure none) (hp : plainT t = true) : PS X (.Assign [t] e pos) (tS Γ F W (.asg t' e')) :=
  imS (ps_asg he hg hs hw (by rw [each_cons hp]; rfl)) fun D σ H ⟨R, B, f, h, ds, A, p⟩ => mkS A p fun d v f1 h1 H1 x1 A1 r1 _ p1 => ⟨R, B, f1, h1, ds, d, A1, r1, p1.asg⟩
/-- a name is stored in a list comprehension's own way -/
theorem st_lc {a : Expr} {e' : Ex} {i : Nat} {y : Str} {py : Pos} {t : TE} (h1 : ∀ σ H Q, tE Γ F W e' σ H Q → t σ H Q) (h2 : PS X (.Assign [.Name y py] a pos) (tAsg t (gName i))) : PS X (.Assign [.Name y py] a pos) (tS Γ F W (.asg (.name i) e')) :=
  imS h2 fun D σ H ⟨R, B, f, h, ds, A, p⟩ => h1 σ H _ (mkS A p fun d v f1 h1 H1 x1 A1 r1 _ p1 => by
    have p1 : PostA Γ f1 h1.length R B H1 σ.length (if i < ds.length then .ok (ds.set i (some d)) h1 else .fail) D.nx W := p1.asg
    split at p1
    · exact p1 f1 H1 _ .refl A1.sim (A1.sl.set i r1)
    · exact p1.elim)
/-- a display's parts, stored -/
theorem par_run {es : List Ex} {t' : At} {D : Ends} {σ : L2.St} {H : Hp} (q : tS Γ F W (.asg t' (.tup es)) D σ H) {Q : List V → Hp → Prop}
    (hs : ∀ R B f h ds xs vs H, xs.length = es.length → Pnt Γ F R B f h ds σ H → RDs Γ.fa f h.length R H xs vs → PostA Γ f h.length R B H σ.length (asgE F t' (.tup xs) ds h) D.nx W → Q vs H) : tA Γ F W es σ H Q := by
  obtain ⟨R, B, f, h, ds, A, p⟩ := q
  have e1 : evS F (.asg t' (.tup es)) ds h = (evEs F es ds h).bind fun xs h => (asgE F t' (.tup xs) ds h).bind fun s h => .ok (.next, s) h := by
    show ((evEs F es ds h).bind _).bind _ = _
    cases evEs F es ds h <;> rfl
  rw [e1] at p
  exact mkSA A p fun xs vs f1 h1 H1 ln x1 A1 r1 p1 => hs R B f1 h1 ds xs vs H1 ln A1 r1 p1.asg
theorem st_par2 {i j : Nat} {x y : Str} {a b : Expr} {a' b' : Ex} {px py pt : Pos} {kt k2 pt2} (hc : X.calm = true) (hN : X.N.Nodup) (hi : X.N[i]? = some x) (hj : X.N[j]? = some y) (hij : i ≠ j)
    (hx : X.env.scope.names.lookup x = some .local) (hy : X.env.scope.names.lookup y = some .local) (ha : All2 (PN X Γ F W) [a, b] [a', b'])
    (hw : swappedStores [.Tuple [.Name x px, .Name y py] kt pt] (.Tuple [a, b] k2 pt2) X.env = pure (some [x, y])) :
    PS X (.Assign [.Tuple [.Name x px, .Name y py] kt pt] (.Tuple [a, b] k2 pt2) pos) (tS Γ F W (.asg (.tup [.name i, .name j]) (.tup [a', b']))) :=
  imS (ps_par hc hN hi hj hij hx hy (snd_argsN ha) hw) fun D σ H q => par_run q fun R B f h ds xs vs H ln A r p => by
    match xs, ln with
    | [d1, d2], _ =>
      obtain ⟨v, w, rfl, r1, r2⟩ := rds2 r
      have hi' : i < ds.length := by
        apply Classical.byContradiction
        intro hn
        have p : PostA Γ f h.length R B H σ.length ((if i < ds.length then Res.ok (ds.set i (some d1)) h else .fail).bind fun s h => asgEs F [.name j] [d2] s h) D.nx W := p
        rw [if_neg hn] at p
        exact p
      have p : PostA Γ f h.length R B H σ.length ((if i < ds.length then Res.ok (ds.set i (some d1)) h else .fail).bind fun s h => asgEs F [.name j] [d2] s h) D.nx W := p
      rw [if_pos hi'] at p
      have p : PostA Γ f h.length R B H σ.length ((if j < (ds.set i (some d1)).length then Res.ok ((ds.set i (some d1)).set j (some d2)) h else .fail).bind fun s h => asgEs F [] [] s h) D.nx W := p
      split at p
      · exact ⟨v, w, rfl, p f H _ .refl A.sim ((A.sl.set i r1).set j r2)⟩
      · exact p.elim
theorem st_par3 {i j l : Nat} {x y z : Str} {a b c : Expr} {a' b' c' : Ex} {px py pz pt : Pos} {kt k2 pt2} (hc : X.calm = true) (hN : X.N.Nodup) (hi : X.N[i]? = some x) (hj : X.N[j]? = some y) (hl : X.N[l]? = some z) (hij : i ≠ j) (hil : i ≠ l) (hjl : j ≠ l)
    (hx : X.env.scope.names.lookup x = some .local) (hy : X.env.scope.names.lookup y = some .local) (hz : X.env.scope.names.lookup z = some .local) (ha : All2 (PN X Γ F W) [a, b, c] [a', b', c'])
    (hw : swappedStores [.Tuple [.Name x px, .Name y py, .Name z pz] kt pt] (.Tuple [a, b, c] k2 pt2) X.env = pure (some [x, y, z])) :
    PS X (.Assign [.Tuple [.Name x px, .Name y py, .Name z pz] kt pt] (.Tuple [a, b, c] k2 pt2) pos) (tS Γ F W (.asg (.tup [.name i, .name j, .name l]) (.tup [a', b', c']))) :=
  imS (ps_par3 hc hN hi hj hl hij hil hjl hx hy hz (snd_argsN ha) hw) fun D σ H q => par_run q fun R B f h ds xs vs H ln A r p => by
    match xs, ln with
    | [d1, d2, d3], _ =>
      cases r with
      | cons r1 rr =>
        obtain ⟨v2, v3, rfl, r2, r3⟩ := rds2 rr
        have p : PostA Γ f h.length R B H σ.length ((if i < ds.length then Res.ok (ds.set i (some d1)) h else .fail).bind fun s h => asgEs F [.name j, .name l] [d2, d3] s h) D.nx W := p
        split at p
        · have p : PostA Γ f h.length R B H σ.length ((if j < (ds.set i (some d1)).length then Res.ok ((ds.set i (some d1)).set j (some d2)) h else .fail).bind fun s h => asgEs F [.name l] [d3] s h) D.nx W := p
          split at p
          · have p : PostA Γ f h.length R B H σ.length ((if l < ((ds.set i (some d1)).set j (some d2)).length then Res.ok (((ds.set i (some d1)).set j (some d2)).set l (some d3)) h else .fail).bind fun s h => asgEs F [] [] s h) D.nx W := p
            split at p
            · exact ⟨_, v2, v3, rfl, p f H _ .refl A.sim (((A.sl.set i r1).set j r2).set l r3)⟩
            · exact p.elim
          · exact p.elim
        · exact p.elim
end
/-! ### name op= e -/
def rAug (fa : FA) (o : Op) : R2 := fun x y H Q => ∃ (f : Nat → Addr) (R : Addr → Prop) (B : Nat → Prop) (h : Hh) (d e z : D), Sim fa f R B h H ∧ RD fa f h.length R H d x ∧ RD fa f h.length R H e y ∧ augOp o d e = some z ∧ ∀ v, RD fa f h.length R H z v → Q v H
theorem aug_cases {o : Op} {d e z : D} (h : augOp o d e = some z) : (∃ i j, d = .int i ∧ e = .int j ∧ ((o = .add ∧ z = .int (i + j)) ∨ (o = .sub ∧ z = .int (i - j)))) ∨ (∃ a b, d = .str a ∧ e = .str b ∧ o = .add ∧ a.length + b.length ≤ 100000 ∧ z = .str (a ++ b)) := by
  unfold augOp at h
  split at h
  · cases h; exact .inl ⟨_, _, rfl, rfl, .inl ⟨rfl, rfl⟩⟩
  · cases h; exact .inl ⟨_, _, rfl, rfl, .inr ⟨rfl, rfl⟩⟩
  · split at h
    · cases h; exact .inr ⟨_, _, rfl, rfl, rfl, ‹_›, rfl⟩
    · cases h
  · cases h
theorem ip_aug {X : Cx} {fa : FA} {bo : Operator} {o : Op} (e : opOf bo = some o) : PIp X bo (rAug fa o) := by
  intro pins s σ H x y v u Q I rx ry hh
  obtain ⟨f, R, B, h, d, e', z, sm, r1, r2, ez, q⟩ := hh
  rcases aug_cases ez with ⟨i, j, rfl, rfl, ⟨rfl, rfl⟩ | ⟨rfl, rfl⟩⟩ | ⟨a, b, rfl, rfl, rfl, hl, rfl⟩
  · cases bo <;> cases e
    rw [rd_int r1] at rx
    rw [rd_int r2] at ry
    exact iop_add pins s σ H _ _ v u Q I rx ry ⟨i, j, rfl, rfl, q _ (.int _)⟩
  · cases bo <;> cases e
    rw [rd_int r1] at rx
    rw [rd_int r2] at ry
    exact iop_sub pins s σ H _ _ v u Q I rx ry ⟨i, j, rfl, rfl, q _ (.int _)⟩
  · cases bo <;> cases e
    rw [rd_str r1] at rx
    rw [rd_str r2] at ry
    exact iop_add_str pins s σ H _ _ v u Q I rx ry ⟨a, b, rfl, rfl, Nat.le_trans hl line_ge, q _ (.str _)⟩
section
variable {X : Cx} {Γ : Cst} {F : Fr} {W : WX} {pos : Pos}
theorem PostS.of {α : Type} {f : Nat → Addr} {n : Nat} {R : Addr → Prop} {B : Nat → Prop} {H : Hp} {len : Nat} {D : Ends} {z : Option α} {h : Hh} {k : α → Hh → Res (Ev.Flow × Sl)} (p : PostS Γ f n R B H len ((Res.of z h).bind k) D W) : ∃ a, z = some a ∧ PostS Γ f n R B H len (k a h) D W := by
  cases z with
  | none => exact p.elim
  | some a => exact ⟨a, rfl, p⟩
theorem st_aug {i : Nat} {x : Str} {e : Expr} {e' : Ex} {bo : Operator} {o : Op} {pos' : Pos} (hN : X.N.Nodup) (hi : X.N[i]? = some x) (hx : Loc X.env.scope x) (hf : X.fn x = true ∨ X.env.scope.names.lookup x = some .local) (ho : opOf bo = some o) (he : PE X e (tE Γ F W e')) :
    PS X (.AugAssign (.Name x pos') bo e pos) (tS Γ F W (.aug i o e')) :=
  imS (ps_aug hN hi hx he (ip_aug (fa := Γ.fa) ho) hf) fun D σ H ⟨R, B, f, h, ds, A, p⟩ => by
    obtain ⟨d, e1, p⟩ := PostS.of (z := ds[i]?.join) p
    have e2 : ds[i]? = some (some d) := by
      cases q : ds[i]? with
      | none => rw [q] at e1; cases e1
      | some o => rw [q] at e1; exact congrArg some e1
    obtain ⟨v, e3, r⟩ := A.sl.get i d e2
    refine ⟨v, e3, mkS A p fun d2 v2 f1 h1 H1 x1 A1 r1 _ p1 => ?_⟩
    obtain ⟨z, hz, p1⟩ := PostS.of p1
    exact ⟨f1, R, B, h1, d, d2, z, A1.sim, r.ext x1, r1, hz, fun v3 r3 => p1 f1 H1 _ .refl A1.sim (A1.sl.set i r3)⟩
/-! ### loops -/
theorem st_whil {c : Expr} {c' : Ex} {b : List Stmt} {b' : List Sm} (hp : PassesOwn (model X.prog X.w) X.A X.env X.xe) (hc : PT X c (tT Γ F W c')) (hb : PSs X b (tBl Γ F W b')) : PS X (.While c b [] pos) (tS Γ F W (.whil c' b')) :=
  imS (ps_while hp hc hb) fun D σ H ⟨R, B, f, h, ds, A, p⟩ => by
    generalize eT : (fun σ h => evB F b' σ h) = T at *
    refine ⟨fun m σ H => ∃ R B f h ds, Pnt Γ F R B f h ds σ H ∧ PostS Γ f h.length R B H σ.length (whilL (fun σ h => (evE F c' σ h).bind fun d h => Res.of (truD h d) h) (fun σ h => evB F b' σ h) m ds h) D W, ⟨F.wf, R, B, f, h, ds, A, p⟩, ?_⟩
    rintro m σ H ⟨R, B, f, h, ds, A, p⟩
    cases m with
    | zero => exact p.elim
    | succ m =>
      have p : PostS Γ f h.length R B H σ.length (((evE F c' ds h).bind fun d h => Res.of (truD h d) h).bind fun k h => if k = true then (evB F b' ds h).bind fun r h => match r.1 with
        | .next => whilL (fun σ h => (evE F c' σ h).bind fun d h => Res.of (truD h d) h) (fun σ h => evB F b' σ h) m r.2 h
        | .cnt => whilL (fun σ h => (evE F c' σ h).bind fun d h => Res.of (truD h d) h) (fun σ h => evB F b' σ h) m r.2 h
        | .brk => .ok (.next, r.2) h
        | .ret d => .ok (.ret d, r.2) h else .ok (.next, ds) h) D W := p
      have e1 : ∀ (k : Bool → Hh → Res (Ev.Flow × Sl)), ((evE F c' ds h).bind fun d h => Res.of (truD h d) h).bind k = (evE F c' ds h).bind fun d h => (Res.of (truD h d) h).bind k := fun k => by cases evE F c' ds h <;> rfl
      rw [e1] at p
      refine mkST A p (fun _ _ => rfl) fun k f1 h1 H1 x1 A1 p1 => ?_
      cases k with
      | false => exact p1 f1 H1 σ .refl A1.sim A1.sl
      | true =>
        refine ⟨fun σ' H' => ∃ R B f h ds, Pnt Γ F R B f h ds σ' H' ∧ PostS Γ f h.length R B H' σ'.length (whilL (fun σ h => (evE F c' σ h).bind fun d h => Res.of (truD h d) h) (fun σ h => evB F b' σ h) m ds h) D W, fun σ' H' n => ⟨m, Nat.lt_succ_self m, n⟩, ?_⟩
        refine ⟨R, B, f1, h1, ds, A1, ?_⟩
        rw [if_pos rfl] at p1
        cases hq : evB F b' ds h1 with
        | fail => rw [hq] at p1; exact p1
        | exc c pl h2 => rw [hq] at p1; exact p1
        | ok q h2 =>
          rw [hq] at p1
          intro f2 H2 σ2 x2 s2 sl2
          obtain ⟨fl, ds2⟩ := q
          have hl : σ2.length = σ.length := by
            have e1 : ds2.length = ds.length := evB_len b' hq
            rw [← sl2.len, e1, A1.sl.len]
          have A2 : Pnt Γ F R B f2 h2 ds2 σ2 H2 := ⟨s2, A1.bb, Nat.le_trans A1.bl x2.le, sl2⟩
          cases fl with
          | next => exact ⟨R, B, f2, h2, ds2, A2, by rw [hl]; exact PostS.mono x2 p1⟩
          | cnt => exact ⟨R, B, f2, h2, ds2, A2, by rw [hl]; exact PostS.mono x2 p1⟩
          | brk => exact p1 f2 H2 σ2 x2 s2 sl2
          | ret d => exact p1 f2 H2 σ2 x2 s2 sl2
end
section
variable {X : Cx} {Γ : Cst} {F : Fr} {W : WX} {pos : Pos}
theorem noSub {R : Addr → Prop} {H : Hp} : Sub (fun _ => False) R H := fun _ _ z => z.elim
/-- one turn of a for -/
theorem turn_for {R : Addr → Prop} {B : Nat → Prop} {f : Nat → Addr} {h : Hh} {ds : Sl} {σ : L2.St} {H H' : Hp} {len p : Nat} {tg : Tg} {b : List Sm} {x : D} {v : V} {D D2 : Ends} {k : Ev.Flow × Sl → Hh → Res (Ev.Flow × Sl)}
    (A : Pnt Γ F R B f h ds σ H) (hl : σ.length = len) (hf : tgFit p tg = true) (x1 : Ext f h.length R H f h.length H') (s1 : Sim Γ.fa f R B h H') (r : RY Γ.fa f h.length R H' p x v)
    (q : PostS Γ f h.length R B H len (((Res.of (bindT tg x ds) h).bind fun σ h => evB F b σ h).bind k) D W)
    (hk : ∀ fl ds2 h2 f2 H2 σ2, Ext f h.length R H f2 h2.length H2 → Pnt Γ F R B f2 h2 ds2 σ2 H2 → σ2.length = len → PostS Γ f2 h2.length R B H2 len (k (fl, ds2) h2) D W → FlowOk Γ R D2 fl f2 h2 σ2 H2) :
    gT X.K tg v σ H' fun σ2 H2 => tBl Γ F W b D2 σ2 H2 := by
  cases hb : bindT tg x ds with
  | none => rw [hb] at q; exact q.elim
  | some ds2 =>
    rw [hb] at q
    have q : PostS Γ f h.length R B H len ((evB F b ds2 h).bind k) D W := q
    refine bindY_ok [] p tg hf hb r (A.sl.ext x1) fun σ2 sl2 _ => ⟨R, B, f, h, ds2, ⟨s1, A.bb, A.bl, sl2⟩, ?_⟩
    have hl2 : σ2.length = len := by rw [← sl2.len, bindT_len hb, A.sl.len, hl]
    cases hq : evB F b ds2 h with
    | fail => rw [hq] at q; exact q
    | exc c pl h2 =>
      rw [hq] at q
      rw [hl2]
      exact fun f2 H2 σ3 x2 s2 l => q f2 H2 σ3 (x1.trans x2) s2 l
    | ok q0 h2 =>
      rw [hq] at q
      obtain ⟨fl, ds3⟩ := q0
      intro f2 H2 σ3 x2 s2 sl3
      have x3 := x1.trans x2
      have hl3 : σ3.length = len := by rw [← sl3.len, evB_len b hq, sl2.len, hl2]
      exact hk fl ds3 h2 f2 H2 σ3 x3 ⟨s2, A.bb, Nat.le_trans A.bl x2.le, sl3⟩ hl3 (PostS.mono x3 q)
theorem st_forr {tg iter : Expr} {tg' : Tg} {it' : Itr} {b : List Stmt} {b' : List Sm} (hp : PassesOwn (model X.prog X.w) X.A X.env X.xe) (hc : X.calm = true) (hi : PI X tg iter (tI X.K Γ F W it')) (hg : PG X tg (gT X.K tg')) (hb : PSs X b (tBl Γ F W b'))
    (hs : ∀ x, foldedSetIterable iter X.env x = pure x) (hf : tgFit (itKind it') tg' = true) : PS X (.For tg iter b [] pos) (tS Γ F W (.forr tg' it' b')) :=
  imS (ps_for hp hc hi hg hb hs) fun D σ H ⟨R, B, f, h, ds, A, p⟩ => by
    have p : PostS Γ f h.length R B H σ.length ((evI F it' ds h).bind fun s h => match s with
      | .items xs => forL (fun x σ h => (Res.of (bindT tg' x σ) h).bind fun σ h => evB F b' σ h) xs ds h
      | .cell en n => forC (fun x σ h => (Res.of (bindT tg' x σ) h).bind fun σ h => evB F b' σ h) en n 100000 0 ds h) D W := p
    refine ⟨R, B, f, h, ds, A, p.bindE rfl fun s h1 f1 H1 J _ x sm rel p1 => ?_⟩
    have A1 := A.go x sm
    generalize hlen : σ.length = len at p1
    cases s with
    | items xs =>
      have rel : Wk Γ.fa f1 R B h1 H1 (itKind it') xs J := rel
      have p1 : PostS Γ f1 h1.length R B H1 len (forL (fun x σ h => (Res.of (bindT tg' x σ) h).bind fun σ h => evB F b' σ h) xs ds h1) D W := p1
      refine ⟨fun i m σ H => m = xs.length - i ∧ i ≤ xs.length ∧ σ.length = len ∧ ∃ f' h' ds', Ext f1 h1.length R H1 f' h'.length H ∧ Pnt Γ F R B f' h' ds' σ H ∧ PostS Γ f' h'.length R B H len (forL (fun x σ h => (Res.of (bindT tg' x σ) h).bind fun σ h => evB F b' σ h) (xs.drop i) ds' h') D W,
        ⟨xs.length, by simp, Nat.zero_le _, hlen, f1, h1, ds, .refl, A1, by simpa using p1⟩, ?_⟩
      rintro i m σ H ⟨rfl, hi, hl, f', h', ds', x', A', p'⟩
      obtain ⟨w1, w2⟩ := rel f' (fun _ => False) R h' H x'.to0 noSub .refl A'.sim
      by_cases hlt : i < xs.length
      · obtain ⟨go, yl⟩ := w1 i xs[i] (List.getElem?_eq_getElem hlt)
        rw [List.drop_eq_getElem_cons hlt] at p'
        have p' : PostS Γ f' h'.length R B H len (((Res.of (bindT tg' xs[i] ds') h').bind fun σ h => evB F b' σ h).bind fun r h => match r.1 with
          | .next => forL (fun x σ h => (Res.of (bindT tg' x σ) h).bind fun σ h => evB F b' σ h) (xs.drop (i + 1)) r.2 h
          | .cnt => forL (fun x σ h => (Res.of (bindT tg' x σ) h).bind fun σ h => evB F b' σ h) (xs.drop (i + 1)) r.2 h
          | .brk => .ok (.next, r.2) h
          | .ret d => .ok (.ret d, r.2) h) D W := p'
        refine .inr ⟨go, fun σ' H' => σ'.length = len ∧ ∃ f2 h2 ds2, Ext f1 h1.length R H1 f2 h2.length H' ∧ Pnt Γ F R B f2 h2 ds2 σ' H' ∧ PostS Γ f2 h2.length R B H' len (forL (fun x σ h => (Res.of (bindT tg' x σ) h).bind fun σ h => evB F b' σ h) (xs.drop (i + 1)) ds2 h2) D W,
          fun σ' H' ⟨a, c⟩ => ⟨xs.length - (i + 1), by omega, rfl, hlt, a, c⟩, fun v H' y => ?_⟩
        obtain ⟨x2, s2, r2⟩ := yl v H' y
        refine turn_for A' hl hf x2 s2 r2 p' fun fl ds2 h2 f2 H2 σ2 x3 A3 hl3 p3 => ?_
        cases fl with
        | next => exact ⟨hl3, f2, h2, ds2, x'.trans x3, A3, p3⟩
        | cnt => exact ⟨hl3, f2, h2, ds2, x'.trans x3, A3, p3⟩
        | brk => exact p3 f2 H2 σ2 .refl A3.sim A3.sl
        | ret d => exact p3 f2 H2 σ2 .refl A3.sim A3.sl
      · have e : i = xs.length := by omega
        subst e
        rw [List.drop_length] at p'
        exact .inl ⟨w2 _ (Nat.le_refl _), p' f' H σ .refl A'.sim A'.sl⟩
    | cell en n =>
      obtain ⟨hk0, hn, rfl⟩ : itKind it' = pc en ∧ n < h1.length ∧ J = Jc X.K en (f1 n) := rel
      have p1 : PostS Γ f1 h1.length R B H1 len (forC (fun x σ h => (Res.of (bindT tg' x σ) h).bind fun σ h => evB F b' σ h) en n 100000 0 ds h1) D W := p1
      refine ⟨fun i m σ H => m + i = 100000 ∧ σ.length = len ∧ ∃ f' h' ds', Ext f1 h1.length R H1 f' h'.length H ∧ Pnt Γ F R B f' h' ds' σ H ∧ PostS Γ f' h'.length R B H len (forC (fun x σ h => (Res.of (bindT tg' x σ) h).bind fun σ h => evB F b' σ h) en n m i ds' h') D W,
        ⟨100000, by simp, hlen, f1, h1, ds, .refl, A1, p1⟩, ?_⟩
      rintro i m σ H ⟨hm, hl, f', h', ds', x', A', p'⟩
      have hn' : n < h'.length := Nat.lt_of_lt_of_le hn x'.le
      have e1 : h'[n]? = some h'[n] := List.getElem?_eq_getElem hn'
      have c := A'.sim.cell n _ e1
      rw [x'.same n hn] at c
      cases qq : h'[n] with
      | dct ks vs =>
        rw [qq] at e1
        cases m with
        | zero =>
          unfold forC at p'
          rw [e1] at p'
          exact p'.elim
        | succ m =>
          unfold forC at p'
          rw [e1] at p'
          exact p'.elim
      | lst xs =>
        rw [qq] at c e1
        obtain ⟨vs, e2, t⟩ := c
        cases m with
        | zero =>
          unfold forC at p'
          rw [e1] at p'
          dsimp only at p'
          split at p'
          · exact .inl ⟨jc_stop e2 (by rw [← t.length]; assumption), p' f' H σ .refl A'.sim A'.sl⟩
          · exact p'.elim
        | succ m =>
          unfold forC at p'
          rw [e1] at p'
          dsimp only at p'
          cases hx : xs[i]? with
          | none =>
            rw [hx] at p'
            exact .inl ⟨jc_stop e2 (by rw [← t.length]; exact List.getElem?_eq_none_iff.mp hx), p' f' H σ .refl A'.sim A'.sl⟩
          | some x =>
            rw [hx] at p'
            obtain ⟨v, hv, rv⟩ := t.get hx
            refine .inr ⟨jc_go e2 hv, fun σ' H' => σ'.length = len ∧ ∃ f2 h2 ds2, Ext f1 h1.length R H1 f2 h2.length H' ∧ Pnt Γ F R B f2 h2 ds2 σ' H' ∧ PostS Γ f2 h2.length R B H' len (forC (fun x σ h => (Res.of (bindT tg' x σ) h).bind fun σ h => evB F b' σ h) en n m (i + 1) ds2 h2) D W,
              fun σ' H' ⟨a, c⟩ => ⟨m, by omega, by omega, a, c⟩, fun v' H' y => ?_⟩
            obtain ⟨x4, s4, r4⟩ := jc_yld A'.sim e2 hv rv y
            refine turn_for (p := pc en) A' hl (by rw [← hk0]; exact hf) x4 s4 r4 p' fun fl ds2 h2 f2 H2 σ2 x3 A3 hl3 p3 => ?_
            cases fl with
            | next => exact ⟨hl3, f2, h2, ds2, x'.trans x3, A3, p3⟩
            | cnt => exact ⟨hl3, f2, h2, ds2, x'.trans x3, A3, p3⟩
            | brk => exact p3 f2 H2 σ2 .refl A3.sim A3.sl
            | ret d => exact p3 f2 H2 σ2 .refl A3.sim A3.sl
end
end Ev

set_option Elab.async false
set_option linter.all false
set_option maxRecDepth 100000
set_option maxHeartbeats 8000000
/-! EvX: raise, try. -/
namespace Ev
open PySem PySem.Spec PyProof.Rows L2
/-- what is known of an exception class's name -/
structure ExOk (K : PySem.W.Frag) (mg : Str → Option Value) (Γ : Cst) (c : Str) : Prop where
  ex : ∃ C, Γ.ex c = some (.ref C) ∧ mg c = some (.ref C) ∧ PySem.W.excIn K C [.type "ValueError", .type "Exception", .type "BaseException", .type "object"] "ValueError.__new__" = true ∧ PySem.W.keepIn K (.ref C) = true ∧
    PySem.W.subIn K (.ref C) (.type "BaseException") = some true ∧ PySem.W.typeIn K (.ref C) = some (.type "type") ∧ ExcC K C ∧ PySem.W.kitOne K (.ref C) (.type "ValueError") = some true ∧ ∀ c' cls, Γ.ex c' = some cls → PySem.W.exmOne K cls (.ref C) = some (c' == c)
/-- what is known of a class that a clause names -/
def HcOk (K : PySem.W.Frag) (mg : Str → Option Value) (Γ : Cst) (c : Str) : Prop := ∃ C, mg c = some (.ref C) ∧ ∀ c' cls, Γ.ex c' = some cls → PySem.W.exmOne K cls (.ref C) = some (c' == c)
section
variable {X : Cx} {C : Addr} {bmB : List Value} {B newId initId : String}
/-- X() -/
theorem pmk0 {x : Str} {p pos : Pos} (F : ExcBaseFacts B newId initId bmB) (q : PySem.W.excIn X.K C bmB newId = true) (gC : X.mg x = some (.ref C)) (kC : PySem.W.keepIn X.K (.ref C) = true) (r : Raises X (.ref C)) (hg : Gl X x)
    (hdb : (x == ("__debug__" : Str)) = false) : PMk X (.Call (.Name x p) [] [] pos) (fun _ H Q => Q (.ref C) none H) := by
  intro pins s σ H Q I h
  refine wpAny_Call_Name_kw (ld_glob I hg gC ?_ hdb)
  refine PySem.W.callWith_K0 I.kIn kC ?_
  show wpAny _ _ (call (.ref C) []) _ _ _
  obtain ⟨bm, N, nm, qn, bs, hdct, sn, sub, ab, col, dd, k0, k1, k2, k3, k5, mN, hC, hN, hni, T⟩ := exc_obj I.kIn q
  refine wpAny_call_exc_subT F T hC hN hni (fun h' e hm => ?_) (by show 0 ≤ sizeLine; omega)
  exact mk_of I hm r h (I.hok.gone hm.new)
end
section
variable {X : Cx} {Γ : Cst} {F : Fr} {W : WX} {pos : Pos}
theorem st_rais {c : Str} {p p2 : Pos} (hc : X.calm = true) (tk : Takes X W) (hg : Gl X c) (hdb : (c == ("__debug__" : Str)) = false) (hx : ExOk X.K X.mg Γ c) : PS X (.Raise (some (.Call (.Name c p) [] [] p2)) none pos) (tS Γ F W (.rais c [])) := by
  obtain ⟨C, h1, h2, h3, h4, h5, h6, h7, h8, h9⟩ := hx.ex
  exact imS (ps_raise hc tk (pmk0 PySem.F.excBase_ValueError h3 h2 h4 (raises_own h5 h6) hg hdb)) fun D σ H ⟨R, B, f, h, ds, A, p⟩ => p f H σ .refl A.sim rfl (.ref C) none ⟨h1, fun _ => rfl⟩
/-- what clauses with names wish of an exception, one after the other -/
def wAsM (K : PySem.W.Frag) (Wout : WX) (Dn : Ends) : List (Value × Nat × (Addr → Value → Option Addr → TS)) → WX
  | [] => Wout
  | (c, i, ts) :: r => fun cls d σ H => ∃ b, PySem.W.exmOne K cls c = some b ∧
      (b = true → ∀ a, H a = none → ts a cls d { nx := fun σ' H' => Dn.nx (σ'.set i none) H', rt := Dn.rt, bk := fun σ' H' => Dn.bk (σ'.set i none) H', ct := fun σ' H' => Dn.ct (σ'.set i none) H' } (σ.set i (some (.ref a))) H) ∧ (b = false → wAsM K Wout Dn r cls d σ H)
inductive HdsAs (X : Cx) : List ExceptHandler → List (Value × Nat × (Addr → Value → Option Addr → TS)) → Prop
  | nil : HdsAs X [] []
  | cons {x n : Str} {c : Value} {i : Nat} {ts : Addr → Value → Option Addr → TS} {b0 : Stmt} {su : List Stmt} {np p' : Pos} {hds : List ExceptHandler} {l : List (Value × Nat × (Addr → Value → Option Addr → TS))} (hc : L2.Names X x c) (hi : X.N[i]? = some n) (hln : X.env.kindOf n = some .local)
      (hsu : ∀ (a : Addr) (oe : Obj) (cls : Value) (d : Option Addr) (pn : List (Addr × Obj)), Zc cls d oe → (∃ vs, oe.data = .fields vs) → PSs (X.suite a ((a, oe) :: pn)) (b0 :: su) (ts a cls d)) (r : HdsAs X hds l) : HdsAs X (.ExceptHandler (some (.Name x np)) (some n) (b0 :: su) p' :: hds) ((c, i, ts) :: l)
theorem ps_try_asM {body : List Stmt} {hd0 : ExceptHandler} {hds : List ExceptHandler} {l : List (Value × Nat × (Addr → Value → Option Addr → TS))} {tb : WX → TS} {Wout : WX} (hs : X.stack = X.env :: X.outer) (hf : X.env.frame = some X.env.locals) (hN : X.N.Nodup) (tk : Takes X Wout)
    (hb : ∀ (W : WX) (pn : List (Addr × Obj)) (xe : Value → Shared → Prop), Takes (X.tr pn xe) W → PassesOwn (model X.prog X.w) X.A X.env xe → PSs (X.tr pn xe) body (tb W)) (hh : HdsAs X (hd0 :: hds) l) : PS X (.Try body (hd0 :: hds) [] [] pos) (fun Dn σ H => tb (wAsM X.K Wout Dn l) Dn σ H) := by
  refine ⟨fun pins s σ H Dn I q0 => ?_⟩
  have okX := I.ok
  have frA : X.A.frames = some (X.env :: X.outer) := by rw [okX.frames, hs]
  refine wpAny_Try_except (wpAny_mono ((hb (wAsM X.K Wout Dn l) (X.pn ++ pins) (fun e s₁ => wpAny (model X.prog X.w) X.A (noteFrame e X.env) (fun _ s₂ => wpAny (model X.prog X.w) X.A (setFlight e none) (fun _ s₃ => wpAny (model X.prog X.w) X.A (handleBy e X.env (hd0 :: hds)) (SP X pins Dn) X.xe s₃) X.xe s₂) X.xe s₁) (fun u s' xx => ?_) PassesOwn.looking).run [] s σ H Dn (I.toTry _) q0) (fun f s1 hsp => ?_) (fun e s1 he => he))
  · obtain ⟨a, Bb, sI, pins', σ', H', cls, d, rfl, J0, nb, up, sky, na, os, ag, wish⟩ := xx
    have J : Inv X pins σ' H' sI := J0.ofTry okX
    have sky1 : Sky Bb (X.env :: X.outer) a (Zc cls d) X.env.locals s'.heap := by rw [← hs]; exact sky
    show wpAny (model X.prog X.w) X.A (noteFrame (.ref a) X.env) _ _ _
    refine Sky.land Zc.steady frA hf sky1 fun g3 land3 up3 => ?_
    have J3 : Inv X pins σ' H' { s' with heap := g3 } := J.landed nb land3.1 (up.trans up3) os ag
    obtain ⟨ob3, vs3, ge3, z3, dat3⟩ := land3.there
    have nfr : a ∉ frs (X.env :: X.outer) := fun hm => by
      obtain ⟨_, o', e', hnf⟩ := land3.2.2.1.mem hm
      rw [ge3] at e'
      cases e'
      exact hnf _ dat3
    have nL : a ≠ X.env.locals := fun z => nfr (List.mem_filterMap.mpr ⟨X.env, List.mem_cons_self, by rw [hf, z]⟩)
    have nF : a ∉ X.fs := fun hm => by
      obtain ⟨e, he, q⟩ := List.mem_filterMap.mp hm
      exact nfr (List.mem_filterMap.mpr ⟨e, List.mem_cons_of_mem _ he, q⟩)
    have S3 := J3.suite ge3 dat3 na nL nF
    suffices go : ∀ {hds' : List ExceptHandler} {l' : List (Value × Nat × (Addr → Value → Option Addr → TS))}, HdsAs X hds' l' → wAsM X.K Wout Dn l' cls d σ' H' → wpAny (model X.prog X.w) X.A (handleBy (.ref a) X.env hds') (SP X pins Dn) X.xe { s' with heap := g3 } from go hh wish
    intro hds' l' hk
    induction hk with
    | nil =>
      intro wish
      refine wpAny_handleBy_nil ?_
      obtain ⟨_, _, _, oe, vs, T, oT, ts', he, hz, hd, hT, _⟩ := id land3
      unfold PySem.passOn
      refine wpAny_bind (wpAny_field he hd hT ?_)
      rw [if_neg (show ¬ ((Value.ref T == Value.none) = true) from by simp)]
      have last : wpAny (model X.prog X.w) X.A (setFlight (.ref a) X.env.frame) (fun _ s4 => wpAny (model X.prog X.w) X.A (throw (.ref a) : Sem PySem.Flow) (SP X pins Dn) X.xe s4) X.xe { s' with heap := g3 } := by
        rw [hf]
        exact HandSPX.setFlight_upZ land3 fun h4 sky4 up4 => wpAny_throw (tk _ _ ⟨a, Bb, sI, pins, σ', H', cls, d, rfl, J, nb, (up.trans up3).trans up4, .inr (.inr (by rw [hs]; exact sky4)), na, os, ag, wish⟩)
      first
        | exact wpAny_bind (wpAny_pure (wpAny_bind last))
        | exact wpAny_bind last
    | @cons x n c i ts b0 su np p' hds2 l2 hc hi hln hsu r ih =>
      intro wish
      obtain ⟨b, hb1, hyes, hno⟩ := wish
      refine wpAny_handleBy_cons (codeAny_handlers_test ?_) (by intro q; cases q)
      have look : PySem.W.Looks (model X.prog X.w) g3 (typeOf (.ref a)) cls := fun A Q E s k q => wpAny_typeOf_ref (k _ _ ge3) (by rw [z3.1]; exact q)
      have isof := PySem.W.exm_one (M := model X.prog X.w) (J3.kIn) look hb1
      have named : ∀ {Q : Value → Shared → Prop} {E : Value → Shared → Prop}, Q c { s' with heap := g3 } → wpAny (model X.prog X.w) (X.A.mark (some (.ref a))) (eval (.Name x np) X.env) Q E { s' with heap := g3 } := fun {Q E} q => by
        obtain ⟨hg, hdbg, hm | ⟨hm, hv, hnn⟩⟩ := hc
        · exact ld_glob (X := X.suite a ((a, ob3) :: (X.pn ++ pins))) S3 hg hm q hdbg
        · exact ld_blt (X := X.suite a ((a, ob3) :: (X.pn ++ pins))) S3 hg hm hv q hnn hdbg
      refine named (isof.here ?_)
      cases b with
      | false =>
        show wpAny _ X.A (handleBy (.ref a) X.env hds2) _ _ _
        exact ih (hno rfl)
      | true =>
        refine codeAny_handlers_suite_as (HandSPX.lands_againZ land3 fun h4 land4 up4 => ?_)
        have J4 : Inv X pins σ' H' { s' with heap := h4 } := J.landed nb land4.1 ((up.trans up3).trans up4) os ag
        obtain ⟨ob4, vs4, ge4, z4, dat4⟩ := land4.there
        have S4 := J4.suite ge4 dat4 na nL nF
        refine store_ok (X := X.suite a ((a, ob4) :: (X.pn ++ pins))) (v := .ref a) S4 hN hi (.inl hln) rfl (fun s5 S5 => ?_) (.inr hln)
        refine wpAny_mono ((hsu a ob4 cls d (X.pn ++ pins) z4 ⟨_, dat4⟩).run [] s5 _ H' _ S5 (hyes rfl a na)) (fun f s6 hsp => ?_) (fun _ _ z => False.elim z)
        have over : ∀ {σ6 : L2.St} {H6 : Hp} {Q : Shared → Prop}, Inv (X.suite a ((a, ob4) :: (X.pn ++ pins))) [] σ6 H6 s6 → (∀ s7, Inv X pins (σ6.set i none) H6 s7 → Q s7) → wpAny (model X.prog X.w) X.A (do bindName X.env n .none; unbindBehindTheSuite X.env n p') (fun _ s7 => Q s7) X.xe s6 := fun {σ6 H6 Q} S6 hq => gone_ok (S6.unsuite okX) hN hi hln hq
        cases f with
        | next => obtain ⟨σ6, H6, S6, q6⟩ := hsp; exact over S6 fun s7 J7 => ⟨_, _, J7, q6⟩
        | brk => obtain ⟨σ6, H6, S6, q6⟩ := hsp; exact over S6 fun s7 J7 => ⟨_, _, J7, q6⟩
        | cont => obtain ⟨σ6, H6, S6, q6⟩ := hsp; exact over S6 fun s7 J7 => ⟨_, _, J7, q6⟩
        | ret u => obtain ⟨v6, σ6, H6, S6, r6, q6⟩ := hsp; exact over S6 fun s7 J7 => ⟨_, _, _, J7, r6, q6⟩
  · cases f with
    | next => obtain ⟨σ', H', J0, q⟩ := hsp; exact wpAny_execs_nil ⟨σ', H', J0.ofTry okX, q⟩
    | brk => obtain ⟨σ', H', J0, q⟩ := hsp; exact ⟨σ', H', J0.ofTry okX, q⟩
    | cont => obtain ⟨σ', H', J0, q⟩ := hsp; exact ⟨σ', H', J0.ofTry okX, q⟩
    | ret u => obtain ⟨v, σ', H', J0, r, q⟩ := hsp; exact ⟨v, σ', H', J0.ofTry okX, r, q⟩
/-- the suite of the one clause that we read -/
theorem suite_ps {i j : Nat} {n t : Str} {w : Str} {a Cx : Addr} {oe : Obj} {pn : List (Addr × Obj)} {p1 p2 p3 p4 p5 p6 p7 : Pos} {k1 : Nat} (hN : X.N.Nodup) (hi : X.N[i]? = some n) (hj : X.N[j]? = some t) (hn : Vis X.env.scope n) (hnd : (n == ("__debug__" : Str)) = false) (hnc : (n == ("__classdict__" : Str)) = false)
    (ht : Loc X.env.scope t) (htf : X.fn t = true ∨ X.env.scope.names.lookup t = some .local) (hgi : Gl X "isinstance") (hmi : X.mg "isinstance" = none) (hgv : Gl X "ValueError") (hmv : X.mg "ValueError" = none) (hx : ExcC X.K Cx) (hz : Zc (.ref Cx) none oe) (hf : ∃ vs, oe.data = .fields vs) :
    PSs (X.suite a ((a, oe) :: pn)) [.Assign [.Name t p1] (.List [.Constant (.str w) k1 p2, .Call (.Name "isinstance" p3) [.Name n p4, .Name "ValueError" p5] [] p6] p7) pos]
      (tAsg (tLst (tCons (tC (.str w)) (tCons (tCB (rIsE X.K Cx a) (tCons (tVar i) (tCons (tC (.ty "ValueError")) tNil))) tNil))) (gName j)) := by
  refine pss_one (ps_asg ?_ (pg_name (X := X.suite a ((a, oe) :: pn)) hN hj ht htf))
  refine pe_lst (pa_cons pe_str (pa_cons ?_ pa_nil))
  exact pe_callB (call_isE hx hz hf) (X := X.suite a ((a, oe) :: pn)) hgi hmi (by decide +kernel) (pa_cons (pe_var (X := X.suite a ((a, oe) :: pn)) hi hn hnd hnc) (pa_cons (pe_bltn (X := X.suite a ((a, oe) :: pn)) (v := .ty "ValueError") (u := .type "ValueError") hgv hmv (by decide +kernel) rfl) pa_nil))
/-- the clause's suite, for every exception that it may take -/
def tSu (K : PySem.W.Frag) (w : Str) (i j : Nat) (a : Addr) (cls : Value) (d : Option Addr) : TS := fun D σ H => ∃ Cx, cls = .ref Cx ∧ d = none ∧ ExcC K Cx ∧
  tAsg (tLst (tCons (tC (.str w)) (tCons (tCB (rIsE K Cx a) (tCons (tVar i) (tCons (tC (.ty "ValueError")) tNil))) tNil))) (gName j) D σ H
theorem st_try {b : List Stmt} {b' : List Sm} {c n t w : Str} {i j : Nat} {p0 p1 p2 p3 p4 p5 p6 p7 p8 p9 : Pos} {k1 : Nat} (hs : X.stack = X.env :: X.outer) (hf : X.env.frame = some X.env.locals) (hN : X.N.Nodup) (hi : X.N[i]? = some n) (hj : X.N[j]? = some t) (hij : i ≠ j)
    (hln : X.env.scope.names.lookup n = some .local) (hnd : (n == ("__debug__" : Str)) = false) (hnc : (n == ("__classdict__" : Str)) = false) (ht : Loc X.env.scope t) (htf : X.fn t = true ∨ X.env.scope.names.lookup t = some .local)
    (hgc : Gl X c) (hdc : (c == ("__debug__" : Str)) = false) (hgi : Gl X "isinstance") (hmi : X.mg "isinstance" = none) (hgv : Gl X "ValueError") (hmv : X.mg "ValueError" = none) (hx : ExOk X.K X.mg Γ c) (tk : Takes X W)
    (hb : ∀ (W : WX) (pn : List (Addr × Obj)) (xe : Value → Shared → Prop), Takes (X.tr pn xe) W → PassesOwn (model X.prog X.w) X.A X.env xe → PSs (X.tr pn xe) b (tBl Γ F W b')) :
    PS X (.Try b [.ExceptHandler (some (.Name c p0)) (some n) [.Assign [.Name t p1] (.List [.Constant (.str w) k1 p2, .Call (.Name "isinstance" p3) [.Name n p4, .Name "ValueError" p5] [] p6] p7) p9] p8] [] [] pos)
      (tS Γ F W (.trys b' [⟨c, i, j, w, none, true⟩])) := by
  obtain ⟨C, h1, h2, h3, h4, h5, h6, h7, h8, h9⟩ := hx.ex
  refine imS (ps_try_as (ts := tSu X.K w i j) (c := .ref C) hs hf hN hi hln ⟨hgc, hdc, .inl h2⟩ tk (fun W pn xe tk hp => hb W pn xe tk hp) fun a oe cls d pn hz hfs => ?_) fun D σ H q => ?_
  · refine ⟨fun pins s σ H D I ⟨Cx, e1, e2, hc, q⟩ => ?_⟩
    subst e1 e2
    exact (suite_ps (pos := p9) (p1 := p1) (p2 := p2) (p3 := p3) (p4 := p4) (p5 := p5) (p6 := p6) (p7 := p7) (k1 := k1) hN hi hj (.inl hln) hnd hnc ht htf hgi hmi hgv hmv hc hz hfs).run pins s σ H D I q
  · obtain ⟨R, B, f, h, ds, A, p⟩ := q
    refine ⟨R, B, f, h, ds, A, ?_⟩
    have p : PostS Γ f h.length R B H σ.length (match evB F b' ds h with
      | .ok r h => .ok r h
      | .exc c1 pl h => hdl (fun a b => a == b) (fun _ => true) c1 pl (List.replicate ds.length none) h [⟨c, i, j, w, none, true⟩]
      | .fail => .fail) D W := p
    cases hq : evB F b' ds h with
    | fail => rw [hq] at p; exact p
    | ok q h1 => rw [hq] at p; exact p
    | exc c1 pl h1 =>
      rw [hq] at p
      intro f1 H1 σ1 x1 s1 hl cls d er
      obtain ⟨er1, er2⟩ := er
      refine ⟨c1 == c, h9 _ _ er1, fun hb a ha => ?_, fun hb => ?_⟩
      · have p : PostS Γ f h.length R B H σ.length (if (c1 == c) = true then _ else _) D W := p
        rw [if_pos hb] at p
        cases pl with
        | cons _ _ => exact p.elim
        | nil =>
          have p : PostS Γ f h.length R B H σ.length (if i < (List.replicate ds.length (none : Option Ev.D)).length ∧ j < (List.replicate ds.length (none : Option Ev.D)).length then _ else _) D W := p
          split at p
          · rename_i hlt
            simp only [List.length_replicate] at hlt
            have e := eq_of_beq hb
            subst e
            rw [h1] at er1
            cases er1
            have hlen : ds.length = σ1.length := A.sl.len.trans hl.symm
            refine ⟨C, rfl, er2 rfl, h7, .ref a, by rw [List.getElem?_set_self (by omega)], .ty "ValueError", .type "ValueError", true, rfl, fun u r => by cases r; rfl, h8, by show 2 ≤ sizeLine; exact Nat.le_trans (by decide) line_ge, fun pp hp => ?_⟩
            refine p f1 _ _ (x1.trans (Ext.upd hp)) (s1.upd hp) ⟨by simp [hlen], fun k d e => ?_⟩
            by_cases hk : k = i
            · subst hk
              rw [List.getElem?_set_self (by simp; omega)] at e
              cases e
            · rw [List.getElem?_set_ne (Ne.symm hk)] at e
              rw [List.getElem?_set_ne (Ne.symm hk)]
              by_cases hk2 : k = j
              · subst hk2
                rw [List.getElem?_set_self (by simp; omega)] at e
                cases e
                exact ⟨.ref pp, by rw [List.getElem?_set_self (by simp; omega)], RD.newLst s1 hp (.cons (.str _) (.cons (.bl _) .nil))⟩
              · rw [List.getElem?_set_ne (Ne.symm hk2)] at e
                rw [List.getElem?_replicate] at e
                split at e <;> cases e
          · exact p.elim
      · have p : PostS Γ f h.length R B H σ.length (if (c1 == c) = true then _ else _) D W := p
        rw [if_neg (by rw [hb]; decide)] at p
        exact p f1 H1 σ1 x1 s1 hl cls d ⟨er1, er2⟩
/-- clauses, their readings, their wishes -/
inductive HdsR (X : Cx) (Γ : Cst) : List ExceptHandler → List Hd → List (Value × Nat × (Addr → Value → Option Addr → TS)) → Prop
  | nil : HdsR X Γ [] [] []
  | good {hds : List ExceptHandler} {hs : List Hd} {l : List (Value × Nat × (Addr → Value → Option Addr → TS))} {c n t w : Str} {i j : Nat} {p0 p1 p2 p3 p4 p5 p6 p7 p8 p9 : Pos} {k1 : Nat} {C : Addr} (hi : X.N[i]? = some n) (hj : X.N[j]? = some t) (hij : i ≠ j)
      (hln : X.env.scope.names.lookup n = some .local) (hnd : (n == ("__debug__" : Str)) = false) (hnc : (n == ("__classdict__" : Str)) = false) (ht : Loc X.env.scope t) (htf : X.fn t = true ∨ X.env.scope.names.lookup t = some .local)
      (hgc : Gl X c) (hdc : (c == ("__debug__" : Str)) = false) (hgi : Gl X "isinstance") (hmi : X.mg "isinstance" = none) (hgv : Gl X "ValueError") (hmv : X.mg "ValueError" = none) (hx : ExOk X.K X.mg Γ c) (hC : Γ.ex c = some (.ref C)) (r : HdsR X Γ hds hs l) :
      HdsR X Γ (.ExceptHandler (some (.Name c p0)) (some n) [.Assign [.Name t p1] (.List [.Constant (.str w) k1 p2, .Call (.Name "isinstance" p3) [.Name n p4, .Name "ValueError" p5] [] p6] p7) p9] p8 :: hds) (⟨c, i, j, w, none, true⟩ :: hs) ((.ref C, i, tSu X.K w i j) :: l)
  | bad {hds : List ExceptHandler} {hs : List Hd} {l : List (Value × Nat × (Addr → Value → Option Addr → TS))} {c n : Str} {i a1 a2 : Nat} {w : Str} {fld : Option Str} {p0 p8 : Pos} {b0 : Stmt} {su : List Stmt} {C : Addr} (hi : X.N[i]? = some n) (hln : X.env.scope.names.lookup n = some .local)
      (hgc : Gl X c) (hdc : (c == ("__debug__" : Str)) = false) (hm : X.mg c = some (.ref C)) (hx : ∀ c' cls, Γ.ex c' = some cls → PySem.W.exmOne X.K cls (.ref C) = some (c' == c)) (r : HdsR X Γ hds hs l) :
      HdsR X Γ (.ExceptHandler (some (.Name c p0)) (some n) (b0 :: su) p8 :: hds) (⟨c, a1, a2, w, fld, false⟩ :: hs) ((.ref C, i, fun _ _ _ _ _ _ => False) :: l)
theorem HdsR.as {hds : List ExceptHandler} {hs : List Hd} {l : List (Value × Nat × (Addr → Value → Option Addr → TS))} (hN : X.N.Nodup) (h : HdsR X Γ hds hs l) : HdsAs X hds l := by
  induction h with
  | nil => exact .nil
  | @good _ _ _ c n t w i j p0 p1 p2 p3 p4 p5 p6 p7 p8 p9 k1 C hi hj hij hln hnd hnc ht htf hgc hdc hgi hmi hgv hmv hx hC r ih =>
    obtain ⟨C1, h1, h2, _⟩ := hx.ex
    rw [hC] at h1
    cases h1
    refine .cons (c := .ref C) ⟨hgc, hdc, .inl h2⟩ hi hln (fun a oe cls d pn hz hfs => ⟨fun pins s σ H D I ⟨Cx, e1, e2, hc, q⟩ => ?_⟩) ih
    subst e1 e2
    exact (suite_ps (pos := p9) (p1 := p1) (p2 := p2) (p3 := p3) (p4 := p4) (p5 := p5) (p6 := p6) (p7 := p7) (k1 := k1) hN hi hj (.inl hln) hnd hnc ht htf hgi hmi hgv hmv hc hz hfs).run pins s σ H D I q
  | bad hi hln hgc hdc hm hx r ih =>
    exact .cons (c := .ref _) ⟨hgc, hdc, .inl hm⟩ hi hln (fun a oe cls d pn hz hfs => ⟨fun pins s σ H D I q => q.elim⟩) ih
theorem HdsR.wish {hds : List ExceptHandler} {hs : List Hd} {l : List (Value × Nat × (Addr → Value → Option Addr → TS))} (hr : HdsR X Γ hds hs l) {R : Addr → Prop} {B : Nat → Prop} {f f1 : Nat → Addr} {h h1 : Hh} {ds : Sl} {σ1 : L2.St} {H H1 : Hp} {len : Nat} {Dn : Ends} {c1 : Str} {pl : List D} {cls : Value} {d : Option Addr}
    (p : PostS Γ f h.length R B H len (hdl (fun a b => a == b) (fun _ => true) c1 pl (List.replicate ds.length none) h1 hs) Dn W) (x1 : Ext f h.length R H f1 h1.length H1) (s1 : Sim Γ.fa f1 R B h1 H1) (hl : σ1.length = len) (hd : ds.length = len) (er : ER Γ c1 pl cls d f1 R h1 H1) : wAsM X.K W Dn l cls d σ1 H1 := by
  induction hr with
  | nil => exact p f1 H1 σ1 x1 s1 hl cls d er
  | @good _ _ _ c n t w i j p0 p1 p2 p3 p4 p5 p6 p7 p8 p9 k1 C hi hj hij hln hnd hnc ht htf hgc hdc hgi hmi hgv hmv hx hC r ih =>
    obtain ⟨C1, h1', h2, h3, h4, h5, h6, h7, h8, h9⟩ := hx.ex
    rw [hC] at h1'
    cases h1'
    obtain ⟨er1, er2⟩ := er
    refine ⟨c1 == c, h9 _ _ er1, fun hb a ha => ?_, fun hb => ?_⟩
    · have p : PostS Γ f h.length R B H len (if (c1 == c) = true then _ else _) Dn W := p
      rw [if_pos hb] at p
      cases pl with
      | cons _ _ => exact p.elim
      | nil =>
        have p : PostS Γ f h.length R B H len (if i < (List.replicate ds.length (none : Option Ev.D)).length ∧ j < (List.replicate ds.length (none : Option Ev.D)).length then _ else _) Dn W := p
        split at p
        · rename_i hlt
          simp only [List.length_replicate] at hlt
          have e := eq_of_beq hb
          subst e
          rw [hC] at er1
          cases er1
          have hlen : ds.length = σ1.length := hd.trans hl.symm
          refine ⟨C, rfl, er2 rfl, h7, .ref a, by rw [List.getElem?_set_self (by omega)], .ty "ValueError", .type "ValueError", true, rfl, fun u r => by cases r; rfl, h8, by show 2 ≤ sizeLine; exact Nat.le_trans (by decide) line_ge, fun pp hp => ?_⟩
          refine p f1 _ _ (x1.trans (Ext.upd hp)) (s1.upd hp) ⟨by simp [hlen], fun k d e => ?_⟩
          by_cases hk : k = i
          · subst hk
            rw [List.getElem?_set_self (by simp; omega)] at e
            cases e
          · rw [List.getElem?_set_ne (Ne.symm hk)] at e
            rw [List.getElem?_set_ne (Ne.symm hk)]
            by_cases hk2 : k = j
            · subst hk2
              rw [List.getElem?_set_self (by simp; omega)] at e
              cases e
              exact ⟨.ref pp, by rw [List.getElem?_set_self (by simp; omega)], RD.newLst s1 hp (.cons (.str _) (.cons (.bl _) .nil))⟩
            · rw [List.getElem?_set_ne (Ne.symm hk2)] at e
              rw [List.getElem?_replicate] at e
              split at e <;> cases e
        · exact p.elim
    · have p : PostS Γ f h.length R B H len (if (c1 == c) = true then _ else _) Dn W := p
      rw [if_neg (by rw [hb]; decide)] at p
      exact ih p
  | @bad _ _ _ c n i a1 a2 w fld p0 p8 b0 su C hi hln hgc hdc hm hx r ih =>
    obtain ⟨er1, er2⟩ := id er
    refine ⟨c1 == c, hx _ _ er1, fun hb a ha => ?_, fun hb => ?_⟩
    · have p : PostS Γ f h.length R B H len (if (c1 == c) = true then _ else _) Dn W := p
      rw [if_pos hb] at p
      exact p.elim
    · have p : PostS Γ f h.length R B H len (if (c1 == c) = true then _ else _) Dn W := p
      rw [if_neg (by rw [hb]; decide)] at p
      exact ih p
theorem st_tryM {b : List Stmt} {b' : List Sm} {hd0 : ExceptHandler} {hds : List ExceptHandler} {hs : List Hd} {l : List (Value × Nat × (Addr → Value → Option Addr → TS))} (hst : X.stack = X.env :: X.outer) (hf : X.env.frame = some X.env.locals) (hN : X.N.Nodup) (tk : Takes X W) (hr : HdsR X Γ (hd0 :: hds) hs l)
    (hb : ∀ (W : WX) (pn : List (Addr × Obj)) (xe : Value → Shared → Prop), Takes (X.tr pn xe) W → PassesOwn (model X.prog X.w) X.A X.env xe → PSs (X.tr pn xe) b (tBl Γ F W b')) : PS X (.Try b (hd0 :: hds) [] [] pos) (tS Γ F W (.trys b' hs)) := by
  refine imS (ps_try_asM hst hf hN tk (fun W pn xe tk hp => hb W pn xe tk hp) (hr.as hN)) fun D σ H ⟨R, B, f, h, ds, A, p⟩ => ⟨R, B, f, h, ds, A, ?_⟩
  have p : PostS Γ f h.length R B H σ.length (match evB F b' ds h with
    | .ok r h => .ok r h
    | .exc c1 pl h => hdl (fun a b => a == b) (fun _ => true) c1 pl (List.replicate ds.length none) h hs
    | .fail => .fail) D W := p
  cases hq : evB F b' ds h with
  | fail => rw [hq] at p; exact p
  | ok q h1 => rw [hq] at p; exact p
  | exc c1 pl h1 =>
    rw [hq] at p
    exact fun f1 H1 σ1 x1 s1 hl cls d er => hr.wish p x1 s1 hl A.sl.len er
end
end Ev

set_option Elab.async false
set_option linter.all false
set_option maxRecDepth 100000
set_option maxHeartbeats 8000000
/-! EvXa: x[i] op= e; statements that are never read. -/
namespace Ev
open PySem PySem.Spec PyProof.Rows L2
section
variable {X : Cx} {Γ : Cst} {F : Fr} {W : WX} {pos : Pos}
/-- x[i] by values -/
def rGetA (fa : FA) (K : PySem.W.Frag) : R2 := fun x y H Q => rIxL K x y H Q ∨ rIxDc fa x y H Q
theorem get_any {fa : FA} {pins : List (Addr × Obj)} {s : Shared} {σ : L2.St} {H : Hp} {x y : V} {v u : Value} {Q : VK} (hu : X.A.units + 20 < cLine) (I : Inv X pins σ H s) (rx : RelV x v) (ry : RelV y u) (h : rGetA fa X.K x y H Q) : wpAny (model X.prog X.w) X.A (getItem v u) (EP X pins σ Q) X.xe s := by
  rcases h with h | h
  · obtain ⟨p, xs, i, z, rfl, rfl, hq, he, q⟩ := h
    cases rx
    obtain ⟨t, rfl⟩ := ry
    obtain ⟨its, r, pl, hz⟩ := I.list hq
    obtain ⟨j, h1, h2, h3, h4, h5⟩ := atI_get he
    obtain ⟨w, ew, rw'⟩ := r.get h2
    have hl := r.length
    have hn := line63
    have done : EP X pins σ Q w s := ⟨z, H, I, rw', q⟩
    by_cases h0 : 0 ≤ i
    · have hj : i.toNat = j := by
        rw [seqIndex_of h0 h5] at h1
        exact Option.some.inj h1
      exact wpAny_getItem_list pl.isList h0 (by omega) (by rw [hj]; simpa using ew) done
    · have hj : (i + (its.toArray.size : Int)).toNat = j := by
        rw [seqIndex_neg (by omega) h4] at h1
        rw [List.size_toArray, ← hl]
        exact Option.some.inj h1
      exact wpAny_getItem_list_neg pl.isList (by omega) (by rw [List.size_toArray] <;> omega) (by omega) (by rw [hj]; simpa using ew) done
  · obtain ⟨a, f, n, R, ks, vs, us, ws, d, z, rfl, e, kd, rk, rv, r, hk, hz, q⟩ := h
    cases rx
    obtain ⟨v1, u1, h1, h2, h3⟩ := dict_get (A := X.A) hu I e kd rk rv r hk ry hz
    exact h3 _ _ fun s' I' => ⟨v1, H, I', h2, q v1 h1⟩
theorem ps_augs {fa : FA} {o i value : Expr} {to ti tv : TE} {op : Operator} {rd : V → V → Hp → VK → Prop} {tpos : Pos} (hu : X.A.units + 20 < cLine) (ho : PE X o to) (hi : PE X i ti) (hv : PE X value tv) (hop : InOp X op rd)
    (ha : ∀ ov iv new, augStore i ov iv new = (do holding [new, ov, iv] (setItem ov iv new); release [new, ov, iv] []; pure .next)) :
    PS X (.AugAssign (.Subscript o i tpos) op value pos) (fun D σ H => to σ H fun x H1 => ti σ H1 fun y H2 => rGetA fa X.K x y H2 fun v H3 => tv σ H3 fun z H4 => rd v z H4 fun w H5 => rSetA fa x y w H5 fun H6 => D.nx σ H6) := by
  refine ⟨fun pins s σ H D I h => wpAny_AugAssign_SubscriptAny (thn (ho.run pins s σ H _ I h) fun u s1 ⟨x, H1, I1, rx, q1⟩ => thn (hi.run pins s1 σ H1 _ I1 q1) fun iv s2 ⟨y, H2, I2, ry, q2⟩ => thn (get_any hu I2 rx ry q2) fun old s3 ⟨v, H3, I3, rv, q3⟩ => thn (hv.run pins s3 σ H3 _ I3 q3) fun w s4 ⟨z, H4, I4, rz, q4⟩ =>
    thn (hop pins s4 σ H4 v z old w _ I4 rv rz q4) fun new s5 ⟨w2, H5, I5, rw2, q5⟩ => ?_) ha⟩
  exact wpAny_mono (Ev.PSet.or set_list (set_dict (fa := fa) hu) pins s5 σ H5 x y w2 u iv new _ I5 rx ry rw2 q5) (fun _ s6 ⟨H6, I6, q6⟩ => ⟨σ, H6, I6, q6⟩) fun _ _ e => e
theorem st_bad {s : Stmt} : PS X s (tS Γ F W .bad) := ⟨fun _ _ _ _ _ _ ⟨R, B, f, h, ds, A, p⟩ => p.elim⟩
theorem aug_eq {i : Expr} (hn : nice i = true) (ov iv new : Value) : augStore i ov iv new = (do holding [new, ov, iv] (setItem ov iv new); release [new, ov, iv] []; pure .next) := by cases i <;> first | rfl | cases hn
theorem get_run {R : Addr → Prop} {B : Nat → Prop} {f2 : Nat → Addr} {h2 : Hh} {H2 : Hp} {x k z : D} {y w : V} {Q : VK} (sm : Sim Γ.fa f2 R B h2 H2) (r4 : RD Γ.fa f2 h2.length R H2 x y) (r2 : RD Γ.fa f2 h2.length R H2 k w) (hz : idxRef h2 x k = some z) (q : ∀ v, RD Γ.fa f2 h2.length R H2 z v → Q v H2) : rGetA Γ.fa X.K y w H2 Q := by
  cases x with
  | ref m =>
    have hz : idxOp h2 (.ref m) k = some z := hz
    have t2 := top_ok sm r4
    unfold idxOp at hz
    cases ht : top h2 (.ref m) with
    | lst xs =>
      rw [ht] at hz t2
      obtain ⟨a, vs, rfl, e1, t⟩ := t2
      cases k with
      | int i =>
        obtain ⟨v, e2, r⟩ := get_ok t hz
        exact .inl ⟨a, vs, i, v, rfl, rd_int r2, .of e1, e2, q _ r⟩
      | _ => cases hz
    | dct ks vs =>
      rw [ht] at hz t2
      obtain ⟨a, us, ws, rfl, e1, kd, t, t'⟩ := t2
      have hz : (if kdOk ks k = true then lookD k ks vs else none) = some z := by cases k <;> exact hz
      split at hz
      · rename_i hk
        exact .inr ⟨a, f2, h2.length, R, ks, vs, us, ws, k, z, rfl, e1, kd, t, t', r2, hk, hz, q⟩
      · cases hz
    | tup xs =>
      have this : (match h2[m]? with
        | some (.lst xs) => D.lst xs
        | some (.dct ks vs) => .dct ks vs
        | none => .ref m) = .tup xs := ht
      split at this <;> cases this
    | _ => rw [ht] at hz; cases hz
  | _ => cases hz
theorem st_augs {o i e : Expr} {o' i' e' : Ex} {bo : Operator} {op : Op} {tpos : Pos} (hu : X.A.units + 20 < cLine) (hop : opOf bo = some op) (ho : PE X o (tE Γ F W o')) (hi : PE X i (tE Γ F W i')) (he : PE X e (tE Γ F W e')) (hn : nice i = true) :
    PS X (.AugAssign (.Subscript o i tpos) bo e pos) (tS Γ F W (.augs o' i' op e')) :=
  imS (ps_augs (fa := Γ.fa) hu ho hi he (ip_aug (fa := Γ.fa) hop) (aug_eq hn)) fun D σ H ⟨R, B, f, h, ds, A, p⟩ => mkS A p fun x y f1 h1 H1 x1 A1 r1 _ p1 => mkS A1 p1 fun k w f2 h2 H2 x2 A2 r2 _ p2 => by
    obtain ⟨v, hv, p2⟩ := PostS.of p2
    refine get_run A2.sim (r1.ext x2) r2 hv fun vv rv => mkS A2 p2 fun y3 w3 f3 h3 H3 x3 A3 r3 _ p3 => ?_
    obtain ⟨z, hz, p3⟩ := PostS.of p3
    refine ⟨f3, R, B, h3, v, y3, z, A3.sim, rv.ext x3, r3, hz, fun vz rz => ?_⟩
    cases hs : setOp F.base h3 x k z with
    | none => rw [hs] at p3; exact p3.elim
    | some h4 =>
      rw [hs] at p3
      exact set_run A3 ((r1.ext x2).ext x3) (r2.ext x3) rz hs fun H' e s => p3 f3 H' σ e s (A3.sl.ext e)
end
end Ev

set_option Elab.async false
set_option linter.all false
set_option maxRecDepth 100000
set_option maxHeartbeats 8000000
/-! EvY: the compile step is sound, statements. -/
namespace Ev
open PySem PySem.Spec PyProof.Rows L2
theorem sw_ok {env : Env} (hk : env.scope.kind = .function) {ts vs : List Expr} {r : Option (List Str)} {kt k2 : Nat} {pt p2 : Pos} (h : swB env.scope.names ts vs = some r) : swappedStores [.Tuple ts kt pt] (.Tuple vs k2 p2) env = pure r := by
  have eb : (env.blockKind != ScopeKind.function) = false := by
    unfold Env.blockKind
    rw [hk]
    rfl
  unfold swB at h
  unfold swappedStores
  dsimp only
  rw [eb, Bool.or_false]
  split at h
  · rename_i h1
    cases h
    exact if_pos h1
  · rename_i h1
    refine (if_neg h1).trans ?_
    split at h
    · rename_i h2
      cases h
      refine (if_pos ?_).trans rfl
      exact h2
    · rename_i h2
      refine (if_neg ?_).trans ?_
      · exact h2
      · dsimp only at h
        split at h
        · rename_i h3
          cases h
          refine (if_pos ?_).trans rfl
          exact h3
        · rename_i h3
          refine (if_neg ?_).trans ?_
          · exact h3
          · split at h
            · rename_i h4
              cases h
              exact if_pos h4
            · rename_i h4
              refine (if_neg h4).trans ?_
              split at h
              · cases h
              · rename_i h5
                cases h
                refine (if_neg h5).trans ?_
                rfl
theorem sw_none {t e : Expr} {env : Env} (hl : ∀ es p, t ≠ .List es p) (h : tupOf t = none ∨ tupOf e = none) : swappedStores [t] e env = pure none := by
  cases t
  case List => exact absurd rfl (hl _ _)
  case Tuple =>
    cases e
    case Tuple => rcases h with h | h <;> cases h
    all_goals rfl
  all_goals rfl
theorem sw_lc {e : Expr} {t : Option Expr} {l : Nat} {env : Env} (h : notComp e = true) {n : Nat} {C : Cc} {sc : List (Str × NameKind)} {e' : Ex} (h2 : cE C n sc e = some e') : swapsWith e t l env = pure false := by
  cases n with
  | zero => cases h2
  | succ n =>
    cases e
    case ListComp => cases h
    case SetComp => cases h2
    case DictComp => cases h2
    all_goals rfl
theorem sw_sub {e t : Expr} {l : Nat} {env : Env} (h : ∀ x p, t ≠ .Name x p) : swapsWith e (some t) l env = pure false := by
  unfold swapsWith
  split
  · cases t
    case Name => exact absurd rfl (h _ _)
    all_goals rfl
  · rfl
/-- what a place of a body must offer -/
structure GoodS (X : Cx) (Γ : Cst) (F : Fr) (C : Cc) (W : WX) (k : Nat) (sc : List (Str × NameKind)) : Prop where
  g : Good X Γ F C W k
  sc : X.env.scope.names = sc
  fn : ∀ x, X.fn x = true
  po : PassesOwn (model X.prog X.w) X.A X.env X.xe
  st : X.stack = X.env :: X.outer
  fr : X.env.frame = some X.env.locals
  exs : ∀ c ∈ C.M.excs, ExOk X.K X.mg Γ c
  val : X.mg "ValueError" = none
  hcs : ∀ c ∈ C.M.hcl, HcOk X.K X.mg Γ c
section
variable {X : Cx} {Γ : Cst} {F : Fr} {C : Cc} {W : WX} {k : Nat} {sc : List (Str × NameKind)}
theorem GoodS.own (G : GoodS X Γ F C W k sc) : OkT X sc := fun x hx => by
  refine ⟨?_, .inl (G.fn x)⟩
  unfold isOwn at hx
  unfold L2.Loc
  rw [G.sc]
  split at hx
  · exact .inl ‹_›
  · exact .inr ‹_›
  · cases hx
theorem GoodS.tr (G : GoodS X Γ F C W k sc) {W' : WX} {pn : List (Addr × Obj)} {xe : Value → Shared → Prop} (tk : Takes (X.tr pn xe) W') (hp : PassesOwn (model X.prog X.w) X.A X.env xe) : GoodS (X.tr pn xe) Γ F C W' k sc :=
  ⟨⟨G.g.N, G.g.nd, G.g.calm, G.g.room, G.g.kind, tk, G.g.pw, G.g.fns, G.g.fok, G.g.gis, G.g.blt⟩, G.sc, G.fn, hp, G.st, G.fr, G.exs, G.val, G.hcs⟩
theorem par_ok {es : List Expr} {es' : List Ex} (h : All2 (OkE X Γ F W) es es') : ∀ (ts : List Expr), All2 (PN X Γ F W) es (parE C ts es') := by
  induction h with
  | nil => intro ts; cases ts <;> exact .nil
  | cons hp r ih =>
    intro ts
    cases ts with
    | nil => exact .cons ⟨hp.e 0, hp.n⟩ (r.imp fun _ _ z => ⟨z.e 0, z.n⟩)
    | cons t ts => exact .cons ⟨hp.e _, hp.n⟩ (ih ts)
theorem snd_tupN {es : List Expr} {es' : List Ex} {k : Nat} {pos : Pos} (ha : All2 (PN X Γ F W) es es') (hl : es.length ≤ 1000) : PE X (.Tuple es k pos) (tE Γ F W (.tup es')) :=
  imE (pe_tupK (snd_argsN ha)) fun σ H Q ⟨R, B, f, h, ds, A, p⟩ => mkA' A p fun xs vs f1 h1 H1 ln x A1 r p1 => by
    refine ⟨?_, fun pp ob hp ho => p1 f1 _ _ (Ext.upd hp) (A1.sim.upd hp) ⟨RD.newTup A1.sim hp ho r, fun z => by cases z⟩⟩
    rw [← RDs.length r, ln, ← ha.length]
    exact Nat.le_trans hl (Nat.le_trans (by decide) line_ge)
theorem cAt_nl {n : Nat} {t : Expr} {t' : At} (h : cAt C sc n t = some t') : ∀ es p, t ≠ .List es p := by
  cases n with
  | zero => cases h
  | succ n =>
    cases t
    case List => cases h
    all_goals exact fun _ _ z => by cases z
theorem g_name {line : Nat} {t : Expr} {x : Str} (h : (match t with | .Name id pos => if (sc.lookup id == some .local && pos.line == line) = true then some id else none | _ => none) = some x) : ∃ p, t = .Name x p ∧ sc.lookup x = some .local := by
  split at h
  · rename_i id pos
    split at h
    · rename_i hc
      cases h
      exact ⟨pos, rfl, by simpa using (Bool.and_eq_true_iff.mp hc).1⟩
    · cases h
  · cases h
theorem fm2 {α β : Type} {g : α → Option β} {a b : α} (h : ([a, b].filterMap g).length = 2) : ∃ x y, g a = some x ∧ g b = some y ∧ [a, b].filterMap g = [x, y] := by
  cases ha : g a <;> cases hb : g b <;> simp [List.filterMap_cons, ha, hb] at h ⊢
theorem fm3 {α β : Type} {g : α → Option β} {a b c : α} (h : ([a, b, c].filterMap g).length = 3) : ∃ x y z, g a = some x ∧ g b = some y ∧ g c = some z ∧ [a, b, c].filterMap g = [x, y, z] := by
  cases ha : g a <;> cases hb : g b <;> cases hc : g c <;> simp [List.filterMap_cons, ha, hb, hc] at h ⊢
theorem sw_names {ts vs : List Expr} {xs : List Str} (h : swB sc ts vs = some (some xs)) : (∃ x y px py, ts = [.Name x px, .Name y py] ∧ xs = [x, y] ∧ x ≠ y ∧ sc.lookup x = some .local ∧ sc.lookup y = some .local) ∨
    (∃ x y z px py pz, ts = [.Name x px, .Name y py, .Name z pz] ∧ xs = [x, y, z] ∧ x ≠ y ∧ x ≠ z ∧ y ≠ z ∧ sc.lookup x = some .local ∧ sc.lookup y = some .local ∧ sc.lookup z = some .local) := by
  unfold swB at h
  split at h
  · cases h
  · rename_i h1
    split at h
    · cases h
    · dsimp only at h
      split at h
      · cases h
      · rename_i h3
        split at h
        · cases h
        · split at h
          · cases h
          · simp only [Option.some.injEq] at h
            rw [h] at h3
            have hn : xs.length = ts.length ∧ xs.eraseDups.length = xs.length := by simpa using h3
            have hl : ts.length = 2 ∨ ts.length = 3 := by
              apply Classical.byContradiction
              intro z
              apply h1
              simp
              left
              simpa using z
            match ts, hl with
            | [a, b], _ =>
              rw [← h] at hn
              obtain ⟨x, y, e1, e2, e3⟩ := fm2 hn.1
              rw [e3] at hn h
              subst h
              obtain ⟨p1, rfl, l1⟩ := g_name e1
              obtain ⟨p2, rfl, l2⟩ := g_name e2
              refine .inl ⟨x, y, p1, p2, rfl, rfl, fun z => ?_, l1, l2⟩
              subst z
              have := hn.2
              simp [List.eraseDups_cons] at this
            | [a, b, c], _ =>
              rw [← h] at hn
              obtain ⟨x, y, z, e1, e2, e3, e4⟩ := fm3 hn.1
              rw [e4] at hn h
              subst h
              obtain ⟨p1, rfl, l1⟩ := g_name e1
              obtain ⟨p2, rfl, l2⟩ := g_name e2
              obtain ⟨p3, rfl, l3⟩ := g_name e3
              refine .inr ⟨x, y, z, p1, p2, p3, rfl, rfl, fun z => ?_, fun z => ?_, fun z => ?_, l1, l2, l3⟩
              all_goals
                subst z
                have := hn.2
                simp only [List.eraseDups_cons, List.eraseDups_nil, List.length_cons, List.length_nil, List.filter_cons, List.filter_nil, BEq.rfl, Bool.not_true, Bool.false_eq_true, if_false] at this
                split at this <;> simp [List.eraseDups_cons, List.filter_cons] at this <;> try (split at this <;> simp at this)
variable {n : Nat}
theorem cS_asg {t e : Expr} {pos : Pos} : cS C sc (n + 1) (.Assign [t] e pos) = (match cAt C sc n t with
      | none => none
      | some t' => (match tupOf t, tupOf e with
        | some ts, some es => (match swB sc ts es, cEs C n sc es with
          | some _, some es' => if es.length ≤ 1000 then some (.asg t' (.tup (parE C ts es'))) else none
          | _, _ => none)
        | _, _ => (match cE C n sc e with
          | some e' => some (.asg t' (cellE (muOf C t) e'))
          | none => none))) := rfl
theorem tupOf_ok {t : Expr} {ts : List Expr} (h : tupOf t = some ts) : ∃ k p, t = .Tuple ts k p := by
  cases t <;> cases h
  exact ⟨_, _, rfl⟩
theorem cAt_nm {x : Str} {p : Pos} {t' : At} (h : cAt C sc n (.Name x p) = some t') : ∃ i, isOwn sc x = true ∧ slotOf C.N x = some i ∧ t' = .name i := by
  cases n with
  | zero => cases h
  | succ n =>
    have h : (if isOwn sc x = true then (slotOf C.N x).map At.name else none) = some t' := h
    split at h
    · obtain ⟨i, h1, rfl⟩ := Option.map_eq_some_iff.mp h
      exact ⟨i, ‹_›, h1, rfl⟩
    · cases h
theorem cAt_tp {ts : List Expr} {k : Nat} {p : Pos} {t' : At} (h : cAt C sc n (.Tuple ts k p) = some t') : ∃ m ts', n = m + 1 ∧ cAts C sc m ts = some ts' ∧ t' = .tup ts' := by
  cases n with
  | zero => cases h
  | succ n =>
    obtain ⟨i, h1, rfl⟩ := Option.map_eq_some_iff.mp (show (cAts C sc n ts).map At.tup = some t' from h)
    exact ⟨n, i, rfl, h1, rfl⟩
theorem cAts_cons {t : Expr} {ts : List Expr} {r : List At} (h : cAts C sc n (t :: ts) = some r) : ∃ m t' ts', n = m + 1 ∧ cAt C sc m t = some t' ∧ cAts C sc m ts = some ts' ∧ r = t' :: ts' := by
  cases n with
  | zero => cases h
  | succ n =>
    have h : (match cAt C sc n t, cAts C sc n ts with
    | some t, some ts => some (t :: ts)
    | _, _ => none) = some r := h
    split at h
    · cases h
      exact ⟨n, _, _, rfl, ‹_›, ‹_›, rfl⟩
    · cases h
theorem cAts_nil {r : List At} (h : cAts C sc n [] = some r) : r = [] := by
  cases n with
  | zero => cases h
  | succ n => cases h; rfl
theorem slot_ne {x y : Str} {i j : Nat} (h1 : slotOf C.N x = some i) (h2 : slotOf C.N y = some j) (h : x ≠ y) : i ≠ j := fun e => by
  subst e
  have := (slotOf_ok h1).symm.trans (slotOf_ok h2)
  exact h (Option.some.inj this)
theorem cAts2 {x y : Str} {px py : Pos} {r : List At} (h : cAts C sc n [.Name x px, .Name y py] = some r) : ∃ i j, slotOf C.N x = some i ∧ slotOf C.N y = some j ∧ r = [.name i, .name j] := by
  obtain ⟨m, t1, r1, _, h1, hts, rfl⟩ := cAts_cons h
  obtain ⟨m2, t2, r2, _, h2, hts2, rfl⟩ := cAts_cons hts
  have := cAts_nil hts2
  subst this
  obtain ⟨i, _, s1, rfl⟩ := cAt_nm h1
  obtain ⟨j, _, s2, rfl⟩ := cAt_nm h2
  exact ⟨i, j, s1, s2, rfl⟩
theorem cAts3 {x y z : Str} {px py pz : Pos} {r : List At} (h : cAts C sc n [.Name x px, .Name y py, .Name z pz] = some r) : ∃ i j l, slotOf C.N x = some i ∧ slotOf C.N y = some j ∧ slotOf C.N z = some l ∧ r = [.name i, .name j, .name l] := by
  obtain ⟨m, t1, r1, _, h1, hts, rfl⟩ := cAts_cons h
  obtain ⟨i, _, s1, rfl⟩ := cAt_nm h1
  obtain ⟨j, l, s2, s3, rfl⟩ := cAts2 hts
  exact ⟨i, j, l, s1, s2, s3, rfl⟩
theorem sw_len {ts es : List Expr} {xs : List Str} (hw : swB sc ts es = some (some xs)) : es.length = ts.length := by
  unfold swB at hw
  split at hw
  · cases hw
  · rename_i hq
    simp only [Bool.or_eq_true, Bool.not_eq_true', bne_iff_ne, ne_eq, not_or, Decidable.not_not] at hq
    exact hq.2
theorem step_asg (G : GoodS X Γ F C W k sc) (hsort : SortOk Γ) {t e : Expr} {pos : Pos} {s' : Sm} (h : cS C sc (n + 1) (.Assign [t] e pos) = some s') : PS X (.Assign [t] e pos) (tS Γ F W s') := by
  rw [cS_asg] at h
  split at h
  · cases h
  · rename_i t' ht
    obtain ⟨g, pt⟩ := (cAt_ok G.g hsort G.sc G.own n).1 t t' ht
    obtain ⟨c1, c2, _, _⟩ := claim Γ F C n X W k G.g hsort sc G.sc
    have nl := cAt_nl ht
    split at h
    · rename_i ts es ht1 he1
      obtain ⟨kt, p1, rfl⟩ := tupOf_ok ht1
      obtain ⟨ke, p2, rfl⟩ := tupOf_ok he1
      split at h
      · rename_i r es' hw hes
        split at h
        · rename_i hl
          cases h
          have hw1 := hw
          rw [← G.sc] at hw1
          have hw2 := sw_ok (kt := kt) (pt := p1) (k2 := ke) (p2 := p2) G.g.kind hw1
          have ha := par_ok (C := C) (c2 _ _ hes) ts
          cases r with
          | none => exact st_asg (snd_tupN ha hl) g rfl hw2 rfl
          | some xs =>
            obtain ⟨m, ts', rfl, hts, rfl⟩ := cAt_tp ht
            have hlen := sw_len hw
            generalize parE C ts es' = q at ha ⊢
            rcases sw_names hw with ⟨x, y, px, py, rfl, rfl, n1, l1, l2⟩ | ⟨x, y, z, px, py, pz, rfl, rfl, n1, n2, n3, l1, l2, l3⟩
            · obtain ⟨i, j, s1, s2, rfl⟩ := cAts2 hts
              match es, hlen, ha with
              | [a, b], _, ha =>
                obtain ⟨a', q, rfl⟩ : ∃ a' q', q = a' :: q' := by cases ha; exact ⟨_, _, rfl⟩
                obtain ⟨b', q, rfl⟩ : ∃ a' q', q = a' :: q' := by cases ha with | cons _ r => cases r; exact ⟨_, _, rfl⟩
                obtain rfl : q = [] := by cases ha with | cons _ r => cases r with | cons _ r => cases r; rfl
                exact st_par2 G.g.calm G.g.nd (by rw [G.g.N]; exact slotOf_ok s1) (by rw [G.g.N]; exact slotOf_ok s2) (slot_ne s1 s2 n1) (by rw [G.sc]; exact l1) (by rw [G.sc]; exact l2) ha hw2
            · obtain ⟨i, j, l, s1, s2, s3, rfl⟩ := cAts3 hts
              match es, hlen, ha with
              | [a, b, c], _, ha =>
                obtain ⟨a', q, rfl⟩ : ∃ a' q', q = a' :: q' := by cases ha; exact ⟨_, _, rfl⟩
                obtain ⟨b', q, rfl⟩ : ∃ a' q', q = a' :: q' := by cases ha with | cons _ r => cases r; exact ⟨_, _, rfl⟩
                obtain ⟨c', q, rfl⟩ : ∃ a' q', q = a' :: q' := by cases ha with | cons _ r => cases r with | cons _ r => cases r; exact ⟨_, _, rfl⟩
                obtain rfl : q = [] := by cases ha with | cons _ r => cases r with | cons _ r => cases r with | cons _ r => cases r; rfl
                exact st_par3 G.g.calm G.g.nd (by rw [G.g.N]; exact slotOf_ok s1) (by rw [G.g.N]; exact slotOf_ok s2) (by rw [G.g.N]; exact slotOf_ok s3) (slot_ne s1 s2 n1) (slot_ne s1 s3 n2) (slot_ne s2 s3 n3) (by rw [G.sc]; exact l1) (by rw [G.sc]; exact l2) (by rw [G.sc]; exact l3) ha hw2
        · cases h
      · cases h
    · rename_i hn
      have hnn : tupOf t = none ∨ tupOf e = none := by
        cases ha : tupOf t with
        | none => exact .inl rfl
        | some ts =>
          cases hb : tupOf e with
          | none => exact .inr rfl
          | some es => exact absurd hb (hn _ _ ha)
      have hw := sw_none (env := X.env) nl hnn
      split at h
      · rename_i e' he
        cases h
        have main : swapsWithSole [t] e pos.line X.env = pure false → PS X (.Assign [t] e pos) (tS Γ F W (.asg t' (cellE (muOf C t) e'))) := fun hs => st_asg ((c1 _ _ he).e _) g hs hw pt
        cases hc : notComp e with
        | true => exact main (sw_lc hc he)
        | false =>
          cases e with
          | ListComp elt gs scope lp =>
            cases n with
            | zero => cases he
            | succ n =>
              cases t with
              | Name y py =>
                obtain ⟨i, ho, s1, rfl⟩ := cAt_nm ht
                have lc := lc_ok G.g hsort G.sc (fun m hm => claim Γ F C m) he
                obtain ⟨tt, h1, _, h2⟩ := lc.all (muOf C (.Name y py))
                cases hb : (X.env.blockKind == .function && X.env.kindOf y == some .local && py.line == (Expr.ListComp elt gs scope lp).pos.line && !(scope.names.any fun (n, k) => n == y && (k == .local || k == .cell))) with
                | true =>
                  have hs : swapsWith (.ListComp elt gs scope lp) (some (.Name y py)) pos.line X.env = pure true := congrArg pure hb
                  have hl : X.env.scope.names.lookup y = some .local := by
                    simp only [Bool.and_eq_true, beq_iff_eq] at hb
                    exact hb.1.1.2
                  exact st_lc h1 (h2 i y py pos hs (by rw [G.g.N]; exact slotOf_ok s1) hl)
                | false => exact main (show swapsWith (.ListComp elt gs scope lp) (some (.Name y py)) pos.line X.env = pure false from congrArg pure hb)
              | _ => exact main rfl
          | _ => cases hc
      · cases h
theorem cS_expr {e : Expr} {pos : Pos} : cS C sc (n + 1) (.Expr e pos) = (if notComp e then (cE C n sc e).map .expr else none) := rfl
theorem step_hds (G : GoodS X Γ F C W k sc) : ∀ {hds : List ExceptHandler} {hs : List Hd}, cHds C sc hds = some hs → ∃ l, HdsR X Γ hds hs l
  | [], hs, e => by cases e; exact ⟨[], .nil⟩
  | hd :: hds, hs, e => by
    have e : (match cHd C sc hd, cHds C sc hds with
      | some h, some hs => some (h :: hs)
      | _, _ => none) = some hs := e
    split at e
    · cases e
      rename_i hd' hs' h1 h2
      obtain ⟨l, r⟩ := step_hds G h2
      unfold cHd at h1
      split at h1
      · rename_i hd1 hh
        cases h1
        unfold cHdG at hh
        split at hh
        · rename_i c p0 nm t p1 w k1 p2 iN p3 n2 p4 bN p5 p6 p7 p8 p9
          split at hh
          · rename_i i j hi hj
            split at hh
            · rename_i hc
              cases hh
              simp only [Bool.and_eq_true, beq_iff_eq, bne_iff_ne, ne_eq, List.contains_eq_mem, decide_eq_true_eq] at hc
              obtain ⟨⟨⟨⟨⟨⟨⟨⟨⟨⟨e1, e2⟩, e3⟩, hex⟩, gc⟩, gi⟩, gb⟩, vn⟩, ot⟩, ln⟩, hij⟩ := hc
              subst e1 e2 e3
              obtain ⟨ok1, ok2, ok3⟩ := okName_ok (isVar_ok G.sc vn).1
              obtain ⟨c1, c2, c3⟩ := okName_ok (isGl_ok G.sc gc).1
              obtain ⟨l1, l2⟩ := G.own t ot
              have hx := G.exs c hex
              obtain ⟨C0, hC0, _⟩ := hx.ex
              exact ⟨_, .good (by rw [G.g.N]; exact slotOf_ok hi) (by rw [G.g.N]; exact slotOf_ok hj) hij (by rw [G.sc]; exact ln) ok1 ok2 l1 l2 (isGl_ok G.sc gc).2 c1 (isGl_ok G.sc gi).2 (G.g.blt _ (by decide)) (isGl_ok G.sc gb).2 G.val hx hC0 r⟩
            · cases hh
          · cases hh
        · cases hh
      · split at h1
        · split at h1
          · rename_i hc
            cases h1
            simp only [Bool.and_eq_true, beq_iff_eq, List.contains_eq_mem, decide_eq_true_eq] at hc
            obtain ⟨⟨⟨h3, h4⟩, h5⟩, h6⟩ := hc
            obtain ⟨i, hi⟩ := Option.isSome_iff_exists.mp h6
            obtain ⟨C0, hm, hx⟩ := G.hcs _ h3
            exact ⟨_, .bad (by rw [G.g.N]; exact slotOf_ok hi) (by rw [G.sc]; exact h5) (isGl_ok G.sc h4).2 (okName_ok (isGl_ok G.sc h4).1).1 hm hx r⟩
          · cases h1
        · cases h1
    · cases e
theorem cS_ok : ∀ n, (∀ (X : Cx) (W : WX) (k : Nat), GoodS X Γ F C W k sc → SortOk Γ → (∀ s s', cS C sc n s = some s' → PS X s (tS Γ F W s')) ∧ ∀ b b', cB C sc n b = some b' → PSs X b (tBl Γ F W b'))
  | 0 => fun _ _ _ _ _ => ⟨(fun _ _ h => nomatch h), (fun _ _ h => nomatch h)⟩
  | n + 1 => fun X W k G hsort => by
    obtain ⟨i1, i2⟩ := cS_ok n X W k G hsort
    obtain ⟨c1, c2, c3, c4⟩ := claim Γ F C n X W k G.g hsort sc G.sc
    refine ⟨fun s s' h => ?_, fun b b' h => ?_⟩
    · cases s with
      | Assign ts e pos =>
        match ts, h with
        | [], h => cases h
        | [t], h => exact step_asg G hsort h
        | _ :: _ :: _, h => cases h
      | AugAssign t o' e pos =>
        cases t with
        | Name x p =>
          have h : (match (if isOwn sc x = true then slotOf C.N x else none), opOf o', cE C n sc e with
            | some i, some o, some e => some (Sm.aug i o e)
            | _, _, _ => none) = some s' := h
          split at h
          · rename_i i o' e' h1 h2 h3
            cases h
            split at h1
            · obtain ⟨l1, l2⟩ := G.own x ‹_›
              exact st_aug G.g.nd (by rw [G.g.N]; exact slotOf_ok h1) l1 l2 h2 ((c1 _ _ h3).e 0)
            · cases h1
          · cases h
        | Subscript o i p =>
          have h : (match skOf i with
            | .plain => (match cE C n sc o, cE C n sc i, opOf o', cE C n sc e with
              | some o, some i, some op, some e => some (Sm.augs o i op e)
              | _, _, _, _ => none)
            | _ => none) = some s' := h
          split at h
          · split at h
            · cases h
              rename_i o1 i1 op1 e1 h1 h2 h3 h4
              exact st_augs (by have := G.g.un; omega) h3 ((c1 _ _ h1).e 0) ((c1 _ _ h2).e 0) ((c1 _ _ h4).e 0) (c1 _ _ h2).n
            · cases h
          · cases h
        | _ => cases h
      | Expr e pos =>
        rw [cS_expr] at h
        split at h
        · obtain ⟨e', h1, rfl⟩ := Option.map_eq_some_iff.mp h
          exact st_expr ((c1 _ _ h1).e 0) (sw_lc ‹_› h1)
        · cases h
      | Return e pos =>
        cases e with
        | none => cases h; exact st_retN
        | some e =>
          obtain ⟨e', h1, rfl⟩ := Option.map_eq_some_iff.mp (show (cE C n sc e).map (fun e => Sm.ret (if C.top then cellE 1 e else e)) = some s' from h)
          cases C.top with
          | true => exact st_ret ((c1 _ _ h1).e 1)
          | false => exact st_ret ((c1 _ _ h1).e 0)
      | If c a b pos =>
        have h : (match cE C n sc c, cB C sc n a, cB C sc n b with
          | some c, some a, some b => some (Sm.ife c a b)
          | _, _, _ => none) = some s' := h
        split at h
        · cases h
          rename_i h1 h2 h3
          exact st_ife (c1 _ _ h1).t (i2 _ _ h2) (i2 _ _ h3)
        · cases h
      | For tg it b els pos =>
        cases els with
        | cons _ _ => cases h
        | nil =>
          have h : (match tgE C.N sc n tg, cI C n sc it, cB C sc n b with
            | some tg, some it, some b => if tgFit (itKind it) tg then some (Sm.forr tg it b) else none
            | _, _, _ => none) = some s' := h
          split at h
          · rename_i tg' it' b' h1 h2 h3
            split at h
            · rename_i hf
              cases h
              obtain ⟨d1, d2⟩ := c4 _ _ h2
              exact st_forr G.po G.g.calm (d2 _ _ _ _ h1 hf) ((pg_ok G.g.calm G.g.nd G.own n).1 _ _ (by rw [G.g.N]; exact h1)).1 (i2 _ _ h3) (d1 X.env) hf
            · cases h
          · cases h
      | While c b els pos =>
        cases els with
        | cons _ _ => cases h
        | nil =>
          have h : (match cE C n sc c, cB C sc n b with
            | some c, some b => some (Sm.whil c b)
            | _, _ => none) = some s' := h
          split at h
          · cases h
            rename_i h1 h2
            exact st_whil G.po (c1 _ _ h1).t (i2 _ _ h2)
          · cases h
      | Break pos => cases h; exact st_brk
      | Continue pos => cases h; exact st_cnt
      | Pass pos => cases h; exact st_pass
      | Raise e c pos =>
        cases c with
        | some _ =>
          cases e with
          | none => cases h
          | some e => cases e <;> first | cases h | (rename_i fn es kw p; cases fn <;> first | cases h | (cases es <;> first | cases h | (cases kw <;> cases h)))
        | none =>
          cases e with
          | none => cases h
          | some e =>
            cases e with
            | Call fn es kw cp =>
              cases fn with
              | Name c p =>
                cases es with
                | cons _ _ => cases h
                | nil =>
                  cases kw with
                  | cons _ _ => cases h
                  | nil =>
                    have h : (if isGl sc c && C.M.excs.contains c then some (Sm.rais c []) else none) = some s' := h
                    split at h
                    · rename_i hc
                      cases h
                      obtain ⟨h1, h2⟩ := Bool.and_eq_true_iff.mp hc
                      obtain ⟨h3, h4⟩ := isGl_ok G.sc h1
                      exact st_rais G.g.calm G.g.tk h4 (okName_ok h3).1 (G.exs c (by simpa using h2))
                    · cases h
              | _ => cases h
            | _ => cases h
      | Try b hs els fin pos =>
        match hs, els, fin, h with
        | hd :: hds, [], [], h =>
          have h : (match cB C sc n b, cHds C sc (hd :: hds) with
            | some b, some hds => some (Sm.trys b hds)
            | _, _ => none) = some s' := h
          split at h
          · rename_i b1 hd1 h1 h2
            cases h
            obtain ⟨l, r⟩ := step_hds G h2
            exact st_tryM G.st G.fr G.g.nd G.g.tk r fun W pn xe tk hp => (cS_ok n (X.tr pn xe) W k (G.tr tk hp) hsort).2 _ _ h1
          · cases h
        | [], _, _, h => cases h
        | _ :: _, _ :: _, _, h => cases h
        | _ :: _, [], _ :: _, h => cases h
      | _ => cases h
    · cases b with
      | nil => cases h; exact st_nil
      | cons s r =>
        have h : (match cB C sc n r with
          | some r => some ((cS C sc n s).getD .bad :: r)
          | _ => none) = some b' := h
        split at h
        · cases h
          rename_i r' h2
          refine st_cons ?_ (i2 _ _ h2)
          cases hs : cS C sc n s with
          | none => exact st_bad
          | some s1 => exact i1 _ _ hs
        · cases h
end
end Ev

set_option Elab.async false
set_option linter.all false
set_option maxRecDepth 100000
set_option maxHeartbeats 8000000
/-! EvZ: defs. -/
namespace Ev
open PySem PySem.Spec PyProof.Rows L2
section
variable {fa : FA} {f f2 : Nat → Addr} {n n2 : Nat} {R : Addr → Prop} {B : Nat → Prop} {H : Hp} {h : Hh} {b x : Nat}
mutual
theorem RD.lt : ∀ {d : D} {v : V}, RD fa f n R H d v → rLt n d
  | _, _, .non => trivial
  | _, _, .bl _ => trivial
  | _, _, .int _ => trivial
  | _, _, .str _ => trivial
  | _, _, .tup _ _ r => RDs.lt r
  | _, _, .lst _ _ r => RDs.lt r
  | _, _, .ref h => h
  | _, _, .fn _ => trivial
  | _, _, .scr _ _ r => RDs.lt r
  | _, _, .dct _ _ _ r r' => ⟨RDs.lt r, RDs.lt r'⟩
  | _, _, .set _ _ k _ => rLts_of fun x hx => by
    obtain ⟨p, _, rfl⟩ := List.mem_map.mp (k.1.mem_iff.mp hx)
    exact rLts_of fun y hy => by obtain ⟨i, _, rfl⟩ := List.mem_map.mp hy; trivial
  | _, _, .seti _ _ _ _ => rLts_of fun x hx => by obtain ⟨i, _, rfl⟩ := List.mem_map.mp hx; trivial
theorem RDs.lt : ∀ {d : List D} {v : List V}, RDs fa f n R H d v → rLts n d
  | _, _, .nil => trivial
  | _, _, .cons r t => ⟨RD.lt r, RDs.lt t⟩
end
mutual
/-- the same datum, read with other cells -/
theorem RD.re (ho : ∀ a, Off f n R a → Off f2 n2 R a) (hk : ∀ k, k < b → k < n2 ∧ f2 k = f k) : ∀ {d : D} {v : V}, RD fa f n R H d v → rLt b d → RD fa f2 n2 R H d v
  | _, _, .non, _ => .non
  | _, _, .bl _, _ => .bl _
  | _, _, .int _, _ => .int _
  | _, _, .str _, _ => .str _
  | _, _, .tup e o r, l => .tup e (ho _ o) (RDs.re ho hk r l)
  | _, _, .lst e o r, l => .lst e (ho _ o) (RDs.re ho hk r l)
  | _, _, .ref _, l => by
    rw [← (hk _ l).2]
    exact .ref (hk _ l).1
  | _, _, .fn e, _ => .fn e
  | _, _, .scr e o r, l => .scr e (ho _ o) (RDs.re ho hk r l)
  | _, _, .dct e o k r r', l => .dct e (ho _ o) k (RDs.re ho hk r l.1) (RDs.re ho hk r' l.2)
  | _, _, .set e o k r, l => .set e (ho _ o) k (RDs.re ho hk r (rLts_of fun x hx => by
    obtain ⟨p, _, rfl⟩ := List.mem_map.mp hx
    exact rLts_of fun y hy => by obtain ⟨i, _, rfl⟩ := List.mem_map.mp hy; trivial))
  | _, _, .seti e o k r, l => .seti e (ho _ o) k r
theorem RDs.re (ho : ∀ a, Off f n R a → Off f2 n2 R a) (hk : ∀ k, k < b → k < n2 ∧ f2 k = f k) : ∀ {d : List D} {v : List V}, RDs fa f n R H d v → rLts b d → RDs fa f2 n2 R H d v
  | _, _, .nil, _ => .nil
  | _, _, .cons r t, l => .cons (RD.re ho hk r l.1) (RDs.re ho hk t l.2)
end
theorem mapM_rds {g : D → Option D} {P : D → V → Prop} (hg : ∀ d v d', P d v → RD fa f n R H d v → g d = some d' → RD fa f2 n2 R H d' v) : ∀ {ds : List D} {vs : List V} {ds' : List D}, (∀ d v, d ∈ ds → P d v) → RDs fa f n R H ds vs → ds.mapM g = some ds' → RDs fa f2 n2 R H ds' vs := by
  intro ds
  induction ds with
  | nil =>
    intro vs ds' _ r e
    cases r
    simp at e
    subst e
    exact .nil
  | cons d ds ih =>
    intro vs ds' hp r e
    cases r with
    | cons r t =>
      rw [List.mapM_cons] at e
      obtain ⟨d1, e1, e⟩ := Option.bind_eq_some_iff.mp e
      obtain ⟨ds1, e2, e⟩ := Option.bind_eq_some_iff.mp e
      cases e
      exact .cons (hg _ _ _ (hp _ _ (by simp)) r e1) (ih (fun d v m => hp d v (by simp [m])) t e2)
/-- what leaves a def, read at the caller -/
theorem frz_ok (s : Sim fa f R B h H) (ho : ∀ a, Off f h.length R a → Off f2 n2 R a) (hc : ∀ k, k < h.length → b ≤ k → k ≠ x → Off f2 n2 R (f k)) (hk : ∀ k, k < b → k < n2 ∧ f2 k = f k) :
    ∀ (m : Nat) {d d' : D} {v : V}, RD fa f h.length R H d v → frz h b x m d = some d' → RD fa f2 n2 R H d' v := by
  intro m
  induction m with
  | zero =>
    intro d d' v r e
    cases r <;> unfold frz at e <;> cases e <;> constructor
    assumption
  | succ m ih =>
    intro d d' v r e
    cases r with
    | non => cases e; exact .non
    | bl => cases e; exact .bl _
    | int => cases e; exact .int _
    | str => cases e; exact .str _
    | fn q => cases e; exact .fn q
    | scr => cases e
    | dct => cases e
    | set => cases e
    | seti => cases e
    | tup e1 o r =>
      obtain ⟨ys, e2, rfl⟩ := Option.map_eq_some_iff.mp (show (List.mapM (frz h b x m) _).map D.tup = some d' from e)
      exact .tup e1 (ho _ o) (mapM_rds (P := fun _ _ => True) (fun d v d' _ r e => ih r e) (fun _ _ _ => trivial) r e2)
    | lst e1 o r =>
      obtain ⟨ys, e2, rfl⟩ := Option.map_eq_some_iff.mp (show (List.mapM (frz h b x m) _).map D.lst = some d' from e)
      exact .lst e1 (ho _ o) (mapM_rds (P := fun _ _ => True) (fun d v d' _ r e => ih r e) (fun _ _ _ => trivial) r e2)
    | ref hlt =>
      rename_i k
      unfold frz at e
      split at e
      · rename_i hb
        cases e
        rw [← (hk k hb).2]
        exact .ref (hk k hb).1
      · rename_i hb
        split at e
        · cases e
        · rename_i hx
          split at e
          · rename_i xs hq
            obtain ⟨ys, e2, rfl⟩ := Option.map_eq_some_iff.mp e
            have c : CellOk fa f h.length R H (f k) (.lst xs) := s.cell k _ hq
            obtain ⟨vs, e1, r⟩ := c
            exact .lst e1 (hc k hlt (by omega) hx) (mapM_rds (P := fun _ _ => True) (fun d v d' _ r e => ih r e) (fun _ _ _ => trivial) r e2)
          · cases e
theorem Off.cut {a : Addr} {b : Nat} (hb : b ≤ n) (o : Off f n R a) : Off f b R a := ⟨o.1, fun k hk => o.2 k (Nat.lt_of_lt_of_le hk hb)⟩
/-- what a def leaves, less its own cells -/
theorem Sim.cut {B0 : Nat → Prop} (s : Sim fa f R B h H) (hB : B b) (hb : b ≤ h.length) (h0 : ∀ k, B0 k → B k) : Sim fa f R B0 (h.take b) H where
  cell k c e := by
    have hl : (h.take b).length = b := by rw [List.length_take]; omega
    rw [hl]
    have hk : k < b := by
      have := (List.getElem?_eq_some_iff.mp e).1
      omega
    rw [List.getElem?_take_of_lt hk] at e
    have c1 := s.cell k c e
    have o1 := s.own b hB k c hk e
    cases c with
    | dct _ _ =>
      obtain ⟨k1, us, ws, e1, r, r'⟩ := c1
      exact ⟨k1, us, ws, e1, r.re (fun a o => o.cut hb) (fun k hk => ⟨hk, rfl⟩) o1.1, r'.re (fun a o => o.cut hb) (fun k hk => ⟨hk, rfl⟩) o1.2⟩
    | lst xs =>
      obtain ⟨vs, e1, r⟩ := c1
      exact ⟨vs, e1, r.re (fun a o => o.cut hb) (fun k hk => ⟨hk, rfl⟩) o1⟩
  inj i j hi hj e := by
    rw [List.length_take] at hi hj
    exact s.inj i j (by omega) (by omega) e
  off k hk := s.off k (by rw [List.length_take] at hk; omega)
  res := s.res
  own b' hb' k c hk e := by
    have : k < b := by
      have := (List.getElem?_eq_some_iff.mp e).1
      rw [List.length_take] at this
      omega
    rw [List.getElem?_take_of_lt this] at e
    exact s.own b' (h0 b' hb') k c hk e
theorem Sim.enter (s : Sim fa f R B h H) : Sim fa f R (fun b => B b ∨ b = h.length) h H where
  cell := s.cell
  inj := s.inj
  off := s.off
  res := s.res
  own b hb k c hk e := by
    rcases hb with hb | rfl
    · exact s.own b hb k c hk e
    · have c1 := s.cell k c e
      cases c with
      | dct _ _ =>
        obtain ⟨k1, us, ws, e1, r, r'⟩ := c1
        exact ⟨r.lt, r'.lt⟩
      | lst xs =>
        obtain ⟨vs, e1, r⟩ := c1
        exact r.lt
/-- a def's list, as a cell of the caller's -/
theorem Sim.top {B0 : Nat → Prop} (s : Sim fa f R B h H) (hB : B b) (hb : b ≤ h.length) (h0 : ∀ k, B0 k → B k ∧ k ≤ b) {m : Nat} (hm : m < h.length) (hbm : b ≤ m) {vs : List V} {ys : List D} (hv : H (f m) = some (.lst vs)) (ry : RDs fa (fun k => if k = b then f m else f k) (b + 1) R H ys vs) :
    Sim fa (fun k => if k = b then f m else f k) R B0 (h.take b ++ [.lst ys]) H where
  cell k c e := by
    have hl : (h.take b).length = b := by rw [List.length_take]; omega
    have hl2 : (h.take b ++ [Cell.lst ys]).length = b + 1 := by rw [List.length_append, hl]; rfl
    rw [hl2]
    by_cases hk : k < b
    · rw [List.getElem?_append_left (by omega), List.getElem?_take_of_lt hk] at e
      have c1 := s.cell k c e
      have o1 := s.own b hB k c hk e
      have ek : (if k = b then f m else f k) = f k := if_neg (by omega)
      show CellOk fa _ _ R H (if k = b then f m else f k) c
      rw [ek]
      cases c with
      | dct _ _ =>
        obtain ⟨k1, us, ws, e1, r, r'⟩ := c1
        have off : ∀ a, Off f h.length R a → Off (fun k => if k = b then f m else f k) (b + 1) R a := fun a o => ⟨o.1, fun k hk => by
          show a ≠ if k = b then f m else f k
          split
          · exact o.2 m hm
          · exact o.2 k (by omega)⟩
        exact ⟨k1, us, ws, e1, r.re off (fun k hk => ⟨by omega, if_neg (by omega)⟩) o1.1, r'.re off (fun k hk => ⟨by omega, if_neg (by omega)⟩) o1.2⟩
      | lst xs =>
        obtain ⟨us, e1, r⟩ := c1
        refine ⟨us, e1, r.re (fun a o => ⟨o.1, fun k hk => ?_⟩) (fun k hk => ⟨by omega, if_neg (by omega)⟩) o1⟩
        split
        · exact o.2 m hm
        · exact o.2 k (by omega)
    · by_cases hk2 : k = b
      · subst hk2
        rw [List.getElem?_append_right (by omega), hl, Nat.sub_self] at e
        cases e
        exact ⟨vs, by rw [if_pos rfl]; exact hv, ry⟩
      · have := (List.getElem?_eq_some_iff.mp e).1
        omega
  inj i j hi hj e := by
    have hl2 : (h.take b ++ [Cell.lst ys]).length = b + 1 := by rw [List.length_append, List.length_take]; simp; omega
    rw [hl2] at hi hj
    split at e <;> split at e
    · omega
    · have := s.inj _ _ hm (by omega) e; omega
    · have := s.inj _ _ (by omega) hm e; omega
    · exact s.inj _ _ (by omega) (by omega) e
  off k hk := by
    have hl2 : (h.take b ++ [Cell.lst ys]).length = b + 1 := by rw [List.length_append, List.length_take]; simp; omega
    rw [hl2] at hk
    split
    · exact s.off m hm
    · exact s.off k (by omega)
  res := s.res
  own b' hb' k c hk e := by
    have hb2 := h0 b' hb'
    have hk1 : k < b := by omega
    rw [List.getElem?_append_left (by rw [List.length_take]; omega), List.getElem?_take_of_lt hk1] at e
    exact s.own b' hb2.1 k c hk e
end
/-- a def of the text, as the core language has it -/
structure FnAt (K : PySem.W.Frag) (M : Names) (a : Addr) (fn : Fn) (ps : List Str) : Prop where
  at' : ∃ (name qual : Str) (params : Arguments) (body : List Stmt) (scope : Scope) (dV kV doc pm cdv ct oc : Value) (an od : Option Addr) (osl : Array (Option Value)) (o : Opt), params.args.map (·.arg) = ps ∧ K.lookup a = some ⟨oc, od, .func (PySem.W.fnOf name qual params body scope dV kV doc pm an cdv ct), osl⟩ ∧
    PySem.W.codeIn K cdv qual = true ∧ FnScope (namesOf (params.args.map (·.arg)) scope body) (params.args.map (·.arg)) scope ∧ (∀ us : List Value, us.length = (params.args.map (·.arg)).length → bindArgs (PySem.W.fnOf name qual params body scope dV kV doc pm an cdv ct) ⟨us, []⟩ = pure ((params.args.map (·.arg)).zip us)) ∧ PySem.W.keepIn K (.ref a) = true ∧ cFn M o params body scope = some fn
/-- a module, as the core language has it -/
structure Prg (K : PySem.W.Frag) (mg : Str → Option Value) (Γ : Cst) (M : Names) (T : Nat → Option Fn) : Prop where
  fns : ∀ x n, M.fns.lookup x = some n → ∃ a, Γ.fa n = some a ∧ mg x = some (.ref a)
  at' : ∀ n a, Γ.fa n = some a → ∃ fn ps, T n = some fn ∧ FnAt K M a fn ps
  gis : ∀ x i, M.gints.lookup x = some i → ∃ t, mg x = some (.int i t)
  blt : ∀ x, x ∈ bltNames → mg x = none
  exs : ∀ c ∈ M.excs, ExOk K mg Γ c
  val : mg "ValueError" = none
  hcs : ∀ c ∈ M.hcl, HcOk K mg Γ c
theorem sortOk (Γ : Cst) : SortOk Γ := fun X hc hp hu => cr_sorted hc hp.1 hp.2 hu
theorem run_arity {T : Nat → Option Fn} {x : Nat} {fn : Fn} (hT : T x = some fn) (n : Nat) {ds : List D} {h : Hh} (hl : ds.length ≠ fn.np) : run T n x ds h = .fail := by
  cases n with
  | zero => rfl
  | succ n =>
    unfold run
    rw [hT]
    exact if_neg hl
theorem rsl_start {fa : FA} {f : Nat → Addr} {n : Nat} {R : Addr → Prop} {H : Hp} {ds : List D} {vs : List V} (r : RDs fa f n R H ds vs) {N : List Str} : RSl fa f n R H (ds.map some ++ List.replicate (N.length - ds.length) none) (L2.start N vs) := by
  unfold L2.start
  refine ⟨by simp [r.length], fun i d e => ?_⟩
  by_cases hi : i < ds.length
  · rw [List.getElem?_append_left (by simp [hi])] at e
    rw [List.getElem?_append_left (by simp [← r.length, hi])]
    rw [List.getElem?_map] at e ⊢
    cases q : ds[i]? with
    | none => rw [q] at e; cases e
    | some d1 =>
      rw [q] at e
      cases e
      obtain ⟨v, h1, h2⟩ := r.get q
      exact ⟨v, by rw [h1]; rfl, h2⟩
  · rw [List.getElem?_append_right (by simp; omega), List.getElem?_replicate] at e
    split at e <;> cases e
theorem slen {α : Type} {z : Option α} {h : Hh} {a : α} {h1 : Hh} (e : Res.of z h = .ok a h1) : z = some a ∧ h1 = h := by
  cases z with
  | none => cases e
  | some b => cases e; exact ⟨rfl, rfl⟩
section
variable {P : Program} {w : World} {K : PySem.W.Frag} {mg : Str → Option Value} {Γ : Cst} {M : Names} {T : Nat → Option Fn}
def FOk (P : Program) (w : World) (K : PySem.W.Frag) (mg : Str → Option Value) (base : Heap) (Γ : Cst) (T : Nat → Option Fn) (n : Nat) : Prop := ∀ x a, Γ.fa x = some a → ∃ fd ps np, FnOk P w K mg base (L2.CX P w) n a fd ps (spF Γ (run T n) x np) ∧ Binds K fd ps [] ∧ PySem.W.keepIn K (.ref a) = true ∧ ∀ ds h, ds.length ≠ np → run T n x ds h = .fail
theorem fn_step (hpw : P = Γ.fa.P ∧ w = Γ.fa.w) (Z : Prg K mg Γ M T) {base : Heap} {n : Nat} (ih : FOk P w K mg base Γ T n) {x : Nat} {a : Addr} {fn : Fn} (hT : T x = some fn) {name qual : Str} {params : Arguments} {body : List Stmt} {scope : Scope} {dV kV doc pm cdv ct oc : Value} {an od : Option Addr} {osl : Array (Option Value)} {o : Opt}
    (lk : K.lookup a = some ⟨oc, od, .func (PySem.W.fnOf name qual params body scope dV kV doc pm an cdv ct), osl⟩) (hcd : PySem.W.codeIn K cdv qual = true) (S : FnScope (namesOf (params.args.map (·.arg)) scope body) (params.args.map (·.arg)) scope) (hc : cFn M o params body scope = some fn) :
    FnOk P w K mg base (L2.CX P w) (n + 1) a (PySem.W.fnOf name qual params body scope dV kV doc pm an cdv ct) (params.args.map (·.arg)) (spF Γ (run T (n + 1)) x (params.args.map (·.arg)).length) := by
    obtain ⟨b', hc', rfl⟩ := Option.map_eq_some_iff.mp (show (cB ⟨M, namesOf (params.args.map (·.arg)) scope body, o.mu, o.mode == .top⟩ scope.names 60 body).map (fun b => (⟨(params.args.map (·.arg)).length, (namesOf (params.args.map (·.arg)) scope body).length, b, o.mode, 100000⟩ : Fn)) = some fn from hc)
    refine fn_of lk hcd S (fun vs H Q E q => q.1) (fun A outer s H vs Q E hr q => ?_)
    obtain ⟨hlen, R, B, f, h, ds, sm, bb, rds, p⟩ := q
    have tk : Takes (cxOf (L2.CX P w) P w K mg base (namesOf (params.args.map (·.arg)) scope body) qual scope a cdv A outer s H E) (fun cls d _ H => E cls d H) := takes_of rfl rfl rfl rfl
    have G : GoodS (cxOf (L2.CX P w) P w K mg base (namesOf (params.args.map (·.arg)) scope body) qual scope a cdv A outer s H E) Γ ⟨run T n, h.length, 100000⟩ ⟨M, namesOf (params.args.map (·.arg)) scope body, o.mu, o.mode == .top⟩ (fun cls d _ H => E cls d H) n scope.names :=
      ⟨⟨rfl, S.nd, rfl, hr, S.kind, tk, hpw, Z.fns, fun m a hm => ih m a hm, Z.gis, Z.blt⟩, rfl, fun _ => rfl, passes_of rfl, rfl, rfl, Z.exs, Z.val, Z.hcs⟩
    refine ⟨_, (cS_ok 60 _ _ n G (sortOk Γ)).2 _ _ hc', ?_⟩
    have hdl : ds.length = (params.args.map (·.arg)).length := by rw [rds.length, hlen]
    refine ⟨R, fun b => B b ∨ b = h.length, f, h, ds.map some ++ List.replicate ((namesOf (params.args.map (·.arg)) scope body).length - (params.args.map (·.arg)).length) none, ⟨sm.enter, fun b hb => hb.elim (bb b) fun e => e ▸ Nat.le_refl _, Nat.le_refl _, by rw [← hdl]; exact rsl_start rds⟩, ?_⟩
    unfold run at p
    rw [hT] at p
    dsimp only at p
    rw [if_pos hdl] at p
    generalize evB ⟨run T n, h.length, 100000⟩ b' (ds.map some ++ List.replicate ((namesOf (params.args.map (·.arg)) scope body).length - (params.args.map (·.arg)).length) none) h = r at p
    cases r with
    | fail => exact p
    | exc c pl h1 =>
      dsimp only at p
      split at p
      · rename_i pl' hpl
        intro f1 H1 σ1 x1 s1 hl cls d er
        have hb : h.length ≤ h1.length := x1.le
        have hlt : (h1.take h.length).length = h.length := by rw [List.length_take]; omega
        refine p f1 H1 (by rw [hlt]; exact ⟨Nat.le_refl _, x1.same, fun k a b => by omega, x1.keep, x1.there⟩) (s1.cut (.inr rfl) hb fun _ => .inl) cls d ⟨er.1, fun e => er.2 ?_⟩
        subst e
        cases pl with
        | nil => rfl
        | cons y ys =>
          rw [List.mapM_cons] at hpl
          obtain ⟨_, _, e⟩ := Option.bind_eq_some_iff.mp hpl
          obtain ⟨_, _, e⟩ := Option.bind_eq_some_iff.mp e
          cases e
      · exact p.elim
    | ok q h1 =>
      obtain ⟨fl, ds1⟩ := q
      have leaveOk : ∀ d, Post Γ.fa f h.length R B H (leave o.mode h.length d h1) (fun f h H d v => RD Γ.fa f h.length R H d v) Q (fun c pl f h H => ∀ cls d, ER Γ c pl cls d f R h H → E cls d H) →
          ∀ f1 H1, Ext f h.length R H f1 h1.length H1 → Sim Γ.fa f1 R (fun b => B b ∨ b = h.length) h1 H1 → ∀ v, RD Γ.fa f1 h1.length R H1 d v → Q v H1 := fun d p f1 H1 x1 s1 v r => by
        have hb : h.length ≤ h1.length := x1.le
        have hlt : (h1.take h.length).length = h.length := by rw [List.length_take]; omega
        have cut1 : Sim Γ.fa f1 R B (h1.take h.length) H1 := s1.cut (.inr rfl) hb fun _ => .inl
        have xt1 : Ext f h.length R H f1 (h1.take h.length).length H1 := by rw [hlt]; exact ⟨Nat.le_refl _, x1.same, fun k a b => by omega, x1.keep, x1.there⟩
        cases hm : o.mode with
        | frz =>
          rw [hm] at p
          unfold leave at p
          cases hz : frz h1 h.length h1.length 30 d with
          | none => rw [hz] at p; exact p.elim
          | some d1 =>
            rw [hz] at p
            refine p f1 H1 v xt1 cut1 ?_
            show RD Γ.fa f1 (h1.take h.length).length R H1 d1 v
            rw [hlt]
            exact frz_ok s1 (fun a o => o.cut hb) (fun k hk hbk _ => ⟨s1.off k hk, fun j hj e => by have := s1.inj _ _ hk (by omega) e; omega⟩) (fun k hk => ⟨hk, rfl⟩) 30 r hz
        | top =>
          rw [hm] at p
          unfold leave at p
          cases r with
          | ref hk =>
            rename_i k
            dsimp only at p
            split at p
            · rename_i hkb
              refine p f1 H1 _ xt1 cut1 ?_
              show RD Γ.fa f1 (h1.take h.length).length R H1 _ _
              rw [hlt]
              exact .ref hkb
            · rename_i hkb
              split at p
              · rename_i xs hq
                split at p
                · rename_i ys hy
                  have c : CellOk Γ.fa f1 h1.length R H1 (f1 k) (.lst xs) := s1.cell k _ hq
                  obtain ⟨vs1, e1, r1⟩ := c
                  have ry : RDs Γ.fa (fun j => if j = h.length then f1 k else f1 j) (h.length + 1) R H1 ys vs1 := by
                    refine mapM_rds (P := fun _ _ => True) (fun d v d' _ r e => frz_ok s1 (f2 := fun j => if j = h.length then f1 k else f1 j) (n2 := h.length + 1) (fun a o => ⟨o.1, fun j hj => ?_⟩) (fun j hj hbj hjk => ⟨s1.off j hj, fun i hi e => ?_⟩) (fun j hj => ⟨by omega, if_neg (by omega)⟩) 30 r e) (fun _ _ _ => trivial) r1 hy
                    · show a ≠ (if j = h.length then f1 k else f1 j)
                      split
                      · exact o.2 k hk
                      · exact o.2 j (by omega)
                    · have e : f1 j = (if i = h.length then f1 k else f1 i) := e
                      split at e
                      · exact hjk (s1.inj _ _ hj hk e)
                      · have := s1.inj _ _ hj (by omega) e; omega
                  have hl2 : (h1.take h.length ++ [Cell.lst ys]).length = h.length + 1 := by rw [List.length_append, hlt]; rfl
                  have t := s1.top (B0 := B) (.inr rfl) hb (fun j hj => ⟨.inl hj, bb j hj⟩) hk (by omega) e1 ry
                  have e2 : (fun j => if j = h.length then f1 k else f1 j) h.length = f1 k := if_pos rfl
                  refine p (fun j => if j = h.length then f1 k else f1 j) H1 (.ref (f1 k)) (by
                    rw [hl2]
                    refine ⟨by omega, fun j hj => ?_, fun j hj1 hj2 => ?_, x1.keep, x1.there⟩
                    · show (if j = h.length then f1 k else f1 j) = f j
                      rw [if_neg (by omega)]
                      exact x1.same j hj
                    · show H (if j = h.length then f1 k else f1 j) = none
                      rw [if_pos (by omega)]
                      exact x1.new k (by omega) hk) t (by
                    show RD Γ.fa _ (h1.take h.length ++ [Cell.lst ys]).length R H1 _ _
                    rw [hl2]
                    have := RD.ref (fa := Γ.fa) (f := fun j => if j = h.length then f1 k else f1 j) (n := h.length + 1) (R := R) (H := H1) (k := h.length) (by omega)
                    rw [if_pos rfl] at this
                    exact this)
                · exact p.elim
              · exact p.elim
          | _ => exact p.elim
      cases fl with
      | brk => exact p.elim
      | cnt => exact p.elim
      | next => exact fun f1 H1 σ1 x1 s1 r => leaveOk .non p f1 H1 x1 s1 _ .non
      | ret d => exact fun f1 H1 σ1 x1 s1 r => leaveOk d p f1 H1 x1 s1
theorem np_ok {o : Opt} {params : Arguments} {body : List Stmt} {scope : Scope} {fn : Fn} (hc : cFn M o params body scope = some fn) : fn.np = (params.args.map (·.arg)).length := by
  obtain ⟨b', hc', rfl⟩ := Option.map_eq_some_iff.mp (show (cB ⟨M, namesOf (params.args.map (·.arg)) scope body, o.mu, o.mode == .top⟩ scope.names 60 body).map (fun b => (⟨(params.args.map (·.arg)).length, (namesOf (params.args.map (·.arg)) scope body).length, b, o.mode, 100000⟩ : Fn)) = some fn from hc)
  rfl
theorem fn_ok (hpw : P = Γ.fa.P ∧ w = Γ.fa.w) (Z : Prg K mg Γ M T) (base : Heap) : ∀ n, FOk P w K mg base Γ T n := by
  intro n
  induction n with
  | zero =>
    intro x a hx
    obtain ⟨fn, ps, hT, ⟨name, qual, params, body, scope, dV, kV, doc, pm, cdv, ct, oc, an, od, osl, o, _, lk, hcd, S, hb, hk, hc⟩⟩ := Z.at' x a hx
    exact ⟨_, _, fn.np, ⟨fun vs H Q E ⟨_, R, B, f, h, ds, _, _, _, p⟩ => p.elim, fun A outer s H args us vs Q E _ _ _ _ ⟨_, R, B, f, h, ds, _, _, _, p⟩ => p.elim⟩, .all hb, hk, fun ds h hl => run_arity hT 0 hl⟩
  | succ n ih =>
    intro x a hx
    obtain ⟨fn, ps, hT, ⟨name, qual, params, body, scope, dV, kV, doc, pm, cdv, ct, oc, an, od, osl, o, _, lk, hcd, S, hb, hk, hc⟩⟩ := Z.at' x a hx
    exact ⟨_, _, _, fn_step hpw Z ih hT lk hcd S hc, .all hb, hk, fun ds h hl => run_arity hT (n + 1) (by rw [np_ok hc]; exact hl)⟩
/-- the law itself -/
theorem fn_law (hpw : P = Γ.fa.P ∧ w = Γ.fa.w) (Z : Prg K mg Γ M T) {x : Nat} {a : Addr} {fn : Fn} {ps : List Str} (hT : T x = some fn) (F : FnAt K M a fn ps) (n : Nat) : ∃ fd, (∀ us : List Value, us.length = ps.length → bindArgs fd ⟨us, []⟩ = pure (ps.zip us)) ∧ ∀ base : Heap, FnOk P w K mg base (L2.CX P w) (n + 1) a fd ps (spF Γ (run T (n + 1)) x ps.length) := by
  obtain ⟨name, qual, params, body, scope, dV, kV, doc, pm, cdv, ct, oc, an, od, osl, o, rfl, lk, hcd, S, hb, hk, hc⟩ := F
  exact ⟨_, hb, fun base => fn_step hpw Z (fn_ok hpw Z base n) hT lk hcd S hc⟩
/-- the law's promise, at the script -/
theorem sp_law {x n : Nat} {ns : List Int} {H : Hp} {a : Addr} (hO : Only H) (hS : SqL K H a (ns.map V.int)) (hK : ∀ o, K.lookup a = some o → o.cls ≠ .type "list") (hr : run T n x [.scr (ns.map .int)] [] = .ok (.bl true) []) :
    spF Γ (run T n) x 1 [.ref a] H (fun v _ => v = .bl true) fun _ _ _ => False := by
  have hf : ∃ o, H a = some (.frz o (.lst (ns.map V.int))) := by
    rcases hS with h | ⟨o, _, _, h1, h2, _⟩
    · rcases h with h | ⟨o, h⟩
      · rcases hO a with z | ⟨o, xs, z⟩
        · rw [z] at h; cases h
        · rw [z] at h; cases h
      · exact ⟨o, h⟩
    · exact absurd h2 (hK o h1)
  obtain ⟨o, h⟩ := hf
  have ri : ∀ ns : List Int, RDs Γ.fa (fun _ => 0) 0 (fun _ => False) H (ns.map Ev.D.int) (ns.map V.int) := fun ns => by
    induction ns with
    | nil => exact .nil
    | cons i ns ih => exact .cons (.int i) ih
  refine ⟨rfl, fun _ => False, fun _ => False, fun _ => 0, [], [.scr (ns.map .int)], ⟨fun k c e => by simp at e, fun i j hi => by simp at hi, fun k hk => by simp at hk, fun a z => z.elim, fun b z => z.elim⟩, fun b z => z.elim, .cons (.scr h ⟨fun z => z, fun k hk => by simp at hk⟩ (ri ns)) .nil, ?_⟩
  rw [hr]
  intro f' H' v _ _ r
  exact rd_bl r
end
end Ev

set_option Elab.async false
set_option linter.all false
set_option maxRecDepth 100000
set_option maxHeartbeats 4000000
/-! EvHb: the head of a program read in one pass. -/
namespace Ev
open PySem PySem.Spec PyProof.Rows L2
def plainA (a : Arguments) : Bool := a.posonlyargs.isEmpty && a.kwonlyargs.isEmpty && a.vararg.isNone && a.kwarg.isNone
theorem look_zip : ∀ {ps : List Str} {us : List Value}, us.length = ps.length → ∀ x ∈ ps, ((ps.zip us).lookup x).isSome = true
  | [], _, _, x, h => absurd h (by simp)
  | p :: ps, [], h, _, _ => by simp at h
  | p :: ps, u :: us, h, x, hx => by
    rw [List.zip_cons_cons, List.lookup_cons]
    cases q : x == p with
    | true => rfl
    | false =>
      refine look_zip (by simpa using h) x ?_
      rcases List.mem_cons.mp hx with e | hx
      · rw [e] at q; simp at q
      · exact hx
theorem fm_congr {α β : Type} {f g : α → Option β} : ∀ {l : List α}, (∀ x ∈ l, f x = g x) → l.filterMap f = l.filterMap g
  | [], _ => rfl
  | x :: l, h => by rw [List.filterMap_cons, List.filterMap_cons, h x (by simp), fm_congr fun y hy => h y (by simp [hy])]
theorem map_zip : ∀ {ps : List Str} {us : List Value}, ps.Nodup → us.length = ps.length → (ps.filterMap fun n => ((ps.zip us).lookup n).map (n, ·)) = ps.zip us
  | [], us, _, h => by simp
  | p :: ps, [], _, h => by simp at h
  | p :: ps, u :: us, nd, h => by
    obtain ⟨n1, n2⟩ := List.nodup_cons.mp nd
    rw [List.zip_cons_cons, List.filterMap_cons]
    have e1 : ((p, u) :: ps.zip us).lookup p = some u := by simp [List.lookup_cons]
    rw [e1]
    show (p, u) :: _ = _
    congr 1
    refine (Eq.trans ?_ (map_zip n2 (show us.length = ps.length by simpa using h)))
    refine fm_congr fun x hx => ?_
    rw [List.lookup_cons]
    have : (x == p) = false := by
      rw [beq_eq_false_iff_ne]
      rintro rfl
      exact n1 hx
    rw [this]
theorem bind_plain {name qual : Str} {params : Arguments} {body : List Stmt} {scope : Scope} {kV doc pm cdv ct : Value} {an : Option Addr} {us : List Value} (h : plainA params = true) (nd : (params.args.map (·.arg)).Nodup) (hl : us.length = (params.args.map (·.arg)).length) :
    bindArgs (PySem.W.fnOf name qual params body scope .none kV doc pm an cdv ct) ⟨us, []⟩ = pure ((params.args.map (·.arg)).zip us) := by
  obtain ⟨po, as, va, ko, kd, kw, df⟩ := params
  simp only [plainA, Bool.and_eq_true, List.isEmpty_iff, Option.isNone_iff_eq_none] at h
  obtain ⟨⟨⟨h1, h2⟩, h3⟩, h4⟩ := h
  subst h1 h2 h3 h4
  dsimp only at nd hl ⊢
  unfold bindArgs
  have e0 : seqItems? (.none : Value) = pure none := rfl
  have e1 : (List.map (fun x => x.arg) as).filter (fun n => (List.lookup n ((List.map (fun x => x.arg) as).zip us)).isNone) = [] := List.filter_eq_nil_iff.mpr fun x hx q => by
    have := look_zip hl x hx
    cases z : List.lookup x ((List.map (fun x => x.arg) as).zip us) with
    | none => rw [z] at this; cases this
    | some _ => rw [z] at q; cases q
  have e2 := map_zip nd hl
  simp [e0, hl]
  rw [← List.filterMap_map, e2]
  have e3 : (List.filter (fun n => (List.lookup n ((List.map (fun x => x.arg) as).zip us)).isNone) (List.take ((List.map (fun x : Arg => x.arg) [] ++ List.map (fun x => x.arg) as).length - (List.drop ((#[] : Array Value).size - (List.map (fun x : Arg => x.arg) [] ++ List.map (fun x => x.arg) as).length) ([] : List Value)).length) (List.map (fun x : Arg => x.arg) [] ++ List.map (fun x => x.arg) as))) = [] := by
    have : List.take ((List.map (fun x : Arg => x.arg) [] ++ List.map (fun x => x.arg) as).length - (List.drop ((#[] : Array Value).size - (List.map (fun x : Arg => x.arg) [] ++ List.map (fun x => x.arg) as).length) ([] : List Value)).length) (List.map (fun x : Arg => x.arg) [] ++ List.map (fun x => x.arg) as) = List.map (fun x => x.arg) as := by
      simp
      exact List.take_of_length_le (by simp)
    rw [this]
    exact e1
  rw [if_neg (by rw [e3]; decide)]

/-! ### what the top says -/
inductive TI where
  | df (d : He.DefD)
  | cl (x : Str)
  | it (x : Str) (i : Int)
  | ot (x : Str)
def TI.nm : TI → Str
  | .df d => d.name
  | .cl x => x
  | .it x _ => x
  | .ot x => x
def itemOf (st : Stmt) : Option TI := match st with
  | .FunctionDef n a b _ _ _ sc _ _ _ => some (.df ⟨(n, none), n, n, a, b, sc, [], []⟩)
  | .ClassDef (name := n) .. => some (.cl n)
  | .Assign [.Name n _] v _ => if n == ("__name__" : Str) then none else (match v with
    | .Constant (.int i) _ _ => some (.it n i)
    | _ => some (.ot n))
  | _ => none
def itemsOf (b : List Stmt) : List TI := b.filterMap itemOf
def preN : List Str := ["__name__", "__doc__", "__package__", "__loader__", "__spec__", "__annotations__", "__builtins__", "__file__", "__cached__"]
def keyO (e : DictEntry) : Option Str := match e.key with
  | .str s _ => some s
  | _ => none
theorem key_is {e : DictEntry} {x : Str} : e.key.isStr x = (keyO e == some x) := by
  unfold keyO
  cases h : e.key <;> first | rfl | (show (_ == _) = _; simp)
theorem find_key : ∀ {l : List DictEntry} {ks : List Str} {e : DictEntry} {x : Str}, l.map keyO = ks.map some → ks.Nodup → e ∈ l → keyO e = some x → l.find? (·.key.isStr x) = some e
  | [], _, _, _, _, _, h, _ => by cases h
  | d :: l, [], _, _, h, _, _, _ => by cases h
  | d :: l, k :: ks, e, x, h, nd, hm, hx => by
    rw [List.map_cons, List.map_cons] at h
    obtain ⟨h1, h2⟩ := List.cons.inj h
    obtain ⟨n1, n2⟩ := List.nodup_cons.mp nd
    rw [List.find?_cons, key_is, h1]
    rcases List.mem_cons.mp hm with q | q
    · subst q
      rw [hx] at h1
      rw [← h1]
      simp
    · have : (some k == some x) = false := by
        rw [beq_eq_false_iff_ne]
        intro c
        have : some x ∈ ks.map some := h2 ▸ List.mem_map.mpr ⟨e, q, hx⟩
        obtain ⟨y, y1, y2⟩ := List.mem_map.mp this
        cases y2
        cases c
        exact n1 y1
      rw [this]
      exact find_key h2 n2 q hx
theorem find_no : ∀ {l : List DictEntry} {ks : List Str} {x : Str}, l.map keyO = ks.map some → ¬ x ∈ ks → l.find? (·.key.isStr x) = none ∧ l.any (·.refKey) = false
  | [], _, _, _, _ => ⟨rfl, rfl⟩
  | d :: l, [], _, h, _ => by cases h
  | d :: l, k :: ks, x, h, hx => by
    rw [List.map_cons, List.map_cons] at h
    obtain ⟨h1, h2⟩ := List.cons.inj h
    obtain ⟨i1, i2⟩ := find_no h2 fun c => hx (List.mem_cons_of_mem _ c)
    rw [List.find?_cons, key_is, h1, List.any_cons, i2]
    have : (some k == some x) = false := by
      rw [beq_eq_false_iff_ne]
      intro c
      cases c
      exact hx (by simp)
    rw [this]
    refine ⟨i1, ?_⟩
    rw [Bool.or_false]
    unfold keyO at h1
    unfold DictEntry.refKey
    cases q : d.key <;> rw [q] at h1 <;> first | rfl | cases h1
/-! ### names by numbers -/
def codeL : List Nat → Nat
  | [] => 1
  | c :: r => codeL r * 2097152 + c
def codeS (x : Str) : Nat := codeL x.cps.toList
def memN (n : Nat) : List Nat → Bool
  | [] => false
  | m :: r => match Nat.beq n m with
    | true => true
    | false => memN n r
def nodN : List Nat → Bool
  | [] => true
  | m :: r => match memN m r with
    | true => false
    | false => nodN r
theorem memN_no {n : Nat} : ∀ {l : List Nat}, memN n l = false → ¬ n ∈ l
  | [], _ => by simp
  | m :: r, h => by
    have h1 : (match Nat.beq n m with | true => true | false => memN n r) = false := h
    cases q : Nat.beq n m with
    | true => rw [q] at h1; cases h1
    | false =>
      rw [q] at h1
      intro c
      rcases List.mem_cons.mp c with e | e
      · subst e
        rw [Nat.beq_refl] at q
        cases q
      · exact memN_no h1 e
theorem nodN_ok : ∀ {l : List Nat}, nodN l = true → l.Nodup
  | [], _ => List.nodup_nil
  | m :: r, h => by
    have h1 : (match memN m r with | true => false | false => nodN r) = true := h
    cases q : memN m r with
    | true => rw [q] at h1; cases h1
    | false =>
      rw [q] at h1
      exact List.nodup_cons.mpr ⟨memN_no q, nodN_ok h1⟩
def nodS (ks : List Str) : Bool := nodN (ks.map codeS)
def offS (ks xs : List Str) : Bool := xs.all fun x => !memN (codeS x) (ks.map codeS)
theorem nodup_of_map' {α β : Type} {f : α → β} : ∀ {l : List α}, (l.map f).Nodup → l.Nodup
  | [], _ => List.nodup_nil
  | x :: l, h => by
    rw [List.map_cons] at h
    obtain ⟨h1, h2⟩ := List.nodup_cons.mp h
    exact List.nodup_cons.mpr ⟨fun c => h1 (List.mem_map.mpr ⟨x, c, rfl⟩), nodup_of_map' h2⟩
theorem nodS_ok {ks : List Str} (h : nodS ks = true) : ks.Nodup := nodup_of_map' (nodN_ok h)
theorem offS_ok {ks xs : List Str} (h : offS ks xs = true) {x : Str} (hx : x ∈ xs) : ¬ x ∈ ks := fun c => by
  have := List.all_eq_true.mp h x hx
  rw [Bool.not_eq_true'] at this
  exact memN_no this (List.mem_map.mpr ⟨x, c, rfl⟩)
/-! ### what is looked at -/
abbrev FV := Str × Str × Arguments × FuncBody × Scope × Addr × List (Str × Addr) × Value × Addr
inductive OV where
  | fn (v : FV) (q : Option Str)
  | cl
  | it (i : Int)
  | ot
  | bad
def codeN (g : Addr → Option Obj) (cd : Value) : Option Str := match cd with
  | .ref c => (match g c with
    | some ⟨_, _, .fields vs, _⟩ => (match vs.toList with
      | _ :: .str n _ :: _ => some n
      | _ => none)
    | _ => none)
  | _ => none
def entV (g : Addr → Option Obj) (e : DictEntry) : TI → OV
  | .df _ => (match e.val with
    | .ref a => (match g a with
      | some ⟨_, _, .func fd, _⟩ => .fn (fd.name, fd.qualname, fd.params, fd.body, fd.scope, fd.globals, fd.closure, fd.defaults, fd.builtins) (codeN g fd.code)
      | _ => .bad)
    | _ => .bad)
  | .cl _ => (match e.val with
    | .ref _ => .cl
    | _ => .bad)
  | .it _ _ => (match e.val with
    | .int j _ => .it j
    | _ => .bad)
  | .ot _ => .ot
def TI.val : TI → OV
  | .df d => .fn (d.name, d.qual, d.params, .stmts d.body, d.scope, mainGlobals, [], .none, builtinsNs) (some d.qual)
  | .cl _ => .cl
  | .it _ i => .it i
  | .ot _ => .ot
def zipV (g : Addr → Option Obj) : List DictEntry → List TI → List OV
  | e :: l, t :: r => entV g e t :: zipV g l r
  | _, _ => []
def refA : Value → Option Addr
  | .ref a => some a
  | _ => none
/-- the defs, the classes with where they stand -/
def pickD : List DictEntry → List TI → List (He.DefD × Addr)
  | e :: l, .df d :: r => (match refA e.val with
    | some a => (d, a) :: pickD l r
    | none => pickD l r)
  | _ :: l, _ :: r => pickD l r
  | _, _ => []
def pickC : List DictEntry → List TI → List (Str × Addr)
  | e :: l, .cl x :: r => (match refA e.val with
    | some a => (x, a) :: pickC l r
    | none => pickC l r)
  | _ :: l, _ :: r => pickC l r
  | _, _ => []
def codA (g : Addr → Option Obj) (a : Addr) : List Addr := match g a with
  | some ⟨_, _, .func fd, _⟩ => (match fd.code with
    | .ref c => [a, c]
    | _ => [a])
  | _ => [a]
def asH (g : Addr → Option Obj) (l : List DictEntry) (items : List TI) : List Addr := He.growD g (He.growD g ((pickC l items).map (·.2))) ++ mainGlobals :: (pickD l items).flatMap fun p => codA g p.2
def kH (g : Addr → Option Obj) (l : List DictEntry) (items : List TI) : PySem.W.Frag := He.frG g (asH g l items)
open PySem.W in
def excB (K : Frag) (C : Addr) : Bool := He.eqO (findIn K (.ref C) "__getattribute__") (some (some (.builtin "BaseException.__getattribute__"))) && (He.eqO (findIn K (.ref C) "__getattr__") (some none) && (hasDictIn K C &&
  (He.eqO (findIn K (.ref C) "__class__") (some (some (.builtin "object.__class__"))) && (He.eqO (specialIn K (.builtin "object.__class__") "__get__") (some (some (.builtin "getset_descriptor.__get__"))) && (decide (takesIn K (.builtin "object.__class__") = some true) &&
  (decide (mroIn K C (.type "object") = some true) && (decide (kitOne K (.ref C) (.type "ValueError") = some true) && (excIn K C He.veBase "ValueError.__new__" && (keepIn K (.ref C) && (decide (subIn K (.ref C) (.type "BaseException") = some true) && decide (typeIn K (.ref C) = some (.type "type"))))))))))))
def exL (K : PySem.W.Frag) (cs : List (Str × Addr)) (xs xv : List Str) : Bool := (K.all fun p => p.2.cls != .type "list") && ((xv.all fun x => xs.contains x && match cs.lookup x with
    | some C => excB K C
    | none => false) && xs.all fun x => match cs.lookup x with
    | some C => xv.all fun y => (match cs.lookup y with
      | some B => decide (PySem.W.exmOne K (.ref B) (.ref C) = some (y == x))
      | none => false)
    | none => false)
abbrev AlH := List (Option Str) × List OV × Bool
def obsE (g : Addr → Option Obj) (items : List TI) (xs xv : List Str) (l : List DictEntry) : AlH := (l.map keyO, zipV g (l.drop 9) items, exL (kH g (l.drop 9) items) (pickC (l.drop 9) items) xs xv)
def obsH (items : List TI) (xs xv : List Str) (g : Addr → Option Obj) : AlH := match g mainGlobals with
  | some ⟨_, _, .dict es _, _⟩ => obsE g items xs xv es.toList
  | _ => ([], [], false)
def valH (items : List TI) : AlH := ((preN ++ items.map (·.nm)).map some, items.map (·.val), true)
def SaysH (items : List TI) (xs xv : List Str) (h : Heap) : Prop := ∃ g : Addr → Option Obj, (∀ a o, g a = some o → h.get? a = some o) ∧ obsH items xs xv g = valH items
def hookH (items : List TI) (xs xv : List Str) : PySem.W.Hook where
  α := AlH
  obs := fun s => obsH items xs xv s.heap.get?
  val := fun _ => valH items
  says := fun _ h => SaysH items xs xv h
  of := fun _ _ e => ⟨_, fun _ _ q => q, e⟩
  keeps := fun _ _ _ ⟨g, hg, c⟩ k => ⟨g, fun _ _ q => k _ _ (hg _ _ q), c⟩
def obH (items : List TI) (xs xv : List Str) (s : PySem.W.SharedT) : AlH := obsH items xs xv (HandSHeadRun.getT s)
theorem obH_eq {items : List TI} {xs xv : List Str} (s : PySem.W.SharedT) : obH items xs xv s = (hookH items xs xv).obs s.abs := by
  have e : HandSHeadRun.getT s = s.abs.heap.get? := funext (HandSHeadRun.getT_eq s)
  unfold obH
  rw [e]
  rfl
/-! ### the facts -/
theorem frG_mem {g : Addr → Option Obj} {a : Addr} : ∀ {as : List Addr}, a ∈ as → (He.frG g as).lookup a = g a
  | [], h => by cases h
  | b :: r, h => by
    unfold He.frG
    rw [List.filterMap_cons]
    by_cases q : a = b
    · subst q
      cases e : g a with
      | some o => show ((a, o) :: _).lookup a = _; simp
      | none =>
        show (He.frG g r).lookup a = none
        cases e2 : (He.frG g r).lookup a with
        | none => rfl
        | some o => rw [He.frG_at r e2] at e; cases e
    · have hr : a ∈ r := by
        rcases List.mem_cons.mp h with c | c
        · exact absurd c q
        · exact c
      cases e : g b with
      | some o =>
        show ((b, o) :: He.frG g r).lookup a = _
        rw [List.lookup_cons, show (a == b) = false from by rw [beq_eq_false_iff_ne]; exact q]
        exact frG_mem hr
      | none => exact frG_mem hr
def dfO : TI → Option He.DefD
  | .df d => some d
  | _ => none
def itO : TI → Option (Str × Int)
  | .it x i => some (x, i)
  | _ => none
def clO : TI → Option Str
  | .cl x => some x
  | _ => none
theorem zip_get {g : Addr → Option Obj} : ∀ {l : List DictEntry} {r : List TI}, zipV g l r = r.map (·.val) → l.map keyO = (r.map (·.nm)).map some → ∀ t ∈ r, ∃ e ∈ l, keyO e = some t.nm ∧ entV g e t = t.val
  | [], [], _, _, t, ht => by cases ht
  | [], _ :: _, h, _, _, _ => by cases h
  | _ :: _, [], _, _, _, ht => by cases ht
  | e :: l, u :: r, h, hk, t, ht => by
    obtain ⟨h1, h2⟩ := List.cons.inj (show entV g e u :: zipV g l r = u.val :: r.map (·.val) from h)
    obtain ⟨k1, k2⟩ := List.cons.inj (show keyO e :: l.map keyO = some u.nm :: (r.map (·.nm)).map some from hk)
    rcases List.mem_cons.mp ht with q | q
    · subst q
      exact ⟨e, by simp, k1, h1⟩
    · obtain ⟨e', m, z⟩ := zip_get h2 k2 t q
      exact ⟨e', List.mem_cons_of_mem _ m, z⟩
theorem entV_df {g : Addr → Option Obj} {e : DictEntry} {d : He.DefD} (h : entV g e (.df d) = (TI.df d).val) : ∃ a oc od fd osl, e.val = .ref a ∧ g a = some ⟨oc, od, .func fd, osl⟩ ∧ (fd.name, fd.qualname, fd.params, fd.body, fd.scope, fd.globals, fd.closure, fd.defaults, fd.builtins) = ((d.name, d.qual, d.params, .stmts d.body, d.scope, mainGlobals, [], .none, builtinsNs) : FV) ∧ codeN g fd.code = some d.qual := by
  unfold entV TI.val at h
  dsimp only at h
  split at h
  · rename_i a ea
    split at h
    · rename_i oc od fd osl eg
      obtain ⟨h1, h2⟩ := OV.fn.inj h
      exact ⟨a, oc, od, fd, osl, ea, eg, h1, h2⟩
    · cases h
  · cases h
theorem pickD_map {g : Addr → Option Obj} : ∀ {l : List DictEntry} {r : List TI}, zipV g l r = r.map (·.val) → (pickD l r).map (·.1) = r.filterMap dfO
  | [], [], _ => rfl
  | [], _ :: _, h => by cases h
  | _ :: _, [], _ => rfl
  | e :: l, u :: r, h => by
    obtain ⟨h1, h2⟩ := List.cons.inj (show entV g e u :: zipV g l r = u.val :: r.map (·.val) from h)
    have ih := pickD_map h2
    cases u with
    | df d =>
      obtain ⟨a, _, _, _, _, ea, _⟩ := entV_df h1
      unfold pickD
      rw [ea]
      show d :: (pickD l r).map (·.1) = d :: r.filterMap dfO
      rw [ih]
    | _ => exact ih
theorem pickD_mem : ∀ {l : List DictEntry} {r : List TI} {ks : List Str} {d : He.DefD} {a : Addr}, l.map keyO = (r.map (·.nm)).map some → (d, a) ∈ pickD l r → ∃ e ∈ l, keyO e = some d.name ∧ e.val = .ref a
  | [], [], _, _, _, _, h => by cases h
  | [], _ :: _, _, _, _, h, _ => by cases h
  | _ :: _, [], _, _, _, _, h => by cases h
  | e :: l, u :: r, ks, d, a, hk, h => by
    obtain ⟨k1, k2⟩ := List.cons.inj (show keyO e :: l.map keyO = some u.nm :: (r.map (·.nm)).map some from hk)
    have go : (d, a) ∈ pickD l r → ∃ e' ∈ e :: l, keyO e' = some d.name ∧ e'.val = .ref a := fun z => by
      obtain ⟨e', m, z⟩ := pickD_mem (ks := ks) k2 z
      exact ⟨e', List.mem_cons_of_mem _ m, z⟩
    cases u with
    | df d' =>
      unfold pickD at h
      cases q : e.val with
      | ref b =>
        rw [q] at h
        rcases List.mem_cons.mp h with z | z
        · cases z
          exact ⟨e, by simp, k1, q⟩
        · exact go z
      | _ => rw [q] at h; exact go h
    | _ => exact go h
theorem pickC_mem : ∀ {l : List DictEntry} {r : List TI} {x : Str} {a : Addr}, l.map keyO = (r.map (·.nm)).map some → (x, a) ∈ pickC l r → ∃ e ∈ l, keyO e = some x ∧ e.val = .ref a
  | [], [], _, _, _, h => by cases h
  | [], _ :: _, _, _, h, _ => by cases h
  | _ :: _, [], _, _, _, h => by cases h
  | e :: l, u :: r, x, a, hk, h => by
    obtain ⟨k1, k2⟩ := List.cons.inj (show keyO e :: l.map keyO = some u.nm :: (r.map (·.nm)).map some from hk)
    have go : (x, a) ∈ pickC l r → ∃ e' ∈ e :: l, keyO e' = some x ∧ e'.val = .ref a := fun z => by
      obtain ⟨e', m, z⟩ := pickC_mem k2 z
      exact ⟨e', List.mem_cons_of_mem _ m, z⟩
    cases u with
    | cl d' =>
      unfold pickC at h
      cases q : e.val with
      | ref b =>
        rw [q] at h
        rcases List.mem_cons.mp h with z | z
        · cases z
          exact ⟨e, by simp, k1, q⟩
        · exact go z
      | _ => rw [q] at h; exact go h
    | _ => exact go h
end Ev

set_option Elab.async false
set_option linter.all false
set_option maxRecDepth 100000
set_option maxHeartbeats 4000000
/-! EvHc: a law by its head and the core language's run. -/
namespace Ev
open PySem PySem.Spec PyProof.Rows L2
def fnsOf (items : List TI) : List He.DefD := items.filterMap dfO
def fnM (items : List TI) (xs xv : List Str) : Names := ⟨((fnsOf items).map (·.name)).zipIdx, items.filterMap itO, xv, xs⟩
def fnT (M : Names) (o : Str → Opt) (fn : List He.DefD) : Nat → Option Fn := fun i => (fn[i]?).bind fun d => cFn M (o d.name) d.params d.body d.scope
def scB (N ps : List Str) (sc : Scope) : Bool := sc.kind == .function && (!sc.isCoroutine && (!sc.isGenerator && (decide N.Nodup && (N.take ps.length == ps && ((ps.all fun x => sc.names.lookup x == some .local || sc.names.lookup x == some .cell) && sc.names.all fun y => y.2 != .free)))))
theorem scB_ok {N ps : List Str} {sc : Scope} (h : scB N ps sc = true) : FnScope N ps sc := by
  unfold scB at h
  simp only [Bool.and_eq_true, beq_iff_eq, Bool.not_eq_true', decide_eq_true_eq, List.all_eq_true, Bool.or_eq_true, bne_iff_ne, ne_eq] at h
  obtain ⟨h1, h2, h3, h4, h5, h6, h7⟩ := h
  exact ⟨h1, h2, h3, h4, h5, h6, h7⟩
def okD (M : Names) (o : Str → Opt) (d : He.DefD) : Bool := (cFn M (o d.name) d.params d.body d.scope).isSome && (scB (namesOf (d.params.args.map (·.arg)) d.scope d.body) (d.params.args.map (·.arg)) d.scope && (plainA d.params && decide (d.params.args.map (·.arg)).Nodup))
theorem look_idx {α : Type} : ∀ {xs : List Str} {k : Nat} {x : Str} {n : Nat}, (xs.zipIdx k).lookup x = some n → ∃ m, n = k + m ∧ xs[m]? = some x
  | [], _, _, _, h => by simp at h
  | y :: xs, k, x, n, h => by
    rw [List.zipIdx_cons, List.lookup_cons] at h
    cases q : x == y with
    | true =>
      rw [q] at h
      cases h
      exact ⟨0, rfl, by rw [eq_of_beq q]; rfl⟩
    | false =>
      rw [q] at h
      obtain ⟨m, e1, e2⟩ := look_idx (α := α) h
      exact ⟨m + 1, by omega, e2⟩
theorem mem_look {x : Str} {i : Int} : ∀ {iv : List (Str × Int)}, iv.lookup x = some i → (x, i) ∈ iv
  | [], h => by cases h
  | (y, j) :: iv, h => by
    rw [List.lookup_cons] at h
    cases q : x == y with
    | true =>
      rw [q] at h
      cases h
      rw [eq_of_beq q]
      simp
    | false =>
      rw [q] at h
      exact List.mem_cons_of_mem _ (mem_look h)
theorem mem_lk {α : Type} {a : Addr} {v : α} : ∀ {l : List (Addr × α)}, l.lookup a = some v → (a, v) ∈ l
  | [], h => by cases h
  | (b, u) :: l, h => by
    rw [List.lookup_cons] at h
    cases q : a == b with
    | true => rw [q] at h; cases h; rw [eq_of_beq q]; simp
    | false => rw [q] at h; exact List.mem_cons_of_mem _ (mem_lk h)
theorem look_mem {α : Type} {x : Str} {v : α} : ∀ {l : List (Str × α)}, l.lookup x = some v → (x, v) ∈ l
  | [], h => by cases h
  | (y, u) :: l, h => by
    rw [List.lookup_cons] at h
    cases q : x == y with
    | true => rw [q] at h; cases h; rw [eq_of_beq q]; simp
    | false => rw [q] at h; exact List.mem_cons_of_mem _ (look_mem h)
theorem ba {a b : Bool} (h : (a && b) = true) : a = true ∧ b = true := Bool.and_eq_true_iff.mp h
theorem itemsOf_df {b : List Stmt} {d : He.DefD} (h : TI.df d ∈ itemsOf b) : d.qual = d.name := by
  obtain ⟨st, _, e⟩ := List.mem_filterMap.mp h
  unfold itemOf at e
  split at e
  · cases e; rfl
  · cases e
  · split at e
    · cases e
    · split at e <;> cases e
  · cases e
/-- what a head says, opened -/
structure HD (items : List TI) (xs xv : List Str) (g : Addr → Option Obj) (K : PySem.W.Frag) (l : List DictEntry) : Prop where
  ks : (preN ++ items.map (·.nm)).Nodup
  eK : K = kH g (l.drop 9) items
  G : ∃ oc od es n sl, g mainGlobals = some ⟨oc, od, .dict es n, sl⟩ ∧ l = es.toList
  k : l.map keyO = (preN ++ items.map (·.nm)).map some
  z : zipV g (l.drop 9) items = items.map (·.val)
  x : exL K (pickC (l.drop 9) items) xs xv = true
def cst (P : Program) (w : World) (l : List DictEntry) (items : List TI) (xv : List Str) : Cst := ⟨⟨fun n => ((pickD (l.drop 9) items)[n]?).map (·.2), P, w⟩, fun c => if xv.contains c then ((pickC (l.drop 9) items).lookup c).map .ref else none⟩
section
variable {items : List TI} {xs xv : List Str} {g : Addr → Option Obj} {K : PySem.W.Frag} {l : List DictEntry} {h : Heap} {mg : Str → Option Value} {o : Str → Opt} {P : Program} {w : World}
theorem HD.of (nd : nodS (preN ++ items.map (·.nm)) = true) (s : SaysH items xs xv h) : ∃ g K l, HD items xs xv g K l ∧ K.In h := by
  obtain ⟨g, hg, e⟩ := s
  unfold obsH at e
  split at e
  · rename_i oc od es n sl q
    unfold obsE valH at e
    obtain ⟨e1, e2⟩ := Prod.mk.inj e
    obtain ⟨e2, e3⟩ := Prod.mk.inj e2
    exact ⟨g, _, es.toList, ⟨nodS_ok nd, rfl, ⟨oc, od, es, n, sl, q, rfl⟩, e1, e2, e3⟩, fun a ob z => hg _ _ (He.frG_at _ z)⟩
  · unfold valH at e
    obtain ⟨e1, _⟩ := Prod.mk.inj e
    cases e1
theorem HD.k9 (D : HD items xs xv g K l) : (l.drop 9).map keyO = (items.map (·.nm)).map some := by
  rw [List.map_drop, D.k, List.map_append]
  rfl
theorem HD.lk (D : HD items xs xv g K l) {a : Addr} (ha : a ∈ asH g (l.drop 9) items) : K.lookup a = g a := by
  rw [D.eK]
  exact frG_mem ha
theorem HD.ns (D : HD items xs xv g K l) (X : K.In h) (G : h.Ns mainGlobals mg) {e : DictEntry} {x : Str} (he : e ∈ l.drop 9) (hx : keyO e = some x) : mg x = some e.val := by
  refine PySem.W.mg_of X G ?_
  obtain ⟨oc, od, es, n, sl, q, rfl⟩ := D.G
  unfold PySem.W.nsIn
  rw [D.lk (List.mem_append_right _ (by simp)), q]
  dsimp only
  rw [find_key D.k D.ks (List.mem_of_mem_drop he) hx]
theorem HD.no (D : HD items xs xv g K l) (X : K.In h) (G : h.Ns mainGlobals mg) {x : Str} (hx : ¬ x ∈ preN ++ items.map (·.nm)) : mg x = none := by
  refine PySem.W.mg_none_of X G ?_
  obtain ⟨oc, od, es, n, sl, q, rfl⟩ := D.G
  unfold PySem.W.nsIn
  rw [D.lk (List.mem_append_right _ (by simp)), q]
  dsimp only
  obtain ⟨h1, h2⟩ := find_no D.k hx
  rw [h1, h2]
  rfl
theorem HD.cls (D : HD items xs xv g K l) (X : K.In h) (G : h.Ns mainGlobals mg) {x : Str} {C : Addr} (e : (pickC (l.drop 9) items).lookup x = some C) : mg x = some (.ref C) := by
  obtain ⟨e, he, h1, h2⟩ := pickC_mem D.k9 (look_mem e)
  rw [D.ns X G he h1, h2]
theorem HD.fn (D : HD items xs xv g K l) (n : Nat) : ((pickD (l.drop 9) items)[n]?).map (·.1) = (fnsOf items)[n]? := by
  rw [← List.getElem?_map, pickD_map D.z]
  rfl
theorem HD.int (D : HD items xs xv g K l) (X : K.In h) (G : h.Ns mainGlobals mg) {x : Str} {i : Int} (m : TI.it x i ∈ items) : ∃ t, mg x = some (.int i t) := by
  obtain ⟨e, he, h1, h2⟩ := zip_get D.z D.k9 _ m
  unfold entV TI.val at h2
  dsimp only at h2
  split at h2
  · rename_i j t ev
    cases h2
    exact ⟨t, by rw [D.ns (x := x) X G he h1, ev]⟩
  · cases h2
theorem exc_ok {C : Addr} (h : excB K C = true) : ExcC K C ∧ PySem.W.kitOne K (.ref C) (.type "ValueError") = some true ∧ PySem.W.excIn K C [.type "ValueError", .type "Exception", .type "BaseException", .type "object"] "ValueError.__new__" = true ∧ PySem.W.keepIn K (.ref C) = true ∧
    PySem.W.subIn K (.ref C) (.type "BaseException") = some true ∧ PySem.W.typeIn K (.ref C) = some (.type "type") := by
  obtain ⟨h1, h⟩ := ba h
  obtain ⟨h2, h⟩ := ba h
  obtain ⟨h3, h⟩ := ba h
  obtain ⟨h4, h⟩ := ba h
  obtain ⟨h5, h⟩ := ba h
  obtain ⟨h6, h⟩ := ba h
  obtain ⟨h7, h⟩ := ba h
  obtain ⟨h8, h⟩ := ba h
  obtain ⟨h9, h⟩ := ba h
  obtain ⟨h10, h⟩ := ba h
  obtain ⟨h11, h12⟩ := ba h
  have h11 := of_decide_eq_true h11
  exact ⟨⟨He.eqO_ok h1, He.eqO_ok h2, h11, h3, He.eqO_ok h4, He.eqO_ok h5, of_decide_eq_true h6, of_decide_eq_true h7⟩, of_decide_eq_true h8, h9, h10, h11, of_decide_eq_true h12⟩
theorem HD.nol (D : HD items xs xv g K l) {a : Addr} {ob : Obj} (h : K.lookup a = some ob) : ob.cls ≠ .type "list" := by
  have h1 := List.all_eq_true.mp (ba D.x).1 (a, ob) (mem_lk h)
  simpa using h1
/-- what a def's object is -/
theorem HD.at_ (D : HD items xs xv g K l) (hk : ((fnsOf items).all (okD (fnM items xs xv) o)) = true) {n : Nat} {d : He.DefD} {a : Addr} (e1 : (pickD (l.drop 9) items)[n]? = some (d, a)) : ∃ f1, fnT (fnM items xs xv) o (fnsOf items) n = some f1 ∧ FnAt K (fnM items xs xv) a f1 (d.params.args.map (·.arg)) := by
  have hf : (fnsOf items)[n]? = some d := by rw [← D.fn n, e1]; rfl
  have hm := List.mem_of_getElem? hf
  have ok := List.all_eq_true.mp hk d hm
  obtain ⟨k1, ok⟩ := ba ok
  obtain ⟨k2, ok⟩ := ba ok
  obtain ⟨k3, k4⟩ := ba ok
  obtain ⟨f1, hf1⟩ := Option.isSome_iff_exists.mp k1
  obtain ⟨t, ht, hd⟩ := List.mem_filterMap.mp hm
  obtain rfl : t = .df d := by
    cases t with
    | df d' => cases hd; rfl
    | _ => cases hd
  have pm := List.mem_of_getElem? e1
  obtain ⟨e, he, y1, y2⟩ := pickD_mem (ks := []) D.k9 pm
  obtain ⟨e', he', y3, y4⟩ := zip_get D.z D.k9 _ ht
  have ee : e' = e := by
    have f1 := find_key D.k D.ks (List.mem_of_mem_drop he) y1
    have f2 := find_key D.k D.ks (List.mem_of_mem_drop he') y3
    rw [show (TI.df d).nm = d.name from rfl] at f2
    rw [f1] at f2
    cases f2
    rfl
  subst ee
  obtain ⟨a', oc, od, fd, osl, z1, z2, z3, z4⟩ := entV_df y4
  obtain rfl : a' = a := by rw [y2] at z1; cases z1; rfl
  obtain ⟨n1, n2, n3, n4, n5, n6, n7, n8, n9, n10, n11, n12, n13, n14, n15⟩ := fd
  simp only [Prod.mk.injEq] at z3
  obtain ⟨h1, h2, h3, h4, h5, h6, h7, h8, h9⟩ := z3
  have ha : ∀ b ∈ codA g a', b ∈ asH g (l.drop 9) items := fun b hb => List.mem_append_right _ (List.mem_cons_of_mem _ (List.mem_flatMap.mpr ⟨_, pm, hb⟩))
  have la : K.lookup a' = some ⟨oc, od, .func (PySem.W.fnOf d.name d.qual d.params d.body d.scope .none n9 n10 n11 n12 n13 n14), osl⟩ := by
    rw [D.lk (ha a' (by unfold codA; rw [z2]; dsimp only; split <;> simp)), z2]
    unfold PySem.W.fnOf
    subst h1 h2 h3 h4 h5 h6 h7 h8 h9
    rfl
  refine ⟨f1, by unfold fnT; rw [hf]; exact hf1, d.name, d.qual, d.params, d.body, d.scope, .none, n9, n10, n11, n13, n14, oc, n12, od, osl, o d.name, rfl, la, ?_, scB_ok k2, fun us hl => bind_plain k3 (of_decide_eq_true k4) hl, ?_, hf1⟩
  · unfold codeN at z4
    split at z4
    · rename_i c ec
      have lc : K.lookup c = g c := D.lk (ha c (by unfold codA; rw [z2]; dsimp only at ec ⊢; rw [ec]; simp))
      dsimp only at ec
      rw [ec]
      unfold PySem.W.codeIn
      dsimp only
      rw [lc]
      split at z4
      · rename_i vs _ eg
        rw [eg]
        dsimp only
        split at z4
        · rename_i ev
          rw [ev]
          cases z4
          simp
        · cases z4
      · cases z4
    · cases z4
  · unfold PySem.W.keepIn
    dsimp only
    rw [la]
theorem HD.prg (D : HD items xs xv g K l) (X : K.In h) (G : h.Ns mainGlobals mg) (hb : offS (preN ++ items.map (·.nm)) ("ValueError" :: bltNames) = true) (hk : ((fnsOf items).all (okD (fnM items xs xv) o)) = true) : Prg K mg (cst P w l items xv) (fnM items xs xv) (fnT (fnM items xs xv) o (fnsOf items)) where
  fns x n e := by
    obtain ⟨m, rfl, e2⟩ := look_idx (α := Unit) (show (((fnsOf items).map (·.name)).zipIdx 0).lookup x = some n from e)
    rw [List.getElem?_map] at e2
    obtain ⟨d, e3, rfl⟩ := Option.map_eq_some_iff.mp e2
    rw [← D.fn m] at e3
    obtain ⟨⟨d', a⟩, e4, rfl⟩ := Option.map_eq_some_iff.mp e3
    refine ⟨a, ?_, ?_⟩
    · show ((pickD (l.drop 9) items)[0 + m]?).map _ = _
      rw [Nat.zero_add, e4]
      rfl
    · obtain ⟨e, he, h1, h2⟩ := pickD_mem (ks := []) D.k9 (List.mem_of_getElem? e4)
      rw [D.ns X G he h1, h2]
  at' n a e := by
    obtain ⟨⟨d, a'⟩, e1, rfl⟩ := Option.map_eq_some_iff.mp (show ((pickD (l.drop 9) items)[n]?).map (·.2) = some a from e)
    obtain ⟨f1, h1, h2⟩ := D.at_ hk e1
    exact ⟨f1, _, h1, h2⟩
  gis x i e := by
    obtain ⟨t, ht, hd⟩ := List.mem_filterMap.mp (mem_look e)
    cases t with
    | it y j => cases hd; exact D.int X G ht
    | _ => cases hd
  blt x hx := D.no X G (offS_ok hb (List.mem_cons_of_mem _ hx))
  val := D.no X G (offS_ok hb (by simp))
  hcs x hx := by
    have q := List.all_eq_true.mp (ba (ba D.x).2).2 x hx
    split at q
    · rename_i C eC
      refine ⟨C, D.cls X G eC, fun y cls hy => ?_⟩
      have hy : (if xv.contains y = true then ((pickC (l.drop 9) items).lookup y).map Value.ref else none) = some cls := hy
      split at hy
      · rename_i hc
        have r := List.all_eq_true.mp q y (by simpa using hc)
        obtain ⟨B, eB, rfl⟩ := Option.map_eq_some_iff.mp hy
        rw [eB] at r
        exact of_decide_eq_true r
      · cases hy
    · cases q
  exs x hx := by
    have q0 := List.all_eq_true.mp (ba (ba D.x).2).1 x hx
    obtain ⟨hxs, q0⟩ := ba q0
    have q := List.all_eq_true.mp (ba (ba D.x).2).2 x (by simpa using hxs)
    split at q
    · rename_i C eC
      rw [eC] at q0
      obtain ⟨c1, c2, c3, c4, c5, c6⟩ := exc_ok q0
      refine ⟨C, ?_, D.cls X G eC, c3, c4, c5, c6, c1, c2, fun y cls hy => ?_⟩
      · show (if xv.contains x = true then ((pickC (l.drop 9) items).lookup x).map Value.ref else none) = _
        have hx2 : x ∈ xv := hx
        rw [if_pos (by simpa using hx2), eC]
        rfl
      · have hy : (if xv.contains y = true then ((pickC (l.drop 9) items).lookup y).map Value.ref else none) = some cls := hy
        split at hy
        · rename_i hc
          have r := List.all_eq_true.mp q y (by simpa using hc)
          obtain ⟨B, eB, rfl⟩ := Option.map_eq_some_iff.mp hy
          rw [eB] at r
          exact of_decide_eq_true r
        · cases hy
    · cases q
end
/-- what a call may let out, in any world -/
def CXw (P : Program) : CXT := fun outer H s E u s' => ∃ w, L2.CX P w outer H s E u s'
theorem fnOk_w {P : Program} {w : World} {K : PySem.W.Frag} {mg : Str → Option Value} {base : Heap} {k : Nat} {f : Addr} {fd : FuncData} {ps : List Str} {sp : Sp} (F : FnOk P w K mg base (L2.CX P w) k f fd ps sp) : FnOk P w K mg base (CXw P) k f fd ps sp :=
  ⟨F.len, fun A outer s H args us vs Q E hr e0 hb r h => codeAny_mono (F.run A outer s H args us vs Q E hr e0 hb r h) fun z s' q => by
    cases z with
    | error e => exact ⟨w, q⟩
    | ok fl => cases fl <;> exact q⟩
section
variable {items : List TI} {xs xv : List Str} {o : Str → Opt}
/-- a law, by its head and the core language's run -/
theorem walk_law {l : PySem.W.OpenLaw} {q : Program} {loose : List Str} {XP : (Str → Option Value) → Heap → Prop} {d : DefRec} {k i : Nat} {dd : He.DefD} (hn : l.most = some 63) (hdf : d.params.defaults = []) (hr : Room (k + 1) callerA)
    (nd : nodS (preN ++ items.map (·.nm)) = true) (hb : offS (preN ++ items.map (·.nm)) ("ValueError" :: bltNames) = true) (hk : ((fnsOf items).all (okD (fnM items xs xv) o)) = true) (hi : (fnsOf items)[i]? = some dd) (hdn : dd.name = d.name) (hps : dd.params.args.map (·.arg) = [("script" : Str)])
    (hrun : ∀ ns : List Int, ns.length ≤ 63 → run (fnT (fnM items xs xv) o (fnsOf items)) (k + 1) i [.scr (ns.map .int)] [] = .ok (.bl true) []) :
    PySem.W.WalkO q loose XP (hookH items xs xv).says l.row.toRowW d [] (fun f vs => PySem.call f vs) := by
  refine L2.walk_ofE (l := l) (n := 63) (k := k + 1) (x := "script") (CX := CXw l.prog) hn (by decide) hdf hr ?_ fun H s e s' ⟨w, z⟩ => by
    obtain ⟨_, _, _, _, _, _, _, _, _, _, _, _, h⟩ := z
    exact h
  intro w mg fa h Y G hmg
  obtain ⟨g, K, es, D, KX⟩ := HD.of nd Y
  have Z := D.prg (P := l.prog) (w := w) KX G hb hk
  have e0 := D.fn i
  rw [hi] at e0
  obtain ⟨⟨d', a⟩, e1, rfl⟩ := Option.map_eq_some_iff.mp e0
  obtain ⟨f1, hT, F⟩ := D.at_ hk e1
  have ea : fa = a := by
    obtain ⟨e, he, h1, h2⟩ := pickD_mem (ks := []) D.k9 (List.mem_of_getElem? e1)
    have := D.ns KX G he h1
    rw [show d'.name = d.name from hdn, hmg, h2] at this
    cases this
    rfl
  subst ea
  rw [hps] at F
  obtain ⟨fd, hbd, hF⟩ := fn_law (P := l.prog) (w := w) ⟨rfl, rfl⟩ Z hT F k
  exact ⟨K, fd, _, KX, fun s u => .of_eq (hbd [u] rfl), fun H a ns hl hO hS => sp_law hO hS (fun ob ho => D.nol ho) (hrun ns hl), fun base _ _ => fnOk_w (hF base)⟩
end
end Ev

set_option Elab.async false
set_option linter.all false
set_option maxRecDepth 100000
set_option maxHeartbeats 1000000
/-! EvP1: the laws' drawing of numbers, in closed form. -/
namespace Dr
open PySem Ev
def fBox (c : Int) : Fn := ⟨2, 3, [
  (.asg (.name 2) (.ite (.op .lt (.var 1) (.bi .len [(.var 0)])) (.idx (.var 0) (.var 1)) (.int (0)))),
  (.ret (.cell (.lst [(.op .mul (.bi .abs [(.var 2)]) (.bi .int [(.op .ge (.bi .abs [(.var 2)]) (.op .pow (.int (10)) (.int (18))))])), (.op .add (.op .add (.op .mod (.bi .int [(.var 2)]) (.int (2305843009213693951))) (.op .mul (.int (39373)) (.var 1))) (.int c)), (.int (0))])))], .top, 100000⟩
def fTake : Fn := ⟨2, 6, [
  (.ife (.op .gt (.idx (.var 0) (.int (0))) (.int (0))) [(.asg (.name 2) (.op .mod (.bi .int [(.idx (.var 0) (.int (0)))]) (.var 1))), (.asg (.sub (.var 0) (.int (0))) (.op .fdiv (.idx (.var 0) (.int (0))) (.var 1))), (.ret (.var 2))] []),
  (.asg (.sub (.var 0) (.int (2))) (.op .add (.idx (.var 0) (.int (2))) (.int (1)))),
  (.asg (.name 3) (.op .mod (.bi .int [(.op .mul (.op .add (.idx (.var 0) (.int (1))) (.op .mul (.int (48271)) (.idx (.var 0) (.int (2))))) (.op .add (.int (39373)) (.idx (.var 0) (.int (2)))))]) (.int (2147483647)))),
  (.asg (.name 4) (.op .add (.op .mod (.bi .int [(.var 3)]) (.int (40009))) (.int (7)))),
  (.asg (.name 5) (.op .mod (.bi .int [(.op .mul (.op .add (.op .add (.var 3) (.idx (.var 0) (.int (2)))) (.op .fdiv (.idx (.var 0) (.int (1))) (.int (1000003)))) (.var 4))]) (.int (2147483629)))),
  (.ret (.op .mod (.bi .int [(.op .fdiv (.op .mod (.bi .int [(.op .add (.op .mul (.var 5) (.int (48271))) (.var 3))]) (.int (2147483587))) (.int (64)))]) (.var 1)))], .frz, 100000⟩
def cBody : List Sm := [(.asg (.name 5) (.op .mod (.bi .int [(.var 3)]) (.var 1))), (.asg (.sub (.var 2) (.var 5)) (.op .add (.idx (.var 2) (.var 5)) (.op .mul (.var 4) (.op .add (.var 3) (.int (2))))))]
def fCells : Fn := ⟨2, 6, [
  (.asg (.name 2) (.cell (.or (.bi .list [(.slice (.var 0) none (some (.var 1)))]) (.lst [(.int (0))])))),
  (.forr (.many [(.one 3), (.one 4)]) (.enum (.slice (.var 0) (some (.var 1)) (some (.int (63))))) cBody),
  (.ret (.var 2))], .frz, 100000⟩
def pBody (it : Nat) : List Sm := [(.expr (.meth .append (.var 4) [(.meth .pop (.var 3) [(.call it [(.var 0), (.bi .len [(.var 3)])])])]))]
def fPick (it : Nat) : Fn := ⟨3, 6, [
  (.asg (.tup [(.name 3), (.name 4)]) (.tup [(.cell (.bi .list [(.var 1)])), (.cell (.lst []))])),
  (.forr (.one 5) (.rng [(.bi .min [(.bi .int [(.var 2)]), (.bi .len [(.var 3)])])]) (pBody it)),
  (.ret (.var 4))], .frz, 100000⟩
theorem log_lt {i : Int} (h : i.natAbs < 2 ^ 200) : i.natAbs.log2 < 200 := by
  by_cases h0 : i.natAbs = 0
  · rw [h0]; decide
  · exact (Nat.log2_lt h0).mpr h
theorem mul_ok {i j : Int} (h1 : i.natAbs < 2 ^ 200) (h2 : j.natAbs < 2 ^ 200) : mulOp (.int i) (.int j) = some (.int (i * j)) := by
  have a := log_lt h1
  have b := log_lt h2
  have c : i.natAbs.log2 + j.natAbs.log2 < 1000000 := by omega
  exact if_pos (by simp [c])
/-- the draws' state, after at most m draws -/
def Tin (h : Hh) (i m : Nat) : Prop := ∃ a b e : Int, h[i]? = some (.lst [.int a, .int b, .int e]) ∧ 0 ≤ b ∧ b < 2 ^ 64 ∧ 0 ≤ e ∧ e ≤ m
theorem leave_int (h h1 : Hh) (v : Int) (hl : h1.length = h.length) : leave .frz h.length (.int v) h1 = .ok (.int v) h1 := by
  show Res.ok _ (h1.take h.length) = _
  rw [← hl, List.take_length]
section
variable {T : Nat → Option Fn} {ib it ic ip : Nat} {cst : Int}
theorem take_b (hT : T it = some fTake) (k : Nat) (i : Nat) (n : Int) (hn : 0 < n) (hn2 : n < 2 ^ 60) (h : Hh) (a b e : Int) (ha : a ≤ 0) (hb : 0 ≤ b) (hb2 : b < 2 ^ 64) (he : 0 ≤ e) (he2 : e < 2 ^ 40) (hh : h[i]? = some (.lst [.int a, .int b, .int e])) :
    ∃ v, 0 ≤ v ∧ v < n ∧ Ev.run T (k + 1) it [.ref i, .int n] h = .ok (.int v) (h.set i (.lst [.int a, .int b, .int (e + 1)])) := by
  have hi : i < h.length := (List.getElem?_eq_some_iff.mp hh).1
  have hs : (h.set i (.lst [.int a, .int b, .int (e + 1)]))[i]? = some (.lst [.int a, .int b, .int (e + 1)]) := by simp [hi]
  have hna : ¬ 0 < a := by omega
  unfold Ev.run
  rw [hT]
  have q1 : 0 ≤ (b + 48271 * (e + 1)) * (39373 + (e + 1)) % 2147483647 ∧ (b + 48271 * (e + 1)) * (39373 + (e + 1)) % 2147483647 < 2147483647 := ⟨Int.emod_nonneg _ (by decide), Int.emod_lt_of_pos _ (by decide)⟩
  have m1 : mulOp (.int 48271) (.int (e + 1)) = some (.int (48271 * (e + 1))) := mul_ok (by decide) (by omega)
  have m2 : mulOp (.int (b + 48271 * (e + 1))) (.int (39373 + (e + 1))) = some (.int ((b + 48271 * (e + 1)) * (39373 + (e + 1)))) := mul_ok (by omega) (by omega)
  generalize hO : (b + 48271 * (e + 1)) * (39373 + (e + 1)) % 2147483647 = o at q1
  have g1 : Nat.log2 1000003 < 9000 := by decide
  have g2 : Nat.log2 64 < 9000 := by decide
  have w1 : 0 ≤ o % 40009 ∧ o % 40009 < 40009 := ⟨Int.emod_nonneg _ (by decide), Int.emod_lt_of_pos _ (by decide)⟩
  have w2 : 0 ≤ b / 1000003 ∧ b / 1000003 ≤ b := ⟨by omega, by omega⟩
  have m3 : mulOp (.int (o + (e + 1) + b / 1000003)) (.int (o % 40009 + 7)) = some (.int ((o + (e + 1) + b / 1000003) * (o % 40009 + 7))) := mul_ok (by omega) (by omega)
  have w3 : 0 ≤ (o + (e + 1) + b / 1000003) * (o % 40009 + 7) % 2147483629 ∧ (o + (e + 1) + b / 1000003) * (o % 40009 + 7) % 2147483629 < 2147483629 := ⟨Int.emod_nonneg _ (by decide), Int.emod_lt_of_pos _ (by decide)⟩
  have m4 : mulOp (.int ((o + (e + 1) + b / 1000003) * (o % 40009 + 7) % 2147483629)) (.int 48271) = some (.int ((o + (e + 1) + b / 1000003) * (o % 40009 + 7) % 2147483629 * 48271)) := mul_ok (by omega) (by decide)
  refine ⟨((o + (e + 1) + b / 1000003) * (o % 40009 + 7) % 2147483629 * 48271 + o) % 2147483587 / 64 % n, Int.emod_nonneg _ (by omega), Int.emod_lt_of_pos _ hn, ?_⟩
  simp [fTake, evB, evS, evE, evEs, Res.of, idxOp, top, hh, hs, ixN, op2, gtOp, hna, truD, asgE, biN, bi1, modOp, fdivOp, addOp, m1, m2, hO, g1, g2, m3, m4, hn, setOp, stOk, under]
  exact leave_int _ _ _ (by simp)
theorem take_a (hT : T it = some fTake) (k : Nat) (i : Nat) (n : Int) (hn : 0 < n) (hn2 : n < 2 ^ 60) (h : Hh) (a b e : Int) (ha : 0 < a) (hh : h[i]? = some (.lst [.int a, .int b, .int e])) :
    Ev.run T (k + 1) it [.ref i, .int n] h = .ok (.int (a % n)) (h.set i (.lst [.int (a / n), .int b, .int e])) := by
  have hlog : n.natAbs.log2 < 9000 := by
    have : n.natAbs < 2 ^ 60 := by omega
    have := Nat.log2_lt (n := n.natAbs) (k := 60) (by omega) |>.mpr this
    omega
  unfold Ev.run
  rw [hT]
  simp [fTake, evB, evS, evE, evEs, Res.of, idxOp, top, hh, ixN, op2, gtOp, ha, truD, asgE, biN, bi1, modOp, fdivOp, hn, hlog, setOp, stOk, under]
  exact leave_int _ _ _ (by simp)
theorem take_run (hT : T it = some fTake) (k i m : Nat) (n : Int) (hn : 0 < n) (hn2 : n < 2 ^ 60) (h : Hh) (t : Tin h i m) (hm : m < 2 ^ 30) : ∃ v h', 0 ≤ v ∧ v < n ∧ Ev.run T (k + 1) it [.ref i, .int n] h = .ok (.int v) h' ∧ Tin h' i (m + 1) ∧ ∃ c, h' = h.set i c := by
  obtain ⟨a, b, e, hh, hb, hb2, he, he2⟩ := t
  have hi : i < h.length := (List.getElem?_eq_some_iff.mp hh).1
  by_cases ha : 0 < a
  · exact ⟨a % n, _, Int.emod_nonneg _ (by omega), Int.emod_lt_of_pos _ hn, take_a hT k i n hn hn2 h a b e ha hh, ⟨a / n, b, e, by simp [hi], hb, hb2, he, by omega⟩, _, rfl⟩
  · obtain ⟨v, v1, v2, r⟩ := take_b hT k i n hn hn2 h a b e (by omega) hb hb2 he (by omega) hh
    exact ⟨v, _, v1, v2, r, ⟨a, b, e + 1, by simp [hi], hb, hb2, by omega, by omega⟩, _, rfl⟩
theorem box_run (hB : T ib = some (fBox cst)) (hc : 0 ≤ cst) (hc2 : cst < 2 ^ 60) (k : Nat) (x : Int) (h : Hh) : ∃ a b e : Int, Ev.run T (k + 1) ib [.lst [.int x], .int 0] h = .ok (.ref h.length) (h ++ [.lst [.int a, .int b, .int e]]) ∧ 0 ≤ b ∧ b < 2 ^ 64 ∧ e = 0 := by
  have p1 : powOp (.int 10) (.int 18) = some (.int (10 ^ 18)) := rfl
  have m1 : ∀ (i : Int) (c : Prop) [Decidable c], mulOp (.int i) (.int (if c then 1 else 0)) = some (.int (i * (if c then 1 else 0))) := fun i c _ => by split <;> exact if_pos (by simp [small])
  have m2 : mulOp (.int 39373) (.int 0) = some (.int 0) := rfl
  have z1 := Int.emod_nonneg x (b := 2305843009213693951) (by decide)
  have z2 := Int.emod_lt_of_pos x (b := 2305843009213693951) (by decide)
  unfold Ev.run
  rw [hB]
  simp [p1, m1, m2, geOp, fBox, evB, evS, evE, evEs, Res.of, idxOp, top, ixN, op2, ltOp, truD, asgE, biN, bi1, modOp, addOp]
  refine ⟨(if x < 0 then -x else x) * if 1000000000000000000 ≤ if x < 0 then -x else x then 1 else 0, x % 2305843009213693951 + cst, 0, ?_, by omega, by omega, rfl⟩
  simp [leave, frz]
  try rfl
end
end Dr

set_option Elab.async false
set_option linter.all false
set_option maxRecDepth 100000
set_option maxHeartbeats 1000000
/-! EvP2: the script's cells; things picked in a drawn order. -/
namespace Dr
open PySem Ev
theorem res_ok {α β : Type} (a : α) (h : Hh) (f : α → Hh → Res β) : (Res.ok a h).bind f = f a h := rfl
theorem cells_step {C : Call} {b w : Nat} (d0 : D) (s3 s4 s5 : Option D) (h : Hh) (x i v : Int) (hb : b = h.length) (hi : 0 ≤ i) (hi2 : i < 1000) : ∃ y : Int,
    ((Res.of (bindT (.many [(.one 3), (.one 4)]) (.tup [.int i, .int v]) [some d0, some (.int 1), some (.ref h.length), s3, s4, s5]) (h ++ [.lst [.int x]])).bind fun σ h => evB ⟨C, b, w⟩ cBody σ h) =
      .ok (.next, [some d0, some (.int 1), some (.ref h.length), some (.int i), some (.int v), some (.int 0)]) (h ++ [.lst [.int y]]) := by
  have m1 : mulOp (.int v) (.int (i + 2)) = some (.int (v * (i + 2))) := if_pos (by simp [small]; omega)
  refine ⟨x + v * (i + 2), ?_⟩
  subst hb
  simp [cBody, bindT, bindTs, evB, evS, evE, evEs, Res.of, idxOp, top, ixN, op2, modOp, asgE, biN, bi1, addOp, m1, setOp, stOk]
theorem cells_loop {C : Call} {b w : Nat} (d0 : D) (h : Hh) (hb : b = h.length) : ∀ (vs : List Int) (i : Nat) (s3 s4 s5 : Option D) (x : Int), i + vs.length < 1000 → ∃ (y : Int) (s3' s4' s5' : Option D),
    forL (fun x σ h => (Res.of (bindT (.many [(.one 3), (.one 4)]) x σ) h).bind fun σ h => evB ⟨C, b, w⟩ cBody σ h)
      (enumI i (vs.map .int)) [some d0, some (.int 1), some (.ref h.length), s3, s4, s5] (h ++ [.lst [.int x]]) = .ok (.next, [some d0, some (.int 1), some (.ref h.length), s3', s4', s5']) (h ++ [.lst [.int y]])
  | [], i, s3, s4, s5, x, _ => ⟨x, s3, s4, s5, rfl⟩
  | v :: vs, i, s3, s4, s5, x, h1 => by
    obtain ⟨y, e1⟩ := cells_step (C := C) (w := w) d0 s3 s4 s5 h x i v hb (by omega) (by simp at h1; omega)
    obtain ⟨z, a3, a4, a5, e2⟩ := cells_loop (C := C) (w := w) d0 h hb vs (i + 1) (some (.int i)) (some (.int v)) (some (.int 0)) y (by simp at h1; omega)
    refine ⟨z, a3, a4, a5, ?_⟩
    show forL _ (.tup [.int i, .int v] :: enumI (i + 1) (vs.map .int)) _ _ = _
    unfold forL
    rw [e1, res_ok]
    exact e2
section
variable {T : Nat → Option Fn} {ib it ic ip : Nat} {cst : Int}
theorem cut_map (ns : List Int) (lo hi : Option Int) : ∃ ms : List Int, ms.length ≤ ns.length ∧ cut (ns.map D.int) lo hi = ms.map .int := by
  refine ⟨(ns.drop (sIx ns.length 0 lo)).take (sIx ns.length ns.length hi - sIx ns.length 0 lo), by simp; omega, ?_⟩
  unfold cut
  simp [List.map_take, List.map_drop]
theorem cells_run (hC : T ic = some fCells) (k : Nat) (ns : List Int) (hl : ns.length ≤ 63) (h : Hh) : ∃ y : Int, Ev.run T (k + 1) ic [.scr (ns.map .int), .int 1] h = .ok (.lst [.int y]) h := by
  obtain ⟨ms, m1, m2⟩ := cut_map ns (some 1) (some 63)
  have hx : ∃ x : Int, evB ⟨Ev.run T k, h.length, 100000⟩ [(.asg (.name 2) (.cell (.or (.bi .list [(.slice (.var 0) none (some (.var 1)))]) (.lst [(.int (0))]))))] [some (.scr (ns.map .int)), some (.int 1), none, none, none, none] h = .ok (.next, [some (.scr (ns.map .int)), some (.int 1), some (.ref h.length), none, none, none]) (h ++ [.lst [.int x]]) := by
    cases ns with
    | nil =>
      refine ⟨0, ?_⟩
      simp [evB, evS, evE, evEs, evO, Res.of, slOp, biN, bi1, seqOf, truD, cut, sIx, asgE]
    | cons v vs =>
      refine ⟨v, ?_⟩
      have : cut (D.int v :: vs.map D.int) none (some 1) = [.int v] := by
        unfold cut
        simp [sIx]
      simp [evB, evS, evE, evEs, evO, Res.of, slOp, biN, bi1, seqOf, truD, this, asgE]
  obtain ⟨x, hx⟩ := hx
  obtain ⟨y, s3, s4, s5, e⟩ := cells_loop (C := Ev.run T k) (w := 100000) (b := h.length) (.scr (ns.map .int)) h rfl ms 0 none none none x (by omega)
  refine ⟨y, ?_⟩
  unfold Ev.run
  rw [hC]
  have e3 : evB ⟨Ev.run T k, h.length, 100000⟩ fCells.body [some (.scr (ns.map .int)), some (.int 1), none, none, none, none] h = .ok (.ret (.ref h.length), [some (.scr (ns.map .int)), some (.int 1), some (.ref h.length), s3, s4, s5]) (h ++ [.lst [.int y]]) := by
    unfold fCells
    dsimp only
    rw [evB]
    rw [evB] at hx
    cases q : evS ⟨Ev.run T k, h.length, 100000⟩ (.asg (.name 2) (.cell (.or (.bi .list [(.slice (.var 0) none (some (.var 1)))]) (.lst [(.int (0))])))) [some (.scr (ns.map .int)), some (.int 1), none, none, none, none] h with
    | ok r h1 =>
      rw [q, res_ok] at hx
      rw [res_ok]
      obtain ⟨fl, σ1⟩ := r
      cases fl with
      | next =>
        have hx : Res.ok (Ev.Flow.next, σ1) h1 = _ := hx
        cases hx
        dsimp only
        rw [evB]
        have e5 : evS ⟨Ev.run T k, h.length, 100000⟩ (.forr (.many [(.one 3), (.one 4)]) (.enum (.slice (.var 0) (some (.var 1)) (some (.int (63))))) cBody) [some (.scr (ns.map .int)), some (.int 1), some (.ref h.length), none, none, none] (h ++ [.lst [.int x]]) = .ok (.next, [some (.scr (ns.map .int)), some (.int 1), some (.ref h.length), s3, s4, s5]) (h ++ [.lst [.int y]]) := by
          rw [evS]
          have e6 : evI ⟨Ev.run T k, h.length, 100000⟩ (.enum (.slice (.var 0) (some (.var 1)) (some (.int (63))))) [some (.scr (ns.map .int)), some (.int 1), some (.ref h.length), none, none, none] (h ++ [.lst [.int x]]) = .ok (.items (enumI 0 (ms.map .int))) (h ++ [.lst [.int x]]) := by
            simp [evI, evE, evEs, evO, Res.of, slOp, m2, srcE, still]
          rw [e6, res_ok]
          exact e
        rw [e5, res_ok]
        simp [evB, evS, evE, Res.of]
      | _ => cases hx
    | exc c p h1 => rw [q] at hx; cases hx
    | fail => rw [q] at hx; cases hx
  show (match evB ⟨Ev.run T k, h.length, 100000⟩ fCells.body [some (.scr (ns.map .int)), some (.int 1), none, none, none, none] h with
        | .ok (.ret d, _) h' => leave .frz h.length d h'
        | .ok (.next, _) h' => leave .frz h.length .non h'
        | .exc c pl h' => match pl.mapM (frz h' h.length h'.length 30) with
          | some pl => .exc c pl (h'.take h.length)
          | none => .fail
        | _ => .fail) = _
  rw [e3]
  simp [leave, frz, Res.of]
def pSt (rows : List D) (N : Int) (s5 : Option D) : Sl := [some (.ref 0), some (.lst rows), some (.int N), some (.ref 1), some (.ref 2), s5]
theorem pick_step (hT : T it = some fTake) (k m w : Nat) (hm : m < 2 ^ 30) (rows pool found : List D) (N : Int) (s5 : Option D) (c : Cell) (t : Tin [c] 0 m) (hp : pool ≠ []) (hl : pool.length < 2 ^ 30) (hf : found.length < 100000) :
    ∃ (c' : Cell) (v : Nat) (y : D), pool[v]? = some y ∧ Tin [c'] 0 (m + 1) ∧ evB ⟨Ev.run T (k + 1), 1, w⟩ (pBody it) (pSt rows N s5) [c, .lst pool, .lst found] = .ok (.next, pSt rows N s5) [c', .lst (pool.eraseIdx v), .lst (found ++ [y])] := by
  have hpos : 0 < pool.length := by
    cases pool with
    | nil => exact absurd rfl hp
    | cons _ _ => simp
  have t2 : Tin [c, .lst pool, .lst found] 0 m := by
    obtain ⟨a, b, e, h1, h2⟩ := t
    exact ⟨a, b, e, by simpa using h1, h2⟩
  obtain ⟨v, h', v0, v1, r, t', c', rfl⟩ := take_run hT k 0 m pool.length (by omega) (by omega) _ t2 hm
  have hv : v.toNat < pool.length := by omega
  refine ⟨c', v.toNat, pool[v.toNat], List.getElem?_eq_getElem hv, ?_, ?_⟩
  · obtain ⟨a, b, e, h1, h2⟩ := t'
    exact ⟨a, b, e, by simpa using h1, h2⟩
  · have hs : ([c, Cell.lst pool, .lst found].set 0 c') = [c', .lst pool, .lst found] := rfl
    rw [hs] at r
    have ix : ixN pool.length v = some v.toNat := by
      unfold ixN
      rw [if_pos v0, if_pos v1]
    simp [pBody, pSt, evB, evS, evE, evEs, Res.of, recvOk, biN, bi1, top, r, mth, mPop, mAppend, ix, hv, stOk, hf]
theorem pick_loop (hT : T it = some fTake) (k w : Nat) (rows : List D) (N : Int) : ∀ (n lo : Nat) (m : Nat) (pool found : List D) (s5 : Option D) (c : Cell), m + n < 2 ^ 30 → Tin [c] 0 m → pool.length = n → found.length + n < 100000 → (∀ p ∈ pool, p ∈ rows) → (∀ p ∈ found, p ∈ rows) →
    ∃ (c' : Cell) (found' : List D) (s5' : Option D) (pool' : List D), Tin [c'] 0 (m + n) ∧ (∀ p ∈ found', p ∈ rows) ∧ forL (fun x σ h => (Res.of (bindT (.one 5) x σ) h).bind fun σ h => evB ⟨Ev.run T (k + 1), 1, w⟩ (pBody it) σ h) (upto lo n) (pSt rows N s5) [c, .lst pool, .lst found] = .ok (.next, pSt rows N s5') [c', .lst pool', .lst found']
  | 0, lo, m, pool, found, s5, c, _, t, _, _, _, h2 => ⟨c, found, s5, pool, t, h2, rfl⟩
  | n + 1, lo, m, pool, found, s5, c, h0, t, hl, hf, h1, h2 => by
    have hb : bindT (.one 5) (.int lo) (pSt rows N s5) = some (pSt rows N (some (.int lo))) := rfl
    obtain ⟨c1, v, y, e1, t1, e2⟩ := pick_step (w := w) hT k m (by omega) rows pool found N (some (.int lo)) c t (by intro z; rw [z] at hl; cases hl) (by omega) (by omega)
    have hv : v < pool.length := (List.getElem?_eq_some_iff.mp e1).1
    obtain ⟨c2, f2, s5', p2, t2, g2, e3⟩ := pick_loop hT k w rows N n (lo + 1) (m + 1) (pool.eraseIdx v) (found ++ [y]) (some (.int lo)) c1 (by omega) t1 (by rw [List.length_eraseIdx]; simp [hv]; omega) (by simp; omega) (fun p hp => h1 p (List.mem_of_mem_eraseIdx hp)) (fun p hp => by
      rcases List.mem_append.mp hp with z | z
      · exact h2 p z
      · obtain rfl : p = y := by simpa using z
        exact h1 _ (List.mem_of_getElem? e1))
    refine ⟨c2, f2, s5', p2, by rw [show m + (n + 1) = m + 1 + n by omega]; exact t2, g2, ?_⟩
    show forL _ (.int lo :: upto (lo + 1) n) _ _ = _
    unfold forL
    rw [hb]
    show ((evB _ _ _ _).bind _) = _
    rw [e2, res_ok]
    exact e3
theorem mapM_self {f : D → Option D} : ∀ {xs : List D}, (∀ x ∈ xs, f x = some x) → xs.mapM f = some xs
  | [], _ => rfl
  | x :: xs, h => by
    rw [List.mapM_cons, h x (by simp), mapM_self fun y hy => h y (by simp [hy])]
    rfl
theorem rng_len (n : Nat) (hn : n < 1000) : rngOf [.int (n : Int)] = some (upto 0 n) := by
  have hlim : lim (n : Int) = true := by
    unfold lim
    rw [Bool.and_eq_true_iff]
    exact ⟨decide_eq_true (by omega), decide_eq_true (by omega)⟩
  show (if lim (n : Int) = true then some (upto 0 (n : Int).toNat) else none) = _
  rw [if_pos hlim, Int.toNat_natCast]
theorem pick_e1 {C : Call} {rows : List D} {c : Cell} : evS ⟨C, 1, 100000⟩ (.asg (.tup [(.name 3), (.name 4)]) (.tup [(.cell (.bi .list [(.var 1)])), (.cell (.lst []))])) [some (.ref 0), some (.lst rows), some (.int rows.length), none, none, none] [c] = .ok (.next, pSt rows rows.length none) [c, .lst rows, .lst []] := by
  simp [evS, evE, evEs, Res.of, biN, bi1, seqOf, asgE, asgEs, pSt]
theorem pick_e6 {C : Call} {rows : List D} {c : Cell} (hr : rngOf [.int (rows.length : Int)] = some (upto 0 rows.length)) : evI ⟨C, 1, 100000⟩ (.rng [(.bi .min [(.bi .int [(.var 2)]), (.bi .len [(.var 3)])])]) (pSt rows rows.length none) [c, .lst rows, .lst []] = .ok (.items (upto 0 rows.length)) [c, .lst rows, .lst []] := by
  have q : evEs ⟨C, 1, 100000⟩ [(.bi .min [(.bi .int [(.var 2)]), (.bi .len [(.var 3)])])] (pSt rows rows.length none) [c, .lst rows, .lst []] = .ok [.int rows.length] [c, .lst rows, .lst []] := by
    simp [pSt, evE, evEs, Res.of, biN, bi1, top]
  rw [evI, q, res_ok, hr]
  rfl
theorem pick_e5 {C : Call} {rows : List D} {c c' : Cell} {s5 : Option D} {p' f' : List D} (hr : rngOf [.int (rows.length : Int)] = some (upto 0 rows.length))
    (e : forL (fun x σ h => (Res.of (bindT (.one 5) x σ) h).bind fun σ h => evB ⟨C, 1, 100000⟩ (pBody it) σ h) (upto 0 rows.length) (pSt rows rows.length none) [c, .lst rows, .lst []] = .ok (.next, pSt rows rows.length s5) [c', .lst p', .lst f']) :
    evS ⟨C, 1, 100000⟩ (.forr (.one 5) (.rng [(.bi .min [(.bi .int [(.var 2)]), (.bi .len [(.var 3)])])]) (pBody it)) (pSt rows rows.length none) [c, .lst rows, .lst []] = .ok (.next, pSt rows rows.length s5) [c', .lst p', .lst f'] := by
  rw [evS, pick_e6 hr, res_ok]
  exact e
theorem evB_cons {F : Ev.Fr} {st : Sm} {r : List Sm} {σ σ' : Sl} {h h' : Hh} (e : evS F st σ h = .ok (.next, σ') h') : evB F (st :: r) σ h = evB F r σ' h' := by
  rw [evB, e]
  rfl
theorem pick_body {C : Call} {rows p' f' : List D} {s5 : Option D} {c c' : Cell} (hr : rngOf [.int (rows.length : Int)] = some (upto 0 rows.length))
    (e : forL (fun x σ h => (Res.of (bindT (.one 5) x σ) h).bind fun σ h => evB ⟨C, 1, 100000⟩ (pBody it) σ h) (upto 0 rows.length) (pSt rows rows.length none) [c, .lst rows, .lst []] = .ok (.next, pSt rows rows.length s5) [c', .lst p', .lst f']) :
    evB ⟨C, 1, 100000⟩ (fPick it).body [some (.ref 0), some (.lst rows), some (.int rows.length), none, none, none] [c] = .ok (.ret (.ref 2), pSt rows rows.length s5) [c', .lst p', .lst f'] := by
  refine (evB_cons pick_e1).trans ((evB_cons (pick_e5 hr e)).trans ?_)
  rw [evB, evS, evE]
  rfl
theorem run_frz {f : Fn} {x k : Nat} {ds : List D} {h h' : Hh} {d : D} {σ : Sl} (hx : T x = some f) (hl : ds.length = f.np) (hm : f.mode = .frz) (e : evB ⟨Ev.run T k, h.length, f.wf⟩ f.body (ds.map some ++ List.replicate (f.ns - f.np) none) h = .ok (.ret d, σ) h') :
    Ev.run T (k + 1) x ds h = leave .frz h.length d h' := by
  unfold Ev.run
  rw [hx]
  show (if ds.length = f.np then _ else _) = _
  rw [if_pos hl]
  dsimp only
  rw [e]
  dsimp only
  rw [hm]
theorem pick_run (hT : T it = some fTake) (hP : T ip = some (fPick it)) (k m : Nat) (rows : List D) (hn : rows.length < 1000) (hm : m < 2 ^ 20) (hz : ∀ h b x, ∀ r ∈ rows, frz h b x 29 r = some r) (c : Cell) (t : Tin [c] 0 m) :
    ∃ (ps : List D) (c' : Cell), (∀ p ∈ ps, p ∈ rows) ∧ Tin [c'] 0 (m + rows.length) ∧ Ev.run T (k + 2) ip [.ref 0, .lst rows, .int rows.length] [c] = .ok (.lst ps) [c'] := by
  obtain ⟨c', f', s5, p', t', g', e⟩ := pick_loop (w := 100000) hT k rows rows.length rows.length 0 m rows [] none c (by omega) t rfl (by simp; omega) (fun _ h => h) (by simp)
  refine ⟨f', c', g', t', ?_⟩
  refine (run_frz (k := k + 1) (ds := [.ref 0, .lst rows, .int rows.length]) (h := [c]) hP rfl rfl (pick_body (rng_len _ hn) e)).trans ?_
  have mm : f'.mapM (frz [c', .lst p', .lst f'] 1 3 29) = some f' := mapM_self fun x hx => hz _ _ _ x (g' x hx)
  simp [leave, frz, Res.of, mm]
end
end Dr

set_option Elab.async false
set_option linter.all false
set_option maxRecDepth 100000
set_option maxHeartbeats 1000000
/-! EvP3: the laws of refusals, from their rows. -/
namespace Dr
open PySem Ev
def lBody (is ih : Nat) : List Sm := [(.ife (.not (.call is [(.lst [(.call ih [(.var 3), (.var 4)]), (.call ih [(.var 3), (.var 4)])]), (.lst [(.var 5), (.var 5)])])) [(.ret (.bl false))] [])]
def fLaw (ib ic ir ip is ih : Nat) : Fn := ⟨1, 6, [
  (.asg (.name 1) (.call ib [(.call ic [(.var 0), (.int (1))]), (.int (0))])),
  (.asg (.name 2) (.call ir [])),
  (.forr (.many [(.one 3), (.one 4), (.one 5)]) (.val (.call ip [(.var 1), (.var 2), (.bi .len [(.var 2)])])) (lBody is ih)),
  (.ret (.bl true))], .frz, 100000⟩
/-- what the law asks of a row -/
def rowG (C : Call) (is ih : Nat) (c : Cell) : D → Res D
  | .tup [d, g, u] => (C ih [d, g] [c]).bind fun v h => (C ih [d, g] h).bind fun w h => C is [.lst [v, w], .lst [u, u]] h
  | _ => .fail
theorem bind_okD {α β : Type} {r : Res α} {f : α → Hh → Res β} {b : β} {h' : Hh} (e : r.bind f = .ok b h') : ∃ a h, r = .ok a h ∧ f a h = .ok b h' := by
  cases r with
  | ok a h => exact ⟨a, h, rfl, e⟩
  | exc c p h => cases e
  | fail => cases e
theorem law_step {C : Call} {w is ih : Nat} {c : Cell} {r : D} {a0 a1 a2 s3 s4 s5 : Option D} (e : rowG C is ih c r = .ok (.bl true) [c]) : ∃ s3' s4' s5',
    ((Res.of (bindT (.many [(.one 3), (.one 4), (.one 5)]) r [a0, a1, a2, s3, s4, s5]) [c]).bind fun σ h => evB ⟨C, 0, w⟩ (lBody is ih) σ h) = .ok (.next, [a0, a1, a2, s3', s4', s5']) [c] := by
  unfold rowG at e
  split at e
  · rename_i d g u
    obtain ⟨v, h1, e1, e⟩ := bind_okD e
    obtain ⟨x, h2, e2, e⟩ := bind_okD e
    refine ⟨some d, some g, some u, ?_⟩
    have q : bindT (.many [(.one 3), (.one 4), (.one 5)]) (.tup [d, g, u]) [a0, a1, a2, s3, s4, s5] = some [a0, a1, a2, some d, some g, some u] := rfl
    rw [q]
    show evB ⟨C, 0, w⟩ (lBody is ih) [a0, a1, a2, some d, some g, some u] [c] = _
    simp [lBody, evB, evS, evE, evEs, Res.of, e1, e2, e, truD]
  · cases e
theorem law_loop {C : Call} {w is ih : Nat} {c : Cell} {rows : List D} (hr : ∀ r ∈ rows, rowG C is ih c r = .ok (.bl true) [c]) {a0 a1 a2 : Option D} : ∀ (ps : List D) (s3 s4 s5 : Option D), (∀ p ∈ ps, p ∈ rows) → ∃ s3' s4' s5',
    forL (fun x σ h => (Res.of (bindT (.many [(.one 3), (.one 4), (.one 5)]) x σ) h).bind fun σ h => evB ⟨C, 0, w⟩ (lBody is ih) σ h) ps [a0, a1, a2, s3, s4, s5] [c] = .ok (.next, [a0, a1, a2, s3', s4', s5']) [c]
  | [], s3, s4, s5, _ => ⟨s3, s4, s5, rfl⟩
  | p :: ps, s3, s4, s5, hp => by
    obtain ⟨t3, t4, t5, e1⟩ := law_step (C := C) (w := w) (a0 := a0) (a1 := a1) (a2 := a2) (s3 := s3) (s4 := s4) (s5 := s5) (hr p (hp p (by simp)))
    obtain ⟨u3, u4, u5, e2⟩ := law_loop hr (a0 := a0) (a1 := a1) (a2 := a2) (w := w) ps t3 t4 t5 fun q hq => hp q (by simp [hq])
    refine ⟨u3, u4, u5, ?_⟩
    unfold forL
    rw [e1, res_ok]
    exact e2
section
variable {T : Nat → Option Fn} {ib it ic ip ir is ih il : Nat} {cst : Int}
theorem law_a1 {C : Call} {w : Nat} {s : D} {y : Int} {c : Cell} (e1 : C ic [s, .int 1] [] = .ok (.lst [.int y]) []) (e2 : C ib [.lst [.int y], .int 0] [] = .ok (.ref 0) [c]) :
    evS ⟨C, 0, w⟩ (.asg (.name 1) (.call ib [(.call ic [(.var 0), (.int (1))]), (.int (0))])) [some s, none, none, none, none, none] [] = .ok (.next, [some s, some (.ref 0), none, none, none, none]) [c] := by
  simp [evS, evE, evEs, Res.of, e1, e2, asgE]
theorem law_a2 {C : Call} {w : Nat} {s : D} {rows : List D} {c : Cell} (e1 : C ir [] [c] = .ok (.lst rows) [c]) :
    evS ⟨C, 0, w⟩ (.asg (.name 2) (.call ir [])) [some s, some (.ref 0), none, none, none, none] [c] = .ok (.next, [some s, some (.ref 0), some (.lst rows), none, none, none]) [c] := by
  simp [evS, evE, evEs, Res.of, e1, asgE]
theorem law_a3 {C : Call} {w : Nat} {s : D} {rows ps : List D} {c c' : Cell} {σ : Sl} (e1 : C ip [.ref 0, .lst rows, .int rows.length] [c] = .ok (.lst ps) [c'])
    (e : forL (fun x σ h => (Res.of (bindT (.many [(.one 3), (.one 4), (.one 5)]) x σ) h).bind fun σ h => evB ⟨C, 0, w⟩ (lBody is ih) σ h) ps [some s, some (.ref 0), some (.lst rows), none, none, none] [c'] = .ok (.next, σ) [c']) :
    evS ⟨C, 0, w⟩ (.forr (.many [(.one 3), (.one 4), (.one 5)]) (.val (.call ip [(.var 1), (.var 2), (.bi .len [(.var 2)])])) (lBody is ih)) [some s, some (.ref 0), some (.lst rows), none, none, none] [c] = .ok (.next, σ) [c'] := by
  have q : evI ⟨C, 0, w⟩ (.val (.call ip [(.var 1), (.var 2), (.bi .len [(.var 2)])])) [some s, some (.ref 0), some (.lst rows), none, none, none] [c] = .ok (.items ps) [c'] := by
    simp [evI, evE, evEs, Res.of, biN, bi1, top, e1, srcV]
  rw [evS, q, res_ok]
  exact e
theorem law_run (hB : T ib = some (fBox cst)) (hc : 0 ≤ cst) (hc2 : cst < 2 ^ 60) (hC : T ic = some fCells) (hT : T it = some fTake) (hP : T ip = some (fPick it)) (hL : T il = some (fLaw ib ic ir ip is ih))
    (k : Nat) (rows : List D) (hn : rows.length < 1000) (hz : ∀ h b x, ∀ r ∈ rows, frz h b x 29 r = some r) (hR : ∀ c, Ev.run T (k + 2) ir [] [c] = .ok (.lst rows) [c]) (hr : ∀ c, ∀ r ∈ rows, rowG (Ev.run T (k + 2)) is ih c r = .ok (.bl true) [c])
    (ns : List Int) (hl : ns.length ≤ 63) : Ev.run T (k + 3) il [.scr (ns.map .int)] [] = .ok (.bl true) [] := by
  obtain ⟨y, e1⟩ := cells_run hC (k + 1) ns hl []
  obtain ⟨a, b, e, e2, b0, b1, z⟩ := box_run hB hc hc2 (k + 1) y []
  have t : Tin [Cell.lst [.int a, .int b, .int e]] 0 0 := ⟨a, b, e, rfl, b0, b1, by omega, by omega⟩
  obtain ⟨ps, c', g, _, e3⟩ := pick_run hT hP k 0 rows hn (by decide) hz _ t
  obtain ⟨s3, s4, s5, e4⟩ := law_loop (w := 100000) (a0 := some (.scr (ns.map .int))) (a1 := some (.ref 0)) (a2 := some (.lst rows)) (hr c') ps none none none g
  refine (run_frz (k := k + 2) (ds := [.scr (ns.map .int)]) (h := []) (σ := [some (.scr (ns.map .int)), some (.ref 0), some (.lst rows), s3, s4, s5]) (h' := [c']) (d := .bl true) hL rfl rfl ?_).trans rfl
  refine (evB_cons (law_a1 e1 e2)).trans ((evB_cons (law_a2 (hR _))).trans ((evB_cons (law_a3 e3 e4)).trans ?_))
  rw [evB, evS, evE]
  rfl
end
end Dr

set_option Elab.async false
set_option linter.all false
set_option maxRecDepth 100000
set_option maxHeartbeats 0
namespace Lw
open PySem PySem.Spec PyProof.Rows L2 Ev
abbrev P0 := PySem.Challenge.pw_allrowsbyties_k97_pairs_below_uncrossed
def optL : List (Str × Opt) := [
  ("_law_box", ⟨[], .top⟩),
  ("_law_cells", ⟨[("cells_so", 1)], .frz⟩),
  ("_law_pick", ⟨[("found", 1), ("pool_so", 1)], .frz⟩),
  ("_law_take", ⟨[("tin", 1)], .frz⟩),
  ("after", ⟨[("found", 1)], .frz⟩),
  ("all_round_words", ⟨[("later", 1)], .frz⟩),
  ("all_uncrossed", ⟨[("later", 1)], .frz⟩),
  ("all_under", ⟨[("found", 1), ("left", 1)], .frz⟩),
  ("all_within", ⟨[("known", 1)], .frz⟩),
  ("chain_down", ⟨[("found", 1)], .frz⟩),
  ("common_parts", ⟨[("found", 1)], .frz⟩),
  ("counts_in", ⟨[("found", 1)], .frz⟩),
  ("done_from_home", ⟨[("found", 1)], .frz⟩),
  ("inverse_of", ⟨[("found", 1)], .frz⟩),
  ("linked_again", ⟨[("table", 2)], .frz⟩),
  ("linked_pairs", ⟨[("table", 2)], .frz⟩),
  ("near_first", ⟨[], .top⟩),
  ("numbers_to", ⟨[("found", 1)], .frz⟩),
  ("other_pairs", ⟨[("gone", 1)], .frz⟩),
  ("round_word_of", ⟨[("found", 1)], .frz⟩),
  ("rounds_of", ⟨[("found", 1), ("own", 1)], .frz⟩),
  ("row_by_lots", ⟨[("found", 1)], .frz⟩),
  ("row_by_pairs", ⟨[("ahead", 1), ("gone", 1)], .frz⟩),
  ("rows_between", ⟨[("found", 1), ("left", 1)], .frz⟩),
  ("rows_right_under", ⟨[("found", 1)], .frz⟩),
  ("swapped", ⟨[("found", 1)], .frz⟩),
  ("turned_of", ⟨[("found", 1)], .frz⟩),
  ("turns_only", ⟨[("row", 1)], .frz⟩),
  ("unlinked_three", ⟨[("known", 1)], .frz⟩),
  ("ways_between", ⟨[("counts", 1)], .frz⟩),
  ("word_to", ⟨[("found", 1), ("now", 1)], .frz⟩)]
def o0 : Str → Opt := fun x => (optL.lookup x).getD {}
def its : List Ev.TI := itemsOf P0.main.body
def xs : List Str := ["NoPlace", "NoTie", "CanNot", "Torn", "TooMany", "Unfit"]
def xv : List Str := ["CanNot", "Torn", "TooMany", "Unfit"]
abbrev R : PySem.W.OpenRow := PySem.W.OpenLaw.row PySem.Challenge.rw_allrowsbyties_k97_pairs_below_uncrossed
abbrev hk : PySem.W.Hook := hookH its xs xv
def ob (s : PySem.W.SharedT) : AlH := obH its xs xv s
theorem ob_eq (s : PySem.W.SharedT) : ob s = hk.obs s.abs := obH_eq s
def li : Nat := P0.main.body.length - 1
def names : List Str := (its.map (·.nm)).filter fun x => !(x == ("law" : Str))
theorem nd : nodS (preN ++ its.map (·.nm)) = true := by kernel_rfl
theorem nb : offS (preN ++ its.map (·.nm)) ("ValueError" :: bltNames) = true := by kernel_rfl
theorem tabOk : ((fnsOf its).all (okD (fnM its xs xv) o0)) = true := by kernel_rfl
def T0 : Nat → Option Fn := fnT (fnM its xs xv) o0 (fnsOf its)
def nm (x : Str) : Nat := (((fnM its xs xv).fns).lookup x).getD 9999
end Lw

set_option Elab.async false
set_option linter.all false
set_option maxRecDepth 100000
set_option maxHeartbeats 0
namespace Lw
open PySem Ev
def r0 : List D := [
  (.tup [(.int (0)), (.tup [(.tup [(.int (0)), (.int (2))])]), (.lst [(.str ("unfit" : Str)), (.bl true)])]),
  (.tup [(.int (0)), (.tup [.non]), (.lst [(.str ("unfit" : Str)), (.bl true)])]),
  (.tup [(.int (0)), (.tup [(.lst [(.int (1)), (.int (0))])]), (.tup [(.tup [(.int (0)), (.int (1))])])]),
  (.tup [(.int (1)), (.tup [(.int (0)), (.tup [])]), (.lst [(.str ("unfit" : Str)), (.bl true)])]),
  (.tup [(.int (1)), (.tup [(.int (3)), .non]), (.bl false)]),
  (.tup [(.int (1)), (.tup [(.int (3)), (.tup [(.tup [(.int (0)), (.int (1))])])]), (.bl true)]),
  (.tup [(.int (1)), (.tup [(.int (3)), (.tup [(.tup [(.int (1)), (.int (0))])])]), (.bl false)]),
  (.tup [(.int (1)), (.tup [(.int (3)), (.lst [(.tup [(.int (0)), (.int (1))])])]), (.bl false)]),
  (.tup [(.int (1)), (.tup [(.int (3)), (.tup [(.tup [(.int (0)), (.int (1))]), (.tup [(.int (0)), (.int (1))])])]), (.bl false)]),
  (.tup [(.int (1)), (.tup [(.int (25)), (.tup [])]), (.lst [(.str ("unfit" : Str)), (.bl true)])])]
def r1 : List D := [
  (.tup [(.int (2)), (.tup [(.int (3)), (.tup [(.tup [(.int (1)), (.int (0))])])]), (.lst [(.str ("unfit" : Str)), (.bl true)])]),
  (.tup [(.int (2)), (.tup [(.int (3)), (.tup [(.tup [(.int (0)), (.int (1))]), (.tup [(.int (1)), (.int (2))])])]), (.lst [(.str ("can not" : Str)), (.bl true)])]),
  (.tup [(.int (2)), (.tup [(.int (3)), (.tup [(.tup [(.int (1)), (.int (2))]), (.tup [(.int (0)), (.int (1))])])]), (.lst [(.str ("unfit" : Str)), (.bl true)])]),
  (.tup [(.int (2)), (.tup [(.int (0)), (.tup [])]), (.lst [(.str ("unfit" : Str)), (.bl true)])]),
  (.tup [(.int (2)), (.tup [(.int (3)), (.tup [(.tup [(.int (0)), (.int (3))])])]), (.lst [(.str ("unfit" : Str)), (.bl true)])]),
  (.tup [(.int (2)), (.tup [(.int (2)), (.lst [])]), (.tup [(.int (0)), (.int (1))])]),
  (.tup [(.int (3)), (.tup [(.int (3)), (.tup [])]), (.lst [(.str ("can not" : Str)), (.bl true)])]),
  (.tup [(.int (3)), (.tup [(.int (3)), (.tup [(.tup [(.int (0)), (.int (2))])])]), (.tup [(.int (0)), (.int (1)), (.int (2))])]),
  (.tup [(.int (3)), (.tup [(.int (3)), .non]), (.lst [(.str ("unfit" : Str)), (.bl true)])]),
  (.tup [(.int (3)), (.tup [(.int (2)), (.tup [(.tup [(.int (0)), (.int (1))])])]), (.lst [(.str ("can not" : Str)), (.bl true)])])]
def r2 : List D := [
  (.tup [(.int (4)), (.tup [(.tup [(.int (0)), (.int (1))]), (.tup [(.int (0)), (.int (1)), (.int (2))])]), (.lst [(.str ("unfit" : Str)), (.bl true)])]),
  (.tup [(.int (4)), (.tup [(.tup [(.int (0))]), (.tup [(.int (1))])]), (.lst [(.str ("unfit" : Str)), (.bl true)])]),
  (.tup [(.int (5)), (.tup [(.tup [(.int (0)), (.int (1))]), (.tup [(.int (0))])]), (.lst [(.str ("unfit" : Str)), (.bl true)])]),
  (.tup [(.int (5)), (.tup [(.lst [(.int (0)), (.int (1))]), (.lst [(.int (1)), (.int (0))])]), (.tup [(.int (1)), (.int (0))])]),
  (.tup [(.int (6)), (.tup [(.tup [(.int (0)), (.int (1))]), .non]), (.lst [(.str ("unfit" : Str)), (.bl true)])]),
  (.tup [(.int (6)), (.tup [(.tup [(.int (0))]), (.tup [(.int (0))])]), (.tup [(.int (0))])]),
  (.tup [(.int (7)), (.tup [(.tup [(.int (1)), (.int (1))])]), (.lst [(.str ("unfit" : Str)), (.bl true)])]),
  (.tup [(.int (7)), (.tup [(.tup [(.int (1)), (.int (0))])]), (.lst [])]),
  (.tup [(.int (8)), (.tup [(.tup [(.int (0)), (.int (1)), (.int (2)), (.int (3)), (.int (4)), (.int (5)), (.int (6)), (.int (7))]), (.tup [(.int (0)), (.int (1)), (.int (2)), (.int (3)), (.int (4)), (.int (5)), (.int (6)), (.int (7))])]), (.lst [(.str ("many" : Str)), (.bl true)])]),
  (.tup [(.int (8)), (.tup [(.tup [(.int (0)), (.int (1))]), (.tup [(.int (0))])]), (.lst [(.str ("unfit" : Str)), (.bl true)])])]
def r3 : List D := [
  (.tup [(.int (8)), (.tup [(.tup [(.int (1)), (.int (0))]), (.tup [(.int (0)), (.int (1))])]), (.lst [])]),
  (.tup [(.int (9)), (.tup [(.tup [(.int (0)), (.int (1)), (.int (2)), (.int (3)), (.int (4)), (.int (5)), (.int (6)), (.int (7))]), (.tup [(.int (0)), (.int (1)), (.int (2)), (.int (3)), (.int (4)), (.int (5)), (.int (6)), (.int (7))])]), (.lst [(.str ("many" : Str)), (.bl true)])]),
  (.tup [(.int (9)), (.tup [(.tup [(.int (1)), (.int (0))]), (.tup [(.int (0)), (.int (1))])]), (.lst [(.str ("can not" : Str)), (.bl true)])]),
  (.tup [(.int (9)), (.tup [(.tup [(.int (0)), (.int (1))]), (.tup [])]), (.lst [(.str ("unfit" : Str)), (.bl true)])]),
  (.tup [(.int (9)), (.tup [(.tup [(.int (0)), (.int (1))]), (.tup [(.int (1)), (.int (0))])]), (.int (1))]),
  (.tup [(.int (10)), (.tup [(.tup [(.int (0)), (.int (1))]), (.tup [(.int (0))])]), (.lst [(.str ("unfit" : Str)), (.bl true)])]),
  (.tup [(.int (10)), (.tup [(.tup [(.int (0)), (.int (0))]), (.tup [(.int (0)), (.int (1))])]), (.lst [(.str ("unfit" : Str)), (.bl true)])]),
  (.tup [(.int (11)), (.tup [(.tup [(.int (1)), (.int (0))]), (.tup [(.int (0)), (.int (1))])]), (.lst [(.str ("can not" : Str)), (.bl true)])]),
  (.tup [(.int (11)), (.tup [(.tup [(.int (1)), (.int (0))]), (.tup [(.int (0))])]), (.lst [(.str ("unfit" : Str)), (.bl true)])]),
  (.tup [(.int (12)), (.tup [(.tup [(.int (0)), (.int (1))]), (.tup [(.int (0))]), .non]), (.lst [(.str ("unfit" : Str)), (.bl true)])])]
def r4 : List D := [
  (.tup [(.int (12)), (.tup [(.tup [(.int (0)), (.int (1))]), (.tup [(.int (1)), (.int (0))]), .non]), (.bl false)]),
  (.tup [(.int (12)), (.tup [(.tup [(.int (0)), (.int (1))]), (.tup [(.int (1)), (.int (0))]), (.tup [(.tup [(.tup [(.int (0)), (.int (1))])]), (.tup [])])]), (.bl true)]),
  (.tup [(.int (12)), (.tup [(.tup [(.int (1)), (.int (0))]), (.tup [(.int (1)), (.int (0))]), (.tup [(.tup [(.tup [(.int (0)), (.int (1))])]), (.tup [(.int (0))])])]), (.bl true)]),
  (.tup [(.int (12)), (.tup [(.tup [(.int (1)), (.int (0))]), (.tup [(.int (1)), (.int (0))]), (.lst [(.tup [(.tup [(.int (0)), (.int (1))])]), (.tup [(.int (0))])])]), (.bl false)]),
  (.tup [(.int (12)), (.tup [(.tup [(.int (1)), (.int (0))]), (.tup [(.int (1)), (.int (0))]), (.tup [(.tup [(.tup [(.int (0)), (.int (1))]), (.tup [(.int (0)), (.int (1))]), (.tup [(.int (0)), (.int (1))])]), (.tup [(.int (0))])])]), (.bl false)]),
  (.tup [(.int (13)), (.tup [(.tup [(.int (0)), (.int (1))]), (.tup [(.int (0)), (.int (1))])]), (.lst [(.str ("can not" : Str)), (.bl true)])]),
  (.tup [(.int (13)), (.tup [(.tup [(.int (0)), (.int (1))]), .non]), (.lst [(.str ("unfit" : Str)), (.bl true)])]),
  (.tup [(.int (13)), (.tup [(.tup [(.int (1)), (.int (0))]), (.tup [(.int (0)), (.int (1))])]), (.tup [(.int (1)), (.int (1))])]),
  (.tup [(.int (14)), (.tup [(.tup [(.int (1)), (.int (0))]), (.tup [(.int (0)), (.int (1))]), (.tup [(.int (1)), (.int (1))])]), (.bl true)]),
  (.tup [(.int (14)), (.tup [(.tup [(.int (1)), (.int (0))]), (.tup [(.int (0)), (.int (1))]), (.tup [(.int (0)), (.int (1))])]), (.bl false)])]
def r5 : List D := [
  (.tup [(.int (14)), (.tup [(.tup [(.int (1)), (.int (0))]), (.tup [(.int (0)), (.int (1))]), (.tup [(.int (2)), (.int (1))])]), (.bl false)]),
  (.tup [(.int (14)), (.tup [(.tup [(.int (1)), (.int (0))]), (.tup [(.int (0)), (.int (1))]), .non]), (.bl false)]),
  (.tup [(.int (14)), (.tup [(.tup [(.int (1)), (.int (0))]), (.tup [(.int (0)), (.int (1)), (.int (2))]), (.tup [(.int (1)), (.int (1))])]), (.lst [(.str ("unfit" : Str)), (.bl true)])]),
  (.tup [(.int (15)), (.tup [(.int (3)), (.tup [(.tup [(.int (0)), (.int (2))])]), (.tup [(.int (0)), (.int (1)), (.int (2))])]), (.lst [(.str ("unfit" : Str)), (.bl true)])]),
  (.tup [(.int (15)), (.tup [(.int (3)), (.tup [(.tup [(.int (0)), (.int (1))]), (.tup [(.int (0)), (.int (1))])]), (.tup [(.int (0)), (.int (1))])]), (.lst [(.str ("unfit" : Str)), (.bl true)])]),
  (.tup [(.int (15)), (.tup [(.int (3)), (.tup [(.tup [(.int (0)), (.int (1))]), (.tup [(.int (0)), (.int (1))])]), (.tup [(.int (0)), (.int (1)), (.int (2))])]), (.lst [(.str ("can not" : Str)), (.bl true)])]),
  (.tup [(.int (15)), (.tup [(.int (3)), (.tup [(.tup [(.int (0)), (.int (1))])]), (.tup [(.int (0)), (.int (2)), (.int (1))])]), (.lst [(.str ("can not" : Str)), (.bl true)])]),
  (.tup [(.int (15)), (.tup [(.int (3)), (.tup []), (.tup [(.int (0)), (.int (1)), (.int (2))])]), (.tup [])]),
  (.tup [(.int (16)), (.tup [(.tup [(.int (2))])]), (.lst [(.str ("unfit" : Str)), (.bl true)])]),
  (.tup [(.int (16)), (.tup [(.tup [(.int (0)), (.int (1))])]), (.lst [])])]
def r6 : List D := [
  (.tup [(.int (17)), (.tup [(.tup [(.int (0)), (.int (1)), (.int (2)), (.int (3)), (.int (4)), (.int (5)), (.int (6)), (.int (7))])]), (.lst [(.str ("many" : Str)), (.bl true)])]),
  (.tup [(.int (17)), (.tup [(.tup [(.int (0)), (.int (2))])]), (.lst [(.str ("unfit" : Str)), (.bl true)])]),
  (.tup [(.int (17)), (.tup [(.tup [(.int (1)), (.int (0))])]), (.lst [(.tup [(.int (0)), (.int (1))]), (.tup [(.int (1)), (.int (0))])])]),
  (.tup [(.int (18)), (.tup [(.tup [(.int (1)), (.int (0))]), (.tup [(.int (0)), (.int (1))])]), (.lst [(.str ("can not" : Str)), (.bl true)])]),
  (.tup [(.int (18)), (.tup [(.tup [(.int (0)), (.int (1))]), (.tup [(.int (0))])]), (.lst [(.str ("unfit" : Str)), (.bl true)])]),
  (.tup [(.int (18)), (.tup [(.tup [(.int (0)), (.int (1))]), (.tup [(.int (1)), (.int (0))])]), (.tup [(.tup [(.int (0)), (.int (1))]), (.tup [(.int (1)), (.int (0))])])]),
  (.tup [(.int (19)), (.tup [(.tup [(.int (0)), (.int (1))]), (.int (3)), (.int (0))]), (.lst [(.str ("unfit" : Str)), (.bl true)])]),
  (.tup [(.int (19)), (.tup [(.tup [(.int (0)), (.int (1))]), (.int (0)), (.int (2))]), (.lst [(.str ("unfit" : Str)), (.bl true)])]),
  (.tup [(.int (19)), (.tup [(.tup [(.int (0)), (.int (1))]), (.int (-1)), (.int (0))]), (.lst [(.str ("unfit" : Str)), (.bl true)])]),
  (.tup [(.int (19)), (.tup [(.tup [(.int (0)), (.int (1))]), (.bl true), (.int (0))]), (.lst [(.str ("unfit" : Str)), (.bl true)])])]
def r7 : List D := [
  (.tup [(.int (19)), (.tup [(.tup [(.int (0)), (.int (1))]), (.int (2)), (.int (0))]), (.int (2))]),
  (.tup [(.int (19)), (.tup [(.tup [(.int (0)), (.int (0))]), (.int (1)), (.int (0))]), (.lst [(.str ("unfit" : Str)), (.bl true)])]),
  (.tup [(.int (20)), (.tup [(.int (0))]), (.lst [(.str ("unfit" : Str)), (.bl true)])]),
  (.tup [(.int (20)), (.tup [(.int (25))]), (.lst [(.str ("unfit" : Str)), (.bl true)])]),
  (.tup [(.int (20)), (.tup [(.bl true)]), (.lst [(.str ("unfit" : Str)), (.bl true)])]),
  (.tup [(.int (20)), (.tup [(.int (2))]), (.tup [(.int (1)), (.int (0))])]),
  (.tup [(.int (21)), (.tup [(.tup [(.int (0)), (.int (2))])]), (.lst [(.str ("unfit" : Str)), (.bl true)])]),
  (.tup [(.int (21)), (.tup [(.tup [(.int (0))])]), (.bl true)]),
  (.tup [(.int (22)), (.tup [.non]), (.lst [(.str ("unfit" : Str)), (.bl true)])]),
  (.tup [(.int (22)), (.tup [(.tup [(.int (1)), (.int (0))])]), (.tup [(.tup [(.int (0)), (.int (1))])])])]
def r8 : List D := [
  (.tup [(.int (23)), (.tup [(.int (4)), (.tup [(.tup [(.int (0)), (.int (2))]), (.tup [(.int (1)), (.int (3))])])]), (.lst [(.str ("can not" : Str)), (.bl true)])]),
  (.tup [(.int (23)), (.tup [(.int (4)), (.tup [(.tup [(.int (0)), (.int (2))]), (.tup [(.int (1))])])]), (.lst [(.str ("unfit" : Str)), (.bl true)])]),
  (.tup [(.int (23)), (.tup [(.int (4)), (.tup [(.tup [(.int (1))]), (.tup [(.int (0)), (.int (2)), (.int (3))])])]), (.lst [(.str ("unfit" : Str)), (.bl true)])]),
  (.tup [(.int (23)), (.tup [(.int (4)), (.tup [(.tup [(.int (0)), (.int (2))]), (.tup []), (.tup [(.int (1)), (.int (3))])])]), (.lst [(.str ("unfit" : Str)), (.bl true)])]),
  (.tup [(.int (23)), (.tup [(.int (0)), (.tup [])]), (.lst [(.str ("unfit" : Str)), (.bl true)])]),
  (.tup [(.int (23)), (.tup [(.int (2)), (.lst [(.lst [(.int (0))]), (.lst [(.int (1))])])]), (.tup [(.int (0)), (.int (1))])]),
  (.tup [(.int (23)), (.tup [(.int (4)), .non]), (.lst [(.str ("unfit" : Str)), (.bl true)])]),
  (.tup [(.int (24)), (.tup [(.tup [(.int (1)), (.int (1))])]), (.lst [(.str ("unfit" : Str)), (.bl true)])]),
  (.tup [(.int (24)), (.tup [(.tup [(.int (0))])]), (.tup [(.int (0))])]),
  (.tup [(.int (25)), (.tup [(.tup [(.int (0)), (.int (2))])]), (.lst [(.str ("unfit" : Str)), (.bl true)])])]
def r9 : List D := [
  (.tup [(.int (25)), (.tup [(.tup [(.int (0))])]), (.int (0))]),
  (.tup [(.int (26)), (.tup [(.tup [(.int (0)), (.int (1))]), (.tup [(.int (0))])]), (.lst [(.str ("unfit" : Str)), (.bl true)])]),
  (.tup [(.int (26)), (.tup [(.tup [(.int (2)), (.int (3)), (.int (0)), (.int (1))]), (.tup [(.int (0)), (.int (1)), (.int (2)), (.int (3))])]), (.lst [(.str ("can not" : Str)), (.bl true)])]),
  (.tup [(.int (26)), (.tup [(.tup [(.int (0)), (.int (1)), (.int (2)), (.int (3))]), (.tup [(.int (2)), (.int (3)), (.int (0)), (.int (1))])]), (.lst [(.str ("can not" : Str)), (.bl true)])]),
  (.tup [(.int (27)), (.tup [(.tup [(.int (0)), (.int (1))]), .non]), (.lst [(.str ("unfit" : Str)), (.bl true)])]),
  (.tup [(.int (27)), (.tup [(.tup [(.int (2)), (.int (0)), (.int (1))]), (.tup [(.int (0)), (.int (1)), (.int (2))])]), (.lst [(.str ("can not" : Str)), (.bl true)])]),
  (.tup [(.int (27)), (.tup [(.tup [(.int (0)), (.int (1)), (.int (2))]), (.tup [(.int (2)), (.int (0)), (.int (1))])]), (.lst [(.str ("can not" : Str)), (.bl true)])]),
  (.tup [(.int (28)), (.tup [(.int (0))]), (.lst [(.str ("unfit" : Str)), (.bl true)])]),
  (.tup [(.int (28)), (.tup [(.int (25))]), (.lst [(.str ("unfit" : Str)), (.bl true)])]),
  (.tup [(.int (28)), (.tup [(.int (24))]), (.int (1289904147324))])]
def r10 : List D := [
  (.tup [(.int (29)), (.tup [(.int (9))]), (.lst [(.str ("many" : Str)), (.bl true)])]),
  (.tup [(.int (29)), (.tup [(.int (0))]), (.lst [(.str ("unfit" : Str)), (.bl true)])]),
  (.tup [(.int (29)), (.tup [(.int (1))]), (.lst [(.tup [(.int (0))])])]),
  (.tup [(.int (30)), (.tup [(.int (0)), (.tup [])]), (.lst [(.str ("unfit" : Str)), (.bl true)])]),
  (.tup [(.int (30)), (.tup [(.int (2)), .non]), (.bl false)]),
  (.tup [(.int (30)), (.tup [(.int (2)), (.tup [(.tup [(.int (0)), (.int (1))])])]), (.bl true)]),
  (.tup [(.int (30)), (.tup [(.int (2)), (.lst [(.lst [(.int (0)), (.int (1))])])]), (.bl false)]),
  (.tup [(.int (30)), (.tup [(.int (3)), (.tup [(.tup [(.int (0)), (.int (1))]), (.tup [(.int (0)), (.int (3))])])]), (.bl false)]),
  (.tup [(.int (31)), (.tup [(.int (25)), (.tup [])]), (.lst [(.str ("unfit" : Str)), (.bl true)])]),
  (.tup [(.int (31)), (.tup [(.int (2)), (.tup [(.tup [(.int (0)), (.int (1))])])]), (.bl true)])]
def r11 : List D := [
  (.tup [(.int (31)), (.tup [(.int (2)), (.tup [(.tup [(.int (0)), (.bl true)])])]), (.bl false)]),
  (.tup [(.int (31)), (.tup [(.int (3)), (.tup [(.tup [(.int (0)), (.int (1))]), (.tup [(.int (0)), (.int (1))])])]), (.bl false)]),
  (.tup [(.int (31)), (.tup [(.int (1)), (.tup [])]), (.bl true)]),
  (.tup [(.int (32)), (.tup [(.int (0))]), (.lst [(.str ("unfit" : Str)), (.bl true)])]),
  (.tup [(.int (32)), (.tup [(.int (3))]), (.int (3))]),
  (.tup [(.int (32)), (.tup [.non]), (.lst [(.str ("unfit" : Str)), (.bl true)])]),
  (.tup [(.int (33)), (.tup [(.int (6))]), (.lst [(.str ("many" : Str)), (.bl true)])]),
  (.tup [(.int (33)), (.tup [(.int (0))]), (.lst [(.str ("unfit" : Str)), (.bl true)])]),
  (.tup [(.int (33)), (.tup [(.int (2))]), (.lst [(.tup [(.tup [(.int (0)), (.int (1))])])])]),
  (.tup [(.int (34)), (.tup [(.tup [(.int (2)), (.int (3)), (.int (0)), (.int (1))])]), (.lst [(.str ("can not" : Str)), (.bl true)])])]
def r12 : List D := [
  (.tup [(.int (34)), (.tup [(.tup [(.int (0)), (.int (2))])]), (.lst [(.str ("unfit" : Str)), (.bl true)])]),
  (.tup [(.int (34)), (.tup [(.tup [(.int (0)), (.int (1))])]), (.tup [])])]
def rowsD : List D := r0 ++ (r1 ++ (r2 ++ (r3 ++ (r4 ++ (r5 ++ (r6 ++ (r7 ++ (r8 ++ (r9 ++ (r10 ++ (r11 ++ (r12))))))))))))
theorem rows_run (c : Cell) : Ev.run T0 18 99 [] [c] = .ok (.lst rowsD) [c] := by kernel_rfl
theorem rows_frz (h : Hh) (b x : Nat) : rowsD.map (frz h b x 29) = rowsD.map some := by kernel_rfl
theorem ft : T0 93 = some Dr.fTake := by kernel_rfl
theorem fb : T0 92 = some (Dr.fBox 9954097) := by kernel_rfl
theorem fc : T0 94 = some Dr.fCells := by kernel_rfl
theorem fp : T0 95 = some (Dr.fPick 93) := by kernel_rfl
theorem fl : T0 100 = some (Dr.fLaw 92 94 99 95 96 98) := by kernel_rfl
theorem q0 (c : Cell) : r0.map (Dr.rowG (Ev.run T0 18) 96 98 c) = List.replicate 10 (.ok (.bl true) [c]) := by kernel_rfl
theorem q1 (c : Cell) : r1.map (Dr.rowG (Ev.run T0 18) 96 98 c) = List.replicate 10 (.ok (.bl true) [c]) := by kernel_rfl
theorem q2 (c : Cell) : r2.map (Dr.rowG (Ev.run T0 18) 96 98 c) = List.replicate 10 (.ok (.bl true) [c]) := by kernel_rfl
theorem q3 (c : Cell) : r3.map (Dr.rowG (Ev.run T0 18) 96 98 c) = List.replicate 10 (.ok (.bl true) [c]) := by kernel_rfl
theorem q4 (c : Cell) : r4.map (Dr.rowG (Ev.run T0 18) 96 98 c) = List.replicate 10 (.ok (.bl true) [c]) := by kernel_rfl
theorem q5 (c : Cell) : r5.map (Dr.rowG (Ev.run T0 18) 96 98 c) = List.replicate 10 (.ok (.bl true) [c]) := by kernel_rfl
theorem q6 (c : Cell) : r6.map (Dr.rowG (Ev.run T0 18) 96 98 c) = List.replicate 10 (.ok (.bl true) [c]) := by kernel_rfl
theorem q7 (c : Cell) : r7.map (Dr.rowG (Ev.run T0 18) 96 98 c) = List.replicate 10 (.ok (.bl true) [c]) := by kernel_rfl
theorem q8 (c : Cell) : r8.map (Dr.rowG (Ev.run T0 18) 96 98 c) = List.replicate 10 (.ok (.bl true) [c]) := by kernel_rfl
theorem q9 (c : Cell) : r9.map (Dr.rowG (Ev.run T0 18) 96 98 c) = List.replicate 10 (.ok (.bl true) [c]) := by kernel_rfl
theorem q10 (c : Cell) : r10.map (Dr.rowG (Ev.run T0 18) 96 98 c) = List.replicate 10 (.ok (.bl true) [c]) := by kernel_rfl
theorem q11 (c : Cell) : r11.map (Dr.rowG (Ev.run T0 18) 96 98 c) = List.replicate 10 (.ok (.bl true) [c]) := by kernel_rfl
theorem q12 (c : Cell) : r12.map (Dr.rowG (Ev.run T0 18) 96 98 c) = List.replicate 2 (.ok (.bl true) [c]) := by kernel_rfl
theorem of_rep {α β : Type} {f : α → β} {xs : List α} {n : Nat} {y : β} (h : xs.map f = List.replicate n y) : ∀ x ∈ xs, f x = y := fun x hx => List.eq_of_mem_replicate (h ▸ List.mem_map.mpr ⟨x, hx, rfl⟩)
theorem of_map {α β : Type} {f g : α → β} : ∀ {xs : List α}, xs.map f = xs.map g → ∀ x ∈ xs, f x = g x
  | [], _, _, h => by cases h
  | x :: xs, e, y, h => by
    obtain ⟨e1, e2⟩ := List.cons.inj (show f x :: xs.map f = g x :: xs.map g from e)
    rcases List.mem_cons.mp h with z | z
    · rw [z]; exact e1
    · exact of_map e2 y z
theorem rows_ok (c : Cell) : ∀ r ∈ rowsD, Dr.rowG (Ev.run T0 18) 96 98 c r = .ok (.bl true) [c] := by
  intro r hr
  rcases List.mem_append.mp hr with z | hr
  · exact of_rep (q0 c) r z
  rcases List.mem_append.mp hr with z | hr
  · exact of_rep (q1 c) r z
  rcases List.mem_append.mp hr with z | hr
  · exact of_rep (q2 c) r z
  rcases List.mem_append.mp hr with z | hr
  · exact of_rep (q3 c) r z
  rcases List.mem_append.mp hr with z | hr
  · exact of_rep (q4 c) r z
  rcases List.mem_append.mp hr with z | hr
  · exact of_rep (q5 c) r z
  rcases List.mem_append.mp hr with z | hr
  · exact of_rep (q6 c) r z
  rcases List.mem_append.mp hr with z | hr
  · exact of_rep (q7 c) r z
  rcases List.mem_append.mp hr with z | hr
  · exact of_rep (q8 c) r z
  rcases List.mem_append.mp hr with z | hr
  · exact of_rep (q9 c) r z
  rcases List.mem_append.mp hr with z | hr
  · exact of_rep (q10 c) r z
  rcases List.mem_append.mp hr with z | hr
  · exact of_rep (q11 c) r z
  exact of_rep (q12 c) r hr
theorem hrun (ns : List Int) (hl : ns.length ≤ 63) : Ev.run T0 19 100 [.scr (ns.map .int)] [] = .ok (.bl true) [] :=
  Dr.law_run fb (by decide) (by decide) fc ft fp fl 16 rowsD (by decide) (fun h b x => of_map (rows_frz h b x)) rows_run rows_ok ns hl
end Lw

set_option Elab.async false
set_option linter.all false
set_option maxRecDepth 100000
set_option maxHeartbeats 0
namespace Lw
open PySem PySem.Spec PyProof.Rows L2 Ev
theorem run (w : World) : HandSHeadRun.RunEq R (PySem.W.view R.prog [li]) hk ob 20000 names w := by
  intro os
  kernel_rfl
end Lw

set_option Elab.async false
set_option linter.all false
set_option maxRecDepth 100000
set_option maxHeartbeats 0
open PySem PySem.W PySem.Calls PyProof.Rows
theorem PySem.Challenge.cw_allrowsbyties_k97_pairs_below_uncrossed_holds : PySem.Challenge.rw_allrowsbyties_k97_pairs_below_uncrossed.Holds := by
  w_on; o_law
  refine HandSHeadRun.head_any (r := Lw.R) (q := view Lw.R.prog [Lw.li]) (H := Lw.hk) (ob := Lw.ob) (M := 20000) (loose := Lw.names) (d := HandSHeadRun.topDef Lw.R.prog Lw.li) (kwd := []) Lw.ob_eq
    (by kernel_rfl) (fun s => by kernel_rfl) Lw.run (by kernel_rfl) (by kernel_rfl) (by kernel_rfl) (by rfl) (by first | assumption | decide +kernel) (by decide +kernel) ⟨rfl, rfl, rfl, rfl, rfl, by decide +kernel⟩ ?hw ?hc
  case hw => w_witness2
  case hc =>
    exact Ev.walk_law (dd := (Ev.fnsOf Lw.its).getD 100 ⟨("", none), "", "", ⟨[], [], none, [], [], none, []⟩, [], ⟨.function, [], false, false, []⟩, [], []⟩) rfl (by kernel_rfl) ⟨rfl, by decide, by decide⟩ Lw.nd Lw.nb Lw.tabOk (i := 100) (by kernel_rfl) (by kernel_rfl) (by kernel_rfl) Lw.hrun
